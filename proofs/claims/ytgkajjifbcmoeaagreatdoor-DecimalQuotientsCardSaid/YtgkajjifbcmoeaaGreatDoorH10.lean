import Derived.Test.YtgkajjifbcmoeaaGreatDoorH4
import Derived.Test.YtgkajjifbcmoeaaGreatDoorH8
import Derived.Test.YtgkajjifbcmoeaaGreatDoorH9
namespace Go.Proofs.YtgkajjifbcmoeaaGreatDoor
set_option linter.unusedSimpArgs false
set_option linter.unusedVariables false
open Go.Abs Go.Proofs.NatL

theorem okN_dg' {n : Nat} (h : (dg 4294967296 n).length ≤ 600) : okN (dg 4294967296 n) = true := by
 unfold okN; exact decide_eq_true ⟨h, dg_trd 4294967296 (by omega) n⟩
theorem okN_d (n : Nat) : okN (dg 4294967296 n) = decide ((dg 4294967296 n).length ≤ 600) := by
 unfold okN
 congr 1
 exact propext ⟨fun h => h.1, fun h => ⟨h, dg_trd 4294967296 (by omega) n⟩⟩
theorem fit_small {n : Nat} (h : (dg 4294967296 n).length ≤ 600) : fitN (dg 4294967296 n) = dg 4294967296 n ∧ fitC (dg 4294967296 n) = 0 ∧ fitI (dg 4294967296 n) = 0 := by
 obtain ⟨h1, h2, h3⟩ := fit_dg n
 rw [h1, h2, h3]; simp [h]

def gcGoodCT : CT := mkCT [.inl (some (.ints .u32 [])), .inl (some (.ints .u32 []))] false fun l K => match l with
 | [.inl (.ints .u32 xs), .inl (.ints .u32 ys)] => (okN xs = true ∧ okN ys = true ∧ InB 4294967296 xs ∧ InB 4294967296 ys) ∧ K (.t [.inl (.ints .u32 (dg 4294967296 (Nat.gcd (V 4294967296 xs) (V 4294967296 ys)))), .inr [.i .i64 0, .i .i64 0]])
 | _ => False
theorem dvGood_ok (xs ys : List Int) (h1 : okN xs = true) (h2 : okN ys = true) (h3 : InB 4294967296 xs) (h4 : InB 4294967296 ys) (h5 : 0 < V 4294967296 ys) :
  Ret Tryz.prog 85 false [.inl (.ints .u32 xs), .inl (.ints .u32 ys)] (.t [.inl (.ints .u32 (dg 4294967296 (V 4294967296 xs / V 4294967296 ys))), .inl (.ints .u32 (dg 4294967296 (V 4294967296 xs % V 4294967296 ys))), .inr [.i .i64 0, .i .i64 0]]) := by
 have := DivMod_ret _ _ (okN_LB h1) (okN_LB h2) h3 h4
 have hn : ys ≠ [] := fun e => by subst e; simp [V] at h5
 simp only [dvQ, dvR, dvC, dvI, dvE, (chkC_zero h1 h2).1, hn, ne_eq, not_true_eq_false, not_false_eq_true, and_self, decide_true, if_true, if_false] at this
 exact this
def digG : CT := mkCT [.inl (some (.ints .u32 []))] false fun l K => match l with
 | [.inl (.ints .u32 xs), .inl (.i .i64 b)] => (InB 4294967296 xs ∧ okN xs = true ∧ 2 ≤ b ∧ b ≤ 36) ∧ K (.t [.inl (.ints .i64 (dg b.toNat (V 4294967296 xs)).reverse), .inr [.i .i64 0, .i .i64 0]])
 | _ => False
def nt5 : Cfg := addT 152 digG cf0
theorem nt5_ok : TblOk Tryz.prog nt5 := q_I cf0_ok Tryz.func152 fun l K h => by
 split at h
 ·rename_i xs b
  obtain ⟨⟨h2, h3, h4, h5⟩, h⟩ := h
  obtain ⟨n, rfl⟩ : ∃ n : Nat, b = n := ⟨b.toNat, by omega⟩
  exact ⟨_, Digits_good xs n h2 h3 (by omega) (by omega), by simpa using h⟩
 ·exact h.elim
def fromG : CT := mkCT [.inl (some (.ints .i64 []))] false fun l K => match l with
 | [.inl (.ints .i64 ds), .inl (.i .i64 b)] => (ds.length ≤ 140737488355328 ∧ InB b.toNat ds ∧ 2 ≤ b ∧ b ≤ 36) ∧ K (.t [.inl (.ints .u32 (fitN (dg 4294967296 (rdv b.toNat ds)))), .inr [.i .i64 (fitC (dg 4294967296 (rdv b.toNat ds))), .i .i64 (fitI (dg 4294967296 (rdv b.toNat ds)))]])
 | _ => False
def nt6 : Cfg := addT 177 fromG cf0
theorem nt6_ok : TblOk Tryz.prog nt6 := q_I cf0_ok Tryz.func177 fun l K h => by
 split at h
 ·rename_i ds b
  obtain ⟨⟨h1, h2, h3, h4⟩, h⟩ := h
  obtain ⟨n, rfl⟩ : ∃ n : Nat, b = n := ⟨b.toNat, by omega⟩
  exact ⟨_, From_good ds n (by simpa using h2) (by omega) (by omega) h1, by simpa using h⟩
 ·exact h.elim
def nt7 : Cfg := addT 15 smallCT cf0
theorem nt7_ok : TblOk Tryz.prog nt7 := q_I cf0_ok Tryz.func15 fun l K h => by
 split at h
 ·rename_i n
  obtain ⟨m, rfl⟩ : ∃ m : Nat, n = m := ⟨n.toNat, by omega⟩
  exact ⟨_, small_ret m (by omega), by simpa using h.2⟩
 ·exact h.elim
def nt8 : Cfg := addT 180 onesCT cf0
theorem nt8_ok : TblOk Tryz.prog nt8 := q_I cf0_ok Tryz.func180 fun l K h => by
 split at h
 ·rename_i xs
  obtain ⟨⟨h1, h2, h3⟩, h⟩ := h
  have e := dg_V 65536 (by omega) xs h2 h3
  have := ones_ret (V 65536 xs) (by rw [e]; exact h1)
  rw [e] at this
  exact ⟨_, this, h⟩
 ·exact h.elim
def nt9 : Cfg := addT 137 binaryCT cf0
theorem nt9_ok : TblOk Tryz.prog nt9 := q_I cf0_ok Tryz.func137 fun l K h => by
 split at h
 ·exact ⟨_, binary_ret _ h.1, h.2⟩
 ·exact h.elim
def figCT : CT := mkCT [.inl (some (.ints .i64 []))] false fun l K => match l with
 | [.inl (.ints .i64 xs), .inl (.i .i64 b)] => (xs.length ≤ 65536 ∧ InB 65536 xs ∧ Trd xs ∧ 2 ≤ b ∧ b ≤ 36) ∧ K (.c (.ints .i64 (dg b.toNat (V 65536 xs)).reverse))
 | _ => False
def nt11 : Cfg := addT 105 figCT cf0
theorem nt11_ok : TblOk Tryz.prog nt11 := q_I cf0_ok Tryz.func105 fun l K h => by
 split at h
 ·rename_i xs b
  obtain ⟨⟨h1, h2, h3, h4, h5⟩, h⟩ := h
  obtain ⟨n, rfl⟩ : ∃ n : Nat, b = n := ⟨b.toNat, by omega⟩
  have e := dg_V 65536 (by omega) xs h2 h3
  have := figures_ret (V 65536 xs) n (by rw [e]; exact h1) (by omega) (by omega)
  rw [e] at this
  exact ⟨_, this, by simpa using h⟩
 ·exact h.elim
attribute [go_sem] gcGoodCT digG fromG figCT okN_d V65 I65 T65 V32 I32 T32
end Go.Proofs.YtgkajjifbcmoeaaGreatDoor

namespace Go.Proofs.NatL
set_option linter.unusedSimpArgs false
set_option linter.unusedVariables false

def sv (B : Nat) (s : Bool) (xs : List Int) : Int := if s then -(V B xs : Int) else V B xs
def sgz (z : Int) (b : Bool) : Bool := if z = 0 then b else decide (z < 0)

theorem sv_sgz {B : Nat} (hB : 2 ≤ B) (z : Int) (b : Bool) : sv B (sgz z b) (dg B z.natAbs) = z := by
 unfold sv sgz
 rw [V_dg B hB]
 by_cases h0 : z = 0
 ·subst h0; simp
 ·rw [if_neg h0]
  by_cases h : z < 0
  ·rw [if_pos (by simpa using h)]; omega
  ·rw [if_neg (by simpa using h)]; omega
theorem sv_sg {B : Nat} (hB : 2 ≤ B) (z : Int) : sv B (decide (z < 0)) (dg B z.natAbs) = z := by
 have := sv_sgz hB z false
 unfold sgz at this
 by_cases h0 : z = 0
 ·subst h0; simp [sv, dg_zero, V]
 ·rw [if_neg h0] at this; exact this
theorem sv32 (z : Int) : sv 4294967296 (decide (z < 0)) (dg 4294967296 z.natAbs) = z := sv_sg (by omega) z
theorem sv65 (z : Int) : sv 65536 (decide (z < 0)) (dg 65536 z.natAbs) = z := sv_sg (by omega) z
theorem svz65 (z : Int) (b : Bool) : sv 65536 (sgz z b) (dg 65536 z.natAbs) = z := sv_sgz (by omega) z b
theorem sv_abs (B : Nat) (s : Bool) (xs : List Int) : (sv B s xs).natAbs = V B xs := by cases s <;> simp [sv]
instance decTrd (xs : List Int) : Decidable (Trd xs) := by unfold Trd; infer_instance
def sg (s : Bool) (m : Nat) : Int := if s then -(m : Int) else m
theorem sv_d {B : Nat} (hB : 2 ≤ B) (s : Bool) (m : Nat) : sv B s (dg B m) = sg s m := by unfold sv sg; rw [V_dg B hB]
theorem sgt (m : Nat) : sg true m = -(m : Int) := rfl
theorem sgf (m : Nat) : sg false m = m := rfl
theorem sg_self (a : Int) : sg (decide (a < 0)) a.natAbs = a := by
 by_cases h : a < 0
 ·rw [decide_eq_true h, sgt]; omega
 ·rw [decide_eq_false h, sgf]; omega
def okZ (s : Bool) (xs : List Int) : Bool := decide (xs.length ≤ 128 ∧ ((xs = [] ∧ s = false) ∨ (xs ≠ [] ∧ Trd xs)))
theorem okZ_eq {s : Bool} {xs : List Int} (h : okZ s xs = true) (bx : InB 4294967296 xs) :
  s = decide (sv 4294967296 s xs < 0) ∧ xs = dg 4294967296 (sv 4294967296 s xs).natAbs ∧ xs.length ≤ 128 := by
 unfold okZ at h
 obtain ⟨hl, h⟩ := of_decide_eq_true h
 rw [sv_abs]
 rcases h with ⟨rfl, rfl⟩ | ⟨hne, ht⟩
 ·exact ⟨by simp [sv, V], by simp [V, dg_zero], hl⟩
 ·have hd := dg_V 4294967296 (by omega) xs bx ht
  have h0 : 0 < V 4294967296 xs := by
   rcases Nat.eq_zero_or_pos (V 4294967296 xs) with h | h
   ·rw [h, dg_zero] at hd; exact absurd hd.symm hne
   ·exact h
  refine ⟨?_, hd.symm, hl⟩
  cases s
  ·rw [decide_eq_false]; simp [sv]
  ·rw [decide_eq_true]; simp [sv]; omega
theorem okZ_g (z : Int) : okZ (decide (z < 0)) (dg 4294967296 z.natAbs) = decide ((dg 4294967296 z.natAbs).length ≤ 128) := by
 unfold okZ
 congr 1
 refine propext ⟨fun h => h.1, fun h => ⟨h, ?_⟩⟩
 by_cases h0 : z = 0
 ·subst h0; left; exact ⟨rfl, rfl⟩
 ·right
  refine ⟨fun e => ?_, dg_trd _ (by omega) _⟩
  have := (dg_len_pos 4294967296 z.natAbs (by omega)).2 (by omega)
  rw [e] at this; simp at this
theorem okZ_len {s : Bool} {xs : List Int} (h : okZ s xs = true) : xs.length ≤ 128 := (of_decide_eq_true h).1
theorem okZ_trd {s : Bool} {xs : List Int} (h : okZ s xs = true) : Trd xs := by
 rcases (of_decide_eq_true h).2 with ⟨rfl, _⟩ | ⟨_, h⟩
 ·exact .inl rfl
 ·exact h

def cl (k : Nat) (z : Int) : Int := if (dg 4294967296 z.natAbs).length ≤ k then z else 0
def clC (k : Nat) (z : Int) : Int := if (dg 4294967296 z.natAbs).length ≤ k then 0 else 14
def clI (k : Nat) (z : Int) : Int := if (dg 4294967296 z.natAbs).length ≤ k then 0 else -1
theorem cl_fit {k : Nat} {z : Int} (h : (dg 4294967296 z.natAbs).length ≤ k) : cl k z = z ∧ clC k z = 0 ∧ clI k z = 0 := by simp [cl, clC, clI, h]
theorem cl_big {k : Nat} {z : Int} (h : ¬ (dg 4294967296 z.natAbs).length ≤ k) : cl k z = 0 ∧ clC k z = 14 ∧ clI k z = -1 := by simp [cl, clC, clI, h]
theorem dg_len_iff' {B : Nat} (hB : 2 ≤ B) (n k : Nat) : (dg B n).length ≤ k ↔ n < B ^ k := by
 constructor
 ·intro h; exact lt_of_len hB h
 ·exact dg_len_le hB n k
theorem dg_half' (n k : Nat) : (dg 65536 n).length ≤ 2 * k ↔ (dg 4294967296 n).length ≤ k := by
 rw [dg_len_iff' (by omega), dg_len_iff' (by omega), Nat.pow_mul]
def fbC : List (Bool × List Int) → Int
 | [] => 0
 | p :: l => if okZ p.1 p.2 then fbC l else 6
def fbX : Int → List (Bool × List Int) → Int
 | _, [] => 0
 | i, p :: l => if okZ p.1 p.2 then fbX (i + 1) l else -1 - i
def allL (n : Nat) : List (Bool × List Int) → Prop
 | [] => True
 | p :: l => p.2.length ≤ n ∧ allL n l
theorem allL_get {n : Nat} : ∀ {l : List (Bool × List Int)} {i : Nat}, allL n l → (l.getD i (false, [])).2.length ≤ n
 | [], i, _ => by simp
 | p :: l, 0, h => h.1
 | p :: l, i + 1, h => by simpa using allL_get (i := i) h.2
theorem drop_getD (l : List (Bool × List Int)) (i : Nat) (h : i < l.length) : l.drop i = l.getD i (false, []) :: l.drop (i + 1) := by
 rw [List.drop_eq_getElem_cons h, List.getD_eq_getElem?_getD, List.getElem?_eq_getElem h]; rfl
theorem okZ_iff (s : Bool) (xs : List Int) (b : Bool) (h : b = true ↔ ((xs.length : Int) ≤ 128 ∧ (((xs.length : Int) = 0 ∧ s = false) ∨ (0 < (xs.length : Int) ∧ xs.getD ((xs.length : Int) - 1).toNat 0 ≠ 0)))) : b = okZ s xs := by
 have e : ((xs.length : Int) - 1).toNat = xs.length - 1 := by omega
 have h2 : okZ s xs = true ↔ ((xs.length : Int) ≤ 128 ∧ (((xs.length : Int) = 0 ∧ s = false) ∨ (0 < (xs.length : Int) ∧ xs.getD ((xs.length : Int) - 1).toNat 0 ≠ 0))) := by
  unfold okZ Trd
  rw [decide_eq_true_iff, e]
  have e1 : xs = [] ↔ (xs.length : Int) = 0 := by rw [← List.length_eq_zero_iff]; omega
  have e2 : xs.length = 0 ↔ (xs.length : Int) = 0 := by omega
  rw [e1, e2, ne_eq, e1]
  constructor
  ·rintro ⟨h1, h3 | ⟨h3, h4 | h4⟩⟩
   ·exact ⟨by omega, .inl h3⟩
   ·exact absurd h4 h3
   ·exact ⟨by omega, .inr ⟨by omega, h4⟩⟩
  ·rintro ⟨h1, h3 | ⟨h3, h4⟩⟩
   ·exact ⟨by omega, .inl h3⟩
   ·exact ⟨by omega, .inr ⟨by omega, .inr h4⟩⟩
 rw [Bool.eq_iff_iff, h, h2]

end Go.Proofs.NatL

namespace Go.Proofs.YtgkajjifbcmoeaaGreatDoor
set_option linter.unusedSimpArgs false
set_option linter.unusedVariables false
open Go.Abs Go.Proofs.NatL

theorem iat_ret (c i : Int) : Ret Tryz.prog 175 false [.inl (.i .i64 c), .inl (.i .i64 i)] (.g [.i .i64 c, .i .i64 i]) := by
 (refine q_H Tryz.func175 (fun F => ?_); simp only [q_z,q_y,Tryz.ntmps175,Tryz.results175])
 repeat' (first|(with_reducible first|apply q_a|apply q_b|apply q_c|apply q_d|apply q_e|apply q_f|apply q_g|apply q_h|apply q_i|apply q_j|apply q_k|apply q_m|apply q_n|apply q_o|apply q_p|refine q_l ?_)|((with_reducible first|refine q_q cf0_ok fun K hK=>?_|refine q_r cf0_ok fun K hK=>?_);simp (maxSteps:=2000000) only [go_sem,↓reduceIte,reduceCtorEq,Nat.reduceLeDiff,Nat.reduceLT,Nat.reduceBEq,Nat.reduceAdd];(repeat1' with_reducible first|apply And.intro|intro _|(refine hK _ ?_;clear hK K))<;>(try (clear hK K;exact q_u)))|(with_reducible refine q_s ?_;(first|apply q_J|apply q_K|apply q_L|apply q_M|apply q_N|apply q_O)<;>try intro _)|with_reducible refine q_t ?_)
 exact q_A rfl
def it1 : Cfg := addT 175 atCT cf0
theorem it1_ok : TblOk Tryz.prog it1 := q_I cf0_ok Tryz.func175 fun l K h => by
 split at h
 ·exact ⟨_, (iat_ret _ _).plain rfl, h⟩
 ·exact h.elim

set_option maxHeartbeats 800000 in
theorem ivalid_ret (s : Bool) (xs : List Int) (hx : xs.length ≤ 140737488355328) : Ret Tryz.prog 143 false [.inr [.b s, .ints .u32 xs]] (.c (.b (okZ s xs))) := by
 (refine q_H Tryz.func143 (fun F => ?_); simp only [q_z,q_y,Tryz.ntmps143,Tryz.results143])
 repeat' (first|(with_reducible first|apply q_a|apply q_b|apply q_c|apply q_d|apply q_e|apply q_f|apply q_g|apply q_h|apply q_i|apply q_j|apply q_k|apply q_m|apply q_n|apply q_o|apply q_p|refine q_l ?_)|((with_reducible first|refine q_q cf0_ok fun K hK=>?_|refine q_r cf0_ok fun K hK=>?_);simp (maxSteps:=2000000) only [go_sem,↓reduceIte,reduceCtorEq,Nat.reduceLeDiff,Nat.reduceLT,Nat.reduceBEq,Nat.reduceAdd];(repeat1' with_reducible first|apply And.intro|intro _|(refine hK _ ?_;clear hK K))<;>(try (clear hK K;exact q_u)))|(with_reducible refine q_s ?_;(first|apply q_J|apply q_K|apply q_L|apply q_M|apply q_N|apply q_O)<;>try intro _)|with_reducible refine q_t ?_)
 all_goals refine q_A ?_
 all_goals simp only [resAV, q_y, AV.c.injEq, C.b.injEq]
 all_goals refine okZ_iff s xs _ ?_
 all_goals first | (simp_all; done) | (simp_all; omega)
def ivalidCT : CT := mkCT [.inr [none, some (.ints .u32 [])]] true fun l K => match l with
 | [.inr [.b s, .ints .u32 xs]] => xs.length ≤ 140737488355328 ∧ K (.c (.b (okZ s xs)))
 | _ => False
def it2 : Cfg := addT 143 ivalidCT cf0
theorem it2_ok : TblOk Tryz.prog it2 := q_I cf0_ok Tryz.func143 fun l K h => by
 split at h
 ·exact ⟨_, (ivalid_ret _ _ h.1).plain rfl, h.2⟩
 ·exact h.elim
attribute [go_sem] ivalidCT listT
def ib1 : Cfg := listT [(175, atCT), (143, ivalidCT)] [34]
theorem ib1_ok : TblOk Tryz.prog ib1 := listE_ok (by simp only [List.mem_singleton, forall_eq]; exact flt) ⟨⟨it1, it1_ok, rfl⟩, ⟨it2, it2_ok, rfl⟩, trivial⟩
attribute [go_sem] ib1
def rowI (p : Bool × List Int) : List C := [.b p.1, .ints .u32 p.2]
def unI : List (List C) → Option (List (Bool × List Int))
 | [] => some []
 | [.b s, .ints .u32 xs] :: r => (unI r).map ((s, xs) :: ·)
 | _ :: _ => none
theorem unI_some : ∀ {rows : List (List C)} {l : List (Bool × List Int)}, unI rows = some l → rows = l.map rowI
 | [], l, h => by simp [unI] at h; subst h; rfl
 | r :: rows, l, h => by
  unfold unI at h
  split at h
  ·rename_i h0; cases h0
  ·rename_i s xs r' h0
   cases h0
   obtain ⟨l', h1, rfl⟩ := Option.map_eq_some_iff.1 h
   rw [unI_some h1]; rfl
  ·cases h
theorem rowI_get (l : List (Bool × List Int)) (i : Nat) (h : i < l.length) : (l.map rowI).getD i [] = [.b (l.getD i (false, [])).1, .ints .u32 (l.getD i (false, [])).2] := by
 simp [List.getD_eq_getElem?_getD, List.getElem?_eq_getElem h, rowI]

set_option maxHeartbeats 1600000 in
theorem icheck_ret (l : List (Bool × List Int)) (hn : l.length ≤ 1000) (hl : allL 140737488355328 l) :
  Ret Tryz.prog 151 false [.inl (.sl 2 (l.map rowI))] (.g [.i .i64 (fbC l), .i .i64 (fbX 0 l)]) := by
 (refine q_H Tryz.func151 (fun F => ?_); simp only [q_z,q_y,Tryz.ntmps151,Tryz.results151])
 repeat' (first|(with_reducible first|apply q_a|apply q_b|apply q_c|apply q_d|apply q_e|apply q_f|apply q_g|apply q_h|apply q_i|apply q_j|apply q_k|apply q_m|apply q_n|apply q_o|apply q_p|refine q_l ?_)|((with_reducible first|refine q_q ib1_ok fun K hK=>?_|refine q_r ib1_ok fun K hK=>?_);simp (maxSteps:=2000000) only [go_sem,↓reduceIte,reduceCtorEq,Nat.reduceLeDiff,Nat.reduceLT,Nat.reduceBEq,Nat.reduceAdd,List.length_map];(repeat1' with_reducible first|apply And.intro|intro _|(refine hK _ ?_;clear hK K))<;>(try (clear hK K;exact q_u)))|(with_reducible refine q_s ?_;(first|apply q_J|apply q_K|apply q_L|apply q_M|apply q_N|apply q_O)<;>try intro _)|with_reducible refine q_t ?_)
 refine q_G (ι := { i : Nat // i ≤ l.length ∧ fbC (l.drop i) = fbC l ∧ fbX i (l.drop i) = fbX 0 l }) (fun i => ⟨20, [(2, .bx 0 0), (5, .c (.sl 2 (l.map rowI))), (6, .c (.i .i64 l.length)), (7, .c (.i .i64 (i.1 : Nat)))], ⟨[(0, [.c (.i .i64 0), .c (.i .i64 0)])], [], []⟩, 1⟩) (fun i => l.length - i.1) ⟨0, by simp, rfl, rfl⟩ ?_ ?_
 ·exact q_D
 rintro ⟨i, g1, g2, g3⟩
 simp only at g1 g2 g3 ⊢
 have hlen := allL_get (i := i) hl
 rcases Nat.lt_or_ge i l.length with hi | hi
 ·have hr := rowI_get l i hi
  rw [drop_getD l i hi, fbC] at g2
  rw [drop_getD l i hi, fbX] at g3
  cases ho : okZ (l.getD i (false, [])).1 (l.getD i (false, [])).2
  ·simp only [ho, Bool.false_eq_true, if_false] at g2 g3
   repeat' (first|(with_reducible first|apply q_a|apply q_b|apply q_c|apply q_d|apply q_e|apply q_f|apply q_g|apply q_h|apply q_i|apply q_j|apply q_k|apply q_m|apply q_n|apply q_o|apply q_p|refine q_l ?_)|((with_reducible first|refine q_q ib1_ok fun K hK=>?_|refine q_r ib1_ok fun K hK=>?_);simp (maxSteps:=2000000) only [go_sem,↓reduceIte,reduceCtorEq,Nat.reduceLeDiff,Nat.reduceLT,Nat.reduceBEq,Nat.reduceAdd,hr, ho, List.length_map];(repeat1' with_reducible first|apply And.intro|(intro _;try exact q_v)|(refine hK _ ?_;clear hK K))<;>(try (clear hK K;exact q_u)))|(with_reducible refine q_s ?_;(first|apply q_J|apply q_K|apply q_L|apply q_M|apply q_N|apply q_O)<;>try (intro _;try exact q_v))|with_reducible refine q_t ?_)
   exact q_A (by rw [← g2, ← g3]; rfl)
  ·simp only [ho, if_true] at g2 g3
   repeat' (first|(with_reducible first|apply q_a|apply q_b|apply q_c|apply q_d|apply q_e|apply q_f|apply q_g|apply q_h|apply q_i|apply q_j|apply q_k|apply q_m|apply q_n|apply q_o|apply q_p|refine q_l ?_)|((with_reducible first|refine q_q ib1_ok fun K hK=>?_|refine q_r ib1_ok fun K hK=>?_);simp (maxSteps:=2000000) only [go_sem,↓reduceIte,reduceCtorEq,Nat.reduceLeDiff,Nat.reduceLT,Nat.reduceBEq,Nat.reduceAdd,hr, ho, List.length_map];(repeat1' with_reducible first|apply And.intro|(intro _;try exact q_v)|(refine hK _ ?_;clear hK K))<;>(try (clear hK K;exact q_u)))|(with_reducible refine q_s ?_;(first|apply q_J|apply q_K|apply q_L|apply q_M|apply q_N|apply q_O)<;>try (intro _;try exact q_v))|with_reducible refine q_t ?_)
   refine q_F ⟨i + 1, hi, g2, by push_cast; exact g3⟩ ?_ (by simp only; omega)
   exact q_D
 ·have hi' : i = l.length := by omega
  subst hi'
  rw [List.drop_length] at g2 g3
  repeat' (first|(with_reducible first|apply q_a|apply q_b|apply q_c|apply q_d|apply q_e|apply q_f|apply q_g|apply q_h|apply q_i|apply q_j|apply q_k|apply q_m|apply q_n|apply q_o|apply q_p|refine q_l ?_)|((with_reducible first|refine q_q ib1_ok fun K hK=>?_|refine q_r ib1_ok fun K hK=>?_);simp (maxSteps:=2000000) only [go_sem,↓reduceIte,reduceCtorEq,Nat.reduceLeDiff,Nat.reduceLT,Nat.reduceBEq,Nat.reduceAdd,List.length_map];(repeat1' with_reducible first|apply And.intro|(intro _;try exact q_v)|(refine hK _ ?_;clear hK K))<;>(try (clear hK K;exact q_u)))|(with_reducible refine q_s ?_;(first|apply q_J|apply q_K|apply q_L|apply q_M|apply q_N|apply q_O)<;>try (intro _;try exact q_v))|with_reducible refine q_t ?_)
  exact q_A (by rw [← g2, ← g3]; rfl)
def icheckCT : CT := mkCT [] true fun l K => match l with
 | [.inl (.sl 2 rows)] => match unI rows with
  | some l => (l.length ≤ 1000 ∧ allL 140737488355328 l) ∧ K (.g [.i .i64 (fbC l), .i .i64 (fbX 0 l)])
  | none => False
 | _ => False
def it3 : Cfg := addT 151 icheckCT cf0
theorem it3_ok : TblOk Tryz.prog it3 := q_I cf0_ok Tryz.func151 fun l K h => by
 split at h
 ·split at h
  ·rename_i l hl
   rw [unI_some hl]
   exact ⟨_, (icheck_ret l h.1.1 h.1.2).plain rfl, h.2⟩
  ·exact h.elim
 ·exact h.elim
attribute [go_sem] icheckCT unI fbC fbX allL
abbrev gI (z : Int) : List C := [.b (decide (z < 0)), .ints .u32 (dg 4294967296 z.natAbs)]
abbrev nP : Option C ⊕ List (Option C) := .inr [none, some (.ints .u32 [])]
theorem dg_zeroA (B : Nat) : dg B (0 : Int).natAbs = [] := rfl

set_option maxHeartbeats 800000 in
theorem isigned_ret (s : Bool) (xs : List Int) (hx : xs.length ≤ 140737488355328) (bx : InB 4294967296 xs) (tx : Trd xs) :
    Ret Tryz.prog 178 false [.inl (.b s), .inl (.ints .u32 xs)] (.t [.inr (gI (cl 128 (sv 4294967296 s xs))), .inr [.i .i64 (clC 128 (sv 4294967296 s xs)), .i .i64 (clI 128 (sv 4294967296 s xs))]]) := by
  have hv := sv_abs 4294967296 s xs
  have hd := dg_V 4294967296 (by omega) xs bx tx
  have hl : (dg 4294967296 (sv 4294967296 s xs).natAbs).length = xs.length := by rw [hv, hd]
  have hp := dg_len_pos 4294967296 (V 4294967296 xs) (by omega)
  rw [hd] at hp
  have hs : (s && decide (0 < (xs.length : Int))) = decide (sv 4294967296 s xs < 0) := by
    rcases Nat.eq_zero_or_pos xs.length with h | h
    · have : xs = [] := List.eq_nil_of_length_eq_zero h
      subst this
      cases s <;> simp [sv, V]
    · have h2 := hp.1 h
      cases s
      · simp [sv]
      · simp [sv]; omega
  cases s
  all_goals
    (refine q_H Tryz.func178 (fun F => ?_); simp only [q_z,q_y,Tryz.ntmps178,Tryz.results178])
    repeat' (first|(with_reducible first|apply q_a|apply q_b|apply q_c|apply q_d|apply q_e|apply q_f|apply q_g|apply q_h|apply q_i|apply q_j|apply q_k|apply q_m|apply q_n|apply q_o|apply q_p|refine q_l ?_)|((with_reducible first|refine q_q ib1_ok fun K hK=>?_|refine q_r ib1_ok fun K hK=>?_);simp (maxSteps:=2000000) only [go_sem,↓reduceIte,reduceCtorEq,Nat.reduceLeDiff,Nat.reduceLT,Nat.reduceBEq,Nat.reduceAdd];(repeat1' with_reducible first|apply And.intro|(intro _;try exact q_v)|(refine hK _ ?_;clear hK K))<;>(try (clear hK K;exact q_u)))|(with_reducible refine q_s ?_;(first|apply q_J|apply q_K|apply q_L|apply q_M|apply q_N|apply q_O)<;>try (intro _;try exact q_v))|with_reducible refine q_t ?_)
  all_goals (try rename_i q)
  all_goals first
    | (obtain ⟨e1, e2, e3⟩ := cl_big (k := 128) (z := sv 4294967296 _ xs) (by rw [hl]; omega)
       exact q_B [nP] rfl (by simp only [norm, nz, nzL, resAV, e1, e2, e3, dg_zeroA]; rfl))
    | (obtain ⟨e1, e2, e3⟩ := cl_fit (k := 128) (z := sv 4294967296 _ xs) (by rw [hl]; omega)
       exact q_A (by simp only [resAV, gI, e1, e2, e3, hv, hd, ← hs, Bool.true_and, Bool.false_and]))
def isignedCT : CT := mkCT [.inl none, .inl (some (.ints .u32 []))] false fun l K => match l with
 | [.inl (.b s), .inl (.ints .u32 xs)] => (xs.length ≤ 140737488355328 ∧ InB 4294967296 xs ∧ Trd xs) ∧ K (.t [.inr (gI (cl 128 (sv 4294967296 s xs))), .inr [.i .i64 (clC 128 (sv 4294967296 s xs)), .i .i64 (clI 128 (sv 4294967296 s xs))]])
 | _ => False
def it4 : Cfg := addT 178 isignedCT cf0
theorem it4_ok : TblOk Tryz.prog it4 := q_I cf0_ok Tryz.func178 fun l K h => by
 split at h
 ·exact ⟨_, isigned_ret _ _ h.1.1 h.1.2.1 h.1.2.2, h.2⟩
 ·exact h.elim
attribute [go_sem] isignedCT
def cloneVCT : CT := mkCT [.inl (some (.ints .u32 []))] true fun l K => match l with
 | [.inl (.ints .u32 xs)] => xs.length ≤ 16777216 ∧ K (.c (.ints .u32 xs))
 | _ => False
def it5 : Cfg := addT 161 cloneVCT cf0
attribute [go_sem] cloneVCT gI

end Go.Proofs.YtgkajjifbcmoeaaGreatDoor

namespace Go.Proofs.YtgkajjifbcmoeaaGreatDoor
set_option linter.unusedSimpArgs false
set_option linter.unusedVariables false
open Go.Abs Go.Proofs.NatL

theorem okN_128 {n : Nat} (h : (dg 4294967296 n).length ≤ 128) : okN (dg 4294967296 n) = true := okN_dg' (by omega)

end Go.Proofs.YtgkajjifbcmoeaaGreatDoor

namespace Go.Proofs.YtgkajjifbcmoeaaGreatDoor
set_option linter.unusedSimpArgs false
set_option linter.unusedVariables false
open Go.Abs Go.Proofs.NatL

theorem subO_le {m n : Nat} (h : n ≤ m) : subO (dg 4294967296 m) (dg 4294967296 n) = dg 4294967296 (m - n) ∧ subC (dg 4294967296 m) (dg 4294967296 n) = 0 ∧ subI (dg 4294967296 m) (dg 4294967296 n) = 0 := by
 have h1 : ¬ m < n := by omega
 simp only [subO, subC, subI, subN, V32, h1, if_false, and_self]
theorem addNd' (m n : Nat) : addN (dg 4294967296 m) (dg 4294967296 n) = dg 4294967296 (m + n) := by unfold addN; rw [V32, V32]
theorem mulNd' (m n : Nat) : mulN (dg 4294967296 m) (dg 4294967296 n) = dg 4294967296 (m * n) := by unfold mulN; rw [V32, V32]
def it6 : Cfg := it5


end Go.Proofs.YtgkajjifbcmoeaaGreatDoor

namespace Go.Proofs.YtgkajjifbcmoeaaGreatDoor
set_option linter.unusedSimpArgs false
set_option linter.unusedVariables false
open Go.Abs Go.Proofs.NatL



end Go.Proofs.YtgkajjifbcmoeaaGreatDoor

namespace Go.Proofs.YtgkajjifbcmoeaaGreatDoor
set_option linter.unusedSimpArgs false
set_option linter.unusedVariables false
open Go.Abs Go.Proofs.NatL


def digL : List UInt8 := [48, 49, 50, 51, 52, 53, 54, 55, 56, 57, 97, 98, 99, 100, 101, 102, 103, 104, 105, 106, 107, 108, 109, 110, 111, 112, 113, 114, 115, 116, 117, 118, 119, 120, 121, 122]
def chr (d : Int) : Int := ((digL.getD d.toNat 0).toNat : Nat)
def textI (z : Int) (b : Nat) : List Int := (if z < 0 then [45] else []) ++ (if z = 0 then [48] else (dg b z.natAbs).reverse.map chr)
theorem map_snoc (f : Int → Int) (ds : List Int) (i : Nat) (h : i < ds.length) : (ds.take (i + 1)).map f = (ds.take i).map f ++ [f (ds.getD i 0)] := by
 rw [List.take_succ_eq_append_getElem h, List.map_append, getD_eq _ _ h]; rfl
theorem bl_128 {n : Nat} (h : (dg 4294967296 n).length ≤ 128) : bl n ≤ 4096 := by
 obtain ⟨k, hk⟩ : ∃ k, k = 128 := ⟨_, rfl⟩
 rw [← hk] at h
 have h1 := lt_of_len (B := 4294967296) (by omega) h
 rw [show (4294967296 : Nat) = 2 ^ 32 from rfl, ← Nat.pow_mul] at h1
 have := bl_lt n _ h1
 omega
def ibt : Cfg := listT [(151, icheckCT), (152, digG)] [34]
theorem ibt_ok : TblOk Tryz.prog ibt := listE_ok (by simp only [List.mem_singleton, forall_eq]; exact flt) ⟨⟨it3, it3_ok, rfl⟩, ⟨nt5, nt5_ok, rfl⟩, trivial⟩
attribute [go_sem] ibt
set_option maxRecDepth 100000 in
set_option maxHeartbeats 3200000 in
theorem iText_ok (a : Int) (b : Nat) (h1 : 2 ≤ b) (h2 : b ≤ 36) (la : (dg 4294967296 a.natAbs).length ≤ 128) :
  Ret Tryz.prog 79 false [.inr (gI a), .inl (.i .i64 b)] (.t [.inl (.str (strOf (textI a b))), .inr [.i .i64 0, .i .i64 0]]) := by
 have oa := (okZ_g a).trans (decide_eq_true la)
 have ka := okN_128 la
 have dl : (dg b a.natAbs).length ≤ 4096 := Nat.le_trans (dg_len_two b a.natAbs h1 _ (lt_bl _)) (bl_128 la)
 have dp := dg_len_pos b a.natAbs h1
 have din : InB b (dg b a.natAbs).reverse := fun z hz => InB_dg b h1 _ z (List.mem_reverse.1 hz)
 have htx : ∀ pre : List Int, pre = (if a < 0 then [45] else []) → strOf (textI a b) = strOf (pre ++ (if a = 0 then [48] else (dg b a.natAbs).reverse.map chr)) := fun pre h => by rw [h]; rfl
 rw [← List.length_reverse] at dl dp
 generalize hds : (dg b a.natAbs).reverse = ds at *
 by_cases hneg : a < 0
 ·have htx := htx [45] (by rw [if_pos hneg])
  rw [if_neg (by omega)] at htx
  have e0 : decide (a < 0) = true := decide_eq_true hneg
  simp only [gI, e0] at oa ⊢
  (refine q_H Tryz.func79 (fun F => ?_); simp only [q_z,q_y,Tryz.ntmps79,Tryz.results79])
  repeat' (first|(with_reducible first|apply q_a|apply q_b|apply q_c|apply q_d|apply q_e|apply q_f|apply q_g|apply q_h|apply q_i|apply q_j|apply q_k|apply q_m|apply q_n|apply q_o|apply q_p|refine q_l ?_)|((with_reducible first|refine q_q ibt_ok fun K hK=>?_|refine q_r ibt_ok fun K hK=>?_);simp (maxSteps:=2000000) only [go_sem,↓reduceIte,reduceCtorEq,Nat.reduceLeDiff,Nat.reduceLT,Nat.reduceBEq,Nat.reduceAdd,oa, ka, hds];(repeat1' with_reducible first|apply And.intro|(intro _;try exact q_v)|(refine hK _ ?_;clear hK K))<;>(try (clear hK K;exact q_u)))|(with_reducible refine q_s ?_;(first|apply q_J|apply q_K|apply q_L|apply q_M|apply q_N|apply q_O)<;>try (intro _;try exact q_v))|with_reducible refine q_t ?_)
  refine q_G (ι := { i : Nat // i ≤ ds.length }) (fun i => ⟨56, [(5, .bx 1 0), (7, .c (.ints .i64 ds)), (9, .own 4 0), (35, .c (.ints .i64 ds)), (36, .c (.i .i64 ds.length)), (37, .c (.i .i64 (i.1 : Nat)))], ⟨[(1, [.c (.i .i64 0), .c (.i .i64 0)])], [(4, ⟨0, 5, 1, .ints .u8 ([45] ++ (ds.take i.1).map chr)⟩)], []⟩, 5⟩) (fun i => ds.length - i.1) ⟨0, by simp⟩ ?_ ?_
  ·exact q_D
  rintro ⟨i, g1⟩
  simp only at g1 ⊢
  have b1 := InB_getD (by omega) din i
  have hml : ((ds.take i).map chr).length = i := by simp; omega
  rcases Nat.lt_or_ge i ds.length with hi | hi
  ·have hm := map_snoc chr ds i hi
   repeat' (first|(with_reducible first|apply q_a|apply q_b|apply q_c|apply q_d|apply q_e|apply q_f|apply q_g|apply q_h|apply q_i|apply q_j|apply q_k|apply q_m|apply q_n|apply q_o|apply q_p|refine q_l ?_)|((with_reducible first|refine q_q ibt_ok fun K hK=>?_|refine q_r ibt_ok fun K hK=>?_);simp (maxSteps:=2000000) only [go_sem,↓reduceIte,reduceCtorEq,Nat.reduceLeDiff,Nat.reduceLT,Nat.reduceBEq,Nat.reduceAdd,hml];(repeat1' with_reducible first|apply And.intro|(intro _;try exact q_v)|(refine hK _ ?_;clear hK K))<;>(try (clear hK K;exact q_u)))|(with_reducible refine q_s ?_;(first|apply q_J|apply q_K|apply q_L|apply q_M|apply q_N|apply q_O)<;>try (intro _;try exact q_v))|with_reducible refine q_t ?_)
   refine q_F ⟨i + 1, hi⟩ ?_ (by simp only; omega)
   simp only [hm]
   exact q_D
  ·have hi' : i = ds.length := by omega
   subst hi'
   rw [List.take_length]
   repeat' (first|(with_reducible first|apply q_a|apply q_b|apply q_c|apply q_d|apply q_e|apply q_f|apply q_g|apply q_h|apply q_i|apply q_j|apply q_k|apply q_m|apply q_n|apply q_o|apply q_p|refine q_l ?_)|((with_reducible first|refine q_q ibt_ok fun K hK=>?_|refine q_r ibt_ok fun K hK=>?_);simp (maxSteps:=2000000) only [go_sem,↓reduceIte,reduceCtorEq,Nat.reduceLeDiff,Nat.reduceLT,Nat.reduceBEq,Nat.reduceAdd];(repeat1' with_reducible first|apply And.intro|(intro _;try exact q_v)|(refine hK _ ?_;clear hK K))<;>(try (clear hK K;exact q_u)))|(with_reducible refine q_s ?_;(first|apply q_J|apply q_K|apply q_L|apply q_M|apply q_N|apply q_O)<;>try (intro _;try exact q_v))|with_reducible refine q_t ?_)
   exact q_A (by rw [htx]; rfl)
 ·have htx := htx [] (by rw [if_neg hneg])
  have e0 : decide (a < 0) = false := decide_eq_false hneg
  simp only [gI, e0] at oa ⊢
  (refine q_H Tryz.func79 (fun F => ?_); simp only [q_z,q_y,Tryz.ntmps79,Tryz.results79])
  repeat' (first|(with_reducible first|apply q_a|apply q_b|apply q_c|apply q_d|apply q_e|apply q_f|apply q_g|apply q_h|apply q_i|apply q_j|apply q_k|apply q_m|apply q_n|apply q_o|apply q_p|refine q_l ?_)|((with_reducible first|refine q_q ibt_ok fun K hK=>?_|refine q_r ibt_ok fun K hK=>?_);simp (maxSteps:=2000000) only [go_sem,↓reduceIte,reduceCtorEq,Nat.reduceLeDiff,Nat.reduceLT,Nat.reduceBEq,Nat.reduceAdd,oa, ka, hds];(repeat1' with_reducible first|apply And.intro|(intro _;try exact q_v)|(refine hK _ ?_;clear hK K))<;>(try (clear hK K;exact q_u)))|(with_reducible refine q_s ?_;(first|apply q_J|apply q_K|apply q_L|apply q_M|apply q_N|apply q_O)<;>try (intro _;try exact q_v))|with_reducible refine q_t ?_)
  refine q_G (ι := { i : Nat // i ≤ ds.length }) (fun i => ⟨56, [(5, .bx 1 0), (7, .c (.ints .i64 ds)), (9, .own 4 0), (35, .c (.ints .i64 ds)), (36, .c (.i .i64 ds.length)), (37, .c (.i .i64 (i.1 : Nat)))], ⟨[(1, [.c (.i .i64 0), .c (.i .i64 0)])], [(4, ⟨0, 5, 1, .ints .u8 ((ds.take i.1).map chr)⟩)], []⟩, 5⟩) (fun i => ds.length - i.1) ⟨0, by simp⟩ ?_ ?_
  ·exact q_D
  rintro ⟨i, g1⟩
  simp only at g1 ⊢
  have b1 := InB_getD (by omega) din i
  have hml : ((ds.take i).map chr).length = i := by simp; omega
  rcases Nat.lt_or_ge i ds.length with hi | hi
  ·have hm := map_snoc chr ds i hi
   repeat' (first|(with_reducible first|apply q_a|apply q_b|apply q_c|apply q_d|apply q_e|apply q_f|apply q_g|apply q_h|apply q_i|apply q_j|apply q_k|apply q_m|apply q_n|apply q_o|apply q_p|refine q_l ?_)|((with_reducible first|refine q_q ibt_ok fun K hK=>?_|refine q_r ibt_ok fun K hK=>?_);simp (maxSteps:=2000000) only [go_sem,↓reduceIte,reduceCtorEq,Nat.reduceLeDiff,Nat.reduceLT,Nat.reduceBEq,Nat.reduceAdd,hml];(repeat1' with_reducible first|apply And.intro|(intro _;try exact q_v)|(refine hK _ ?_;clear hK K))<;>(try (clear hK K;exact q_u)))|(with_reducible refine q_s ?_;(first|apply q_J|apply q_K|apply q_L|apply q_M|apply q_N|apply q_O)<;>try (intro _;try exact q_v))|with_reducible refine q_t ?_)
   refine q_F ⟨i + 1, hi⟩ ?_ (by simp only; omega)
   simp only [hm]
   exact q_D
  ·have hi' : i = ds.length := by omega
   subst hi'
   rw [List.take_length]
   by_cases hz : a = 0
   ·have h0 : ds = [] := List.eq_nil_of_length_eq_zero (by omega)
    subst h0
    rw [if_pos hz] at htx
    repeat' (first|(with_reducible first|apply q_a|apply q_b|apply q_c|apply q_d|apply q_e|apply q_f|apply q_g|apply q_h|apply q_i|apply q_j|apply q_k|apply q_m|apply q_n|apply q_o|apply q_p|refine q_l ?_)|((with_reducible first|refine q_q ibt_ok fun K hK=>?_|refine q_r ibt_ok fun K hK=>?_);simp (maxSteps:=2000000) only [go_sem,↓reduceIte,reduceCtorEq,Nat.reduceLeDiff,Nat.reduceLT,Nat.reduceBEq,Nat.reduceAdd];(repeat1' with_reducible first|apply And.intro|(intro _;try exact q_v)|(refine hK _ ?_;clear hK K))<;>(try (clear hK K;exact q_u)))|(with_reducible refine q_s ?_;(first|apply q_J|apply q_K|apply q_L|apply q_M|apply q_N|apply q_O)<;>try (intro _;try exact q_v))|with_reducible refine q_t ?_)
    exact q_A (by rw [htx]; rfl)
   ·rw [if_neg hz] at htx
    repeat' (first|(with_reducible first|apply q_a|apply q_b|apply q_c|apply q_d|apply q_e|apply q_f|apply q_g|apply q_h|apply q_i|apply q_j|apply q_k|apply q_m|apply q_n|apply q_o|apply q_p|refine q_l ?_)|((with_reducible first|refine q_q ibt_ok fun K hK=>?_|refine q_r ibt_ok fun K hK=>?_);simp (maxSteps:=2000000) only [go_sem,↓reduceIte,reduceCtorEq,Nat.reduceLeDiff,Nat.reduceLT,Nat.reduceBEq,Nat.reduceAdd];(repeat1' with_reducible first|apply And.intro|(intro _;try exact q_v)|(refine hK _ ?_;clear hK K))<;>(try (clear hK K;exact q_u)))|(with_reducible refine q_s ?_;(first|apply q_J|apply q_K|apply q_L|apply q_M|apply q_N|apply q_O)<;>try (intro _;try exact q_v))|with_reducible refine q_t ?_)
    exact q_A (by rw [htx]; rfl)
def iTextCT : CT := mkCT [nP] true fun l K => match l with
 | [.inr [.b s, .ints .u32 xs], .inl (.i .i64 b)] => (okZ s xs = true ∧ InB 4294967296 xs ∧ 2 ≤ b ∧ b ≤ 36) ∧ K (.t [.inl (.str (strOf (textI (sv 4294967296 s xs) b.toNat))), .inr [.i .i64 0, .i .i64 0]])
 | _ => False
def iu2 : Cfg := addT 79 iTextCT cf0
theorem iu2_ok : TblOk Tryz.prog iu2 := q_I cf0_ok Tryz.func79 fun l K h => by
 split at h
 ·rename_i s xs b
  obtain ⟨⟨h1, h2, h3, h4⟩, h⟩ := h
  obtain ⟨e1, e2, e3⟩ := okZ_eq h1 h2
  obtain ⟨n, rfl⟩ : ∃ n : Nat, b = n := ⟨b.toNat, by omega⟩
  have := iText_ok (sv 4294967296 s xs) n (by omega) (by omega) (by rw [← e2]; exact e3)
  simp only [gI, ← e1, ← e2] at this
  exact ⟨_, this.plain rfl, by simpa using h⟩
 ·exact h.elim
attribute [go_sem] iTextCT
end Go.Proofs.YtgkajjifbcmoeaaGreatDoor

namespace Go.Proofs.YtgkajjifbcmoeaaGreatDoor
set_option linter.unusedSimpArgs false
set_option linter.unusedVariables false
open Go.Abs Go.Proofs.NatL

def Nrm (s : Bool) (xs : List Int) : Prop := InB 4294967296 xs ∧ Trd xs ∧ (xs = [] → s = false)
theorem Nrm_eq {s : Bool} {xs : List Int} (h : Nrm s xs) : s = decide (sv 4294967296 s xs < 0) ∧ xs = dg 4294967296 (sv 4294967296 s xs).natAbs := by
 obtain ⟨bx, ht, h0⟩ := h
 rw [sv_abs]
 have hd := dg_V 4294967296 (by omega) xs bx ht
 refine ⟨?_, hd.symm⟩
 cases s
 ·rw [decide_eq_false]; simp [sv]
 ·have hne : xs ≠ [] := fun e => by have := h0 e; cases this
  have : 0 < V 4294967296 xs := by
   rcases Nat.eq_zero_or_pos (V 4294967296 xs) with h | h
   ·rw [h, dg_zero] at hd; exact absurd hd.symm hne
   ·exact h
  rw [decide_eq_true]; simp [sv]; omega
theorem Nrm_g (z : Int) : Nrm (decide (z < 0)) (dg 4294967296 z.natAbs) = True := by
 refine eq_true ⟨InB_dg _ (by omega) _, dg_trd _ (by omega) _, fun h => ?_⟩
 have := dg_len_pos 4294967296 z.natAbs (by omega)
 rw [h] at this
 simp only [List.length_nil, Nat.lt_irrefl, false_iff] at this
 exact decide_eq_false (by omega)
theorem Nrm_0 : Nrm false [] = True := eq_true ⟨InB_nil _, .inl rfl, fun _ => rfl⟩
abbrev gR (z : Int) : List C := [.b (decide (z < 0)), .ints .i64 (dg 65536 z.natAbs)]
abbrev nR : Option C ⊕ List (Option C) := .inr [none, some (.ints .i64 [])]

def jt0 : Cfg := addT 33 atCT cf0
theorem jt0_ok : TblOk Tryz.prog jt0 := q_I cf0_ok Tryz.func33 fun l K h => by
 split at h
 ·exact ⟨_, (At_ret _ _).plain rfl, h⟩
 ·exact h.elim
set_option maxHeartbeats 800000 in
theorem intOk_ret (s : Bool) (xs : List Int) (hx : xs.length ≤ 140737488355328) : Ret Tryz.prog 104 false [.inr [.b s, .ints .u32 xs]] (.c (.b (okZ s xs))) := by
 (refine q_H Tryz.func104 (fun F => ?_); simp only [q_z,q_y,Tryz.ntmps104,Tryz.results104])
 repeat' (first|(with_reducible first|apply q_a|apply q_b|apply q_c|apply q_d|apply q_e|apply q_f|apply q_g|apply q_h|apply q_i|apply q_j|apply q_k|apply q_m|apply q_n|apply q_o|apply q_p|refine q_l ?_)|((with_reducible first|refine q_q cf0_ok fun K hK=>?_|refine q_r cf0_ok fun K hK=>?_);simp (maxSteps:=2000000) only [go_sem,↓reduceIte,reduceCtorEq,Nat.reduceLeDiff,Nat.reduceLT,Nat.reduceBEq,Nat.reduceAdd];(repeat1' with_reducible first|apply And.intro|intro _|(refine hK _ ?_;clear hK K))<;>(try (clear hK K;exact q_u)))|(with_reducible refine q_s ?_;(first|apply q_J|apply q_K|apply q_L|apply q_M|apply q_N|apply q_O)<;>try intro _)|with_reducible refine q_t ?_)
 all_goals refine q_A ?_
 all_goals simp only [resAV, q_y, AV.c.injEq, C.b.injEq]
 all_goals refine okZ_iff s xs _ ?_
 all_goals first | (simp_all; done) | (simp_all; omega)
def jt1 : Cfg := addT 104 ivalidCT cf0
theorem jt1_ok : TblOk Tryz.prog jt1 := q_I cf0_ok Tryz.func104 fun l K h => by
 split at h
 ·exact ⟨_, (intOk_ret _ _ h.1).plain rfl, h.2⟩
 ·exact h.elim


attribute [go_sem] Nrm_g Nrm_0 gR
def jb3 : Cfg := listT [(70, limbsCT), (179, sameCT)] [34]
theorem jb3_ok : TblOk Tryz.prog jb3 := listE_ok (by simp only [List.mem_singleton, forall_eq]; exact flt) ⟨⟨ch1, ch1_ok, rfl⟩, ⟨ch2, ch2_ok, rfl⟩, trivial⟩
attribute [go_sem] jb3
end Go.Proofs.YtgkajjifbcmoeaaGreatDoor

namespace Go.Proofs.NatL
set_option linter.unusedSimpArgs false
set_option linter.unusedVariables false

theorem B2_nil : B2 [] = 0 := rfl
theorem B2_cons (b : Bool) (l : List Bool) : B2 (b :: l) = 2 * B2 l + (if b then 1 else 0) := by
 have h := group_step (b :: l) 0 l.length (by simp)
 simpa using h
theorem set_zeros (k : Nat) (ls : List Bool) (hk : 0 < k) (b : Bool) : (List.replicate k false ++ ls).set (k - 1) b = List.replicate (k - 1) false ++ b :: ls := by
 obtain ⟨j, rfl⟩ : ∃ j, k = j + 1 := ⟨k - 1, by omega⟩
 rw [show j + 1 - 1 = j by omega, List.replicate_succ', List.append_assoc]
 rw [List.set_append_right _ _ (by simp)]
 simp
theorem drop_bit (l : List Bool) (k : Nat) (hk : 0 < k) (hl : k ≤ l.length) : B2 (l.drop (k - 1)) = 2 * B2 (l.drop k) + (if l.getD (k - 1) false then 1 else 0) := by
 rw [List.drop_eq_getElem_cons (i := k - 1) (by omega), B2_cons, show k - 1 + 1 = k by omega]
 simp [List.getD_eq_getElem?_getD, List.getElem?_eq_getElem (show k - 1 < l.length by omega)]
theorem drop_bs (m : Nat) : B2 ((bs m).drop 0) = m := by rw [List.drop_zero, B2_bs]
end Go.Proofs.NatL

namespace Go.Proofs.YtgkajjifbcmoeaaGreatDoor
set_option linter.unusedSimpArgs false
set_option linter.unusedVariables false
open Go.Abs Go.Proofs.NatL

def sameIntCT : CT := mkCT [nP, nR] true fun l K => match l with
 | [.inr [.b s, .ints .u32 xs], .inr [.b t, .ints .i64 ys]] => (Nrm s xs ∧ xs.length ≤ 16777216 ∧ InB 65536 ys ∧ Trd ys ∧ ys.length ≤ 4194304) ∧ K (.c (.b (decide (sv 4294967296 s xs = sv 65536 t ys))))
 | _ => False
set_option maxHeartbeats 800000 in
theorem noInt_ret (s : Bool) (xs : List Int) (hn : Nrm s xs) (hx : xs.length ≤ 140737488355328) :
  Ret Tryz.prog 27 false [.inr [.b s, .ints .u32 xs]] (.c (.b (decide (sv 4294967296 s xs = 0)))) := by
 obtain ⟨h1, h2⟩ := Nrm_eq hn
 have hl := dg_len_pos 4294967296 (sv 4294967296 s xs).natAbs (by omega)
 rw [← h2] at hl
 generalize sv 4294967296 s xs = z at *
 have key : decide (¬ s = true ∧ (xs.length : Int) = 0) = decide (z = 0) := by
  congr 1
  refine propext ⟨fun ⟨e1, e2⟩ => by omega, fun h => ?_⟩
  subst h
  exact ⟨by rw [h1]; simp, by omega⟩
 rw [← key]
 clear key h1 h2 hl
 cases s
 all_goals
  (refine q_H Tryz.func27 (fun F => ?_); simp only [q_z,q_y,Tryz.ntmps27,Tryz.results27])
  repeat' (first|(with_reducible first|apply q_a|apply q_b|apply q_c|apply q_d|apply q_e|apply q_f|apply q_g|apply q_h|apply q_i|apply q_j|apply q_k|apply q_m|apply q_n|apply q_o|apply q_p|refine q_l ?_)|((with_reducible first|refine q_q jb3_ok fun K hK=>?_|refine q_r jb3_ok fun K hK=>?_);simp (maxSteps:=2000000) only [go_sem,↓reduceIte,reduceCtorEq,Nat.reduceLeDiff,Nat.reduceLT,Nat.reduceBEq,Nat.reduceAdd];(repeat1' with_reducible first|apply And.intro|(intro _;try exact q_v)|(refine hK _ ?_;clear hK K))<;>(try (clear hK K;exact q_u)))|(with_reducible refine q_s ?_;(first|apply q_J|apply q_K|apply q_L|apply q_M|apply q_N|apply q_O)<;>try (intro _;try exact q_v))|with_reducible refine q_t ?_)
 all_goals (refine q_A ?_; simp [resAV, q_y])
def noIntCT : CT := mkCT [nP] true fun l K => match l with
 | [.inr [.b s, .ints .u32 xs]] => (Nrm s xs ∧ xs.length ≤ 140737488355328) ∧ K (.c (.b (decide (sv 4294967296 s xs = 0))))
 | _ => False
def jt6 : Cfg := addT 27 noIntCT cf0
theorem jt6_ok : TblOk Tryz.prog jt6 := q_I cf0_ok Tryz.func27 fun l K h => by
 split at h
 ·exact ⟨_, (noInt_ret _ _ h.1.1 h.1.2).plain rfl, h.2⟩
 ·exact h.elim
attribute [go_sem] sameIntCT noIntCT sv32 sv65 svz65

def numberCT : CT := mkCT [] false fun l K => match l with
 | [.inl (.i .i64 n)] => (-9223372036854775808 ≤ n ∧ n ≤ 9223372036854775807) ∧ K (.g (gR n))
 | _ => False
attribute [go_sem] numberCT

end Go.Proofs.YtgkajjifbcmoeaaGreatDoor

namespace Go.Proofs.YtgkajjifbcmoeaaGreatDoor
set_option linter.unusedSimpArgs false
set_option linter.unusedVariables false
open Go.Abs Go.Proofs.NatL


def jb6 : Cfg := listT [(180, onesCT), (137, binaryCT), (129, doubleCT), (128, rcmpCT), (68, (rnumCT (fun _ _ => True) (· * ·))), (181, (rnumCT (fun xs ys => V 65536 ys ≤ V 65536 xs) (· - ·)))] [34]
theorem jb6_ok : TblOk Tryz.prog jb6 := listE_ok (by simp only [List.mem_singleton, forall_eq]; exact flt) ⟨⟨nt8, nt8_ok, rfl⟩, ⟨nt9, nt9_ok, rfl⟩, ⟨rg2, rg2_ok, rfl⟩, ⟨db7, db7_ok, rfl⟩, ⟨db9, db9_ok, rfl⟩, ⟨db10, db10_ok, rfl⟩, trivial⟩
attribute [go_sem] jb6
set_option maxRecDepth 100000 in
set_option maxHeartbeats 3200000 in
theorem divide_ret' (m n : Nat) (hn : 0 < n) (lm : (dg 65536 m).length ≤ 65536) (ln : (dg 65536 n).length ≤ 65536) :
  Ret Tryz.prog 117 false [.inl (.ints .i64 (dg 65536 m)), .inl (.ints .i64 (dg 65536 n))] (.t [.inl (.ints .i64 (dg 65536 (m / n))), .inl (.ints .i64 (dg 65536 (m % n)))]) := by
 have hbl : bl m ≤ 1048576 := Nat.le_trans (bl_dg lm) (by omega)
 have hL : (bs m).length ≤ 1048576 := by rw [bs_bl]; exact hbl
 (refine q_H Tryz.func117 (fun F => ?_); simp only [q_z,q_y,Tryz.ntmps117,Tryz.results117])
 repeat' (first|(with_reducible first|apply q_a|apply q_b|apply q_c|apply q_d|apply q_e|apply q_f|apply q_g|apply q_h|apply q_i|apply q_j|apply q_k|apply q_m|apply q_n|apply q_o|apply q_p|refine q_l ?_)|((with_reducible first|refine q_q jb6_ok fun K hK=>?_|refine q_r jb6_ok fun K hK=>?_);simp (maxSteps:=2000000) only [go_sem,↓reduceIte,reduceCtorEq,Nat.reduceLeDiff,Nat.reduceLT,Nat.reduceBEq,Nat.reduceAdd];(repeat1' with_reducible first|apply And.intro|(intro _;try exact q_v)|(refine hK _ ?_;clear hK K))<;>(try (clear hK K;exact q_u)))|(with_reducible refine q_s ?_;(first|apply q_J|apply q_K|apply q_L|apply q_M|apply q_N|apply q_O)<;>try (intro _;try exact q_v))|with_reducible refine q_t ?_)
 all_goals try omega
 refine q_G (ι := { p : Nat × List Bool × Nat // p.1 ≤ (bs m).length ∧ p.2.1.length = (bs m).length - p.1 ∧ p.2.2 < n ∧ B2 p.2.1 * n + p.2.2 = B2 ((bs m).drop p.1) }) (fun p => ⟨41, [(1, .c (.ints .i64 (dg 65536 n))), (6, .c (.bools (bs m))), (7, .own 0 0), (8, .c (.ints .i64 (dg 65536 p.1.2.2))), (9, .c (.i .i64 ((p.1.1 : Int) - 1)))], ⟨[], [(0, ⟨0, 4, 1, .bools (List.replicate p.1.1 false ++ p.1.2.1)⟩)], []⟩, 1⟩) (fun p => p.1.1) ⟨((bs m).length, [], 0), by simp, by simp, hn, by simp [B2_nil]⟩ ?_ ?_
 ·((simp only [go_sem,↓reduceIte,reduceCtorEq,Nat.reduceLeDiff,Nat.reduceLT,Nat.reduceBEq,Nat.reduceAdd])<;>(try (simp;done))<;>(try ((simp only [C.i.injEq,C.b.injEq,C.ints.injEq,C.bools.injEq,List.append_cancel_left_eq,List.cons.injEq,true_and,and_true]);(repeat' with_reducible apply And.intro)<;>(first|rfl|assumption|omega|(simp;omega)|(congr 1;omega)|(congr 2;omega)))))
  all_goals (try simp [dg_zero])
 rintro ⟨⟨k, q, r⟩, g1, g2, g3, g4⟩
 simp only at g1 g2 g3 g4 ⊢
 have lr := dg_len_mono (B := 65536) (by omega) (Nat.le_of_lt g3)
 rcases Nat.eq_zero_or_pos k with hk | hk
 ·subst hk
  rw [drop_bs] at g4
  have e1 : B2 q = m / n := by
   rw [← g4, Nat.mul_comm, Nat.mul_add_div hn, Nat.div_eq_of_lt g3]; rfl
  have e2 : r = m % n := by
   rw [← g4, Nat.mul_comm, Nat.mul_add_mod, Nat.mod_eq_of_lt g3]
  have hq : (List.replicate 0 false ++ q).length ≤ 16777216 := by simp; omega
  repeat' (first|(with_reducible first|apply q_a|apply q_b|apply q_c|apply q_d|apply q_e|apply q_f|apply q_g|apply q_h|apply q_i|apply q_j|apply q_k|apply q_m|apply q_n|apply q_o|apply q_p|refine q_l ?_)|((with_reducible first|refine q_q jb6_ok fun K hK=>?_|refine q_r jb6_ok fun K hK=>?_);simp (maxSteps:=2000000) only [go_sem,↓reduceIte,reduceCtorEq,Nat.reduceLeDiff,Nat.reduceLT,Nat.reduceBEq,Nat.reduceAdd];(repeat1' with_reducible first|apply And.intro|(intro _;try exact q_v)|(refine hK _ ?_;clear hK K))<;>(try (clear hK K;exact q_u)))|(with_reducible refine q_s ?_;(first|apply q_J|apply q_K|apply q_L|apply q_M|apply q_N|apply q_O)<;>try (intro _;try exact q_v))|with_reducible refine q_t ?_)
  all_goals first | assumption | omega | skip
  exact q_A (by simp only [resAV, List.replicate_zero, List.nil_append, e1, e2])
 ·have hd := drop_bit (bs m) k hk g1
  have ek : ((k : Int) - 1).toNat = k - 1 := by omega
  have hq : (List.replicate k false ++ q).length = (bs m).length := by simp; omega
  have hs := set_zeros k q hk true
  have hx : ∀ b : Bool, (2 * r + b.toNat) < 2 * n := fun b => by cases b <;> simp <;> omega
  have lx : ∀ b : Bool, (dg 65536 (2 * r + b.toNat)).length ≤ 65537 := fun b => by
   refine Nat.le_trans (dg_len_mono (by omega) (Nat.le_of_lt (hx b))) ?_
   rw [Nat.two_mul]; exact add_len (by omega) ln ln
  obtain ⟨c, hc⟩ : ∃ c, (bs m).getD (k - 1) false = c := ⟨_, rfl⟩
  have hx := hx c
  have lx := lx c
  rw [hc] at hd
  have hcn : (if c = true then 1 else 0) = c.toNat := by cases c <;> rfl
  rw [hcn] at hd
  generalize hX : 2 * r + c.toNat = X at *
  by_cases hge : n ≤ X
  ·have h3 := (cmp3_ge X n).2 hge
   repeat' (first|(with_reducible first|apply q_a|apply q_b|apply q_c|apply q_d|apply q_e|apply q_f|apply q_g|apply q_h|apply q_i|apply q_j|apply q_k|apply q_m|apply q_n|apply q_o|apply q_p|refine q_l ?_)|((with_reducible first|refine q_q jb6_ok fun K hK=>?_|refine q_r jb6_ok fun K hK=>?_);simp (maxSteps:=2000000) only [go_sem,↓reduceIte,reduceCtorEq,Nat.reduceLeDiff,Nat.reduceLT,Nat.reduceBEq,Nat.reduceAdd,ek, hc, hX, hs, hq];(repeat1' with_reducible first|apply And.intro|(intro _;try exact q_v)|(refine hK _ ?_;clear hK K))<;>(try (clear hK K;exact q_u)))|(with_reducible refine q_s ?_;(first|apply q_J|apply q_K|apply q_L|apply q_M|apply q_N|apply q_O)<;>try (intro _;try exact q_v))|with_reducible refine q_t ?_)
   all_goals first | omega | skip
   refine q_F ⟨(k - 1, true :: q, X - n), by simp only; omega, by simp; omega, by simp only; omega, ?_⟩ ?_ (by simp only; omega)
   ·simp only
    rw [hd, ← g4, B2_cons, if_pos rfl, Nat.add_mul, Nat.mul_assoc]; omega
   ·exact q_D
  ·have h3 : ¬ 0 ≤ cmp3 X n := fun h => hge ((cmp3_ge X n).1 h)
   have hs0 : List.replicate (k - 1) false ++ false :: q = List.replicate k false ++ q := by
    obtain ⟨j, rfl⟩ : ∃ j, k = j + 1 := ⟨k - 1, by omega⟩
    rw [show j + 1 - 1 = j by omega, List.replicate_succ', List.append_assoc]; rfl
   repeat' (first|(with_reducible first|apply q_a|apply q_b|apply q_c|apply q_d|apply q_e|apply q_f|apply q_g|apply q_h|apply q_i|apply q_j|apply q_k|apply q_m|apply q_n|apply q_o|apply q_p|refine q_l ?_)|((with_reducible first|refine q_q jb6_ok fun K hK=>?_|refine q_r jb6_ok fun K hK=>?_);simp (maxSteps:=2000000) only [go_sem,↓reduceIte,reduceCtorEq,Nat.reduceLeDiff,Nat.reduceLT,Nat.reduceBEq,Nat.reduceAdd,ek, hc, hX, hq];(repeat1' with_reducible first|apply And.intro|(intro _;try exact q_v)|(refine hK _ ?_;clear hK K))<;>(try (clear hK K;exact q_u)))|(with_reducible refine q_s ?_;(first|apply q_J|apply q_K|apply q_L|apply q_M|apply q_N|apply q_O)<;>try (intro _;try exact q_v))|with_reducible refine q_t ?_)
   all_goals first | omega | skip
   refine q_F ⟨(k - 1, false :: q, X), by simp only; omega, by simp; omega, by simp only; omega, ?_⟩ ?_ (by simp only; omega)
   ·simp only
    rw [hd, ← g4, B2_cons, if_neg (by decide), Nat.add_zero, Nat.mul_assoc]; omega
   ·simp only [hs0]
    exact q_D

end Go.Proofs.YtgkajjifbcmoeaaGreatDoor

namespace Go.Proofs.NatL
set_option linter.unusedSimpArgs false
set_option linter.unusedVariables false
end Go.Proofs.NatL

namespace Go.Proofs.YtgkajjifbcmoeaaGreatDoor
set_option linter.unusedSimpArgs false
set_option linter.unusedVariables false
open Go.Proofs.NatL

structure BitOp (op : Nat → Nat → Nat) : Prop where
 lt : ∀ k x y, x < 2 ^ k → y < 2 ^ k → op x y < 2 ^ k
 split : ∀ k x y s t, x < 2 ^ k → y < 2 ^ k → op (x + 2 ^ k * s) (y + 2 ^ k * t) = op x y + 2 ^ k * op s t

theorem BitOp.zero {op : Nat → Nat → Nat} (h : BitOp op) : op 0 0 = 0 := by
 have := h.split 0 0 0 0 0 (by simp) (by simp)
 simp at this; omega

def lo (k : Nat) (a : Int) : Nat := (a % ((2 ^ k : Nat) : Int)).toNat
def FitK (k : Nat) (a : Int) : Prop := -((2 ^ k : Nat) : Int) ≤ a ∧ a < ((2 ^ k : Nat) : Int)
theorem FitK.mono {k m : Nat} {a : Int} (h : FitK k a) (hm : k ≤ m) : FitK m a := by
 have := Nat.pow_le_pow_right (n := 2) (by omega) hm
 unfold FitK at *; omega
end Go.Proofs.YtgkajjifbcmoeaaGreatDoor

namespace Go.Proofs.YtgkajjifbcmoeaaGreatDoor
set_option linter.unusedSimpArgs false
set_option linter.unusedVariables false
open Go.Proofs.NatL

def pm (a : Int) (e : Nat) (m : Int) : Int := (a ^ e) % m
end Go.Proofs.YtgkajjifbcmoeaaGreatDoor

namespace Go.Abs
set_option linter.unusedSimpArgs false
set_option linter.unusedVariables false
variable {P : Program}
end Go.Abs
namespace Go.Proofs.YtgkajjifbcmoeaaGreatDoor
set_option linter.unusedSimpArgs false
set_option linter.unusedVariables false
open Go.Proofs.NatL

def bits (n v : Nat) : List Bool := (List.range n).map fun i => v.testBit i
end Go.Proofs.YtgkajjifbcmoeaaGreatDoor

namespace Go.Proofs.YtgkajjifbcmoeaaGreatDoor
set_option linter.unusedSimpArgs false
set_option linter.unusedVariables false
open Go.Abs Go.Proofs.NatL

def ku1 : Cfg := it6
def ku2 : Cfg := ku1
attribute [go_sem] okZ_g

def kc : Cfg := listT [(79, iTextCT), (191, sameIntCT), (55, numberCT)] [34]
attribute [go_sem] kc



end Go.Proofs.YtgkajjifbcmoeaaGreatDoor

namespace Go.Proofs.NatL
set_option linter.unusedSimpArgs false
set_option linter.unusedVariables false
end Go.Proofs.NatL

namespace Go.Proofs.NatL
set_option linter.unusedSimpArgs false
set_option linter.unusedVariables false
def okQ (s : Bool) (xs : List Int) (t : Bool) (ys : List Int) : Bool := okZ s xs && okZ t ys && !t && decide (0 < ys.length) && decide (Nat.gcd (V 4294967296 xs) (V 4294967296 ys) = 1)
abbrev q0 : Bool × List Int × Bool × List Int := (false, [], false, [])
end Go.Proofs.NatL
namespace Go.Proofs.YtgkajjifbcmoeaaGreatDoor
set_option linter.unusedSimpArgs false
set_option linter.unusedVariables false
open Go.Abs Go.Proofs.NatL

abbrev nQ : Option C ⊕ List (Option C) := .inr [none, some (.ints .u32 []), none, some (.ints .u32 [])]
def qb1 : Cfg := listT [(143, ivalidCT), (84, gcGoodCT), (175, atCT)] [34]
attribute [go_sem] qb1
def validQCT : CT := mkCT [nQ] true fun l K => match l with
 | [.inr [.b s, .ints .u32 xs, .b t, .ints .u32 ys]] => (xs.length ≤ 140737488355328 ∧ ys.length ≤ 140737488355328 ∧ InB 4294967296 xs ∧ InB 4294967296 ys) ∧ K (.c (.b (okQ s xs t ys)))
 | _ => False
attribute [go_sem] validQCT
def qb2 : Cfg := listT [(96, validQCT), (90, atCT)] [34]
attribute [go_sem] qb2

end Go.Proofs.YtgkajjifbcmoeaaGreatDoor

namespace Go.Proofs.NatL
set_option linter.unusedSimpArgs false
set_option linter.unusedVariables false
def fQ (z : Int) (d : Nat) : Prop := (dg 4294967296 z.natAbs).length ≤ 128 ∧ (dg 4294967296 d).length ≤ 128
instance decFQ (z : Int) (d : Nat) : Decidable (fQ z d) := by unfold fQ; infer_instance
def plF (u : Bool) (a b : Int) : Int := if u = true then a - b else a + b
theorem plF_f (a b : Int) : plF false a b = a + b := rfl
theorem plF_t (a b : Int) : plF true a b = a - b := rfl
end Go.Proofs.NatL
namespace Go.Proofs.YtgkajjifbcmoeaaGreatDoor
set_option linter.unusedSimpArgs false
set_option linter.unusedVariables false
open Go.Abs Go.Proofs.NatL

abbrev nU : Option C ⊕ List (Option C) := .inl (some (.ints .u32 []))
def natCT (p : Nat → Nat → Prop) (f : Nat → Nat → AV) : CT := mkCT [nU, nU] false fun l K => match l with
 | [.inl (.ints .u32 xs), .inl (.ints .u32 ys)] => (InB 4294967296 xs ∧ Trd xs ∧ xs.length ≤ 300 ∧ InB 4294967296 ys ∧ Trd ys ∧ ys.length ≤ 300 ∧ p (V 4294967296 xs) (V 4294967296 ys)) ∧ K (f (V 4294967296 xs) (V 4294967296 ys))
 | _ => False
def oneN (k : Nat) : AV := .t [.inl (.ints .u32 (dg 4294967296 k)), .inr [.i .i64 0, .i .i64 0]]
def rAddN (m n : Nat) : AV := oneN (m + n)
def rSubN (m n : Nat) : AV := oneN (m - n)
def rMulN (m n : Nat) : AV := oneN (m * n)
def rGcdN (m n : Nat) : AV := oneN (Nat.gcd m n)
def rDivN (m n : Nat) : AV := .t [.inl (.ints .u32 (dg 4294967296 (m / n))), .inl (.ints .u32 (dg 4294967296 (m % n))), .inr [.i .i64 0, .i .i64 0]]
def rCmpN (m n : Nat) : AV := .t [.inl (.i .i64 (cmp3 m n)), .inr [.i .i64 0, .i .i64 0]]
def tr2 (_ _ : Nat) : Prop := True
def le2 (m n : Nat) : Prop := n ≤ m
def pos2 (_ n : Nat) : Prop := 0 < n
theorem le2_d (m n : Nat) : le2 m n = (n ≤ m) := rfl
theorem pos2_d (m n : Nat) : pos2 m n = (0 < n) := rfl
theorem tr2_d (m n : Nat) : tr2 m n = True := rfl
attribute [go_sem] natCT oneN rAddN rSubN rMulN rGcdN rDivN rCmpN le2_d pos2_d tr2_d
def qb3 : Cfg := listT [(90, atCT), (84, (natCT tr2 rGcdN)), (85, (natCT pos2 rDivN))] [34]
attribute [go_sem] qb3


attribute [go_sem] plF_f plF_t
end Go.Proofs.YtgkajjifbcmoeaaGreatDoor
