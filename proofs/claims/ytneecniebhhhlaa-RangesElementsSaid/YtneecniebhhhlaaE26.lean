import Derived.Test.YtneecniebhhhlaaE21
import Derived.Test.YtneecniebhhhlaaE25
namespace Go.Proofs.NatL
set_option linter.unusedSimpArgs false
set_option linter.unusedVariables false
def smallZ (a : Int) : Bool := decide (-9223372036854775808 ≤ a ∧ a ≤ 9223372036854775807)
def smV (a : Int) : Int := if smallZ a then a else 0
def smC (a : Int) : Int := if smallZ a then 0 else 14
def smI (a : Int) : Int := if smallZ a then 0 else -1
theorem sm_fit {a : Int} (h : -9223372036854775808 ≤ a ∧ a ≤ 9223372036854775807) : smV a = a ∧ smC a = 0 ∧ smI a = 0 := by simp [smV, smC, smI, smallZ, h]
theorem sm_big {a : Int} (h : ¬ (-9223372036854775808 ≤ a ∧ a ≤ 9223372036854775807)) : smV a = 0 ∧ smC a = 14 ∧ smI a = -1 := by
  have : smallZ a = false := decide_eq_false h
  simp [smV, smC, smI, this]
end Go.Proofs.NatL
namespace Go.Proofs.Ytneecniebhhhlaa
set_option linter.unusedSimpArgs false
set_option linter.unusedVariables false
open Go.Abs Go.Proofs.NatL
theorem sm_or (i u : Nat) (x : Int) (hi : i ≤ 1) (hu : u < 4294967296 ^ i) (h0 : 0 ≤ x) (h1 : x < 4294967296) : bitI .or .u64 (u : Int) (shlI .u64 x (32 * (i : Int))) = ((u + 4294967296 ^ i * x.toNat : Nat) : Int) := by
  rcases (show i = 0 ∨ i = 1 by omega) with rfl | rfl
  · have hu0 : u = 0 := by simpa using hu
    subst hu0
    have h2 := shl64 x 0 (by omega) h0 h1
    rw [Int.pow_zero, Int.mul_one] at h2
    rw [show (32 * ((0 : Nat) : Int)) = ((0 : Nat) : Int) by omega, h2, or64 _ _ (by omega) (by omega) (by omega) (by omega)]
    first | (simp; done) | (simp; omega)
  · have hu1 : u < 4294967296 := by simpa using hu
    rw [show (32 * ((1 : Nat) : Int)) = 32 by omega, shl64_32 x h0 h1, or64_hi' _ _ h0 h1 (by omega) (by omega)]
    first | (simp; done) | (simp; omega)

set_option maxHeartbeats 3200000 in
theorem iSmall_false (m : Nat) (hs : false = true → 0 < m) (lm : (dg 4294967296 m).length ≤ 128) (ho : okZ false (dg 4294967296 m) = true) :
    Ret Try.prog 54 false [.inr [.b false, .ints .u32 (dg 4294967296 m)]] (.t [.inl (.i .i64 (smV (sg false m))), .inr [.i .i64 (smC (sg false m)), .i .i64 (smI (sg false m))]]) := by
  have hb := I32 m
  have hv : V 4294967296 (dg 4294967296 m) = m := V_dg 4294967296 (by omega) m
  have hlong : 2 < (dg 4294967296 m).length → ¬ (-9223372036854775808 ≤ sg false m ∧ sg false m ≤ 9223372036854775807) := fun h hh => by
    have h2 : ¬ m < 4294967296 ^ 2 := fun h3 => by have := dg_len_le (B := 4294967296) (by omega) m 2 h3; omega
    simp only [sgt, sgf] at hh; omega
  generalize dg 4294967296 m = xs at *
  simp only [sgt, sgf, forall_const, reduceCtorEq, false_implies] at hlong hs ⊢
  (refine q_H Try.func54 (fun F => ?_); simp only [q_z,q_y,Try.ntmps54,Try.results54])
  repeat' (first|(with_reducible first|apply q_a|apply q_b|apply q_c|apply q_d|apply q_e|apply q_f|apply q_g|apply q_h|apply q_i|apply q_j|apply q_k|apply q_m|apply q_n|apply q_o|apply q_p|refine q_l ?_)|((with_reducible first|refine q_q ib_ok fun K hK=>?_|refine q_r ib_ok fun K hK=>?_);simp (maxSteps:=2000000) only [go_sem,↓reduceIte,reduceCtorEq,Nat.reduceLeDiff,Nat.reduceLT,Nat.reduceBEq,Nat.reduceAdd,ho];(repeat1' with_reducible first|apply And.intro|(intro _;try exact q_v)|(refine hK _ ?_;clear hK K))<;>(try (clear hK K;exact q_u)))|(with_reducible refine q_s ?_;(first|apply q_J|apply q_K|apply q_L|apply q_M|apply q_N|apply q_O)<;>try (intro _;try exact q_v))|with_reducible refine q_t ?_)
  refine q_G (ι := { p : Nat × Nat // p.1 ≤ xs.length ∧ p.1 ≤ 2 ∧ p.2 = V 4294967296 (xs.take p.1) }) (fun p => ⟨49, [(1, .bx 0 0), (3, .bx 1 0), (5, .c (.i .u64 (p.1.2 : Nat))), (17, .c (.ints .u32 xs)), (18, .c (.i .i64 xs.length)), (19, .c (.i .i64 (p.1.1 : Nat)))], ⟨[(1, [.c (.i .i64 0), .c (.i .i64 0)]), (0, [.c (.b false), .c (.ints .u32 xs)])], [], []⟩, 3⟩) (fun p => xs.length - p.1.1) ⟨(0, 0), by simp, by simp, by simp [V]⟩ ?_ ?_
  · exact q_D
  rintro ⟨⟨i, u⟩, g1, g2, g3⟩
  simp only at g1 g2 g3 ⊢
  have hx := InB_getD (B := 4294967296) (by omega) (of_eq_true hb) i
  have hu : u < 4294967296 ^ i := by
    rw [g3]
    refine Nat.lt_of_lt_of_le (V_lt _ (by omega) _ (InB_take (of_eq_true hb) i)) (Nat.pow_le_pow_right (by omega) (by simp; omega))
  have hu2 : u < 18446744073709551616 := Nat.lt_of_lt_of_le hu (Nat.le_trans (Nat.pow_le_pow_right (by omega) g2) (by decide))
  rcases Nat.lt_or_ge i xs.length with hi | hi
  · have hor := fun h => sm_or i u _ h hu hx.1 hx.2
    have hnx := V_take_succ 4294967296 xs i hi
    repeat' (first|(with_reducible first|apply q_a|apply q_b|apply q_c|apply q_d|apply q_e|apply q_f|apply q_g|apply q_h|apply q_i|apply q_j|apply q_k|apply q_m|apply q_n|apply q_o|apply q_p|refine q_l ?_)|((with_reducible first|refine q_q ib_ok fun K hK=>?_|refine q_r ib_ok fun K hK=>?_);simp (maxSteps:=2000000) only [go_sem,↓reduceIte,reduceCtorEq,Nat.reduceLeDiff,Nat.reduceLT,Nat.reduceBEq,Nat.reduceAdd];(repeat1' with_reducible first|apply And.intro|(intro _;try exact q_v)|(refine hK _ ?_;clear hK K))<;>(try (clear hK K;exact q_u)))|(with_reducible refine q_s ?_;(first|apply q_J|apply q_K|apply q_L|apply q_M|apply q_N|apply q_O)<;>try (intro _;try exact q_v))|with_reducible refine q_t ?_)
    · obtain ⟨e1, e2, e3⟩ := sm_big (hlong (by omega))
      exact q_A (by simp only [resAV, e1, e2, e3])
    · have hw : xs.getD i 0 % 18446744073709551616 = xs.getD i 0 := Int.emod_eq_of_lt hx.1 (by omega)
      have hor := hor (by omega)
      simp only [hw, hor]
      refine q_F ⟨(i + 1, u + 4294967296 ^ i * (xs.getD i 0).toNat), hi, by simp only; omega, by simp only; rw [hnx, g3]⟩ ?_ (by simp only; omega)
      exact q_D
  · have hi' : xs.take i = xs := List.take_of_length_le hi
    rw [hi', hv] at g3
    subst g3
    repeat' (first|(with_reducible first|apply q_a|apply q_b|apply q_c|apply q_d|apply q_e|apply q_f|apply q_g|apply q_h|apply q_i|apply q_j|apply q_k|apply q_m|apply q_n|apply q_o|apply q_p|refine q_l ?_)|((with_reducible first|refine q_q ib_ok fun K hK=>?_|refine q_r ib_ok fun K hK=>?_);simp (maxSteps:=2000000) only [go_sem,↓reduceIte,reduceCtorEq,Nat.reduceLeDiff,Nat.reduceLT,Nat.reduceBEq,Nat.reduceAdd];(repeat1' with_reducible first|apply And.intro|(intro _;try exact q_v)|(refine hK _ ?_;clear hK K))<;>(try (clear hK K;exact q_u)))|(with_reducible refine q_s ?_;(first|apply q_J|apply q_K|apply q_L|apply q_M|apply q_N|apply q_O)<;>try (intro _;try exact q_v))|with_reducible refine q_t ?_)
    all_goals
      rename_i q
      simp only [Bool.bne_true, Bool.bne_false, Bool.not_eq_true', Bool.not_eq_false', decide_eq_true_eq, decide_eq_false_iff_not] at q
      by_cases hr : -9223372036854775808 ≤ sg false u ∧ sg false u ≤ 9223372036854775807
      · obtain ⟨e1, e2, e3⟩ := sm_fit hr
        simp only [sgt, sgf] at hr e1 e2 e3
        first | (exfalso; omega) | (refine q_A ?_; simp only [resAV, e1, e2, e3, AV.t.injEq, List.cons.injEq, Sum.inl.injEq, C.i.injEq, true_and, and_true]; omega) | exact q_A (by simp only [resAV, e1, e2, e3])
      · obtain ⟨e1, e2, e3⟩ := sm_big hr
        simp only [sgt, sgf] at hr e1 e2 e3
        first | (exfalso; omega) | exact q_A (by simp only [resAV, e1, e2, e3])
set_option maxHeartbeats 3200000 in
theorem iSmall_true (m : Nat) (hs : true = true → 0 < m) (lm : (dg 4294967296 m).length ≤ 128) (ho : okZ true (dg 4294967296 m) = true) :
    Ret Try.prog 54 false [.inr [.b true, .ints .u32 (dg 4294967296 m)]] (.t [.inl (.i .i64 (smV (sg true m))), .inr [.i .i64 (smC (sg true m)), .i .i64 (smI (sg true m))]]) := by
  have hb := I32 m
  have hv : V 4294967296 (dg 4294967296 m) = m := V_dg 4294967296 (by omega) m
  have hlong : 2 < (dg 4294967296 m).length → ¬ (-9223372036854775808 ≤ sg true m ∧ sg true m ≤ 9223372036854775807) := fun h hh => by
    have h2 : ¬ m < 4294967296 ^ 2 := fun h3 => by have := dg_len_le (B := 4294967296) (by omega) m 2 h3; omega
    simp only [sgt, sgf] at hh; omega
  generalize dg 4294967296 m = xs at *
  simp only [sgt, sgf, forall_const, reduceCtorEq, false_implies] at hlong hs ⊢
  (refine q_H Try.func54 (fun F => ?_); simp only [q_z,q_y,Try.ntmps54,Try.results54])
  repeat' (first|(with_reducible first|apply q_a|apply q_b|apply q_c|apply q_d|apply q_e|apply q_f|apply q_g|apply q_h|apply q_i|apply q_j|apply q_k|apply q_m|apply q_n|apply q_o|apply q_p|refine q_l ?_)|((with_reducible first|refine q_q ib_ok fun K hK=>?_|refine q_r ib_ok fun K hK=>?_);simp (maxSteps:=2000000) only [go_sem,↓reduceIte,reduceCtorEq,Nat.reduceLeDiff,Nat.reduceLT,Nat.reduceBEq,Nat.reduceAdd,ho];(repeat1' with_reducible first|apply And.intro|(intro _;try exact q_v)|(refine hK _ ?_;clear hK K))<;>(try (clear hK K;exact q_u)))|(with_reducible refine q_s ?_;(first|apply q_J|apply q_K|apply q_L|apply q_M|apply q_N|apply q_O)<;>try (intro _;try exact q_v))|with_reducible refine q_t ?_)
  refine q_G (ι := { p : Nat × Nat // p.1 ≤ xs.length ∧ p.1 ≤ 2 ∧ p.2 = V 4294967296 (xs.take p.1) }) (fun p => ⟨49, [(1, .bx 0 0), (3, .bx 1 0), (5, .c (.i .u64 (p.1.2 : Nat))), (17, .c (.ints .u32 xs)), (18, .c (.i .i64 xs.length)), (19, .c (.i .i64 (p.1.1 : Nat)))], ⟨[(1, [.c (.i .i64 0), .c (.i .i64 0)]), (0, [.c (.b true), .c (.ints .u32 xs)])], [], []⟩, 3⟩) (fun p => xs.length - p.1.1) ⟨(0, 0), by simp, by simp, by simp [V]⟩ ?_ ?_
  · exact q_D
  rintro ⟨⟨i, u⟩, g1, g2, g3⟩
  simp only at g1 g2 g3 ⊢
  have hx := InB_getD (B := 4294967296) (by omega) (of_eq_true hb) i
  have hu : u < 4294967296 ^ i := by
    rw [g3]
    refine Nat.lt_of_lt_of_le (V_lt _ (by omega) _ (InB_take (of_eq_true hb) i)) (Nat.pow_le_pow_right (by omega) (by simp; omega))
  have hu2 : u < 18446744073709551616 := Nat.lt_of_lt_of_le hu (Nat.le_trans (Nat.pow_le_pow_right (by omega) g2) (by decide))
  rcases Nat.lt_or_ge i xs.length with hi | hi
  · have hor := fun h => sm_or i u _ h hu hx.1 hx.2
    have hnx := V_take_succ 4294967296 xs i hi
    repeat' (first|(with_reducible first|apply q_a|apply q_b|apply q_c|apply q_d|apply q_e|apply q_f|apply q_g|apply q_h|apply q_i|apply q_j|apply q_k|apply q_m|apply q_n|apply q_o|apply q_p|refine q_l ?_)|((with_reducible first|refine q_q ib_ok fun K hK=>?_|refine q_r ib_ok fun K hK=>?_);simp (maxSteps:=2000000) only [go_sem,↓reduceIte,reduceCtorEq,Nat.reduceLeDiff,Nat.reduceLT,Nat.reduceBEq,Nat.reduceAdd];(repeat1' with_reducible first|apply And.intro|(intro _;try exact q_v)|(refine hK _ ?_;clear hK K))<;>(try (clear hK K;exact q_u)))|(with_reducible refine q_s ?_;(first|apply q_J|apply q_K|apply q_L|apply q_M|apply q_N|apply q_O)<;>try (intro _;try exact q_v))|with_reducible refine q_t ?_)
    · obtain ⟨e1, e2, e3⟩ := sm_big (hlong (by omega))
      exact q_A (by simp only [resAV, e1, e2, e3])
    · have hw : xs.getD i 0 % 18446744073709551616 = xs.getD i 0 := Int.emod_eq_of_lt hx.1 (by omega)
      have hor := hor (by omega)
      simp only [hw, hor]
      refine q_F ⟨(i + 1, u + 4294967296 ^ i * (xs.getD i 0).toNat), hi, by simp only; omega, by simp only; rw [hnx, g3]⟩ ?_ (by simp only; omega)
      exact q_D
  · have hi' : xs.take i = xs := List.take_of_length_le hi
    rw [hi', hv] at g3
    subst g3
    repeat' (first|(with_reducible first|apply q_a|apply q_b|apply q_c|apply q_d|apply q_e|apply q_f|apply q_g|apply q_h|apply q_i|apply q_j|apply q_k|apply q_m|apply q_n|apply q_o|apply q_p|refine q_l ?_)|((with_reducible first|refine q_q ib_ok fun K hK=>?_|refine q_r ib_ok fun K hK=>?_);simp (maxSteps:=2000000) only [go_sem,↓reduceIte,reduceCtorEq,Nat.reduceLeDiff,Nat.reduceLT,Nat.reduceBEq,Nat.reduceAdd];(repeat1' with_reducible first|apply And.intro|(intro _;try exact q_v)|(refine hK _ ?_;clear hK K))<;>(try (clear hK K;exact q_u)))|(with_reducible refine q_s ?_;(first|apply q_J|apply q_K|apply q_L|apply q_M|apply q_N|apply q_O)<;>try (intro _;try exact q_v))|with_reducible refine q_t ?_)
    all_goals
      rename_i q
      simp only [Bool.bne_true, Bool.bne_false, Bool.not_eq_true', Bool.not_eq_false', decide_eq_true_eq, decide_eq_false_iff_not] at q
      by_cases hr : -9223372036854775808 ≤ sg true u ∧ sg true u ≤ 9223372036854775807
      · obtain ⟨e1, e2, e3⟩ := sm_fit hr
        simp only [sgt, sgf] at hr e1 e2 e3
        first | (exfalso; omega) | (refine q_A ?_; simp only [resAV, e1, e2, e3, AV.t.injEq, List.cons.injEq, Sum.inl.injEq, C.i.injEq, true_and, and_true]; omega) | exact q_A (by simp only [resAV, e1, e2, e3])
      · obtain ⟨e1, e2, e3⟩ := sm_big hr
        simp only [sgt, sgf] at hr e1 e2 e3
        first | (exfalso; omega) | exact q_A (by simp only [resAV, e1, e2, e3])
def ismallCT : CT := mkCT [nP] true fun l K => match l with
  | [.inr [.b s, .ints .u32 xs]] => (okZ s xs = true ∧ InB 4294967296 xs) ∧ K (.t [.inl (.i .i64 (smV (sv 4294967296 s xs))), .inr [.i .i64 (smC (sv 4294967296 s xs)), .i .i64 (smI (sv 4294967296 s xs))]])
  | _ => False
attribute [go_sem] ismallCT

end Go.Proofs.Ytneecniebhhhlaa

namespace Go.Proofs.NatL
set_option linter.unusedSimpArgs false
set_option linter.unusedVariables false
def bnd (z lo hi : Int) : Int := min (max z lo) hi
def enda (z n lo hi : Int) : Int := bnd (if bnd z (-n - 1) n < 0 then bnd z (-n - 1) n + n else bnd z (-n - 1) n) lo hi
end Go.Proofs.NatL

namespace Go.Proofs.Ytneecniebhhhlaa
set_option linter.unusedSimpArgs false
set_option linter.unusedVariables false
open Go.Abs Go.Proofs.NatL

theorem iSmall_y (a : Int) (la : (dg 4294967296 a.natAbs).length ≤ 128) : Ret Try.prog 54 false [.inr (gI a)] (.t [.inl (.i .i64 (smV a)), .inr [.i .i64 (smC a), .i .i64 (smI a)]]) := by
  have oa := (okZ_g a).trans (decide_eq_true la)
  have e := sg_self a
  by_cases h : a < 0
  · have h1 : decide (a < 0) = true := decide_eq_true h
    rw [h1] at e oa
    have := iSmall_true a.natAbs (fun _ => by omega) la oa
    rw [e] at this
    simpa only [gI, h1] using this
  · have h1 : decide (a < 0) = false := decide_eq_false h
    rw [h1] at e oa
    have := iSmall_false a.natAbs (fun h => by cases h) la oa
    rw [e] at this
    simpa only [gI, h1] using this
def ismCT : CT := mkCT [nP] true fun l K => match l with
  | [.inr [.b s, .ints .u32 xs]] => (okZ s xs = true ∧ InB 4294967296 xs) ∧ K (.t [.inl (.i .i64 (smV (sv 4294967296 s xs))), .inr [.i .i64 (smC (sv 4294967296 s xs)), .i .i64 (smI (sv 4294967296 s xs))]])
  | _ => False
theorem gI_of {s : Bool} {xs : List Int} (h1 : okZ s xs = true) (h2 : InB 4294967296 xs) : [.b s, .ints .u32 xs] = gI (sv 4294967296 s xs) ∧ (dg 4294967296 (sv 4294967296 s xs).natAbs).length ≤ 128 := by
  obtain ⟨a1, a2, a3⟩ := okZ_eq h1 h2
  exact ⟨by rw [gI, ← a1, ← a2], by rw [← a2]; exact a3⟩
def su1 : Cfg := addT 54 ismCT iu3
theorem su1_ok : TblOk Try.prog su1 := q_I iu3_ok Try.func54 fun l K h => by
  split at h
  · rename_i s xs
    obtain ⟨e, la⟩ := gI_of h.1.1 h.1.2
    have := iSmall_y _ la
    rw [← e] at this
    exact ⟨_, this.plain rfl, h.2⟩
  · exact h.elim
attribute [go_sem] ismCT sv32d okZ_g
def sb1 : Cfg := listT [(54, ismCT), (52, ivalidCT), (94, atCT)] [28]
attribute [go_sem] sb1

def boundedCT : CT := mkCT [nP] true fun l K => match l with
  | [.inr [.b s, .ints .u32 xs], .inl (.i .i64 lo), .inl (.i .i64 hi)] => ((okZ s xs = true ∧ InB 4294967296 xs) ∧ -9223372036854775808 ≤ lo ∧ lo ≤ hi ∧ hi ≤ 9223372036854775807) ∧ K (.c (.i .i64 (bnd (sv 4294967296 s xs) lo hi)))
  | _ => False
attribute [go_sem] boundedCT
def prt (s : Bool) (xs : List Int) (g : Bool) : Bool := okZ s xs && (g || decide (xs.length = 0))
def partCT : CT := mkCT [nP] true fun l K => match l with
  | [.inr [.b s, .ints .u32 xs], .inl (.b g)] => xs.length ≤ 140737488355328 ∧ K (.c (.b (prt s xs g)))
  | _ => False
attribute [go_sem] partCT
def sb2 : Cfg := listT [(95, boundedCT), (97, partCT), (94, atCT)] [28]
attribute [go_sem] sb2
def slF (p0 p1 p2 g2 : Bool) (n : Nat) : Int := if p0 = true ∧ p1 = true ∧ p2 = true then (if g2 = true ∧ n = 0 then 22 else 0) else 6
def slI (p0 p1 p2 g2 : Bool) (n : Nat) : Int := if slF p0 p1 p2 g2 n = 0 then 0 else -1
def chkCT : CT := mkCT [.inr [none, some (.ints .u32 []), none, some (.ints .u32 []), none, some (.ints .u32 []), none, none, none]] true fun l K => match l with
  | [.inr [.b s0, .ints .u32 x0, .b s1, .ints .u32 x1, .b s2, .ints .u32 x2, .b g0, .b g1, .b g2]] => (x0.length ≤ 140737488355328 ∧ x1.length ≤ 140737488355328 ∧ x2.length ≤ 140737488355328) ∧
      K (.g [.i .i64 (slF (prt s0 x0 g0) (prt s1 x1 g1) (prt s2 x2 g2) g2 x2.length), .i .i64 (slI (prt s0 x0 g0) (prt s1 x1 g1) (prt s2 x2 g2) g2 x2.length)])
  | _ => False
attribute [go_sem] chkCT
def sb3 : Cfg := listT [(95, boundedCT), (52, ivalidCT), (94, atCT)] [28]
attribute [go_sem] sb3
def ixZ (a n : Int) : Int := if a < 0 then a + n else a
def indexSCT : CT := mkCT [nP] true fun l K => match l with
  | [.inr [.b s, .ints .u32 xs], .inl (.i .i64 n)] => (xs.length ≤ 140737488355328 ∧ InB 4294967296 xs) ∧ (okZ s xs = false → K (.t [.inl (.i .i64 0), .inr [.i .i64 6, .i .i64 (-1)]])) ∧
      (okZ s xs = true → ((n < 0 ∨ 4000 < n) → K (.t [.inl (.i .i64 0), .inr [.i .i64 4, .i .i64 (-2)]])) ∧
        (0 ≤ n ∧ n ≤ 4000 → (¬ (0 ≤ ixZ (sv 4294967296 s xs) n ∧ ixZ (sv 4294967296 s xs) n < n) → K (.t [.inl (.i .i64 0), .inr [.i .i64 4, .i .i64 (-1)]])) ∧
          (0 ≤ ixZ (sv 4294967296 s xs) n ∧ ixZ (sv 4294967296 s xs) n < n → K (.t [.inl (.i .i64 (ixZ (sv 4294967296 s xs) n)), .inr [.i .i64 0, .i .i64 0]]))))
  | _ => False
attribute [go_sem] indexSCT
def endCT : CT := mkCT [nP] true fun l K => match l with
  | [.inr [.b s, .ints .u32 xs], .inl (.i .i64 n), .inl (.i .i64 lo), .inl (.i .i64 hi)] => ((okZ s xs = true ∧ InB 4294967296 xs) ∧ (0 ≤ n ∧ n ≤ 4000) ∧ -1 ≤ lo ∧ lo ≤ hi ∧ hi ≤ n) ∧ K (.c (.i .i64 (enda (sv 4294967296 s xs) n lo hi)))
  | _ => False
attribute [go_sem] endCT
end Go.Proofs.Ytneecniebhhhlaa

namespace Go.Proofs.Ytneecniebhhhlaa
set_option linter.unusedSimpArgs false
set_option linter.unusedVariables false
open Go.Abs Go.Proofs.NatL

def rb6 : Cfg := listT [(91, validRCT), (152, atCT)] [28]
theorem rb6_ok : TblOk Try.prog rb6 := listT_ok (big := rc7) rc7_ok ⟨rfl, rfl, trivial⟩
attribute [go_sem] rb6
set_option maxRecDepth 100000 in
set_option maxHeartbeats 3200000 in
theorem check1_ret (s t d : Bool) (xs ys zs : List Int) (h1 : xs.length ≤ 140737488355328) (h2 : ys.length ≤ 140737488355328) (h3 : zs.length ≤ 140737488355328) :
    Ret Try.prog 138 false [.inl (.sl 6 [[.b s, .ints .u32 xs, .b t, .ints .u32 ys, .b d, .ints .u32 zs]])] (.g [.i .i64 (if vR s t d xs ys zs = true then 0 else 6), .i .i64 (if vR s t d xs ys zs = true then 0 else -1)]) := by
  cases hv : vR s t d xs ys zs
  all_goals
    (refine q_H Try.func138 (fun F => ?_); simp only [q_z,q_y,Try.ntmps138,Try.results138])
    repeat' (first|(with_reducible first|apply q_a|apply q_b|apply q_c|apply q_d|apply q_e|apply q_f|apply q_g|apply q_h|apply q_i|apply q_j|apply q_k|apply q_m|apply q_n|apply q_o|apply q_p|refine q_l ?_)|((with_reducible first|refine q_q rb6_ok fun K hK=>?_|refine q_r rb6_ok fun K hK=>?_);simp (maxSteps:=2000000) only [go_sem,↓reduceIte,reduceCtorEq,Nat.reduceLeDiff,Nat.reduceLT,Nat.reduceBEq,Nat.reduceAdd];(repeat1' with_reducible first|apply And.intro|(intro _;try exact q_v)|(refine hK _ ?_;clear hK K))<;>(try (clear hK K;exact q_u)))|(with_reducible refine q_s ?_;(first|apply q_J|apply q_K|apply q_L|apply q_M|apply q_N|apply q_O)<;>try (intro _;try exact q_v))|with_reducible refine q_t ?_)
    refine q_G (ι := { i : Nat // i ≤ 1 ∧ (i = 1 → vR s t d xs ys zs = true) }) (fun i => ⟨20, [(2, .bx 0 0), (5, .c (.sl 6 [[.b s, .ints .u32 xs, .b t, .ints .u32 ys, .b d, .ints .u32 zs]])), (6, .c (.i .i64 1)), (7, .c (.i .i64 (i.1 : Nat)))], ⟨[(0, [.c (.i .i64 0), .c (.i .i64 0)])], [], []⟩, 1⟩) (fun i => 1 - i.1) ⟨0, by omega, fun h => by omega⟩ ?_ ?_
    · exact q_D
    rintro ⟨i, i1, i2⟩
    simp only at i1 i2 ⊢
    rcases (show i = 0 ∨ i = 1 by omega) with rfl | rfl
    · repeat' (first|(with_reducible first|apply q_a|apply q_b|apply q_c|apply q_d|apply q_e|apply q_f|apply q_g|apply q_h|apply q_i|apply q_j|apply q_k|apply q_m|apply q_n|apply q_o|apply q_p|refine q_l ?_)|((with_reducible first|refine q_q rb6_ok fun K hK=>?_|refine q_r rb6_ok fun K hK=>?_);simp (maxSteps:=2000000) only [go_sem,↓reduceIte,reduceCtorEq,Nat.reduceLeDiff,Nat.reduceLT,Nat.reduceBEq,Nat.reduceAdd,hv, List.getD_cons_zero, Int.toNat_natCast];(repeat1' with_reducible first|apply And.intro|(intro _;try exact q_v)|(refine hK _ ?_;clear hK K))<;>(try (clear hK K;exact q_u)))|(with_reducible refine q_s ?_;(first|apply q_J|apply q_K|apply q_L|apply q_M|apply q_N|apply q_O)<;>try (intro _;try exact q_v))|with_reducible refine q_t ?_)
      all_goals first
        | omega
        | exact q_A rfl
        | (refine q_F ⟨1, by omega, fun _ => hv⟩ ?_ (by simp only; omega)
           exact q_D)
    · repeat' (first|(with_reducible first|apply q_a|apply q_b|apply q_c|apply q_d|apply q_e|apply q_f|apply q_g|apply q_h|apply q_i|apply q_j|apply q_k|apply q_m|apply q_n|apply q_o|apply q_p|refine q_l ?_)|((with_reducible first|refine q_q rb6_ok fun K hK=>?_|refine q_r rb6_ok fun K hK=>?_);simp (maxSteps:=2000000) only [go_sem,↓reduceIte,reduceCtorEq,Nat.reduceLeDiff,Nat.reduceLT,Nat.reduceBEq,Nat.reduceAdd];(repeat1' with_reducible first|apply And.intro|(intro _;try exact q_v)|(refine hK _ ?_;clear hK K))<;>(try (clear hK K;exact q_u)))|(with_reducible refine q_s ?_;(first|apply q_J|apply q_K|apply q_L|apply q_M|apply q_N|apply q_O)<;>try (intro _;try exact q_v))|with_reducible refine q_t ?_)
      all_goals first | omega | (rw [hv] at i2; exact absurd (i2 rfl) (by decide)) | exact q_A rfl
def check1CT : CT := mkCT [] true fun l K => match l with
  | [.inl (.sl 6 [[.b s, .ints .u32 xs, .b t, .ints .u32 ys, .b d, .ints .u32 zs]])] => (xs.length ≤ 140737488355328 ∧ ys.length ≤ 140737488355328 ∧ zs.length ≤ 140737488355328) ∧ (vR s t d xs ys zs = true → K (.g [.i .i64 0, .i .i64 0])) ∧ (vR s t d xs ys zs = false → K (.g [.i .i64 6, .i .i64 (-1)]))
  | _ => False
def rd1 : Cfg := addT 138 check1CT rc7
theorem rd1_ok : TblOk Try.prog rd1 := q_I rc7_ok Try.func138 fun l K h => by
  split at h
  · rename_i s xs t ys d zs
    have := check1_ret s t d xs ys zs h.1.1 h.1.2.1 h.1.2.2
    cases hv : vR s t d xs ys zs
    · rw [hv] at this
      exact ⟨_, this.plain rfl, h.2.2 hv⟩
    · rw [hv] at this
      exact ⟨_, this.plain rfl, h.2.1 hv⟩
  · exact h.elim
attribute [go_sem] check1CT
def rb7 : Cfg := listT [(138, check1CT), (140, (rgCT RB (fun S T D => oneI (rLen S T D)))), (155, (rgICT pElem (fun S _ D u => oneI (S + D * u)))), (91, validRCT), (152, atCT), (153, fitsRCT), (139, zeroRCT), (145, (rg2CT (fun a b => FB (a + b)) add_R)), (146, (rg2CT (fun a b => FB (a - b)) sub_R)), (143, (rg2CT (fun _ _ => True) lessR)), (144, (rg2CT (fun _ b => b ≠ 0) dmR)), (52, ivalidCT), (28, iOfCT)] [28]
theorem rb7_ok : TblOk Try.prog rb7 := listE_ok (by simp only [List.mem_singleton, forall_eq]; exact flt) ⟨⟨rd1, rd1_ok, rfl⟩, ⟨rc7, rc7_ok, rfl⟩, ⟨rc7, rc7_ok, rfl⟩, ⟨rc7, rc7_ok, rfl⟩, ⟨rc7, rc7_ok, rfl⟩, ⟨rc7, rc7_ok, rfl⟩, ⟨rc7, rc7_ok, rfl⟩, ⟨rc7, rc7_ok, rfl⟩, ⟨rc7, rc7_ok, rfl⟩, ⟨rc7, rc7_ok, rfl⟩, ⟨rc7, rc7_ok, rfl⟩, ⟨rc7, rc7_ok, rfl⟩, ⟨iu1, iu1_ok, rfl⟩, trivial⟩
attribute [go_sem] rb7
theorem lb_of {z : Int} (h : FB z) : (dg 4294967296 z.natAbs).length ≤ 140737488355328 := Nat.le_trans (FB_len h) (by omega)
theorem rv_fb {S T D : Int} (h : RV S T D) : FB S ∧ FB T ∧ FB D := by
  obtain ⟨h0, h1, h2, h3⟩ := h
  have := W80_ge
  exact ⟨FB_w (by omega), FB_w (by omega), FB_w (by omega)⟩
theorem elem_fb {S T D k : Int} (h : RV S T D) (h0 : 0 ≤ k) (h1 : k < rLen S T D) : FB k ∧ FB (D * k) ∧ FB (S + D * k) := by
  have he := elem_in (S := S) (T := T) h.1 h0 h1
  obtain ⟨_, h2, h3, h4⟩ := h
  have := W80_ge
  refine ⟨FB_w (by omega), FB_w (by omega), FB_w (by omega)⟩
theorem len_fb {S T D : Int} (h : RV S T D) : FB (rLen S T D) ∧ 0 ≤ rLen S T D := by
  have h1 := rLen_le S T D h.1
  have h2 := rLen_nonneg S T D h.1
  obtain ⟨_, h3, h4, h5⟩ := h
  have := W80_ge
  exact ⟨FB_w (by omega), h2⟩
set_option maxHeartbeats 1600000 in
theorem Length_ok (S T D : Int) (h : RV S T D) : Ret Try.prog 88 false [.inr (gG S T D)] (.t [.inr (gI (rLen S T D)), .inr [.i .i64 0, .i .i64 0]]) := by
  have hv := (vR_g S T D).2 h
  have hb := h.rb
  obtain ⟨f1, f2, f3⟩ := rv_fb h
  have l1 := lb_of f1
  have l2 := lb_of f2
  have l3 := lb_of f3
  simp only [gG]
  (refine q_H Try.func88 (fun F => ?_); simp only [q_z,q_y,Try.ntmps88,Try.results88])
  repeat' (first|(with_reducible first|apply q_a|apply q_b|apply q_c|apply q_d|apply q_e|apply q_f|apply q_g|apply q_h|apply q_i|apply q_j|apply q_k|apply q_m|apply q_n|apply q_o|apply q_p|refine q_l ?_)|((with_reducible first|refine q_q rb7_ok fun K hK=>?_|refine q_r rb7_ok fun K hK=>?_);simp (maxSteps:=2000000) only [go_sem,↓reduceIte,reduceCtorEq,Nat.reduceLeDiff,Nat.reduceLT,Nat.reduceBEq,Nat.reduceAdd,hv];(repeat1' with_reducible first|apply And.intro|(intro _;try exact q_v)|(refine hK _ ?_;clear hK K))<;>(try (clear hK K;exact q_u)))|(with_reducible refine q_s ?_;(first|apply q_J|apply q_K|apply q_L|apply q_M|apply q_N|apply q_O)<;>try (intro _;try exact q_v))|with_reducible refine q_t ?_)
  all_goals first | contradiction | omega | exact q_A rfl
theorem Length_bad (s t d : Bool) (xs ys zs : List Int) (h1 : xs.length ≤ 140737488355328) (h2 : ys.length ≤ 140737488355328) (h3 : zs.length ≤ 140737488355328) (hv : vR s t d xs ys zs = false) :
    Ret Try.prog 88 false [.inr [.b s, .ints .u32 xs, .b t, .ints .u32 ys, .b d, .ints .u32 zs]] (.t [.inr [.b false, .ints .u32 []], .inr [.i .i64 6, .i .i64 (-1)]]) := by
  (refine q_H Try.func88 (fun F => ?_); simp only [q_z,q_y,Try.ntmps88,Try.results88])
  repeat' (first|(with_reducible first|apply q_a|apply q_b|apply q_c|apply q_d|apply q_e|apply q_f|apply q_g|apply q_h|apply q_i|apply q_j|apply q_k|apply q_m|apply q_n|apply q_o|apply q_p|refine q_l ?_)|((with_reducible first|refine q_q rb7_ok fun K hK=>?_|refine q_r rb7_ok fun K hK=>?_);simp (maxSteps:=2000000) only [go_sem,↓reduceIte,reduceCtorEq,Nat.reduceLeDiff,Nat.reduceLT,Nat.reduceBEq,Nat.reduceAdd,hv];(repeat1' with_reducible first|apply And.intro|(intro _;try exact q_v)|(refine hK _ ?_;clear hK K))<;>(try (clear hK K;exact q_u)))|(with_reducible refine q_s ?_;(first|apply q_J|apply q_K|apply q_L|apply q_M|apply q_N|apply q_O)<;>try (intro _;try exact q_v))|with_reducible refine q_t ?_)
  all_goals first | contradiction | omega | exact q_B [nP, .inr [none, none]] rfl rfl
def rTot (good : Int → Int → Int → (AV → Prop) → Prop) (bad : AV) : CT := mkCT [nG] false fun l K => match l with
  | [.inr [.b s, .ints .u32 xs, .b t, .ints .u32 ys, .b d, .ints .u32 zs]] => ((xs.length ≤ 140737488355328 ∧ ys.length ≤ 140737488355328 ∧ zs.length ≤ 140737488355328) ∧ InB 4294967296 xs ∧ InB 4294967296 ys ∧ InB 4294967296 zs) ∧
      (vR s t d xs ys zs = true → good (sv 4294967296 s xs) (sv 4294967296 t ys) (sv 4294967296 d zs) K) ∧ (vR s t d xs ys zs = false → K bad)
  | _ => False
theorem rTot_tr {F : FuncId} {good : Int → Int → Int → (AV → Prop) → Prop} {bad : AV} (hg : ∀ S T D : Int, RV S T D → ∀ K, good S T D K → ∃ r, Ret Try.prog F false [.inr (gG S T D)] r ∧ K r)
    (hb : ∀ (s t d : Bool) (xs ys zs : List Int), xs.length ≤ 140737488355328 → ys.length ≤ 140737488355328 → zs.length ≤ 140737488355328 → vR s t d xs ys zs = false → Ret Try.prog F false [.inr [.b s, .ints .u32 xs, .b t, .ints .u32 ys, .b d, .ints .u32 zs]] bad)
    (l : List (C ⊕ List C)) (K : AV → Prop) (hk : match l with
      | [.inr [.b s, .ints .u32 xs, .b t, .ints .u32 ys, .b d, .ints .u32 zs]] => ((xs.length ≤ 140737488355328 ∧ ys.length ≤ 140737488355328 ∧ zs.length ≤ 140737488355328) ∧ InB 4294967296 xs ∧ InB 4294967296 ys ∧ InB 4294967296 zs) ∧
          (vR s t d xs ys zs = true → good (sv 4294967296 s xs) (sv 4294967296 t ys) (sv 4294967296 d zs) K) ∧ (vR s t d xs ys zs = false → K bad)
      | _ => False) : ∃ r, Ret Try.prog F false l r ∧ K r := by
  split at hk
  · rename_i s xs t ys d zs
    obtain ⟨⟨⟨h1, h2, h3⟩, b1, b2, b3⟩, hgood, hbad⟩ := hk
    cases hv : vR s t d xs ys zs
    · exact ⟨_, hb s t d xs ys zs h1 h2 h3 hv, hbad hv⟩
    · obtain ⟨n1, n2, n3, h⟩ := vR_ok hv b1 b2 b3
      rw [gG_nrm n1 n2 n3]
      exact hg _ _ _ h K (hgood hv)
  · exact hk.elim
def gdLength (S T D : Int) (K : AV → Prop) : Prop := K (.t [.inr (gI (rLen S T D)), .inr [.i .i64 0, .i .i64 0]])
def re1 : Cfg := addT 88 (rTot gdLength (.t [.inr [.b false, .ints .u32 []], .inr [.i .i64 6, .i .i64 (-1)]])) rd1
theorem re1_ok : TblOk Try.prog re1 := q_I rd1_ok Try.func88 fun l K h =>
  rTot_tr (good := gdLength) (bad := (.t [.inr [.b false, .ints .u32 []], .inr [.i .i64 6, .i .i64 (-1)]])) (fun S T D hv K h => ⟨_, Length_ok S T D hv, h⟩) (fun s t d xs ys zs h1 h2 h3 hv => Length_bad s t d xs ys zs h1 h2 h3 hv) l K h
attribute [go_sem] rTot gdLength
end Go.Proofs.Ytneecniebhhhlaa
