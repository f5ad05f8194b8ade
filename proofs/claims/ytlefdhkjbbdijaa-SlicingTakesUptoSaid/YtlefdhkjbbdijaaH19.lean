import Derived.Test.YtlefdhkjbbdijaaH14
import Derived.Test.YtlefdhkjbbdijaaH15
import Derived.Test.YtlefdhkjbbdijaaH16
import Derived.Test.YtlefdhkjbbdijaaH18
namespace Go.Proofs.Ytlefdhkjbbdijaa
set_option linter.unusedSimpArgs false
set_option linter.unusedVariables false
open Go.Abs Go.Proofs.NatL

theorem mem_one {a c : Nat} {i : Nat} : (i : Int) ∈ slPos (a : Int) 1 c ↔ a ≤ i ∧ i < a + c := by
  rw [mem_pos]
  constructor
  · rintro ⟨k, h1, h2⟩; omega
  · rintro ⟨h1, h2⟩; exact ⟨i - a, by omega, by omega⟩
theorem dropL_one {xs : List Int} {a c : Nat} (h : a + c ≤ xs.length) : ∀ i, i ≤ xs.length → dropL xs (slPos a 1 c) i = xs.take (min i a) ++ (xs.drop (a + c)).take (i - (a + c)) := by
  intro i
  induction i with
  | zero => intro _; simp [dropL]
  | succ i ih =>
    intro hi
    rw [dropL, ih (by omega)]
    by_cases hm : (i : Int) ∈ slPos (a : Int) 1 c
    · rw [if_pos hm]
      have := mem_one.1 hm
      rw [show min i a = a by omega, show min (i + 1) a = a by omega, show i - (a + c) = 0 by omega, show i + 1 - (a + c) = 0 by omega]
    · rw [if_neg hm]
      have hn : ¬ (a ≤ i ∧ i < a + c) := fun h => hm (mem_one.2 h)
      by_cases hia : i < a
      · rw [show min i a = i by omega, show min (i + 1) a = i + 1 by omega, show i - (a + c) = 0 by omega, show i + 1 - (a + c) = 0 by omega, List.take_zero, List.append_nil, List.append_nil, List.take_succ_eq_append_getElem (by omega), getD_eq _ _ (by omega)]
      · rw [show min i a = a by omega, show min (i + 1) a = a by omega, show i + 1 - (a + c) = (i - (a + c)) + 1 by omega, List.take_succ_eq_append_getElem (by rw [List.length_drop]; omega), List.append_assoc, List.getElem_drop, getD_eq _ _ (by omega)]
        congr 3
        congr 1
        omega
theorem dropL_all {xs : List Int} {a c : Nat} (h : a + c ≤ xs.length) : dropL xs (slPos a 1 c) xs.length = xs.take a ++ xs.drop (a + c) := by
  rw [dropL_one h _ (Nat.le_refl _), show min xs.length a = a by omega, List.take_of_length_le (l := xs.drop (a + c)) (by rw [List.length_drop]; omega)]
theorem count_step (ps : List Int) (hnd : ps.Nodup) (i : Int) : ps.countP (· < i + 1) = ps.countP (· < i) + (if i ∈ ps then 1 else 0) := by
  induction ps with
  | nil => rfl
  | cons p ps ih =>
    obtain ⟨h1, h2⟩ := List.nodup_cons.1 hnd
    have ih := ih h2
    rw [List.countP_cons, List.countP_cons, ih]
    by_cases hp : p = i
    · subst hp
      rw [if_neg h1]
      simp
      omega
    · have e : (i ∈ p :: ps) ↔ i ∈ ps := by simp; omega
      simp only [e]
      have e2 : decide (p < i + 1) = decide (p < i) := by congr 1; apply propext; omega
      rw [e2]
      omega
theorem dropL_len (xs ps : List Int) (hnd : ps.Nodup) (h0 : ∀ p ∈ ps, 0 ≤ p) (i : Nat) : (dropL xs ps i).length + ps.countP (· < (i : Int)) = i := by
  induction i with
  | zero =>
    have : ps.countP (· < ((0 : Nat) : Int)) = 0 := List.countP_eq_zero.2 fun p hp => by have := h0 p hp; simp; omega
    rw [this]; rfl
  | succ i ih =>
    have hc := count_step ps hnd i
    have e : ((i + 1 : Nat) : Int) = (i : Int) + 1 := by omega
    rw [dropL, e, hc]
    by_cases hm : (i : Int) ∈ ps
    · rw [if_pos hm, if_pos hm]; omega
    · rw [if_neg hm, if_neg hm, List.length_append, List.length_singleton]; omega
theorem pos_nodup {st sp : Int} (h : sp ≠ 0) (c : Nat) : (slPos st sp c).Nodup := by
  induction c with
  | zero => exact List.nodup_nil
  | succ c ih =>
    rw [slPos_succ]
    refine List.nodup_append.2 ⟨ih, by simp, fun x hx y hy => ?_⟩
    simp at hy; subst hy
    intro e; subst e
    exact pos_new h c hx
theorem drop_count {xs : List Int} {st sp : Int} {c : Nat} (h : sp ≠ 0) (hp : ∀ k : Nat, k < c → 0 ≤ st + (k : Int) * sp ∧ st + (k : Int) * sp < xs.length) : c + (dropL xs (slPos st sp c) xs.length).length = xs.length := by
  have h1 := dropL_len xs (slPos st sp c) (pos_nodup h c) (fun p hm => by obtain ⟨k, hk, rfl⟩ := mem_pos.1 hm; exact (hp k hk).1) xs.length
  have h2 : (slPos st sp c).countP (· < (xs.length : Int)) = (slPos st sp c).length := List.countP_eq_length.2 fun p hm => by obtain ⟨k, hk, rfl⟩ := mem_pos.1 hm; exact decide_eq_true (hp k hk).2
  rw [h2, slPos_len] at h1
  omega
end Go.Proofs.Ytlefdhkjbbdijaa

namespace Go.Proofs.Ytlefdhkjbbdijaa
set_option linter.unusedSimpArgs false
set_option linter.unusedVariables false
open Go.Abs Go.Proofs.NatL

def sr3 : Cfg := listT [(18, numberCT), (68, (rI2CT 4194304 ordF)), (29, (rI2CT 1048576 addF)), (47, intOfCT), (95, nearCT)] [30]
theorem sr3_ok : TblOk Try.prog sr3 := listE_ok (by simp only [List.mem_singleton, forall_eq]; exact flt) ⟨⟨jt12, jt12_ok, rfl⟩, ⟨jt12, jt12_ok, rfl⟩, ⟨jt12, jt12_ok, rfl⟩, ⟨jt12, jt12_ok, rfl⟩, ⟨sj2, sj2_ok, rfl⟩, trivial⟩
attribute [go_sem] sr3
theorem ix_len {a n : Int} (la : (dg 65536 a.natAbs).length ≤ 256) (h0 : 0 ≤ n) (h1 : n ≤ 4000) : (dg 65536 (a + n).natAbs).length ≤ 257 := by
  obtain ⟨e, he⟩ : ∃ e, e = 256 := ⟨_, rfl⟩
  have h := lt_of_len (B := 65536) (a := a.natAbs) (k := e) (by omega) (by omega)
  have h4 : (4000 : Nat) < 65536 ^ e := Nat.lt_of_lt_of_le (show 4000 < 65536 ^ 1 by omega) (Nat.pow_le_pow_right (by omega) (by omega))
  have := dg_len_le (B := 65536) (by omega) (a + n).natAbs (e + 1) (by rw [Nat.pow_succ]; omega)
  omega
set_option maxRecDepth 100000 in
set_option maxHeartbeats 3200000 in
theorem endAt_ret (a n lo hi : Int) (la : (dg 4294967296 a.natAbs).length ≤ 128) (h0 : 0 ≤ n) (h1 : n ≤ 4000) (h2 : -1 ≤ lo) (h3 : lo ≤ hi) (h4 : hi ≤ n) :
    Ret Try.prog 96 false [.inr (gI a), .inl (.i .i64 n), .inl (.i .i64 lo), .inl (.i .i64 hi)] (.c (.i .i64 (enda a n lo hi))) := by
  have l65 := (dg_half' a.natAbs 128).2 la
  have l66 := ix_len l65 h0 h1
  have nn := len_i64 (z := n) (by omega)
  have l32 := Nat.le_trans la (show 128 ≤ 1048576 by omega)
  rw [enda_eq h0 h2 h3 h4]
  simp only [gI]
  (refine q_H Try.func96 (fun F => ?_); simp only [q_z,q_y,Try.ntmps96,Try.results96])
  repeat' (first|(with_reducible first|apply q_a|apply q_b|apply q_c|apply q_d|apply q_e|apply q_f|apply q_g|apply q_h|apply q_i|apply q_j|apply q_k|apply q_m|apply q_n|apply q_o|apply q_p|refine q_l ?_)|((with_reducible first|refine q_q sr3_ok fun K hK=>?_|refine q_r sr3_ok fun K hK=>?_);simp (maxSteps:=2000000) only [go_sem,↓reduceIte,reduceCtorEq,Nat.reduceLeDiff,Nat.reduceLT,Nat.reduceBEq,Nat.reduceAdd,sg_self];(repeat1' with_reducible first|apply And.intro|(intro _;try exact q_v)|(refine hK _ ?_;clear hK K))<;>(try (clear hK K;exact q_u)))|(with_reducible refine q_s ?_;(first|apply q_J|apply q_K|apply q_L|apply q_M|apply q_N|apply q_O)<;>try (intro _;try exact q_v))|with_reducible refine q_t ?_)
  all_goals first
    | omega
    | (rename_i q; rw [if_pos q]; exact q_A rfl)
    | (rename_i q; rw [if_neg q]; exact q_A rfl)
    | (rename_i q _; rw [if_pos q]; exact q_A rfl)
def endAtCT : CT := mkCT [nP] true fun l K => match l with
  | [.inr [.b s, .ints .u32 xs], .inl (.i .i64 n), .inl (.i .i64 lo), .inl (.i .i64 hi)] => ((okZ s xs = true ∧ InB 4294967296 xs) ∧ (0 ≤ n ∧ n ≤ 4000) ∧ -1 ≤ lo ∧ lo ≤ hi ∧ hi ≤ n) ∧ K (.c (.i .i64 (enda (sv 4294967296 s xs) n lo hi)))
  | _ => False
def sj3 : Cfg := addT 96 endAtCT sj2
theorem sj3_ok : TblOk Try.prog sj3 := q_I sj2_ok Try.func96 fun l K h => by
  split at h
  · obtain ⟨⟨⟨h1, h2⟩, ⟨h3, h4⟩, h5, h6, h7⟩, h⟩ := h
    obtain ⟨e, la⟩ := gI_of h1 h2
    have := endAt_ret _ _ _ _ la h3 h4 h5 h6 h7
    rw [← e] at this
    exact ⟨_, this.plain rfl, h⟩
  · exact h.elim
attribute [go_sem] endAtCT
def indexedCT : CT := mkCT [nP] true fun l K => match l with
  | [.inr [.b s, .ints .u32 xs], .inl (.i .i64 n)] => ((okZ s xs = true ∧ InB 4294967296 xs) ∧ 0 ≤ n ∧ n ≤ 4000) ∧ (¬ (0 ≤ ixZ (sv 4294967296 s xs) n ∧ ixZ (sv 4294967296 s xs) n < n) → K (.t [.inl (.i .i64 0), .inl (.b false)])) ∧
      (0 ≤ ixZ (sv 4294967296 s xs) n ∧ ixZ (sv 4294967296 s xs) n < n → K (.t [.inl (.i .i64 (ixZ (sv 4294967296 s xs) n)), .inl (.b true)]))
  | _ => False
def sj4 : Cfg := sj3
theorem sj4_ok : TblOk Try.prog sj4 := sj3_ok
attribute [go_sem] indexedCT
end Go.Proofs.Ytlefdhkjbbdijaa
