/- Comparison, sums, differences, products: contracts of package natural. -/
import Derived.Test.YthfgapbcdhajiaaN1
import Derived.Test.YthfgapbcdhajiaaL
namespace Go.Proofs.Ythfgapbcdhajiaa
set_option linter.unusedSimpArgs false
set_option linter.unusedVariables false
open Go.Abs Go.Proofs.NatL
attribute [go_sem] cf0 addT mkCT mkCTO norm nz nzL List.mem_singleton List.mem_cons true_or or_true cf1 cf2 atCT cf3 trimCT cf4 cf5 okCT cf6 checkCT cf8 fitCT

/-- numbers of different lengths are compared by them -/
def cmpL (xs ys : List Int) : Int := if xs.length ≠ ys.length then (xs.length : Int) - ys.length else cmp3 (V 4294967296 xs) (V 4294967296 ys)

set_option maxHeartbeats 800000 in
theorem compare_ret (xs ys : List Int) (hx : xs.length ≤ 140737488355328) (hy : ys.length ≤ 140737488355328) (bx : InB 4294967296 xs) (by' : InB 4294967296 ys) : Ret Try.prog 104 false [.inl (.ints .u32 xs), .inl (.ints .u32 ys)] (.c (.i .i64 (cmpL xs ys))) := by
  (refine ret_eq Try.func104 rfl (Nat.le_of_ble_eq_true rfl) (fun F => ?_); simp only [argSl, ofSum, Try.ntmps104, Try.results104])
  repeat' (first | (with_reducible first | refine awp_seq ?_ | refine then_n ?_ | refine then_ret ?_ | refine then_exit ?_ | refine awp_block ?_ | refine awp_skip ?_ | refine awp_exit ?_ | refine awp_ret ?_ | refine inb_n ?_ | refine inb_ret ?_ | refine inb_same ?_ | refine inb_other (by decide) ?_ | refine round_ret ?_ | refine round_exit ?_ | refine join_ret ?_ | refine join_exit ?_) | ((first | with_reducible refine awp_region cf0_ok (fun K hK => ?_) | with_reducible refine awp_region_draw cf0_ok mixed (by kernel_rfl) (fun K hK => ?_)); (simp (config := { maxSteps := 2000000 }) only [go_sem, ↓gd_tt, ↓gd_tf, ↓gd_ft, ↓gd_ff, ↓reduceIte, reduceCtorEq, Nat.reduceLeDiff, Nat.reduceLT, Nat.reduceBEq, Nat.reduceAdd, false_and, and_false]); (with_reducible first | apply And.intro | intro _ | (refine hK _ ?_; clear hK K)) <;> (repeat' (with_reducible first | apply And.intro | intro _ | (refine hK _ ?_; clear hK K))) <;> (try (clear hK K; first | omega | assumption | ((simp (disch := omega) only [Int.tdiv_eq_ediv_of_nonneg, Int.tmod_eq_emod_of_nonneg]); omega)))) | (with_reducible refine awp_cond (by ((simp (config := { maxSteps := 2000000 }) only [go_sem, ↓gd_tt, ↓gd_tf, ↓gd_ft, ↓gd_ff, ↓reduceIte, reduceCtorEq, Nat.reduceLeDiff, Nat.reduceLT, Nat.reduceBEq, Nat.reduceAdd, false_and, and_false]); rfl)) ?_ ?_ <;> (try simp only [decide_eq_true_eq, decide_eq_false_iff_not, reduceCtorEq, false_implies, true_implies, eq_self, forall_const, Bool.not_eq_true', Bool.not_eq_false', Bool.not_true, Bool.not_false]) <;> (try with_reducible intro _)) | with_reducible refine ends_ret (by ((simp only [go_sem, ↓gd_tt, ↓gd_tf, ↓gd_ft, ↓gd_ff, ↓reduceIte, reduceCtorEq, Nat.reduceLeDiff, Nat.reduceLT, Nat.reduceBEq, Nat.reduceAdd, false_and, and_false, ressO, resO, argsC]); rfl)) ?_)
  · exact tells_eq (by simp only [resAV, ofSum, cmpL]; rw [if_pos (by omega)])
  rename_i hl
  have hl : xs.length = ys.length := by omega
  refine loop_of (ι := { i : Int // -1 ≤ i ∧ i < xs.length ∧ xs.drop (i + 1).toNat = ys.drop (i + 1).toNat }) (fun i => ⟨41, [(0, .c (.ints .u32 xs)), (1, .c (.ints .u32 ys)), (5, .c (.i .i64 i.1))], ⟨[], [], []⟩, 0⟩) (fun i => (i.1 + 1).toNat) ⟨(xs.length : Int) - 1, by omega, by omega, by rw [List.drop_eq_nil_of_le (by omega), List.drop_eq_nil_of_le (by omega)]⟩ ?_ ?_
  · ((simp only [FitP, fitSl, fitBox, fitBuf, fitBor, fitAV, fitL, go_sem, ↓gd_tt, ↓gd_tf, ↓gd_ft, ↓gd_ff, ↓reduceIte, reduceCtorEq, Nat.reduceLeDiff, Nat.reduceLT, Nat.reduceBEq, Nat.reduceAdd, false_and, and_false]) <;> (try (simp; done)) <;> (try ((simp only [C.i.injEq, C.b.injEq, C.ints.injEq, C.bools.injEq, List.append_cancel_left_eq, List.cons.injEq, true_and, and_true]); (repeat' with_reducible apply And.intro) <;> (first | rfl | assumption | omega | (simp; omega) | (congr 1; omega) | (congr 2; omega)))))
  rintro ⟨i, h1, h2, h3⟩
  simp only
  have e1 : 0 ≤ i → (i + 1).toNat = i.toNat + 1 := fun _ => by omega
  repeat' (first | (with_reducible first | refine awp_seq ?_ | refine then_n ?_ | refine then_ret ?_ | refine then_exit ?_ | refine awp_block ?_ | refine awp_skip ?_ | refine awp_exit ?_ | refine awp_ret ?_ | refine inb_n ?_ | refine inb_ret ?_ | refine inb_same ?_ | refine inb_other (by decide) ?_ | refine round_ret ?_ | refine round_exit ?_ | refine join_ret ?_ | refine join_exit ?_) | ((first | with_reducible refine awp_region cf0_ok (fun K hK => ?_) | with_reducible refine awp_region_draw cf0_ok mixed (by kernel_rfl) (fun K hK => ?_)); (simp (config := { maxSteps := 2000000 }) only [go_sem, ↓gd_tt, ↓gd_tf, ↓gd_ft, ↓gd_ff, ↓reduceIte, reduceCtorEq, Nat.reduceLeDiff, Nat.reduceLT, Nat.reduceBEq, Nat.reduceAdd, false_and, and_false]); (with_reducible first | apply And.intro | intro _ | (refine hK _ ?_; clear hK K)) <;> (repeat' (with_reducible first | apply And.intro | intro _ | (refine hK _ ?_; clear hK K))) <;> (try (clear hK K; first | omega | assumption | ((simp (disch := omega) only [Int.tdiv_eq_ediv_of_nonneg, Int.tmod_eq_emod_of_nonneg]); omega)))) | (with_reducible refine awp_cond (by ((simp (config := { maxSteps := 2000000 }) only [go_sem, ↓gd_tt, ↓gd_tf, ↓gd_ft, ↓gd_ff, ↓reduceIte, reduceCtorEq, Nat.reduceLeDiff, Nat.reduceLT, Nat.reduceBEq, Nat.reduceAdd, false_and, and_false]); rfl)) ?_ ?_ <;> (try simp only [decide_eq_true_eq, decide_eq_false_iff_not, reduceCtorEq, false_implies, true_implies, eq_self, forall_const, Bool.not_eq_true', Bool.not_eq_false', Bool.not_true, Bool.not_false]) <;> (try with_reducible intro _)) | with_reducible refine ends_ret (by ((simp only [go_sem, ↓gd_tt, ↓gd_tf, ↓gd_ft, ↓gd_ff, ↓reduceIte, reduceCtorEq, Nat.reduceLeDiff, Nat.reduceLT, Nat.reduceBEq, Nat.reduceAdd, false_and, and_false, ressO, resO, argsC]); rfl)) ?_)
  · rename_i h0 _ hlt
    rw [e1 h0] at h3
    have := cmp_at (by omega) bx by' hl i.toNat (by omega) h3 hlt
    exact tells_eq (by simp only [resAV, ofSum, cmpL, cmp3]; rw [if_neg (by omega), if_pos this])
  · rename_i h0 hne hlt
    rw [e1 h0] at h3
    have := cmp_at (by omega) by' bx hl.symm i.toNat (by omega) h3.symm (by omega)
    exact tells_eq (by simp only [resAV, ofSum, cmpL, cmp3]; rw [if_neg (by omega), if_neg (by omega), if_neg (by omega)])
  · rename_i h0 he
    rw [e1 h0] at h3
    refine round_n ⟨i - 1, by omega, by omega, ?_⟩ ?_ ?_
    · rw [show (i - 1 + 1).toNat = i.toNat by omega]
      exact drop_step hl i.toNat (by omega) h3 (by omega)
    · ((simp only [FitP, fitSl, fitBox, fitBuf, fitBor, fitAV, fitL, go_sem, ↓gd_tt, ↓gd_tf, ↓gd_ft, ↓gd_ff, ↓reduceIte, reduceCtorEq, Nat.reduceLeDiff, Nat.reduceLT, Nat.reduceBEq, Nat.reduceAdd, false_and, and_false]) <;> (try (simp; done)) <;> (try ((simp only [C.i.injEq, C.b.injEq, C.ints.injEq, C.bools.injEq, List.append_cancel_left_eq, List.cons.injEq, true_and, and_true]); (repeat' with_reducible apply And.intro) <;> (first | rfl | assumption | omega | (simp; omega) | (congr 1; omega) | (congr 2; omega)))))
    · show (i - 1 + 1).toNat < (i + 1).toNat
      omega
  · rename_i h0
    rw [show (i + 1).toNat = 0 by omega] at h3
    simp only [List.drop_zero] at h3
    exact tells_eq (by simp only [resAV, ofSum, cmpL, cmp3, h3]; simp)

def compareCT : CT := mkCT [.inl (some (.ints .u32 [])), .inl (some (.ints .u32 []))] true fun l K => match l with
  | [.inl (.ints .u32 xs), .inl (.ints .u32 ys)] => (xs.length ≤ 140737488355328 ∧ ys.length ≤ 140737488355328 ∧ InB 4294967296 xs ∧ InB 4294967296 ys) ∧ K (.c (.i .i64 (cmpL xs ys)))
  | _ => False
def cf9 : Cfg := addT 104 compareCT cf8
theorem cf9_ok : TblOk Try.prog cf9 := mkCT_ok cf8_ok (enters_of Try.func104 (by kernel_rfl) (by kernel_rfl)) rfl fun l K h => by
  split at h
  · exact ⟨_, (compare_ret _ _ h.1.1 h.1.2.1 h.1.2.2.1 h.1.2.2.2).plain rfl, h.2⟩
  · exact h.elim
attribute [go_sem] cf9 compareCT

set_option maxHeartbeats 800000 in
theorem clone_ret (xs : List Int) (hx : xs.length ≤ 16777216) : RetO Try.prog 90 [.inl (.ints .u32 xs)] 73 1 (.ints .u32 xs) := by
  by_cases h0 : xs = []
  · subst h0
    refine retO_split rfl ?_ ?_
    · (refine ret_own Try.func90 rfl (Nat.le_of_ble_eq_true rfl) (fun F => ?_); simp only [argSl, ofSum, Try.ntmps90, Try.results90])
      repeat' (first | (with_reducible first | refine awp_seq ?_ | refine then_n ?_ | refine then_ret ?_ | refine then_exit ?_ | refine awp_block ?_ | refine awp_skip ?_ | refine awp_exit ?_ | refine awp_ret ?_ | refine inb_n ?_ | refine inb_ret ?_ | refine inb_same ?_ | refine inb_other (by decide) ?_ | refine round_ret ?_ | refine round_exit ?_ | refine join_ret ?_ | refine join_exit ?_) | ((first | with_reducible refine awp_region cf0_ok (fun K hK => ?_) | with_reducible refine awp_region_draw cf0_ok mixed (by kernel_rfl) (fun K hK => ?_)); (simp (config := { maxSteps := 2000000 }) only [go_sem, ↓gd_tt, ↓gd_tf, ↓gd_ft, ↓gd_ff, ↓reduceIte, reduceCtorEq, Nat.reduceLeDiff, Nat.reduceLT, Nat.reduceBEq, Nat.reduceAdd, false_and, and_false]); (with_reducible first | apply And.intro | intro _ | (refine hK _ ?_; clear hK K)) <;> (repeat' (with_reducible first | apply And.intro | intro _ | (refine hK _ ?_; clear hK K))) <;> (try (clear hK K; first | omega | assumption | ((simp (disch := omega) only [Int.tdiv_eq_ediv_of_nonneg, Int.tmod_eq_emod_of_nonneg]); omega)))) | (with_reducible refine awp_cond (by ((simp (config := { maxSteps := 2000000 }) only [go_sem, ↓gd_tt, ↓gd_tf, ↓gd_ft, ↓gd_ff, ↓reduceIte, reduceCtorEq, Nat.reduceLeDiff, Nat.reduceLT, Nat.reduceBEq, Nat.reduceAdd, false_and, and_false]); rfl)) ?_ ?_ <;> (try simp only [decide_eq_true_eq, decide_eq_false_iff_not, reduceCtorEq, false_implies, true_implies, eq_self, forall_const, Bool.not_eq_true', Bool.not_eq_false', Bool.not_true, Bool.not_false]) <;> (try with_reducible intro _)))
      exact endsO_nil rfl rfl rfl (by omega) rfl
    · (refine ret_own Try.func90 rfl (Nat.le_of_ble_eq_true rfl) (fun F => ?_); simp only [argSl, ofSum, Try.ntmps90, Try.results90])
      repeat' (first | (with_reducible first | refine awp_seq ?_ | refine then_n ?_ | refine then_ret ?_ | refine then_exit ?_ | refine awp_block ?_ | refine awp_skip ?_ | refine awp_exit ?_ | refine awp_ret ?_ | refine inb_n ?_ | refine inb_ret ?_ | refine inb_same ?_ | refine inb_other (by decide) ?_ | refine round_ret ?_ | refine round_exit ?_ | refine join_ret ?_ | refine join_exit ?_) | ((first | with_reducible refine awp_region cf0_ok (fun K hK => ?_) | with_reducible refine awp_region_draw cf0_ok mixed (by kernel_rfl) (fun K hK => ?_)); (simp (config := { maxSteps := 2000000 }) only [go_sem, ↓gd_tt, ↓gd_tf, ↓gd_ft, ↓gd_ff, ↓reduceIte, reduceCtorEq, Nat.reduceLeDiff, Nat.reduceLT, Nat.reduceBEq, Nat.reduceAdd, false_and, and_false]); (with_reducible first | apply And.intro | intro _ | (refine hK _ ?_; clear hK K)) <;> (repeat' (with_reducible first | apply And.intro | intro _ | (refine hK _ ?_; clear hK K))) <;> (try (clear hK K; first | omega | assumption | ((simp (disch := omega) only [Int.tdiv_eq_ediv_of_nonneg, Int.tmod_eq_emod_of_nonneg]); omega)))) | (with_reducible refine awp_cond (by ((simp (config := { maxSteps := 2000000 }) only [go_sem, ↓gd_tt, ↓gd_tf, ↓gd_ft, ↓gd_ff, ↓reduceIte, reduceCtorEq, Nat.reduceLeDiff, Nat.reduceLT, Nat.reduceBEq, Nat.reduceAdd, false_and, and_false]); rfl)) ?_ ?_ <;> (try simp only [decide_eq_true_eq, decide_eq_false_iff_not, reduceCtorEq, false_implies, true_implies, eq_self, forall_const, Bool.not_eq_true', Bool.not_eq_false', Bool.not_true, Bool.not_false]) <;> (try with_reducible intro _)))
      exact endsO_own rfl rfl rfl rfl rfl rfl rfl
  · (refine ret_own Try.func90 rfl (Nat.le_of_ble_eq_true rfl) (fun F => ?_); simp only [argSl, ofSum, Try.ntmps90, Try.results90])
    repeat' (first | (with_reducible first | refine awp_seq ?_ | refine then_n ?_ | refine then_ret ?_ | refine then_exit ?_ | refine awp_block ?_ | refine awp_skip ?_ | refine awp_exit ?_ | refine awp_ret ?_ | refine inb_n ?_ | refine inb_ret ?_ | refine inb_same ?_ | refine inb_other (by decide) ?_ | refine round_ret ?_ | refine round_exit ?_ | refine join_ret ?_ | refine join_exit ?_) | ((first | with_reducible refine awp_region cf0_ok (fun K hK => ?_) | with_reducible refine awp_region_draw cf0_ok mixed (by kernel_rfl) (fun K hK => ?_)); (simp (config := { maxSteps := 2000000 }) only [go_sem, ↓gd_tt, ↓gd_tf, ↓gd_ft, ↓gd_ff, ↓reduceIte, reduceCtorEq, Nat.reduceLeDiff, Nat.reduceLT, Nat.reduceBEq, Nat.reduceAdd, false_and, and_false]); (with_reducible first | apply And.intro | intro _ | (refine hK _ ?_; clear hK K)) <;> (repeat' (with_reducible first | apply And.intro | intro _ | (refine hK _ ?_; clear hK K))) <;> (try (clear hK K; first | omega | assumption | ((simp (disch := omega) only [Int.tdiv_eq_ediv_of_nonneg, Int.tmod_eq_emod_of_nonneg]); omega)))) | (with_reducible refine awp_cond (by ((simp (config := { maxSteps := 2000000 }) only [go_sem, ↓gd_tt, ↓gd_tf, ↓gd_ft, ↓gd_ff, ↓reduceIte, reduceCtorEq, Nat.reduceLeDiff, Nat.reduceLT, Nat.reduceBEq, Nat.reduceAdd, false_and, and_false]); rfl)) ?_ ?_ <;> (try simp only [decide_eq_true_eq, decide_eq_false_iff_not, reduceCtorEq, false_implies, true_implies, eq_self, forall_const, Bool.not_eq_true', Bool.not_eq_false', Bool.not_true, Bool.not_false]) <;> (try with_reducible intro _)))
    exact endsO_own rfl rfl rfl rfl rfl rfl rfl

def cloneCT : CT := mkCTO [.inl (some (.ints .u32 []))] 73 1 fun l K => match l with
  | [.inl (.ints .u32 xs)] => xs.length ≤ 16777216 ∧ K (.c (.ints .u32 xs))
  | _ => False
def cf10 : Cfg := addT 90 cloneCT cf9
theorem cf10_ok : TblOk Try.prog cf10 := mkCTO_ok cf9_ok (enters_of Try.func90 (by kernel_rfl) (by kernel_rfl)) rfl fun l K h => by
  split at h
  · exact ⟨_, clone_ret _ h.1, h.2⟩
  · exact h.elim
attribute [go_sem] cf10 cloneCT

theorem sub32_ret (x y b : Int) (hx : 0 ≤ x ∧ x < 4294967296) (hy : 0 ≤ y ∧ y < 4294967296) (hb : 0 ≤ b ∧ b ≤ 1) : Ret Try.prog 118 false [.inl (.i .u32 x), .inl (.i .u32 y), .inl (.i .u32 b)] (.t [.inl (.i .u32 ((x - y - b) % 4294967296)), .inl (.i .u32 (if x < y + b then 1 else 0))]) := by
  (refine ret_eq Try.func118 rfl (Nat.le_of_ble_eq_true rfl) (fun F => ?_); simp only [argSl, ofSum, Try.ntmps118, Try.results118])
  repeat' (first | (with_reducible first | refine awp_seq ?_ | refine then_n ?_ | refine then_ret ?_ | refine then_exit ?_ | refine awp_block ?_ | refine awp_skip ?_ | refine awp_exit ?_ | refine awp_ret ?_ | refine inb_n ?_ | refine inb_ret ?_ | refine inb_same ?_ | refine inb_other (by decide) ?_ | refine round_ret ?_ | refine round_exit ?_ | refine join_ret ?_ | refine join_exit ?_) | ((first | with_reducible refine awp_region cf0_ok (fun K hK => ?_) | with_reducible refine awp_region_draw cf0_ok mixed (by kernel_rfl) (fun K hK => ?_)); (simp (config := { maxSteps := 2000000 }) only [go_sem, ↓gd_tt, ↓gd_tf, ↓gd_ft, ↓gd_ff, ↓reduceIte, reduceCtorEq, Nat.reduceLeDiff, Nat.reduceLT, Nat.reduceBEq, Nat.reduceAdd, false_and, and_false]); (with_reducible first | apply And.intro | intro _ | (refine hK _ ?_; clear hK K)) <;> (repeat' (with_reducible first | apply And.intro | intro _ | (refine hK _ ?_; clear hK K))) <;> (try (clear hK K; first | omega | assumption | ((simp (disch := omega) only [Int.tdiv_eq_ediv_of_nonneg, Int.tmod_eq_emod_of_nonneg]); omega)))) | (with_reducible refine awp_cond (by ((simp (config := { maxSteps := 2000000 }) only [go_sem, ↓gd_tt, ↓gd_tf, ↓gd_ft, ↓gd_ff, ↓reduceIte, reduceCtorEq, Nat.reduceLeDiff, Nat.reduceLT, Nat.reduceBEq, Nat.reduceAdd, false_and, and_false]); rfl)) ?_ ?_ <;> (try simp only [decide_eq_true_eq, decide_eq_false_iff_not, reduceCtorEq, false_implies, true_implies, eq_self, forall_const, Bool.not_eq_true', Bool.not_eq_false', Bool.not_true, Bool.not_false]) <;> (try with_reducible intro _)) | with_reducible refine ends_ret (by ((simp only [go_sem, ↓gd_tt, ↓gd_tf, ↓gd_ft, ↓gd_ff, ↓reduceIte, reduceCtorEq, Nat.reduceLeDiff, Nat.reduceLT, Nat.reduceBEq, Nat.reduceAdd, false_and, and_false, ressO, resO, argsC]); rfl)) ?_)
  have e1 : ((x - y) % 4294967296 - b) % 4294967296 = (x - y - b) % 4294967296 := by omega
  have e2 : IntKind.u32.max = 4294967295 := by decide
  exact tells_eq (by rw [e1, e2, borrow32 x y _ b hx.1 hx.2 hy.1 hy.2 hb.1 hb.2 rfl]; rfl)

def sub32CT : CT := mkCT [] true fun l K => match l with
  | [.inl (.i .u32 x), .inl (.i .u32 y), .inl (.i .u32 b)] => ((0 ≤ x ∧ x < 4294967296) ∧ (0 ≤ y ∧ y < 4294967296) ∧ 0 ≤ b ∧ b ≤ 1) ∧ K (.t [.inl (.i .u32 ((x - y - b) % 4294967296)), .inl (.i .u32 (if x < y + b then 1 else 0))])
  | _ => False
def cf11 : Cfg := addT 118 sub32CT cf10
theorem cf11_ok : TblOk Try.prog cf11 := mkCT_ok cf10_ok (enters_of Try.func118 (by kernel_rfl) (by kernel_rfl)) rfl fun l K h => by
  split at h
  · exact ⟨_, (sub32_ret _ _ _ h.1.1 h.1.2.1 h.1.2.2).plain rfl, h.2⟩
  · exact h.elim
attribute [go_sem] cf11 sub32CT shr32

set_option maxHeartbeats 800000 in
theorem add_ret (xs ys : List Int) (hx : xs.length ≤ 16777216) (hy : ys.length ≤ 16777216) (bx : InB 4294967296 xs) (by' : InB 4294967296 ys) : Ret Try.prog 103 false [.inl (.ints .u32 xs), .inl (.ints .u32 ys)] (.c (.ints .u32 (dg 4294967296 (V 4294967296 xs + V 4294967296 ys)))) := by
  (refine ret_eq Try.func103 rfl (Nat.le_of_ble_eq_true rfl) (fun F => ?_); simp only [argSl, ofSum, Try.ntmps103, Try.results103])
  refine awp_seq ?_
  ((first | with_reducible refine awp_region cf0_ok (fun K hK => ?_) | with_reducible refine awp_region_draw cf0_ok mixed (by kernel_rfl) (fun K hK => ?_)); (simp (config := { maxSteps := 2000000 }) only [go_sem, ↓gd_tt, ↓gd_tf, ↓gd_ft, ↓gd_ff, ↓reduceIte, reduceCtorEq, Nat.reduceLeDiff, Nat.reduceLT, Nat.reduceBEq, Nat.reduceAdd, false_and, and_false]); (first | with_reducible apply And.intro | with_reducible intro _ | (with_reducible refine hK _ ?_; clear hK K)) <;> (repeat' (first | with_reducible apply And.intro | with_reducible intro _ | (with_reducible refine hK _ ?_; clear hK K))) <;> (try (clear hK K; first | omega | assumption | ((simp (disch := omega) only [Int.tdiv_eq_ediv_of_nonneg, Int.tmod_eq_emod_of_nonneg]); omega))))
  refine then_n ?_
  refine seq_join (ι := { p : List Int × List Int // p.2.length ≤ p.1.length ∧ p.1.length ≤ 16777216 ∧ InB 4294967296 p.1 ∧ InB 4294967296 p.2 ∧ V 4294967296 p.1 + V 4294967296 p.2 = V 4294967296 xs + V 4294967296 ys }) (fun p => ⟨56, [(0, .c (.ints .u32 p.1.1)), (1, .c (.ints .u32 p.1.2))], ⟨[], [], []⟩, 0⟩) ?_ ?_
  · repeat' (first | (with_reducible first | refine awp_seq ?_ | refine then_n ?_ | refine then_ret ?_ | refine then_exit ?_ | refine awp_block ?_ | refine awp_skip ?_ | refine awp_exit ?_ | refine awp_ret ?_ | refine inb_n ?_ | refine inb_ret ?_ | refine inb_same ?_ | refine inb_other (by decide) ?_ | refine round_ret ?_ | refine round_exit ?_ | refine join_ret ?_ | refine join_exit ?_) | ((first | with_reducible refine awp_region cf0_ok (fun K hK => ?_) | with_reducible refine awp_region_draw cf0_ok mixed (by kernel_rfl) (fun K hK => ?_)); (simp (config := { maxSteps := 2000000 }) only [go_sem, ↓gd_tt, ↓gd_tf, ↓gd_ft, ↓gd_ff, ↓reduceIte, reduceCtorEq, Nat.reduceLeDiff, Nat.reduceLT, Nat.reduceBEq, Nat.reduceAdd, false_and, and_false]); (with_reducible first | apply And.intro | intro _ | (refine hK _ ?_; clear hK K)) <;> (repeat' (with_reducible first | apply And.intro | intro _ | (refine hK _ ?_; clear hK K))) <;> (try (clear hK K; first | omega | assumption | ((simp (disch := omega) only [Int.tdiv_eq_ediv_of_nonneg, Int.tmod_eq_emod_of_nonneg]); omega)))) | (with_reducible refine awp_cond (by ((simp (config := { maxSteps := 2000000 }) only [go_sem, ↓gd_tt, ↓gd_tf, ↓gd_ft, ↓gd_ff, ↓reduceIte, reduceCtorEq, Nat.reduceLeDiff, Nat.reduceLT, Nat.reduceBEq, Nat.reduceAdd, false_and, and_false]); rfl)) ?_ ?_ <;> (try simp only [decide_eq_true_eq, decide_eq_false_iff_not, reduceCtorEq, false_implies, true_implies, eq_self, forall_const, Bool.not_eq_true', Bool.not_eq_false', Bool.not_true, Bool.not_false]) <;> (try with_reducible intro _)) | with_reducible refine ends_ret (by ((simp only [go_sem, ↓gd_tt, ↓gd_tf, ↓gd_ft, ↓gd_ff, ↓reduceIte, reduceCtorEq, Nat.reduceLeDiff, Nat.reduceLT, Nat.reduceBEq, Nat.reduceAdd, false_and, and_false, ressO, resO, argsC]); rfl)) ?_)
    · rename_i h
      refine join_n ⟨(ys, xs), by simp only; omega, hy, by', bx, Nat.add_comm _ _⟩ ?_
      ((simp only [FitP, fitSl, fitBox, fitBuf, fitBor, fitAV, fitL, go_sem, ↓gd_tt, ↓gd_tf, ↓gd_ft, ↓gd_ff, ↓reduceIte, reduceCtorEq, Nat.reduceLeDiff, Nat.reduceLT, Nat.reduceBEq, Nat.reduceAdd, false_and, and_false]) <;> (try (simp; done)) <;> (try ((simp only [C.i.injEq, C.b.injEq, C.ints.injEq, C.bools.injEq, List.append_cancel_left_eq, List.cons.injEq, true_and, and_true]); (repeat' with_reducible apply And.intro) <;> (first | rfl | assumption | omega | (simp; omega) | (congr 1; omega) | (congr 2; omega)))))
    · rename_i h
      refine join_n ⟨(xs, ys), by simp only; omega, hx, bx, by', rfl⟩ ?_
      ((simp only [FitP, fitSl, fitBox, fitBuf, fitBor, fitAV, fitL, go_sem, ↓gd_tt, ↓gd_tf, ↓gd_ft, ↓gd_ff, ↓reduceIte, reduceCtorEq, Nat.reduceLeDiff, Nat.reduceLT, Nat.reduceBEq, Nat.reduceAdd, false_and, and_false]) <;> (try (simp; done)) <;> (try ((simp only [C.i.injEq, C.b.injEq, C.ints.injEq, C.bools.injEq, List.append_cancel_left_eq, List.cons.injEq, true_and, and_true]); (repeat' with_reducible apply And.intro) <;> (first | rfl | assumption | omega | (simp; omega) | (congr 1; omega) | (congr 2; omega)))))
  rintro ⟨⟨us, vs⟩, h1, h2, h3, h4, h5⟩
  simp only at h1 h2 h3 h4 h5 ⊢
  rw [← h5]
  repeat' (first | (with_reducible first | refine awp_seq ?_ | refine then_n ?_ | refine then_ret ?_ | refine then_exit ?_ | refine awp_block ?_ | refine awp_skip ?_ | refine awp_exit ?_ | refine awp_ret ?_ | refine inb_n ?_ | refine inb_ret ?_ | refine inb_same ?_ | refine inb_other (by decide) ?_ | refine round_ret ?_ | refine round_exit ?_ | refine join_ret ?_ | refine join_exit ?_) | ((first | with_reducible refine awp_region cf0_ok (fun K hK => ?_) | with_reducible refine awp_region_draw cf0_ok mixed (by kernel_rfl) (fun K hK => ?_)); (simp (config := { maxSteps := 2000000 }) only [go_sem, ↓gd_tt, ↓gd_tf, ↓gd_ft, ↓gd_ff, ↓reduceIte, reduceCtorEq, Nat.reduceLeDiff, Nat.reduceLT, Nat.reduceBEq, Nat.reduceAdd, false_and, and_false]); (with_reducible first | apply And.intro | intro _ | (refine hK _ ?_; clear hK K)) <;> (repeat' (with_reducible first | apply And.intro | intro _ | (refine hK _ ?_; clear hK K))) <;> (try (clear hK K; first | omega | assumption | ((simp (disch := omega) only [Int.tdiv_eq_ediv_of_nonneg, Int.tmod_eq_emod_of_nonneg]); omega)))) | (with_reducible refine awp_cond (by ((simp (config := { maxSteps := 2000000 }) only [go_sem, ↓gd_tt, ↓gd_tf, ↓gd_ft, ↓gd_ff, ↓reduceIte, reduceCtorEq, Nat.reduceLeDiff, Nat.reduceLT, Nat.reduceBEq, Nat.reduceAdd, false_and, and_false]); rfl)) ?_ ?_ <;> (try simp only [decide_eq_true_eq, decide_eq_false_iff_not, reduceCtorEq, false_implies, true_implies, eq_self, forall_const, Bool.not_eq_true', Bool.not_eq_false', Bool.not_true, Bool.not_false]) <;> (try with_reducible intro _)) | with_reducible refine ends_ret (by ((simp only [go_sem, ↓gd_tt, ↓gd_tf, ↓gd_ft, ↓gd_ff, ↓reduceIte, reduceCtorEq, Nat.reduceLeDiff, Nat.reduceLT, Nat.reduceBEq, Nat.reduceAdd, false_and, and_false, ressO, resO, argsC]); rfl)) ?_)
  refine loop_of (ι := { p : Nat × List Int × Int // p.1 ≤ us.length ∧ p.2.1.length = p.1 ∧ InB 4294967296 p.2.1 ∧ 0 ≤ p.2.2 ∧ p.2.2 ≤ 1 ∧ V 4294967296 p.2.1 + 4294967296 ^ p.1 * p.2.2.toNat = V 4294967296 (us.take p.1) + V 4294967296 (vs.take p.1) }) (fun p => ⟨56, [(0, .c (.ints .u32 us)), (1, .c (.ints .u32 vs)), (5, .own 0 0), (6, .c (.i .u64 p.1.2.2)), (20, .c (.ints .u32 us)), (21, .c (.i .i64 us.length)), (22, .c (.i .i64 p.1.1))], ⟨[], [(0, ⟨0, 73, 1, .ints .u32 p.1.2.1⟩)], []⟩, 1⟩) (fun p => us.length - p.1.1) ⟨(0, [], 0), by simp, rfl, InB_nil _, by simp, by simp, by simp [V]⟩ ?_ ?_
  · ((simp only [FitP, fitSl, fitBox, fitBuf, fitBor, fitAV, fitL, go_sem, ↓gd_tt, ↓gd_tf, ↓gd_ft, ↓gd_ff, ↓reduceIte, reduceCtorEq, Nat.reduceLeDiff, Nat.reduceLT, Nat.reduceBEq, Nat.reduceAdd, false_and, and_false]) <;> (try (simp; done)) <;> (try ((simp only [C.i.injEq, C.b.injEq, C.ints.injEq, C.bools.injEq, List.append_cancel_left_eq, List.cons.injEq, true_and, and_true]); (repeat' with_reducible apply And.intro) <;> (first | rfl | assumption | omega | (simp; omega) | (congr 1; omega) | (congr 2; omega)))))
  rintro ⟨⟨i, o, c⟩, g1, g2, g3, g4, g5, g6⟩
  simp only at g1 g2 g3 g4 g5 g6 ⊢
  have b1 := InB_getD (by omega) h3 i
  have b2 := InB_getD (by omega) h4 i
  repeat' (first | (with_reducible first | refine awp_seq ?_ | refine then_n ?_ | refine then_ret ?_ | refine then_exit ?_ | refine awp_block ?_ | refine awp_skip ?_ | refine awp_exit ?_ | refine awp_ret ?_ | refine inb_n ?_ | refine inb_ret ?_ | refine inb_same ?_ | refine inb_other (by decide) ?_ | refine round_ret ?_ | refine round_exit ?_ | refine join_ret ?_ | refine join_exit ?_) | ((first | with_reducible refine awp_region cf3_ok (fun K hK => ?_) | with_reducible refine awp_region_draw cf3_ok mixed (by kernel_rfl) (fun K hK => ?_)); (simp (config := { maxSteps := 2000000 }) only [go_sem, ↓gd_tt, ↓gd_tf, ↓gd_ft, ↓gd_ff, ↓reduceIte, reduceCtorEq, Nat.reduceLeDiff, Nat.reduceLT, Nat.reduceBEq, Nat.reduceAdd, false_and, and_false]); (with_reducible first | apply And.intro | intro _ | (refine hK _ ?_; clear hK K)) <;> (repeat' (with_reducible first | apply And.intro | intro _ | (refine hK _ ?_; clear hK K))) <;> (try (clear hK K; first | omega | assumption | ((simp (disch := omega) only [Int.tdiv_eq_ediv_of_nonneg, Int.tmod_eq_emod_of_nonneg]); omega)))) | (with_reducible refine awp_cond (by ((simp (config := { maxSteps := 2000000 }) only [go_sem, ↓gd_tt, ↓gd_tf, ↓gd_ft, ↓gd_ff, ↓reduceIte, reduceCtorEq, Nat.reduceLeDiff, Nat.reduceLT, Nat.reduceBEq, Nat.reduceAdd, false_and, and_false]); rfl)) ?_ ?_ <;> (try simp only [decide_eq_true_eq, decide_eq_false_iff_not, reduceCtorEq, false_implies, true_implies, eq_self, forall_const, Bool.not_eq_true', Bool.not_eq_false', Bool.not_true, Bool.not_false]) <;> (try with_reducible intro _)) | with_reducible refine ends_ret (by ((simp only [go_sem, ↓gd_tt, ↓gd_tf, ↓gd_ft, ↓gd_ff, ↓reduceIte, reduceCtorEq, Nat.reduceLeDiff, Nat.reduceLT, Nat.reduceBEq, Nat.reduceAdd, false_and, and_false, ressO, resO, argsC]); rfl)) ?_)
  · rename_i ha hb
    refine round_n ⟨(i + 1, o ++ [(c + us.getD i 0 + vs.getD i 0) % 4294967296], (c + us.getD i 0 + vs.getD i 0) / 4294967296), by simp only; omega, by simp [g2], InB_snoc g3 (by omega) (by omega), by simp only; omega, by simp only; omega, by simp only; exact add_step _ _ _ us vs c _ _ _ _ g6 g2 rfl rfl (by omega)⟩ ?_ ?_
    · ((simp only [FitP, fitSl, fitBox, fitBuf, fitBor, fitAV, fitL, go_sem, ↓gd_tt, ↓gd_tf, ↓gd_ft, ↓gd_ff, ↓reduceIte, reduceCtorEq, Nat.reduceLeDiff, Nat.reduceLT, Nat.reduceBEq, Nat.reduceAdd, false_and, and_false]) <;> (try (simp; done)) <;> (try ((simp only [C.i.injEq, C.b.injEq, C.ints.injEq, C.bools.injEq, List.append_cancel_left_eq, List.cons.injEq, true_and, and_true]); (repeat' with_reducible apply And.intro) <;> (first | rfl | assumption | omega | (simp; omega) | (congr 1; omega) | (congr 2; omega)))))
    · show us.length - (i + 1) < us.length - i
      omega
  · rename_i ha hb
    have e := getD_ge vs i (by omega)
    refine round_n ⟨(i + 1, o ++ [(c + us.getD i 0) % 4294967296], (c + us.getD i 0) / 4294967296), by simp only; omega, by simp [g2], InB_snoc g3 (by omega) (by omega), by simp only; omega, by simp only; omega, by simp only; exact add_step _ _ _ us vs c _ _ _ _ g6 g2 rfl e.symm (by omega)⟩ ?_ ?_
    · ((simp only [FitP, fitSl, fitBox, fitBuf, fitBor, fitAV, fitL, go_sem, ↓gd_tt, ↓gd_tf, ↓gd_ft, ↓gd_ff, ↓reduceIte, reduceCtorEq, Nat.reduceLeDiff, Nat.reduceLT, Nat.reduceBEq, Nat.reduceAdd, false_and, and_false]) <;> (try (simp; done)) <;> (try ((simp only [C.i.injEq, C.b.injEq, C.ints.injEq, C.bools.injEq, List.append_cancel_left_eq, List.cons.injEq, true_and, and_true]); (repeat' with_reducible apply And.intro) <;> (first | rfl | assumption | omega | (simp; omega) | (congr 1; omega) | (congr 2; omega)))))
    · show us.length - (i + 1) < us.length - i
      omega
  · rename_i ha
    have hi : i = us.length := by omega
    have hc : c % 4294967296 = c := by omega
    refine tells_eq ?_
    simp only [resAV, ofSum, hc]
    rw [trimL_eq 4294967296 (by omega) _ (InB_snoc g3 g4 (by omega)), V_snoc, g2, g6, hi, List.take_length, List.take_of_length_le h1]

/-- numbers that are read and made -/
def numCT (p : List Int → List Int → Prop) (f : List Int → List Int → List Int) : CT := mkCT [.inl (some (.ints .u32 [])), .inl (some (.ints .u32 []))] false fun l K => match l with
  | [.inl (.ints .u32 xs), .inl (.ints .u32 ys)] => ((xs.length ≤ 16777216 ∧ ys.length ≤ 16777216 ∧ InB 4294967296 xs ∧ InB 4294967296 ys) ∧ p xs ys) ∧ K (.c (.ints .u32 (f xs ys)))
  | _ => False
def addN (xs ys : List Int) : List Int := dg 4294967296 (V 4294967296 xs + V 4294967296 ys)
def cf12 : Cfg := addT 103 (numCT (fun _ _ => True) addN) cf11
theorem cf12_ok : TblOk Try.prog cf12 := mkCT_ok cf11_ok (enters_of Try.func103 (by kernel_rfl) (by kernel_rfl)) rfl fun l K h => by
  split at h
  · exact ⟨_, add_ret _ _ h.1.1.1 h.1.1.2.1 h.1.1.2.2.1 h.1.1.2.2.2, h.2⟩
  · exact h.elim
attribute [go_sem] cf12 numCT

set_option maxHeartbeats 800000 in
theorem sub_ret (xs ys : List Int) (hx : xs.length ≤ 16777216) (hy : ys.length ≤ xs.length) (bx : InB 4294967296 xs) (by' : InB 4294967296 ys) (hv : V 4294967296 ys ≤ V 4294967296 xs) : Ret Try.prog 105 false [.inl (.ints .u32 xs), .inl (.ints .u32 ys)] (.c (.ints .u32 (dg 4294967296 (V 4294967296 xs - V 4294967296 ys)))) := by
  (refine ret_eq Try.func105 rfl (Nat.le_of_ble_eq_true rfl) (fun F => ?_); simp only [argSl, ofSum, Try.ntmps105, Try.results105])
  repeat' (first | (with_reducible first | refine awp_seq ?_ | refine then_n ?_ | refine then_ret ?_ | refine then_exit ?_ | refine awp_block ?_ | refine awp_skip ?_ | refine awp_exit ?_ | refine awp_ret ?_ | refine inb_n ?_ | refine inb_ret ?_ | refine inb_same ?_ | refine inb_other (by decide) ?_ | refine round_ret ?_ | refine round_exit ?_ | refine join_ret ?_ | refine join_exit ?_) | ((first | with_reducible refine awp_region cf11_ok (fun K hK => ?_) | with_reducible refine awp_region_draw cf11_ok mixed (by kernel_rfl) (fun K hK => ?_)); (simp (config := { maxSteps := 2000000 }) only [go_sem, ↓gd_tt, ↓gd_tf, ↓gd_ft, ↓gd_ff, ↓reduceIte, reduceCtorEq, Nat.reduceLeDiff, Nat.reduceLT, Nat.reduceBEq, Nat.reduceAdd, false_and, and_false]); (with_reducible first | apply And.intro | intro _ | (refine hK _ ?_; clear hK K)) <;> (repeat' (with_reducible first | apply And.intro | intro _ | (refine hK _ ?_; clear hK K))) <;> (try (clear hK K; first | omega | assumption | ((simp (disch := omega) only [Int.tdiv_eq_ediv_of_nonneg, Int.tmod_eq_emod_of_nonneg]); omega)))) | (with_reducible refine awp_cond (by ((simp (config := { maxSteps := 2000000 }) only [go_sem, ↓gd_tt, ↓gd_tf, ↓gd_ft, ↓gd_ff, ↓reduceIte, reduceCtorEq, Nat.reduceLeDiff, Nat.reduceLT, Nat.reduceBEq, Nat.reduceAdd, false_and, and_false]); rfl)) ?_ ?_ <;> (try simp only [decide_eq_true_eq, decide_eq_false_iff_not, reduceCtorEq, false_implies, true_implies, eq_self, forall_const, Bool.not_eq_true', Bool.not_eq_false', Bool.not_true, Bool.not_false]) <;> (try with_reducible intro _)) | with_reducible refine ends_ret (by ((simp only [go_sem, ↓gd_tt, ↓gd_tf, ↓gd_ft, ↓gd_ff, ↓reduceIte, reduceCtorEq, Nat.reduceLeDiff, Nat.reduceLT, Nat.reduceBEq, Nat.reduceAdd, false_and, and_false, ressO, resO, argsC]); rfl)) ?_)
  refine loop_of (ι := { p : List Int × Int // p.1.length ≤ xs.length ∧ InB 4294967296 p.1 ∧ 0 ≤ p.2 ∧ p.2 ≤ 1 ∧ V 4294967296 p.1 + V 4294967296 (ys.take p.1.length) = V 4294967296 (xs.take p.1.length) + 4294967296 ^ p.1.length * p.2.toNat }) (fun p => ⟨40, [(0, .c (.ints .u32 xs)), (1, .c (.ints .u32 ys)), (5, .own 0 0), (6, .c (.i .u32 p.1.2)), (11, .own 0 0), (12, .c (.i .i64 xs.length)), (13, .c (.i .i64 p.1.1.length))], ⟨[], [(0, ⟨0, 73, 1, .ints .u32 (p.1.1 ++ xs.drop p.1.1.length)⟩)], []⟩, 1⟩) (fun p => xs.length - p.1.1.length) ⟨([], 0), by simp, InB_nil _, by simp, by simp, by simp [V]⟩ ?_ ?_
  · ((simp only [FitP, fitSl, fitBox, fitBuf, fitBor, fitAV, fitL, go_sem, ↓gd_tt, ↓gd_tf, ↓gd_ft, ↓gd_ff, ↓reduceIte, reduceCtorEq, Nat.reduceLeDiff, Nat.reduceLT, Nat.reduceBEq, Nat.reduceAdd, false_and, and_false]) <;> (try (simp; done)) <;> (try ((simp only [C.i.injEq, C.b.injEq, C.ints.injEq, C.bools.injEq, List.append_cancel_left_eq, List.cons.injEq, true_and, and_true]); (repeat' with_reducible apply And.intro) <;> (first | rfl | assumption | omega | (simp; omega) | (congr 1; omega) | (congr 2; omega)))))
  rintro ⟨⟨o, c⟩, g1, g2, g3, g4, g5⟩
  simp only at g1 g2 g3 g4 g5 ⊢
  have b1 := InB_getD (by omega) bx o.length
  have b2 := InB_getD (by omega) by' o.length
  have e1 := getD_mid o xs g1
  repeat' (first | (with_reducible first | refine awp_seq ?_ | refine then_n ?_ | refine then_ret ?_ | refine then_exit ?_ | refine awp_block ?_ | refine awp_skip ?_ | refine awp_exit ?_ | refine awp_ret ?_ | refine inb_n ?_ | refine inb_ret ?_ | refine inb_same ?_ | refine inb_other (by decide) ?_ | refine round_ret ?_ | refine round_exit ?_ | refine join_ret ?_ | refine join_exit ?_) | ((first | with_reducible refine awp_region cf11_ok (fun K hK => ?_) | with_reducible refine awp_region_draw cf11_ok mixed (by kernel_rfl) (fun K hK => ?_)); (simp (config := { maxSteps := 2000000 }) only [go_sem, ↓gd_tt, ↓gd_tf, ↓gd_ft, ↓gd_ff, ↓reduceIte, reduceCtorEq, Nat.reduceLeDiff, Nat.reduceLT, Nat.reduceBEq, Nat.reduceAdd, false_and, and_false]); (with_reducible first | apply And.intro | intro _ | (refine hK _ ?_; clear hK K)) <;> (repeat' (with_reducible first | apply And.intro | intro _ | (refine hK _ ?_; clear hK K))) <;> (try (clear hK K; first | omega | assumption | ((simp (disch := omega) only [Int.tdiv_eq_ediv_of_nonneg, Int.tmod_eq_emod_of_nonneg]); omega)))) | (with_reducible refine awp_cond (by ((simp (config := { maxSteps := 2000000 }) only [go_sem, ↓gd_tt, ↓gd_tf, ↓gd_ft, ↓gd_ff, ↓reduceIte, reduceCtorEq, Nat.reduceLeDiff, Nat.reduceLT, Nat.reduceBEq, Nat.reduceAdd, false_and, and_false]); rfl)) ?_ ?_ <;> (try simp only [decide_eq_true_eq, decide_eq_false_iff_not, reduceCtorEq, false_implies, true_implies, eq_self, forall_const, Bool.not_eq_true', Bool.not_eq_false', Bool.not_true, Bool.not_false]) <;> (try with_reducible intro _)) | with_reducible refine ends_ret (by ((simp only [go_sem, ↓gd_tt, ↓gd_tf, ↓gd_ft, ↓gd_ff, ↓reduceIte, reduceCtorEq, Nat.reduceLeDiff, Nat.reduceLT, Nat.reduceBEq, Nat.reduceAdd, false_and, and_false, ressO, resO, argsC]); rfl)) ?_)
  · rename_i ha hb
    rw [e1]
    rw [set_mid o xs _ (by omega)]
    refine round_n ⟨(o ++ [(xs.getD o.length 0 - ys.getD o.length 0 - c) % 4294967296], if xs.getD o.length 0 < ys.getD o.length 0 + c then 1 else 0), by simp; omega, InB_snoc g2 (by omega) (by omega), by simp only; split <;> omega, by simp only; split <;> omega, ?_⟩ ?_ ?_
    · simp only [List.length_append, List.length_cons, List.length_nil, Nat.zero_add]
      exact sub_step _ _ _ xs ys c _ _ _ _ g5 rfl rfl rfl (by split <;> omega)
    · ((simp only [FitP, fitSl, fitBox, fitBuf, fitBor, fitAV, fitL, go_sem, ↓gd_tt, ↓gd_tf, ↓gd_ft, ↓gd_ff, ↓reduceIte, reduceCtorEq, Nat.reduceLeDiff, Nat.reduceLT, Nat.reduceBEq, Nat.reduceAdd, false_and, and_false]) <;> (try (simp; done)) <;> (try ((simp only [C.i.injEq, C.b.injEq, C.ints.injEq, C.bools.injEq, List.append_cancel_left_eq, List.cons.injEq, true_and, and_true]); (repeat' with_reducible apply And.intro) <;> (first | rfl | assumption | omega | (simp; omega) | (congr 1; omega) | (congr 2; omega)))))
    · simp; omega
  · rename_i ha hb
    have e := getD_ge ys o.length (by omega)
    rw [e1]
    rw [set_mid o xs _ (by omega)]
    refine round_n ⟨(o ++ [(xs.getD o.length 0 - 0 - c) % 4294967296], if xs.getD o.length 0 < 0 + c then 1 else 0), by simp; omega, InB_snoc g2 (by omega) (by omega), by simp only; split <;> omega, by simp only; split <;> omega, ?_⟩ ?_ ?_
    · simp only [List.length_append, List.length_cons, List.length_nil, Nat.zero_add]
      exact sub_step _ _ _ xs ys c _ _ _ _ g5 rfl rfl e.symm (by split <;> omega)
    · ((simp only [FitP, fitSl, fitBox, fitBuf, fitBor, fitAV, fitL, go_sem, ↓gd_tt, ↓gd_tf, ↓gd_ft, ↓gd_ff, ↓reduceIte, reduceCtorEq, Nat.reduceLeDiff, Nat.reduceLT, Nat.reduceBEq, Nat.reduceAdd, false_and, and_false]) <;> (try (simp; done)) <;> (try ((simp only [C.i.injEq, C.b.injEq, C.ints.injEq, C.bools.injEq, List.append_cancel_left_eq, List.cons.injEq, true_and, and_true]); (repeat' with_reducible apply And.intro) <;> (first | rfl | assumption | omega | (simp; omega) | (congr 1; omega) | (congr 2; omega)))))
    · simp; omega
  · rename_i ha
    have hl : o.length = xs.length := by omega
    refine tells_eq ?_
    simp only [resAV, ofSum]
    rw [hl, List.drop_length, List.append_nil, trimL_eq 4294967296 (by omega) _ g2, sub_end 4294967296 (by omega) o xs ys c g2 hl hy hv g4 g5]

def subN (xs ys : List Int) : List Int := dg 4294967296 (V 4294967296 xs - V 4294967296 ys)
def cf13 : Cfg := addT 105 (numCT (fun xs ys => ys.length ≤ xs.length ∧ V 4294967296 ys ≤ V 4294967296 xs) subN) cf12
theorem cf13_ok : TblOk Try.prog cf13 := mkCT_ok cf12_ok (enters_of Try.func105 (by kernel_rfl) (by kernel_rfl)) rfl fun l K h => by
  split at h
  · exact ⟨_, sub_ret _ _ h.1.1.1 h.1.2.1 h.1.1.2.2.1 h.1.1.2.2.2 h.1.2.2, h.2⟩
  · exact h.elim

end Go.Proofs.Ythfgapbcdhajiaa
