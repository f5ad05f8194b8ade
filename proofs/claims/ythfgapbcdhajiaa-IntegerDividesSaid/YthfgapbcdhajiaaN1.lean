/- Faults, trimming, validity: contracts of small functions of package natural and of the reference. -/
import Derived.Test.YthfgapbcdhajiaaTy
import Derived.Test.YthfgapbcdhajiaaL
namespace Go.Proofs.Ythfgapbcdhajiaa
set_option linter.unusedSimpArgs false
set_option linter.unusedVariables false
open Go.Abs Go.Proofs.NatL

theorem mixed : Try.prog.follows .mixedOrders = true := by kernel_rfl
theorem flt : FltOk Try.prog 27 := flt_of (e := 3) ⟨⟨_, _, Try.underlying27, rfl, rfl, rfl, rfl, rfl, rfl⟩, Try.underlying3, by kernel_rfl, by kernel_rfl⟩
def cf0 : Cfg := ⟨fun _ => none, [27]⟩
theorem cf0_ok : TblOk Try.prog cf0 := ⟨by simp only [cf0, List.mem_singleton, forall_eq]; exact flt, by simp [cf0]⟩
attribute [go_sem] cf0 addT mkCT mkCTO norm nz nzL List.mem_singleton List.mem_cons true_or or_true

instance (xs : List Int) : Decidable (Trd xs) := inferInstanceAs (Decidable (_ ∨ _))

theorem at_ret (c i : Int) : Ret Try.prog 101 false [.inl (.i .i64 c), .inl (.i .i64 i)] (.g [.i .i64 c, .i .i64 i]) := by
  (refine ret_eq Try.func101 rfl (Nat.le_of_ble_eq_true rfl) (fun F => ?_); simp only [argSl, ofSum, Try.ntmps101, Try.results101])
  repeat' (first | (with_reducible first | refine awp_seq ?_ | refine then_n ?_ | refine then_ret ?_ | refine then_exit ?_ | refine awp_block ?_ | refine awp_skip ?_ | refine awp_exit ?_ | refine awp_ret ?_ | refine inb_n ?_ | refine inb_ret ?_ | refine inb_same ?_ | refine inb_other (by decide) ?_ | refine round_ret ?_ | refine round_exit ?_ | refine join_ret ?_ | refine join_exit ?_) | ((first | with_reducible refine awp_region cf0_ok (fun K hK => ?_) | with_reducible refine awp_region_draw cf0_ok mixed (by kernel_rfl) (fun K hK => ?_)); (simp (config := { maxSteps := 2000000 }) only [go_sem, ↓gd_tt, ↓gd_tf, ↓gd_ft, ↓gd_ff, ↓reduceIte, reduceCtorEq, Nat.reduceLeDiff, Nat.reduceLT, Nat.reduceBEq, Nat.reduceAdd, false_and, and_false]); (with_reducible first | apply And.intro | intro _ | (refine hK _ ?_; clear hK K)) <;> (repeat' (with_reducible first | apply And.intro | intro _ | (refine hK _ ?_; clear hK K))) <;> (try (clear hK K; first | omega | assumption | ((simp (disch := omega) only [Int.tdiv_eq_ediv_of_nonneg, Int.tmod_eq_emod_of_nonneg]); omega)))) | (with_reducible refine awp_cond (by ((simp (config := { maxSteps := 2000000 }) only [go_sem, ↓gd_tt, ↓gd_tf, ↓gd_ft, ↓gd_ff, ↓reduceIte, reduceCtorEq, Nat.reduceLeDiff, Nat.reduceLT, Nat.reduceBEq, Nat.reduceAdd, false_and, and_false]); rfl)) ?_ ?_ <;> (try simp only [decide_eq_true_eq, decide_eq_false_iff_not, reduceCtorEq, false_implies, true_implies, eq_self, forall_const, Bool.not_eq_true', Bool.not_eq_false', Bool.not_true, Bool.not_false]) <;> (try with_reducible intro _)) | with_reducible refine ends_ret (by ((simp only [go_sem, ↓gd_tt, ↓gd_tf, ↓gd_ft, ↓gd_ff, ↓reduceIte, reduceCtorEq, Nat.reduceLeDiff, Nat.reduceLT, Nat.reduceBEq, Nat.reduceAdd, false_and, and_false, ressO, resO, argsC]); rfl)) ?_)
  exact tells_eq rfl
theorem At_ret (c i : Int) : Ret Try.prog 24 false [.inl (.i .i64 c), .inl (.i .i64 i)] (.g [.i .i64 c, .i .i64 i]) := by
  (refine ret_eq Try.func24 rfl (Nat.le_of_ble_eq_true rfl) (fun F => ?_); simp only [argSl, ofSum, Try.ntmps24, Try.results24])
  repeat' (first | (with_reducible first | refine awp_seq ?_ | refine then_n ?_ | refine then_ret ?_ | refine then_exit ?_ | refine awp_block ?_ | refine awp_skip ?_ | refine awp_exit ?_ | refine awp_ret ?_ | refine inb_n ?_ | refine inb_ret ?_ | refine inb_same ?_ | refine inb_other (by decide) ?_ | refine round_ret ?_ | refine round_exit ?_ | refine join_ret ?_ | refine join_exit ?_) | ((first | with_reducible refine awp_region cf0_ok (fun K hK => ?_) | with_reducible refine awp_region_draw cf0_ok mixed (by kernel_rfl) (fun K hK => ?_)); (simp (config := { maxSteps := 2000000 }) only [go_sem, ↓gd_tt, ↓gd_tf, ↓gd_ft, ↓gd_ff, ↓reduceIte, reduceCtorEq, Nat.reduceLeDiff, Nat.reduceLT, Nat.reduceBEq, Nat.reduceAdd, false_and, and_false]); (with_reducible first | apply And.intro | intro _ | (refine hK _ ?_; clear hK K)) <;> (repeat' (with_reducible first | apply And.intro | intro _ | (refine hK _ ?_; clear hK K))) <;> (try (clear hK K; first | omega | assumption | ((simp (disch := omega) only [Int.tdiv_eq_ediv_of_nonneg, Int.tmod_eq_emod_of_nonneg]); omega)))) | (with_reducible refine awp_cond (by ((simp (config := { maxSteps := 2000000 }) only [go_sem, ↓gd_tt, ↓gd_tf, ↓gd_ft, ↓gd_ff, ↓reduceIte, reduceCtorEq, Nat.reduceLeDiff, Nat.reduceLT, Nat.reduceBEq, Nat.reduceAdd, false_and, and_false]); rfl)) ?_ ?_ <;> (try simp only [decide_eq_true_eq, decide_eq_false_iff_not, reduceCtorEq, false_implies, true_implies, eq_self, forall_const, Bool.not_eq_true', Bool.not_eq_false', Bool.not_true, Bool.not_false]) <;> (try with_reducible intro _)) | with_reducible refine ends_ret (by ((simp only [go_sem, ↓gd_tt, ↓gd_tf, ↓gd_ft, ↓gd_ff, ↓reduceIte, reduceCtorEq, Nat.reduceLeDiff, Nat.reduceLT, Nat.reduceBEq, Nat.reduceAdd, false_and, and_false, ressO, resO, argsC]); rfl)) ?_)
  exact tells_eq rfl

def atCT : CT := mkCT [] true fun l K => match l with
  | [.inl (.i .i64 c), .inl (.i .i64 i)] => K (.g [.i .i64 c, .i .i64 i])
  | _ => False
def cf1 : Cfg := addT 101 atCT cf0
theorem cf1_ok : TblOk Try.prog cf1 := mkCT_ok cf0_ok (enters_of Try.func101 (by kernel_rfl) (by kernel_rfl)) rfl fun l K h => by
  split at h
  · exact ⟨_, (at_ret _ _).plain rfl, h⟩
  · exact h.elim
def cf2 : Cfg := addT 24 atCT cf1
theorem cf2_ok : TblOk Try.prog cf2 := mkCT_ok cf1_ok (enters_of Try.func24 (by kernel_rfl) (by kernel_rfl)) rfl fun l K h => by
  split at h
  · exact ⟨_, (At_ret _ _).plain rfl, h⟩
  · exact h.elim
attribute [go_sem] cf1 cf2 atCT

set_option maxHeartbeats 400000 in
theorem trim_ret (xs : List Int) (hx : xs.length ≤ 140737488355328) : Ret Try.prog 113 false [.inl (.ints .u32 xs)] (.c (.ints .u32 (trimL xs))) := by
  (refine ret_eq Try.func113 rfl (Nat.le_of_ble_eq_true rfl) (fun F => ?_); simp only [argSl, ofSum, Try.ntmps113, Try.results113])
  repeat' (first | (with_reducible first | refine awp_seq ?_ | refine then_n ?_ | refine then_ret ?_ | refine then_exit ?_ | refine awp_block ?_ | refine awp_skip ?_ | refine awp_exit ?_ | refine awp_ret ?_ | refine inb_n ?_ | refine inb_ret ?_ | refine inb_same ?_ | refine inb_other (by decide) ?_ | refine round_ret ?_ | refine round_exit ?_ | refine join_ret ?_ | refine join_exit ?_) | ((first | with_reducible refine awp_region cf0_ok (fun K hK => ?_) | with_reducible refine awp_region_draw cf0_ok mixed (by kernel_rfl) (fun K hK => ?_)); (simp (config := { maxSteps := 2000000 }) only [go_sem, ↓gd_tt, ↓gd_tf, ↓gd_ft, ↓gd_ff, ↓reduceIte, reduceCtorEq, Nat.reduceLeDiff, Nat.reduceLT, Nat.reduceBEq, Nat.reduceAdd, false_and, and_false]); (with_reducible first | apply And.intro | intro _ | (refine hK _ ?_; clear hK K)) <;> (repeat' (with_reducible first | apply And.intro | intro _ | (refine hK _ ?_; clear hK K))) <;> (try (clear hK K; first | omega | assumption | ((simp (disch := omega) only [Int.tdiv_eq_ediv_of_nonneg, Int.tmod_eq_emod_of_nonneg]); omega)))) | (with_reducible refine awp_cond (by ((simp (config := { maxSteps := 2000000 }) only [go_sem, ↓gd_tt, ↓gd_tf, ↓gd_ft, ↓gd_ff, ↓reduceIte, reduceCtorEq, Nat.reduceLeDiff, Nat.reduceLT, Nat.reduceBEq, Nat.reduceAdd, false_and, and_false]); rfl)) ?_ ?_ <;> (try simp only [decide_eq_true_eq, decide_eq_false_iff_not, reduceCtorEq, false_implies, true_implies, eq_self, forall_const, Bool.not_eq_true', Bool.not_eq_false', Bool.not_true, Bool.not_false]) <;> (try with_reducible intro _)) | with_reducible refine ends_ret (by ((simp only [go_sem, ↓gd_tt, ↓gd_tf, ↓gd_ft, ↓gd_ff, ↓reduceIte, reduceCtorEq, Nat.reduceLeDiff, Nat.reduceLT, Nat.reduceBEq, Nat.reduceAdd, false_and, and_false, ressO, resO, argsC]); rfl)) ?_)
  refine loop_of (ι := { ys : List Int // trimL ys = trimL xs ∧ ys.length ≤ 140737488355328 }) (fun ys => ⟨21, [(0, .c (.ints .u32 ys.1))], ⟨[], [], []⟩, 0⟩) (fun ys => ys.1.length) ⟨xs, rfl, hx⟩ ?_ ?_
  · ((simp only [FitP, fitSl, fitBox, fitBuf, fitBor, fitAV, fitL, go_sem, ↓gd_tt, ↓gd_tf, ↓gd_ft, ↓gd_ff, ↓reduceIte, reduceCtorEq, Nat.reduceLeDiff, Nat.reduceLT, Nat.reduceBEq, Nat.reduceAdd, false_and, and_false]) <;> (try (simp; done)) <;> (try ((simp only [C.i.injEq, C.b.injEq, C.ints.injEq, C.bools.injEq, List.append_cancel_left_eq, List.cons.injEq, true_and, and_true]); (repeat' with_reducible apply And.intro) <;> (first | rfl | assumption | omega | (simp; omega) | (congr 1; omega) | (congr 2; omega)))))
  rintro ⟨ys, h1, h2⟩
  have e : 0 < (ys.length : Int) → ((ys.length : Int) - 1).toNat = ys.length - 1 := fun _ => by omega
  repeat' (first | (with_reducible first | refine awp_seq ?_ | refine then_n ?_ | refine then_ret ?_ | refine then_exit ?_ | refine awp_block ?_ | refine awp_skip ?_ | refine awp_exit ?_ | refine awp_ret ?_ | refine inb_n ?_ | refine inb_ret ?_ | refine inb_same ?_ | refine inb_other (by decide) ?_ | refine round_ret ?_ | refine round_exit ?_ | refine join_ret ?_ | refine join_exit ?_) | ((first | with_reducible refine awp_region cf0_ok (fun K hK => ?_) | with_reducible refine awp_region_draw cf0_ok mixed (by kernel_rfl) (fun K hK => ?_)); (simp (config := { maxSteps := 2000000 }) only [go_sem, ↓gd_tt, ↓gd_tf, ↓gd_ft, ↓gd_ff, ↓reduceIte, reduceCtorEq, Nat.reduceLeDiff, Nat.reduceLT, Nat.reduceBEq, Nat.reduceAdd, false_and, and_false]); (with_reducible first | apply And.intro | intro _ | (refine hK _ ?_; clear hK K)) <;> (repeat' (with_reducible first | apply And.intro | intro _ | (refine hK _ ?_; clear hK K))) <;> (try (clear hK K; first | omega | assumption | ((simp (disch := omega) only [Int.tdiv_eq_ediv_of_nonneg, Int.tmod_eq_emod_of_nonneg]); omega)))) | (with_reducible refine awp_cond (by ((simp (config := { maxSteps := 2000000 }) only [go_sem, ↓gd_tt, ↓gd_tf, ↓gd_ft, ↓gd_ff, ↓reduceIte, reduceCtorEq, Nat.reduceLeDiff, Nat.reduceLT, Nat.reduceBEq, Nat.reduceAdd, false_and, and_false]); rfl)) ?_ ?_ <;> (try simp only [decide_eq_true_eq, decide_eq_false_iff_not, reduceCtorEq, false_implies, true_implies, eq_self, forall_const, Bool.not_eq_true', Bool.not_eq_false', Bool.not_true, Bool.not_false]) <;> (try with_reducible intro _)) | with_reducible refine ends_ret (by ((simp only [go_sem, ↓gd_tt, ↓gd_tf, ↓gd_ft, ↓gd_ff, ↓reduceIte, reduceCtorEq, Nat.reduceLeDiff, Nat.reduceLT, Nat.reduceBEq, Nat.reduceAdd, false_and, and_false, ressO, resO, argsC]); rfl)) ?_)
  · rename_i hp h0
    rw [e hp] at h0 ⊢
    refine round_n ⟨ys.take (ys.length - 1), by rw [trimL_drop ys (by omega) h0, h1], by simp; omega⟩ ?_ ?_
    · ((simp only [FitP, fitSl, fitBox, fitBuf, fitBor, fitAV, fitL, go_sem, ↓gd_tt, ↓gd_tf, ↓gd_ft, ↓gd_ff, ↓reduceIte, reduceCtorEq, Nat.reduceLeDiff, Nat.reduceLT, Nat.reduceBEq, Nat.reduceAdd, false_and, and_false]) <;> (try (simp; done)) <;> (try ((simp only [C.i.injEq, C.b.injEq, C.ints.injEq, C.bools.injEq, List.append_cancel_left_eq, List.cons.injEq, true_and, and_true]); (repeat' with_reducible apply And.intro) <;> (first | rfl | assumption | omega | (simp; omega) | (congr 1; omega) | (congr 2; omega)))))
    · show (ys.take (ys.length - 1)).length < ys.length
      simp; omega
  · rename_i hp h0
    rw [e hp] at h0
    exact tells_eq (by rw [← h1, trimL_stop ys (.inr h0)]; rfl)
  · exact tells_eq (by rw [← h1, trimL_stop ys (.inl (by omega))]; rfl)

set_option maxHeartbeats 400000 in
theorem trim_cut (xs : List Int) (hx : xs.length ≤ 140737488355328) : RetC Try.prog 113 73 (.ints .u32 xs) (.ints .u32 (trimL xs)) := by
  refine ret_cut (k := (trimL xs).length) Try.func113 rfl (Nat.le_of_ble_eq_true rfl) rfl (fun rs hr => ?_) (fun F => ?_)
  · simp only [C.rows, C.z, Option.some.injEq, Prod.mk.injEq, true_and] at hr ⊢
    rw [← hr, ← List.map_take, ← trimL_take]
  simp only [Try.ntmps113, Try.results113]
  repeat' (first | (with_reducible first | refine awp_seq ?_ | refine then_n ?_ | refine then_ret ?_ | refine then_exit ?_ | refine awp_block ?_ | refine awp_skip ?_ | refine awp_exit ?_ | refine awp_ret ?_ | refine inb_n ?_ | refine inb_ret ?_ | refine inb_same ?_ | refine inb_other (by decide) ?_ | refine round_ret ?_ | refine round_exit ?_ | refine join_ret ?_ | refine join_exit ?_) | ((first | with_reducible refine awp_region cf0_ok (fun K hK => ?_) | with_reducible refine awp_region_draw cf0_ok mixed (by kernel_rfl) (fun K hK => ?_)); (simp (config := { maxSteps := 2000000 }) only [go_sem, ↓gd_tt, ↓gd_tf, ↓gd_ft, ↓gd_ff, ↓reduceIte, reduceCtorEq, Nat.reduceLeDiff, Nat.reduceLT, Nat.reduceBEq, Nat.reduceAdd, false_and, and_false]); (with_reducible first | apply And.intro | intro _ | (refine hK _ ?_; clear hK K)) <;> (repeat' (with_reducible first | apply And.intro | intro _ | (refine hK _ ?_; clear hK K))) <;> (try (clear hK K; first | omega | assumption | ((simp (disch := omega) only [Int.tdiv_eq_ediv_of_nonneg, Int.tmod_eq_emod_of_nonneg]); omega)))) | (with_reducible refine awp_cond (by ((simp (config := { maxSteps := 2000000 }) only [go_sem, ↓gd_tt, ↓gd_tf, ↓gd_ft, ↓gd_ff, ↓reduceIte, reduceCtorEq, Nat.reduceLeDiff, Nat.reduceLT, Nat.reduceBEq, Nat.reduceAdd, false_and, and_false]); rfl)) ?_ ?_ <;> (try simp only [decide_eq_true_eq, decide_eq_false_iff_not, reduceCtorEq, false_implies, true_implies, eq_self, forall_const, Bool.not_eq_true', Bool.not_eq_false', Bool.not_true, Bool.not_false]) <;> (try with_reducible intro _)) | with_reducible refine endsC_ret rfl (by ((simp (config := { maxSteps := 2000000 }) only [go_sem, ↓gd_tt, ↓gd_tf, ↓gd_ft, ↓gd_ff, ↓reduceIte, reduceCtorEq, Nat.reduceLeDiff, Nat.reduceLT, Nat.reduceBEq, Nat.reduceAdd, false_and, and_false]); rfl)) (by first | ((simp (config := { maxSteps := 2000000 }) only [go_sem, ↓gd_tt, ↓gd_tf, ↓gd_ft, ↓gd_ff, ↓reduceIte, reduceCtorEq, Nat.reduceLeDiff, Nat.reduceLT, Nat.reduceBEq, Nat.reduceAdd, false_and, and_false]); done) | ((simp (config := { maxSteps := 2000000 }) only [go_sem, ↓gd_tt, ↓gd_tf, ↓gd_ft, ↓gd_ff, ↓reduceIte, reduceCtorEq, Nat.reduceLeDiff, Nat.reduceLT, Nat.reduceBEq, Nat.reduceAdd, false_and, and_false]); rfl)) rfl rfl rfl ?_)
  refine loop_of (ι := { k : Nat // k ≤ xs.length ∧ trimL (xs.take k) = trimL xs }) (fun k => ⟨21, [(0, .bw 0 0 k.1)], ⟨[], [], [(0, ⟨73, .ints .u32 xs⟩)]⟩, 0⟩) (fun k => k.1) ⟨xs.length, Nat.le_refl _, by rw [List.take_length]⟩ ?_ ?_
  · ((simp only [FitP, fitSl, fitBox, fitBuf, fitBor, fitAV, fitL, go_sem, ↓gd_tt, ↓gd_tf, ↓gd_ft, ↓gd_ff, ↓reduceIte, reduceCtorEq, Nat.reduceLeDiff, Nat.reduceLT, Nat.reduceBEq, Nat.reduceAdd, false_and, and_false]) <;> (try (simp; done)) <;> (try ((simp only [C.i.injEq, C.b.injEq, C.ints.injEq, C.bools.injEq, List.append_cancel_left_eq, List.cons.injEq, true_and, and_true]); (repeat' with_reducible apply And.intro) <;> (first | rfl | assumption | omega | (simp; omega) | (congr 1; omega) | (congr 2; omega)))))
  rintro ⟨k, h1, h2⟩
  have e : 0 < (k : Int) → ((k : Int) - 1).toNat = k - 1 := fun _ => by omega
  have e2 : 0 < k → (xs.take k).getD ((xs.take k).length - 1) 0 = xs.getD (k - 1) 0 := fun h => by
    simp only [List.length_take, Nat.min_eq_left h1, List.getD_eq_getElem?_getD, List.getElem?_take]
    rw [if_pos (by omega)]
  have e3 : (xs.take k).length = k := by simp; omega
  repeat' (first | (with_reducible first | refine awp_seq ?_ | refine then_n ?_ | refine then_ret ?_ | refine then_exit ?_ | refine awp_block ?_ | refine awp_skip ?_ | refine awp_exit ?_ | refine awp_ret ?_ | refine inb_n ?_ | refine inb_ret ?_ | refine inb_same ?_ | refine inb_other (by decide) ?_ | refine round_ret ?_ | refine round_exit ?_ | refine join_ret ?_ | refine join_exit ?_) | ((first | with_reducible refine awp_region cf0_ok (fun K hK => ?_) | with_reducible refine awp_region_draw cf0_ok mixed (by kernel_rfl) (fun K hK => ?_)); (simp (config := { maxSteps := 2000000 }) only [go_sem, ↓gd_tt, ↓gd_tf, ↓gd_ft, ↓gd_ff, ↓reduceIte, reduceCtorEq, Nat.reduceLeDiff, Nat.reduceLT, Nat.reduceBEq, Nat.reduceAdd, false_and, and_false]); (with_reducible first | apply And.intro | intro _ | (refine hK _ ?_; clear hK K)) <;> (repeat' (with_reducible first | apply And.intro | intro _ | (refine hK _ ?_; clear hK K))) <;> (try (clear hK K; first | omega | assumption | ((simp (disch := omega) only [Int.tdiv_eq_ediv_of_nonneg, Int.tmod_eq_emod_of_nonneg]); omega)))) | (with_reducible refine awp_cond (by ((simp (config := { maxSteps := 2000000 }) only [go_sem, ↓gd_tt, ↓gd_tf, ↓gd_ft, ↓gd_ff, ↓reduceIte, reduceCtorEq, Nat.reduceLeDiff, Nat.reduceLT, Nat.reduceBEq, Nat.reduceAdd, false_and, and_false]); rfl)) ?_ ?_ <;> (try simp only [decide_eq_true_eq, decide_eq_false_iff_not, reduceCtorEq, false_implies, true_implies, eq_self, forall_const, Bool.not_eq_true', Bool.not_eq_false', Bool.not_true, Bool.not_false]) <;> (try with_reducible intro _)) | with_reducible refine endsC_ret rfl (by ((simp (config := { maxSteps := 2000000 }) only [go_sem, ↓gd_tt, ↓gd_tf, ↓gd_ft, ↓gd_ff, ↓reduceIte, reduceCtorEq, Nat.reduceLeDiff, Nat.reduceLT, Nat.reduceBEq, Nat.reduceAdd, false_and, and_false]); rfl)) (by first | ((simp (config := { maxSteps := 2000000 }) only [go_sem, ↓gd_tt, ↓gd_tf, ↓gd_ft, ↓gd_ff, ↓reduceIte, reduceCtorEq, Nat.reduceLeDiff, Nat.reduceLT, Nat.reduceBEq, Nat.reduceAdd, false_and, and_false]); done) | ((simp (config := { maxSteps := 2000000 }) only [go_sem, ↓gd_tt, ↓gd_tf, ↓gd_ft, ↓gd_ff, ↓reduceIte, reduceCtorEq, Nat.reduceLeDiff, Nat.reduceLT, Nat.reduceBEq, Nat.reduceAdd, false_and, and_false]); rfl)) rfl rfl rfl ?_)
  · rename_i hp h0
    rw [e hp] at h0 ⊢
    refine round_n ⟨k - 1, by omega, ?_⟩ ?_ ?_
    · have := trimL_drop (xs.take k) (by omega) (by rw [e2 (by omega)]; exact h0)
      rw [e3, List.take_take, Nat.min_eq_left (by omega)] at this
      rw [this, h2]
    · ((simp only [FitP, fitSl, fitBox, fitBuf, fitBor, fitAV, fitL, go_sem, ↓gd_tt, ↓gd_tf, ↓gd_ft, ↓gd_ff, ↓reduceIte, reduceCtorEq, Nat.reduceLeDiff, Nat.reduceLT, Nat.reduceBEq, Nat.reduceAdd, false_and, and_false]) <;> (try (simp; done)) <;> (try ((simp only [C.i.injEq, C.b.injEq, C.ints.injEq, C.bools.injEq, List.append_cancel_left_eq, List.cons.injEq, true_and, and_true]); (repeat' with_reducible apply And.intro) <;> (first | rfl | assumption | omega | (simp; omega) | (congr 1; omega) | (congr 2; omega)))))
    · show k - 1 < k
      omega
  · rename_i hp h0
    rw [e hp] at h0
    rw [← h2, trimL_stop (xs.take k) (.inr (by rw [e2 (by omega)]; exact h0)), e3]
  · rw [← h2, trimL_stop (xs.take k) (.inl (by omega)), e3]

def trimCT : CT := mkCTC [.inl (some (.ints .u32 []))] false 73 (fun c K => match c with
  | .ints .u32 xs => xs.length ≤ 140737488355328 ∧ K (.ints .u32 (trimL xs))
  | _ => False) fun l K => match l with
  | [.inl (.ints .u32 xs)] => xs.length ≤ 140737488355328 ∧ K (.c (.ints .u32 (trimL xs)))
  | _ => False
def cf3 : Cfg := addT 113 trimCT cf2
theorem cf3_ok : TblOk Try.prog cf3 := mkCTC_ok cf2_ok (enters_of Try.func113 (by kernel_rfl) (by kernel_rfl)) rfl (fun c K h => by
  split at h
  · exact ⟨_, trim_cut _ h.1, h.2⟩
  · exact h.elim) fun l K h => by
  split at h
  · exact ⟨_, trim_ret _ h.1, h.2⟩
  · exact h.elim
attribute [go_sem] cf3 trimCT

/-- a natural number -/
def okN (xs : List Int) : Bool := decide (xs.length ≤ 600 ∧ Trd xs)

theorem okN_iff (xs : List Int) (b : Bool) (h : b = true ↔ ((xs.length : Int) ≤ 600 ∧ ((xs.length : Int) = 0 ∨ xs.getD ((xs.length : Int) - 1).toNat 0 ≠ 0))) : b = okN xs := by
  have e : ((xs.length : Int) - 1).toNat = xs.length - 1 := by omega
  have h2 : okN xs = true ↔ (xs.length ≤ 600 ∧ Trd xs) := by simp [okN]
  rw [Bool.eq_iff_iff, h, e, h2]
  unfold Trd
  exact and_congr (by omega) (or_congr (by omega) Iff.rfl)

set_option maxHeartbeats 400000 in
theorem valid_ret (xs : List Int) (hx : xs.length ≤ 140737488355328) : Ret Try.prog 109 false [.inl (.ints .u32 xs)] (.c (.b (okN xs))) := by
  (refine ret_eq Try.func109 rfl (Nat.le_of_ble_eq_true rfl) (fun F => ?_); simp only [argSl, ofSum, Try.ntmps109, Try.results109])
  repeat' (first | (with_reducible first | refine awp_seq ?_ | refine then_n ?_ | refine then_ret ?_ | refine then_exit ?_ | refine awp_block ?_ | refine awp_skip ?_ | refine awp_exit ?_ | refine awp_ret ?_ | refine inb_n ?_ | refine inb_ret ?_ | refine inb_same ?_ | refine inb_other (by decide) ?_ | refine round_ret ?_ | refine round_exit ?_ | refine join_ret ?_ | refine join_exit ?_) | ((first | with_reducible refine awp_region cf0_ok (fun K hK => ?_) | with_reducible refine awp_region_draw cf0_ok mixed (by kernel_rfl) (fun K hK => ?_)); (simp (config := { maxSteps := 2000000 }) only [go_sem, ↓gd_tt, ↓gd_tf, ↓gd_ft, ↓gd_ff, ↓reduceIte, reduceCtorEq, Nat.reduceLeDiff, Nat.reduceLT, Nat.reduceBEq, Nat.reduceAdd, false_and, and_false]); (with_reducible first | apply And.intro | intro _ | (refine hK _ ?_; clear hK K)) <;> (repeat' (with_reducible first | apply And.intro | intro _ | (refine hK _ ?_; clear hK K))) <;> (try (clear hK K; first | omega | assumption | ((simp (disch := omega) only [Int.tdiv_eq_ediv_of_nonneg, Int.tmod_eq_emod_of_nonneg]); omega)))) | (with_reducible refine awp_cond (by ((simp (config := { maxSteps := 2000000 }) only [go_sem, ↓gd_tt, ↓gd_tf, ↓gd_ft, ↓gd_ff, ↓reduceIte, reduceCtorEq, Nat.reduceLeDiff, Nat.reduceLT, Nat.reduceBEq, Nat.reduceAdd, false_and, and_false]); rfl)) ?_ ?_ <;> (try simp only [decide_eq_true_eq, decide_eq_false_iff_not, reduceCtorEq, false_implies, true_implies, eq_self, forall_const, Bool.not_eq_true', Bool.not_eq_false', Bool.not_true, Bool.not_false]) <;> (try with_reducible intro _)) | with_reducible refine ends_ret (by ((simp only [go_sem, ↓gd_tt, ↓gd_tf, ↓gd_ft, ↓gd_ff, ↓reduceIte, reduceCtorEq, Nat.reduceLeDiff, Nat.reduceLT, Nat.reduceBEq, Nat.reduceAdd, false_and, and_false, ressO, resO, argsC]); rfl)) ?_)
  all_goals refine tells_eq ?_
  all_goals simp only [resAV, ofSum, AV.c.injEq, C.b.injEq]
  all_goals refine okN_iff xs _ ?_
  all_goals first | (simp_all; done) | (simp_all; intro _; omega)

def okCT : CT := mkCT [.inl (some (.ints .u32 []))] true fun l K => match l with
  | [.inl (.ints .u32 xs)] => xs.length ≤ 140737488355328 ∧ K (.c (.b (okN xs)))
  | _ => False
def cf4 : Cfg := addT 109 okCT cf3
theorem cf4_ok : TblOk Try.prog cf4 := mkCT_ok cf3_ok (enters_of Try.func109 (by kernel_rfl) (by kernel_rfl)) rfl fun l K h => by
  split at h
  · exact ⟨_, (valid_ret _ h.1).plain rfl, h.2⟩
  · exact h.elim
def cf5 : Cfg := cf4
theorem cf5_ok : TblOk Try.prog cf5 := cf4_ok
attribute [go_sem] cf4 cf5 okCT

/-- the fault of two natural numbers -/
def chkC (xs ys : List Int) : Int := if okN xs && okN ys then 0 else 6
def chkI (xs ys : List Int) : Int := if okN xs then (if okN ys then 0 else -2) else -1

set_option maxHeartbeats 400000 in
theorem check_ret (xs ys : List Int) (hx : xs.length ≤ 140737488355328) (hy : ys.length ≤ 140737488355328) : Ret Try.prog 99 false [.inl (.ints .u32 xs), .inl (.ints .u32 ys)] (.g [.i .i64 (chkC xs ys), .i .i64 (chkI xs ys)]) := by
  (refine ret_eq Try.func99 rfl (Nat.le_of_ble_eq_true rfl) (fun F => ?_); simp only [argSl, ofSum, Try.ntmps99, Try.results99])
  repeat' (first | (with_reducible first | refine awp_seq ?_ | refine then_n ?_ | refine then_ret ?_ | refine then_exit ?_ | refine awp_block ?_ | refine awp_skip ?_ | refine awp_exit ?_ | refine awp_ret ?_ | refine inb_n ?_ | refine inb_ret ?_ | refine inb_same ?_ | refine inb_other (by decide) ?_ | refine round_ret ?_ | refine round_exit ?_ | refine join_ret ?_ | refine join_exit ?_) | ((first | with_reducible refine awp_region cf5_ok (fun K hK => ?_) | with_reducible refine awp_region_draw cf5_ok mixed (by kernel_rfl) (fun K hK => ?_)); (simp (config := { maxSteps := 2000000 }) only [go_sem, ↓gd_tt, ↓gd_tf, ↓gd_ft, ↓gd_ff, ↓reduceIte, reduceCtorEq, Nat.reduceLeDiff, Nat.reduceLT, Nat.reduceBEq, Nat.reduceAdd, false_and, and_false]); (with_reducible first | apply And.intro | intro _ | (refine hK _ ?_; clear hK K)) <;> (repeat' (with_reducible first | apply And.intro | intro _ | (refine hK _ ?_; clear hK K))) <;> (try (clear hK K; first | omega | assumption | ((simp (disch := omega) only [Int.tdiv_eq_ediv_of_nonneg, Int.tmod_eq_emod_of_nonneg]); omega)))) | (with_reducible refine awp_cond (by ((simp (config := { maxSteps := 2000000 }) only [go_sem, ↓gd_tt, ↓gd_tf, ↓gd_ft, ↓gd_ff, ↓reduceIte, reduceCtorEq, Nat.reduceLeDiff, Nat.reduceLT, Nat.reduceBEq, Nat.reduceAdd, false_and, and_false]); rfl)) ?_ ?_ <;> (try simp only [decide_eq_true_eq, decide_eq_false_iff_not, reduceCtorEq, false_implies, true_implies, eq_self, forall_const, Bool.not_eq_true', Bool.not_eq_false', Bool.not_true, Bool.not_false]) <;> (try with_reducible intro _)) | with_reducible refine ends_ret (by ((simp only [go_sem, ↓gd_tt, ↓gd_tf, ↓gd_ft, ↓gd_ff, ↓reduceIte, reduceCtorEq, Nat.reduceLeDiff, Nat.reduceLT, Nat.reduceBEq, Nat.reduceAdd, false_and, and_false, ressO, resO, argsC]); rfl)) ?_)
  all_goals refine tells_eq ?_
  all_goals simp_all [resAV, ofSum, chkC, chkI]
def checkCT : CT := mkCT [.inl (some (.ints .u32 [])), .inl (some (.ints .u32 []))] true fun l K => match l with
  | [.inl (.ints .u32 xs), .inl (.ints .u32 ys)] => (xs.length ≤ 140737488355328 ∧ ys.length ≤ 140737488355328) ∧ K (.g [.i .i64 (chkC xs ys), .i .i64 (chkI xs ys)])
  | _ => False
def cf6 : Cfg := addT 99 checkCT cf5
theorem cf6_ok : TblOk Try.prog cf6 := mkCT_ok cf5_ok (enters_of Try.func99 (by kernel_rfl) (by kernel_rfl)) rfl fun l K h => by
  split at h
  · exact ⟨_, (check_ret _ _ h.1.1 h.1.2).plain rfl, h.2⟩
  · exact h.elim
attribute [go_sem] cf6 checkCT

/-- a number, unless it is too great -/
def fitN (xs : List Int) : List Int := if (trimL xs).length ≤ 600 then trimL xs else []
def fitC (xs : List Int) : Int := if (trimL xs).length ≤ 600 then 0 else 14
def fitI (xs : List Int) : Int := if (trimL xs).length ≤ 600 then 0 else -1

set_option maxHeartbeats 400000 in
theorem fit_ret (xs : List Int) (hx : xs.length ≤ 140737488355328) : Ret Try.prog 102 false [.inl (.ints .u32 xs)] (.t [.inl (.ints .u32 (fitN xs)), .inr [.i .i64 (fitC xs), .i .i64 (fitI xs)]]) := by
  (refine ret_eq Try.func102 rfl (Nat.le_of_ble_eq_true rfl) (fun F => ?_); simp only [argSl, ofSum, Try.ntmps102, Try.results102])
  repeat' (first | (with_reducible first | refine awp_seq ?_ | refine then_n ?_ | refine then_ret ?_ | refine then_exit ?_ | refine awp_block ?_ | refine awp_skip ?_ | refine awp_exit ?_ | refine awp_ret ?_ | refine inb_n ?_ | refine inb_ret ?_ | refine inb_same ?_ | refine inb_other (by decide) ?_ | refine round_ret ?_ | refine round_exit ?_ | refine join_ret ?_ | refine join_exit ?_) | ((first | with_reducible refine awp_region cf6_ok (fun K hK => ?_) | with_reducible refine awp_region_draw cf6_ok mixed (by kernel_rfl) (fun K hK => ?_)); (simp (config := { maxSteps := 2000000 }) only [go_sem, ↓gd_tt, ↓gd_tf, ↓gd_ft, ↓gd_ff, ↓reduceIte, reduceCtorEq, Nat.reduceLeDiff, Nat.reduceLT, Nat.reduceBEq, Nat.reduceAdd, false_and, and_false]); (with_reducible first | apply And.intro | intro _ | (refine hK _ ?_; clear hK K)) <;> (repeat' (with_reducible first | apply And.intro | intro _ | (refine hK _ ?_; clear hK K))) <;> (try (clear hK K; first | omega | assumption | ((simp (disch := omega) only [Int.tdiv_eq_ediv_of_nonneg, Int.tmod_eq_emod_of_nonneg]); omega)))) | (with_reducible refine awp_cond (by ((simp (config := { maxSteps := 2000000 }) only [go_sem, ↓gd_tt, ↓gd_tf, ↓gd_ft, ↓gd_ff, ↓reduceIte, reduceCtorEq, Nat.reduceLeDiff, Nat.reduceLT, Nat.reduceBEq, Nat.reduceAdd, false_and, and_false]); rfl)) ?_ ?_ <;> (try simp only [decide_eq_true_eq, decide_eq_false_iff_not, reduceCtorEq, false_implies, true_implies, eq_self, forall_const, Bool.not_eq_true', Bool.not_eq_false', Bool.not_true, Bool.not_false]) <;> (try with_reducible intro _)) | with_reducible refine ends_ret (by ((simp only [go_sem, ↓gd_tt, ↓gd_tf, ↓gd_ft, ↓gd_ff, ↓reduceIte, reduceCtorEq, Nat.reduceLeDiff, Nat.reduceLT, Nat.reduceBEq, Nat.reduceAdd, false_and, and_false, ressO, resO, argsC]); rfl)) ?_)
  · exact tells_n [.inl (some (.ints .u32 []))] rfl (by simp [resAV, norm, nz, fitN, fitC, fitI]; omega)
  · exact tells_eq (by simp [resAV, fitN, fitC, fitI]; omega)

def fitCT : CT := mkCT [.inl (some (.ints .u32 []))] false fun l K => match l with
  | [.inl (.ints .u32 xs)] => xs.length ≤ 140737488355328 ∧ K (.t [.inl (.ints .u32 (fitN xs)), .inr [.i .i64 (fitC xs), .i .i64 (fitI xs)]])
  | _ => False
def cf8 : Cfg := addT 102 fitCT cf6
theorem cf8_ok : TblOk Try.prog cf8 := mkCT_ok cf6_ok (enters_of Try.func102 (by kernel_rfl) (by kernel_rfl)) rfl fun l K h => by
  split at h
  · exact ⟨_, fit_ret _ h.1, h.2⟩
  · exact h.elim
attribute [go_sem] cf8 fitCT

end Go.Proofs.Ythfgapbcdhajiaa
