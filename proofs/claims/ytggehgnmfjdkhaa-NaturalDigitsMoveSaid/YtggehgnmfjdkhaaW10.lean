/- The examples; a result held against what is specified: contracts of the law's own functions. -/
import Derived.Test.YtggehgnmfjdkhaaW9
namespace Go.Proofs.Ytggehgnmfjdkhaa
set_option linter.unusedSimpArgs false
set_option linter.unusedVariables false
open Go.Abs Go.Proofs.NatL
attribute [go_sem] decide_true decide_false

set_option maxRecDepth 100000 in
set_option maxHeartbeats 400000 in
/-- the examples -/
theorem sums_ret : Ret Try.prog 11 false [] (.c (.b true)) := by
  (refine ret_eq Try.func11 rfl (Nat.le_of_ble_eq_true rfl) (fun F => ?_); simp only [argSl, ofSum, Try.ntmps11, Try.results11])
  repeat' (first | (with_reducible first | refine awp_seq ?_ | refine then_n ?_ | refine then_ret ?_ | refine then_exit ?_ | refine awp_block ?_ | refine awp_skip ?_ | refine awp_exit ?_ | refine awp_ret ?_ | refine inb_n ?_ | refine inb_ret ?_ | refine inb_same ?_ | refine inb_other (by decide) ?_ | refine round_ret ?_ | refine round_exit ?_ | refine join_ret ?_ | refine join_exit ?_) | ((first | with_reducible refine awp_region cg6_ok (fun K hK => ?_) | with_reducible refine awp_region_draw cg6_ok mixed (by kernel_rfl) (fun K hK => ?_)); (simp (config := { maxSteps := 2000000 }) only [go_sem, ↓gd_tt, ↓gd_tf, ↓gd_ft, ↓gd_ff, ↓reduceIte, reduceCtorEq, Nat.reduceLeDiff, Nat.reduceLT, Nat.reduceBEq, Nat.reduceAdd, false_and, and_false]); (with_reducible first | apply And.intro | intro _ | (refine hK _ ?_; clear hK K)) <;> (repeat' (with_reducible first | apply And.intro | intro _ | (refine hK _ ?_; clear hK K))) <;> (try (clear hK K; first | omega | assumption | ((simp (disch := omega) only [Int.tdiv_eq_ediv_of_nonneg, Int.tmod_eq_emod_of_nonneg]); omega)))) | (with_reducible refine awp_cond (by ((simp (config := { maxSteps := 2000000 }) only [go_sem, ↓gd_tt, ↓gd_tf, ↓gd_ft, ↓gd_ff, ↓reduceIte, reduceCtorEq, Nat.reduceLeDiff, Nat.reduceLT, Nat.reduceBEq, Nat.reduceAdd, false_and, and_false]); rfl)) ?_ ?_ <;> (try simp only [decide_eq_true_eq, decide_eq_false_iff_not, reduceCtorEq, false_implies, true_implies, eq_self, forall_const, Bool.not_eq_true', Bool.not_eq_false', Bool.not_true, Bool.not_false]) <;> (try with_reducible intro _)) | with_reducible refine ends_ret (by ((simp only [go_sem, ↓gd_tt, ↓gd_tf, ↓gd_ft, ↓gd_ff, ↓reduceIte, reduceCtorEq, Nat.reduceLeDiff, Nat.reduceLT, Nat.reduceBEq, Nat.reduceAdd, false_and, and_false, ressO, resO, argsC]); rfl)) ?_)
  exact tells_eq (by simp only [resAV, ofSum])
def sumsCT : CT := mkCT [] true fun l K => match l with
  | [] => K (.c (.b true))
  | _ => False
def ch0 : Cfg := addT 11 sumsCT cf8
theorem ch0_ok : TblOk Try.prog ch0 := mkCT_ok cf8_ok (enters_of Try.func11 (by kernel_rfl) (by kernel_rfl)) rfl fun l K h => by
  split at h
  · exact ⟨_, sums_ret.plain rfl, h⟩
  · exact h.elim
attribute [go_sem] ch0 sumsCT

def limbsCT : CT := mkCT [.inl (some (.ints .i64 []))] false fun l K => match l with
  | [.inl (.ints .i64 xs)] => (xs.length ≤ 4194304 ∧ InB 65536 xs ∧ Trd xs) ∧ K (.c (.ints .u32 (dg 4294967296 (V 65536 xs))))
  | _ => False
def ch1 : Cfg := addT 14 limbsCT ch0
theorem ch1_ok : TblOk Try.prog ch1 := mkCT_ok ch0_ok (enters_of Try.func14 (by kernel_rfl) (by kernel_rfl)) rfl fun l K h => by
  split at h
  · exact ⟨_, limbs_ret _ h.1.1 h.1.2.1 h.1.2.2, h.2⟩
  · exact h.elim
def ch2 : Cfg := addT 13 sameCT ch1
theorem ch2_ok : TblOk Try.prog ch2 := mkCT_ok ch1_ok (enters_of Try.func13 (by kernel_rfl) (by kernel_rfl)) rfl fun l K h => by
  split at h
  · exact ⟨_, (sameLimbs_ret _ _ h.1.1 h.1.2).plain rfl, h.2⟩
  · exact h.elim
attribute [go_sem] ch1 limbsCT ch2

theorem dg_len_iff {B : Nat} (hB : 2 ≤ B) (n k : Nat) : (dg B n).length ≤ k ↔ n < B ^ k := by
  constructor
  · intro h
    rcases Nat.lt_or_ge n (B ^ k) with h1 | h1
    · exact h1
    · have := dg_len_gt hB n k h1; omega
  · exact dg_len_le hB n k
theorem dg_half (n k : Nat) : (dg 65536 n).length ≤ 2 * k ↔ (dg 4294967296 n).length ≤ k := by
  rw [dg_len_iff (by omega), dg_len_iff (by omega), Nat.pow_mul]
theorem dg_half_le (n k : Nat) (h : (dg 65536 n).length ≤ k) : (dg 4294967296 n).length ≤ k := (dg_half n k).1 (by omega)

/-- what `is` tells of a number -/
def isV (xs : List Int) (c i : Int) (n : Nat) (wc wi : Int) : Bool :=
  if wc = 0 then (if 1200 < (dg 65536 n).length then decide (c = 14 ∧ i = -1 ∧ xs = []) else decide (c = 0 ∧ i = wi ∧ xs = dg 4294967296 n)) else decide (c = wc ∧ i = wi ∧ xs = [])

set_option maxRecDepth 100000 in
set_option maxHeartbeats 800000 in
theorem is_ret (xs : List Int) (c i : Int) (n : Nat) (wc wi : Int) (hx : xs.length ≤ 16777216) (hn : (dg 65536 n).length ≤ 4194304) :
    Ret Try.prog 26 false [.inl (.ints .u32 xs), .inr [.i .i64 c, .i .i64 i], .inl (.ints .i64 (dg 65536 n)), .inr [.i .i64 wc, .i .i64 wi]] (.c (.b (isV xs c i n wc wi))) := by
  have h1 := InB_dg 65536 (by omega) n
  have h2 := dg_trd 65536 (by omega) n
  have h3 := V_dg 65536 (by omega) n
  have h4 : (dg 4294967296 n).length ≤ 16777216 := Nat.le_trans (dg_half_le n _ hn) (by omega)
  (refine ret_eq Try.func26 rfl (Nat.le_of_ble_eq_true rfl) (fun F => ?_); simp only [argSl, ofSum, Try.ntmps26, Try.results26])
  repeat' (first | (with_reducible first | refine awp_seq ?_ | refine then_n ?_ | refine then_ret ?_ | refine then_exit ?_ | refine awp_block ?_ | refine awp_skip ?_ | refine awp_exit ?_ | refine awp_ret ?_ | refine inb_n ?_ | refine inb_ret ?_ | refine inb_same ?_ | refine inb_other (by decide) ?_ | refine round_ret ?_ | refine round_exit ?_ | refine join_ret ?_ | refine join_exit ?_) | ((first | with_reducible refine awp_region ch2_ok (fun K hK => ?_) | with_reducible refine awp_region_draw ch2_ok mixed (by kernel_rfl) (fun K hK => ?_)); (simp (config := { maxSteps := 2000000 }) only [go_sem, ↓gd_tt, ↓gd_tf, ↓gd_ft, ↓gd_ff, ↓reduceIte, reduceCtorEq, Nat.reduceLeDiff, Nat.reduceLT, Nat.reduceBEq, Nat.reduceAdd, false_and, and_false]); (with_reducible first | apply And.intro | intro _ | (refine hK _ ?_; clear hK K)) <;> (repeat' (with_reducible first | apply And.intro | intro _ | (refine hK _ ?_; clear hK K))) <;> (try (clear hK K; first | omega | assumption | ((simp (disch := omega) only [Int.tdiv_eq_ediv_of_nonneg, Int.tmod_eq_emod_of_nonneg]); omega)))) | (with_reducible refine awp_cond (by ((simp (config := { maxSteps := 2000000 }) only [go_sem, ↓gd_tt, ↓gd_tf, ↓gd_ft, ↓gd_ff, ↓reduceIte, reduceCtorEq, Nat.reduceLeDiff, Nat.reduceLT, Nat.reduceBEq, Nat.reduceAdd, false_and, and_false]); rfl)) ?_ ?_ <;> (try simp only [decide_eq_true_eq, decide_eq_false_iff_not, reduceCtorEq, false_implies, true_implies, eq_self, forall_const, Bool.not_eq_true', Bool.not_eq_false', Bool.not_true, Bool.not_false]) <;> (try with_reducible intro _)) | with_reducible refine ends_ret (by ((simp only [go_sem, ↓gd_tt, ↓gd_tf, ↓gd_ft, ↓gd_ff, ↓reduceIte, reduceCtorEq, Nat.reduceLeDiff, Nat.reduceLT, Nat.reduceBEq, Nat.reduceAdd, false_and, and_false, ressO, resO, argsC]); rfl)) ?_)
  all_goals try (rw [h3]; exact h4)
  all_goals try (exfalso; omega)
  all_goals (refine tells_eq ?_; simp only [resAV, ofSum, AV.c.injEq, C.b.injEq, h3]; unfold isV)
  all_goals (simp_all <;> try omega)

def isCT : CT := mkCT [.inl (some (.ints .u32 [])), .inr [none, none], .inl (some (.ints .i64 [])), .inr [none, none]] true fun l K => match l with
  | [.inl (.ints .u32 xs), .inr [.i .i64 c, .i .i64 i], .inl (.ints .i64 ys), .inr [.i .i64 wc, .i .i64 wi]] => (xs.length ≤ 16777216 ∧ ys.length ≤ 4194304 ∧ InB 65536 ys ∧ Trd ys) ∧ K (.c (.b (isV xs c i (V 65536 ys) wc wi)))
  | _ => False
def ch3 : Cfg := addT 26 isCT ch2
theorem ch3_ok : TblOk Try.prog ch3 := mkCT_ok ch2_ok (enters_of Try.func26 (by kernel_rfl) (by kernel_rfl)) rfl fun l K h => by
  split at h
  · rename_i xs c i ys wc wi
    obtain ⟨⟨h1, h2, h3, h4⟩, h⟩ := h
    have e := dg_V 65536 (by omega) ys h3 h4
    have := is_ret xs c i (V 65536 ys) wc wi h1 (by rw [e]; exact h2)
    rw [e] at this
    exact ⟨_, this.plain rfl, h⟩
  · exact h.elim
attribute [go_sem] ch3 isCT

end Go.Proofs.Ytggehgnmfjdkhaa
