/- The law of quotients, rests and greatest common divisors: its walk over the contracts. -/
import Derived.Test.YtggehgnmfjdkhaaW14
import Derived.Test.YtggehgnmfjdkhaaW15
namespace Go.Proofs.Ytggehgnmfjdkhaa
set_option linter.unusedSimpArgs false
set_option linter.unusedVariables false
open Go.Abs Go.Proofs.NatL

def dvBadCT : CT := mkCT [.inl (some (.ints .u32 [])), .inl (some (.ints .u32 []))] false fun l K => match l with
  | [.inl (.ints .u32 xs), .inl (.ints .u32 ys)] => (xs.length ≤ 140737488355328 ∧ ys.length ≤ 140737488355328 ∧ InB 4294967296 xs ∧ InB 4294967296 ys ∧ chkC xs ys ≠ 0) ∧ K (.t [.inl (.ints .u32 []), .inl (.ints .u32 []), .inr [.i .i64 (chkC xs ys), .i .i64 (chkI xs ys)]])
  | _ => False
def ea1 : Cfg := addT 9 dvBadCT rg3
theorem ea1_ok : TblOk Try.prog ea1 := mkCT_ok rg3_ok (enters_of Try.func9 (by kernel_rfl) (by kernel_rfl)) rfl fun l K h => by
  split at h
  · obtain ⟨⟨h1, h2, h3, h4, h5⟩, h⟩ := h
    have := DivMod_ret _ _ h1 h2 h3 h4
    simp only [dvQ, dvR, dvC, dvI, dvE, h5, false_and, decide_false, Bool.false_eq_true, if_false, ne_eq, not_false_eq_true, if_true] at this
    exact ⟨_, this, h⟩
  · exact h.elim
def ea2 : Cfg := addT 10 bad2CT ea1
theorem ea2_ok : TblOk Try.prog ea2 := mkCT_ok ea1_ok (enters_of Try.func10 (by kernel_rfl) (by kernel_rfl)) rfl fun l K h => by
  split at h
  · obtain ⟨⟨h1, h2, h3, h4, h5⟩, h⟩ := h
    have := Gcd_ret _ _ h1 h2 h3 h4
    simp only [gcO, h5, if_false] at this
    exact ⟨_, this, h⟩
  · exact h.elim
def ea3 : Cfg := addT 8 checkCT ea2
theorem ea3_ok : TblOk Try.prog ea3 := mkCT_ok ea2_ok (enters_of Try.func8 (by kernel_rfl) (by kernel_rfl)) rfl fun l K h => by
  split at h
  · exact ⟨_, (pairFault_ret _ _ h.1.1 h.1.2).plain rfl, h.2⟩
  · exact h.elim
attribute [go_sem] ea1 ea2 ea3 dvBadCT

set_option maxRecDepth 100000 in
set_option maxHeartbeats 1000000 in
theorem div_bad (xs ys : List Int) (hx : xs.length ≤ 140737488355328) (hy : ys.length ≤ 140737488355328) (bx : InB 4294967296 xs) (by' : InB 4294967296 ys) (h : chkC xs ys ≠ 0) :
    Ret Try.prog 3 false [.inl (.ints .u32 xs), .inl (.ints .u32 ys)] (.c (.b true)) := by
  (refine ret_eq Try.func3 rfl (Nat.le_of_ble_eq_true rfl) (fun F => ?_); simp only [argSl, ofSum, Try.ntmps3, Try.results3])
  repeat' (first | (first | with_reducible refine awp_seq ?_ | with_reducible refine then_n ?_ | with_reducible refine then_ret ?_ | with_reducible refine then_exit ?_ | with_reducible refine awp_block ?_ | with_reducible refine awp_skip ?_ | with_reducible refine awp_exit ?_ | with_reducible refine awp_ret ?_ | with_reducible refine inb_n ?_ | with_reducible refine inb_ret ?_ | with_reducible refine inb_same ?_ | with_reducible refine inb_other (by decide) ?_ | with_reducible refine round_ret ?_ | with_reducible refine round_exit ?_ | with_reducible refine join_ret ?_ | with_reducible refine join_exit ?_) | ((first | with_reducible refine awp_region ea3_ok (fun K hK => ?_) | with_reducible refine awp_region_draw ea3_ok mixed (by kernel_rfl) (fun K hK => ?_)); (simp (config := { maxSteps := 2000000 }) only [go_sem, ↓gd_tt, ↓gd_tf, ↓gd_ft, ↓gd_ff, ↓reduceIte, reduceCtorEq, Nat.reduceLeDiff, Nat.reduceLT, Nat.reduceBEq, Nat.reduceAdd, false_and, and_false]); (first | with_reducible apply And.intro | (with_reducible intro _; try contradiction) | (with_reducible refine hK _ ?_; clear hK K)) <;> (repeat' (first | with_reducible apply And.intro | (with_reducible intro _; try contradiction) | (with_reducible refine hK _ ?_; clear hK K))) <;> (try (clear hK K; first | omega | assumption | ((simp (disch := omega) only [Int.tdiv_eq_ediv_of_nonneg, Int.tmod_eq_emod_of_nonneg]); omega)))) | (with_reducible refine awp_cond (by ((simp (config := { maxSteps := 2000000 }) only [go_sem, ↓gd_tt, ↓gd_tf, ↓gd_ft, ↓gd_ff, ↓reduceIte, reduceCtorEq, Nat.reduceLeDiff, Nat.reduceLT, Nat.reduceBEq, Nat.reduceAdd, false_and, and_false]); rfl)) ?_ ?_ <;> (try simp only [decide_eq_true_eq, decide_eq_false_iff_not, reduceCtorEq, false_implies, true_implies, eq_self, forall_const, Bool.not_eq_true', Bool.not_eq_false', Bool.not_true, Bool.not_false]) <;> (try (with_reducible intro _; try contradiction))) | with_reducible refine ends_ret (by ((simp only [go_sem, ↓gd_tt, ↓gd_tf, ↓gd_ft, ↓gd_ff, ↓reduceIte, reduceCtorEq, Nat.reduceLeDiff, Nat.reduceLT, Nat.reduceBEq, Nat.reduceAdd, false_and, and_false, ressO, resO, argsC]); rfl)) ?_ | with_reducible refine endsC_ret rfl (by ((simp (config := { maxSteps := 2000000 }) only [go_sem, ↓gd_tt, ↓gd_tf, ↓gd_ft, ↓gd_ff, ↓reduceIte, reduceCtorEq, Nat.reduceLeDiff, Nat.reduceLT, Nat.reduceBEq, Nat.reduceAdd, false_and, and_false]); rfl)) (by first | ((simp (config := { maxSteps := 2000000 }) only [go_sem, ↓gd_tt, ↓gd_tf, ↓gd_ft, ↓gd_ff, ↓reduceIte, reduceCtorEq, Nat.reduceLeDiff, Nat.reduceLT, Nat.reduceBEq, Nat.reduceAdd, false_and, and_false]); done) | ((simp (config := { maxSteps := 2000000 }) only [go_sem, ↓gd_tt, ↓gd_tf, ↓gd_ft, ↓gd_ff, ↓reduceIte, reduceCtorEq, Nat.reduceLeDiff, Nat.reduceLT, Nat.reduceBEq, Nat.reduceAdd, false_and, and_false]); rfl)) rfl rfl rfl ?_ | with_reducible refine endsW_ret (by ((simp only [go_sem, ↓gd_tt, ↓gd_tf, ↓gd_ft, ↓gd_ff, ↓reduceIte, reduceCtorEq, Nat.reduceLeDiff, Nat.reduceLT, Nat.reduceBEq, Nat.reduceAdd, false_and, and_false, ressO, resO, argsC]); rfl)) (by ((simp (config := { maxSteps := 2000000 }) only [go_sem, ↓gd_tt, ↓gd_tf, ↓gd_ft, ↓gd_ff, ↓reduceIte, reduceCtorEq, Nat.reduceLeDiff, Nat.reduceLT, Nat.reduceBEq, Nat.reduceAdd, false_and, and_false]); rfl)) rfl rfl rfl ?_ ?_)
  all_goals (first | contradiction | exact tells_eq rfl | (exfalso; simp_all; done))

/-! ### two numbers -/
def dvGoodCT : CT := mkCT [.inl (some (.ints .u32 [])), .inl (some (.ints .u32 []))] false fun l K => match l with
  | [.inl (.ints .u32 xs), .inl (.ints .u32 ys)] => (okN xs = true ∧ okN ys = true ∧ InB 4294967296 xs ∧ InB 4294967296 ys ∧ 0 < V 4294967296 ys) ∧ K (.t [.inl (.ints .u32 (dg 4294967296 (V 4294967296 xs / V 4294967296 ys))), .inl (.ints .u32 (dg 4294967296 (V 4294967296 xs % V 4294967296 ys))), .inr [.i .i64 0, .i .i64 0]])
  | _ => False
def dvZeroCT : CT := mkCT [.inl (some (.ints .u32 [])), .inl (some (.ints .u32 []))] false fun l K => match l with
  | [.inl (.ints .u32 xs), .inl (.ints .u32 ys)] => (okN xs = true ∧ InB 4294967296 xs ∧ ys = []) ∧ K (.t [.inl (.ints .u32 []), .inl (.ints .u32 []), .inr [.i .i64 22, .i .i64 (-2)]])
  | _ => False
def gcGoodCT : CT := mkCT [.inl (some (.ints .u32 [])), .inl (some (.ints .u32 []))] false fun l K => match l with
  | [.inl (.ints .u32 xs), .inl (.ints .u32 ys)] => (okN xs = true ∧ okN ys = true ∧ InB 4294967296 xs ∧ InB 4294967296 ys) ∧ K (.t [.inl (.ints .u32 (dg 4294967296 (Nat.gcd (V 4294967296 xs) (V 4294967296 ys)))), .inr [.i .i64 0, .i .i64 0]])
  | _ => False
def eb1 : Cfg := addT 10 gcGoodCT rg3
theorem eb1_ok : TblOk Try.prog eb1 := mkCT_ok rg3_ok (enters_of Try.func10 (by kernel_rfl) (by kernel_rfl)) rfl fun l K h => by
  split at h
  · obtain ⟨⟨h1, h2, h3, h4⟩, h⟩ := h
    have := Gcd_ret _ _ (okN_LB h1) (okN_LB h2) h3 h4
    simp only [gcO, (chkC_zero h1 h2).1, (chkC_zero h1 h2).2, if_true] at this
    exact ⟨_, this, h⟩
  · exact h.elim
def eb2 : Cfg := addT 9 dvGoodCT eb1
theorem eb2_ok : TblOk Try.prog eb2 := mkCT_ok eb1_ok (enters_of Try.func9 (by kernel_rfl) (by kernel_rfl)) rfl fun l K h => by
  split at h
  · rename_i xs ys
    obtain ⟨⟨h1, h2, h3, h4, h5⟩, h⟩ := h
    have := DivMod_ret _ _ (okN_LB h1) (okN_LB h2) h3 h4
    have hn : ys ≠ [] := fun e => by subst e; simp [V] at h5
    simp only [dvQ, dvR, dvC, dvI, dvE, (chkC_zero h1 h2).1, hn, ne_eq, not_true_eq_false, not_false_eq_true, and_self, decide_true, if_true, if_false] at this
    exact ⟨_, this, h⟩
  · exact h.elim
def eb3 : Cfg := addT 9 dvZeroCT eb1
theorem eb3_ok : TblOk Try.prog eb3 := mkCT_ok eb1_ok (enters_of Try.func9 (by kernel_rfl) (by kernel_rfl)) rfl fun l K h => by
  split at h
  · rename_i xs ys
    obtain ⟨⟨h1, h2, rfl⟩, h⟩ := h
    have h0 : okN [] = true := by decide
    have := DivMod_ret xs [] (okN_LB h1) (by simp) h2 (InB_nil _)
    simp only [dvQ, dvR, dvC, dvI, dvE, (chkC_zero h1 h0).1, ne_eq, not_true_eq_false, and_false, decide_false, Bool.false_eq_true, if_true, if_false] at this
    exact ⟨_, this, h⟩
  · exact h.elim
attribute [go_sem] eb1 eb2 eb3 dvGoodCT dvZeroCT gcGoodCT

theorem okN_dg {n k : Nat} (h : (dg 4294967296 n).length ≤ k) (hk : k ≤ 600) : okN (dg 4294967296 n) = true := by
  unfold okN; exact decide_eq_true ⟨by omega, dg_trd 4294967296 (by omega) n⟩
theorem dg_small {a b : Nat} (h : a ≤ b) : (dg 4294967296 a).length ≤ (dg 4294967296 b).length := dg_len_mono (by omega) h

set_option maxRecDepth 100000 in
set_option maxHeartbeats 1000000 in
theorem div_zero (xs : List Int) (bx : InB 4294967296 xs) (ox : okN xs = true) :
    Ret Try.prog 3 false [.inl (.ints .u32 xs), .inl (.ints .u32 [])] (.c (.b true)) := by
  obtain ⟨lx, tx⟩ := okN_parts ox
  have oy : okN [] = true := by decide
  have px := of_len lx bx
  have vx := dg_V 4294967296 (by omega) xs bx tx
  have gl : (dg 4294967296 (Nat.gcd (V 4294967296 xs) 0)).length ≤ 600 := by rw [Nat.gcd_zero_right, vx]; exact lx
  have gl2 : (dg 65536 (Nat.gcd (V 4294967296 xs) 0)).length ≤ 1200 := by rw [Nat.gcd_zero_right]; exact px
  have z0 : (dg 65536 0).length = 0 := rfl
  (refine ret_eq Try.func3 rfl (Nat.le_of_ble_eq_true rfl) (fun F => ?_); simp only [argSl, ofSum, Try.ntmps3, Try.results3])
  repeat' (first | (first | with_reducible refine awp_seq ?_ | with_reducible refine then_n ?_ | with_reducible refine then_ret ?_ | with_reducible refine then_exit ?_ | with_reducible refine awp_block ?_ | with_reducible refine awp_skip ?_ | with_reducible refine awp_exit ?_ | with_reducible refine awp_ret ?_ | with_reducible refine inb_n ?_ | with_reducible refine inb_ret ?_ | with_reducible refine inb_same ?_ | with_reducible refine inb_other (by decide) ?_ | with_reducible refine round_ret ?_ | with_reducible refine round_exit ?_ | with_reducible refine join_ret ?_ | with_reducible refine join_exit ?_) | ((first | with_reducible refine awp_region eb3_ok (fun K hK => ?_) | with_reducible refine awp_region_draw eb3_ok mixed (by kernel_rfl) (fun K hK => ?_)); (simp (config := { maxSteps := 2000000 }) only [go_sem, ↓gd_tt, ↓gd_tf, ↓gd_ft, ↓gd_ff, ↓reduceIte, reduceCtorEq, Nat.reduceLeDiff, Nat.reduceLT, Nat.reduceBEq, Nat.reduceAdd, false_and, and_false]); (first | with_reducible apply And.intro | (with_reducible intro _; try contradiction) | (with_reducible refine hK _ ?_; clear hK K)) <;> (repeat' (first | with_reducible apply And.intro | (with_reducible intro _; try contradiction) | (with_reducible refine hK _ ?_; clear hK K))) <;> (try (clear hK K; first | omega | assumption | ((simp (disch := omega) only [Int.tdiv_eq_ediv_of_nonneg, Int.tmod_eq_emod_of_nonneg]); omega)))) | (with_reducible refine awp_cond (by ((simp (config := { maxSteps := 2000000 }) only [go_sem, ↓gd_tt, ↓gd_tf, ↓gd_ft, ↓gd_ff, ↓reduceIte, reduceCtorEq, Nat.reduceLeDiff, Nat.reduceLT, Nat.reduceBEq, Nat.reduceAdd, false_and, and_false]); rfl)) ?_ ?_ <;> (try simp only [decide_eq_true_eq, decide_eq_false_iff_not, reduceCtorEq, false_implies, true_implies, eq_self, forall_const, Bool.not_eq_true', Bool.not_eq_false', Bool.not_true, Bool.not_false]) <;> (try (with_reducible intro _; try contradiction))) | with_reducible refine ends_ret (by ((simp only [go_sem, ↓gd_tt, ↓gd_tf, ↓gd_ft, ↓gd_ff, ↓reduceIte, reduceCtorEq, Nat.reduceLeDiff, Nat.reduceLT, Nat.reduceBEq, Nat.reduceAdd, false_and, and_false, ressO, resO, argsC]); rfl)) ?_ | with_reducible refine endsC_ret rfl (by ((simp (config := { maxSteps := 2000000 }) only [go_sem, ↓gd_tt, ↓gd_tf, ↓gd_ft, ↓gd_ff, ↓reduceIte, reduceCtorEq, Nat.reduceLeDiff, Nat.reduceLT, Nat.reduceBEq, Nat.reduceAdd, false_and, and_false]); rfl)) (by first | ((simp (config := { maxSteps := 2000000 }) only [go_sem, ↓gd_tt, ↓gd_tf, ↓gd_ft, ↓gd_ff, ↓reduceIte, reduceCtorEq, Nat.reduceLeDiff, Nat.reduceLT, Nat.reduceBEq, Nat.reduceAdd, false_and, and_false]); done) | ((simp (config := { maxSteps := 2000000 }) only [go_sem, ↓gd_tt, ↓gd_tf, ↓gd_ft, ↓gd_ff, ↓reduceIte, reduceCtorEq, Nat.reduceLeDiff, Nat.reduceLT, Nat.reduceBEq, Nat.reduceAdd, false_and, and_false]); rfl)) rfl rfl rfl ?_ | with_reducible refine endsW_ret (by ((simp only [go_sem, ↓gd_tt, ↓gd_tf, ↓gd_ft, ↓gd_ff, ↓reduceIte, reduceCtorEq, Nat.reduceLeDiff, Nat.reduceLT, Nat.reduceBEq, Nat.reduceAdd, false_and, and_false, ressO, resO, argsC]); rfl)) (by ((simp (config := { maxSteps := 2000000 }) only [go_sem, ↓gd_tt, ↓gd_tf, ↓gd_ft, ↓gd_ff, ↓reduceIte, reduceCtorEq, Nat.reduceLeDiff, Nat.reduceLT, Nat.reduceBEq, Nat.reduceAdd, false_and, and_false]); rfl)) rfl rfl rfl ?_ ?_)
  all_goals (first | contradiction | exact tells_eq rfl | (exfalso; simp_all; done))

set_option maxRecDepth 100000 in
set_option maxHeartbeats 1000000 in
theorem div_good (xs ys : List Int) (bx : InB 4294967296 xs) (by' : InB 4294967296 ys) (ox : okN xs = true) (oy : okN ys = true) (h0 : ys ≠ []) :
    Ret Try.prog 3 false [.inl (.ints .u32 xs), .inl (.ints .u32 ys)] (.c (.b true)) := by
  obtain ⟨lx, tx⟩ := okN_parts ox
  obtain ⟨ly, ty⟩ := okN_parts oy
  have px := of_len lx bx
  have py := of_len ly by'
  have vx := dg_V 4294967296 (by omega) xs bx tx
  have vy := dg_V 4294967296 (by omega) ys by' ty
  have yl : 0 < ys.length := List.length_pos_iff.2 h0
  have y0 : 0 < V 4294967296 ys := by
    have := (dg_len_pos 4294967296 (V 4294967296 ys) (by omega)).1 (by rw [vy]; exact yl)
    exact this
  have gl : (dg 4294967296 (Nat.gcd (V 4294967296 xs) (V 4294967296 ys))).length ≤ 600 := by
    have := dg_small (Nat.gcd_le_right (V 4294967296 xs) y0); rw [vy] at this; omega
  have gl2 : (dg 65536 (Nat.gcd (V 4294967296 xs) (V 4294967296 ys))).length ≤ 1200 := by
    have := dg_len_mono (B := 65536) (by omega) (Nat.gcd_le_right (V 4294967296 xs) y0); omega
  have ql : (dg 4294967296 (V 4294967296 xs / V 4294967296 ys)).length ≤ 600 := by
    have := dg_small (Nat.div_le_self (V 4294967296 xs) (V 4294967296 ys)); rw [vx] at this; omega
  have rl : (dg 4294967296 (V 4294967296 xs % V 4294967296 ys)).length ≤ 600 := by
    have := dg_small (Nat.mod_le (V 4294967296 xs) (V 4294967296 ys)); rw [vx] at this; omega
  have ql2 : (dg 65536 (V 4294967296 xs / V 4294967296 ys)).length ≤ 1200 := by
    have := dg_len_mono (B := 65536) (by omega) (Nat.div_le_self (V 4294967296 xs) (V 4294967296 ys)); omega
  have rl2 : (dg 65536 (V 4294967296 xs % V 4294967296 ys)).length ≤ 1200 := by
    have := dg_len_mono (B := 65536) (by omega) (Nat.mod_le (V 4294967296 xs) (V 4294967296 ys)); omega
  have oq := okN_dg ql (by omega)
  have or' := okN_dg rl (by omega)
  have em : V 4294967296 xs / V 4294967296 ys * V 4294967296 ys + V 4294967296 xs % V 4294967296 ys = V 4294967296 xs := by
    rw [Nat.mul_comm]; exact Nat.div_add_mod _ _
  have ml : (dg 65536 (V 4294967296 xs / V 4294967296 ys * V 4294967296 ys)).length ≤ 1200 := by
    have := dg_len_mono (B := 65536) (by omega) (Nat.div_mul_le_self (V 4294967296 xs) (V 4294967296 ys)); omega
  have sl : (dg 65536 (V 4294967296 xs / V 4294967296 ys * V 4294967296 ys + V 4294967296 xs % V 4294967296 ys)).length ≤ 1200 := by rw [em]; exact px
  have c1 : cmp3 (V 4294967296 xs % V 4294967296 ys) (V 4294967296 ys) < 0 := (cmp3_lt _ _).2 (Nat.mod_lt _ y0)
  have c2 : cmp3 (V 4294967296 xs / V 4294967296 ys * V 4294967296 ys + V 4294967296 xs % V 4294967296 ys) (V 4294967296 xs) = 0 := by rw [em]; simp [cmp3]
  (refine ret_eq Try.func3 rfl (Nat.le_of_ble_eq_true rfl) (fun F => ?_); simp only [argSl, ofSum, Try.ntmps3, Try.results3])
  repeat' (first | (first | with_reducible refine awp_seq ?_ | with_reducible refine then_n ?_ | with_reducible refine then_ret ?_ | with_reducible refine then_exit ?_ | with_reducible refine awp_block ?_ | with_reducible refine awp_skip ?_ | with_reducible refine awp_exit ?_ | with_reducible refine awp_ret ?_ | with_reducible refine inb_n ?_ | with_reducible refine inb_ret ?_ | with_reducible refine inb_same ?_ | with_reducible refine inb_other (by decide) ?_ | with_reducible refine round_ret ?_ | with_reducible refine round_exit ?_ | with_reducible refine join_ret ?_ | with_reducible refine join_exit ?_) | ((first | with_reducible refine awp_region eb2_ok (fun K hK => ?_) | with_reducible refine awp_region_draw eb2_ok mixed (by kernel_rfl) (fun K hK => ?_)); (simp (config := { maxSteps := 2000000 }) only [go_sem, ↓gd_tt, ↓gd_tf, ↓gd_ft, ↓gd_ff, ↓reduceIte, reduceCtorEq, Nat.reduceLeDiff, Nat.reduceLT, Nat.reduceBEq, Nat.reduceAdd, false_and, and_false]); (first | with_reducible apply And.intro | (with_reducible intro _; try contradiction) | (with_reducible refine hK _ ?_; clear hK K)) <;> (repeat' (first | with_reducible apply And.intro | (with_reducible intro _; try contradiction) | (with_reducible refine hK _ ?_; clear hK K))) <;> (try (clear hK K; first | omega | assumption | ((simp (disch := omega) only [Int.tdiv_eq_ediv_of_nonneg, Int.tmod_eq_emod_of_nonneg]); omega)))) | (with_reducible refine awp_cond (by ((simp (config := { maxSteps := 2000000 }) only [go_sem, ↓gd_tt, ↓gd_tf, ↓gd_ft, ↓gd_ff, ↓reduceIte, reduceCtorEq, Nat.reduceLeDiff, Nat.reduceLT, Nat.reduceBEq, Nat.reduceAdd, false_and, and_false]); rfl)) ?_ ?_ <;> (try simp only [decide_eq_true_eq, decide_eq_false_iff_not, reduceCtorEq, false_implies, true_implies, eq_self, forall_const, Bool.not_eq_true', Bool.not_eq_false', Bool.not_true, Bool.not_false]) <;> (try (with_reducible intro _; try contradiction))) | with_reducible refine ends_ret (by ((simp only [go_sem, ↓gd_tt, ↓gd_tf, ↓gd_ft, ↓gd_ff, ↓reduceIte, reduceCtorEq, Nat.reduceLeDiff, Nat.reduceLT, Nat.reduceBEq, Nat.reduceAdd, false_and, and_false, ressO, resO, argsC]); rfl)) ?_ | with_reducible refine endsC_ret rfl (by ((simp (config := { maxSteps := 2000000 }) only [go_sem, ↓gd_tt, ↓gd_tf, ↓gd_ft, ↓gd_ff, ↓reduceIte, reduceCtorEq, Nat.reduceLeDiff, Nat.reduceLT, Nat.reduceBEq, Nat.reduceAdd, false_and, and_false]); rfl)) (by first | ((simp (config := { maxSteps := 2000000 }) only [go_sem, ↓gd_tt, ↓gd_tf, ↓gd_ft, ↓gd_ff, ↓reduceIte, reduceCtorEq, Nat.reduceLeDiff, Nat.reduceLT, Nat.reduceBEq, Nat.reduceAdd, false_and, and_false]); done) | ((simp (config := { maxSteps := 2000000 }) only [go_sem, ↓gd_tt, ↓gd_tf, ↓gd_ft, ↓gd_ff, ↓reduceIte, reduceCtorEq, Nat.reduceLeDiff, Nat.reduceLT, Nat.reduceBEq, Nat.reduceAdd, false_and, and_false]); rfl)) rfl rfl rfl ?_ | with_reducible refine endsW_ret (by ((simp only [go_sem, ↓gd_tt, ↓gd_tf, ↓gd_ft, ↓gd_ff, ↓reduceIte, reduceCtorEq, Nat.reduceLeDiff, Nat.reduceLT, Nat.reduceBEq, Nat.reduceAdd, false_and, and_false, ressO, resO, argsC]); rfl)) (by ((simp (config := { maxSteps := 2000000 }) only [go_sem, ↓gd_tt, ↓gd_tf, ↓gd_ft, ↓gd_ff, ↓reduceIte, reduceCtorEq, Nat.reduceLeDiff, Nat.reduceLT, Nat.reduceBEq, Nat.reduceAdd, false_and, and_false]); rfl)) rfl rfl rfl ?_ ?_)
  all_goals (first | contradiction | exact tells_eq rfl | (exfalso; omega) | exact tells_eq (by simp only [resAV, ofSum, c2, decide_true]) | (exfalso; simp_all; done))

theorem div_ret (xs ys : List Int) (hx : xs.length ≤ 140737488355328) (hy : ys.length ≤ 140737488355328) (bx : InB 4294967296 xs) (by' : InB 4294967296 ys) :
    Ret Try.prog 3 false [.inl (.ints .u32 xs), .inl (.ints .u32 ys)] (.c (.b true)) := by
  by_cases h : okN xs = true ∧ okN ys = true
  · by_cases h0 : ys = []
    · subst h0; exact div_zero xs bx h.1
    · exact div_good xs ys bx by' h.1 h.2 h0
  · exact div_bad xs ys hx hy bx by' (chkC_bad h)

end Go.Proofs.Ytggehgnmfjdkhaa
