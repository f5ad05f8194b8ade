/- The law of digits put behind each other: its walk. -/
import Derived.Test.YtggehgnmfjdkhaaW24
namespace Go.Proofs.Ytggehgnmfjdkhaa
set_option linter.unusedSimpArgs false
set_option linter.unusedVariables false
open Go.Abs Go.Proofs.NatL

theorem pow_dg (b n : Nat) (hb : 2 ≤ b) : b ^ (dg b n).length ≤ b * n + 1 := by
  rcases Nat.eq_zero_or_pos n with h | h
  · subst h; simp [dg_zero]
  · have h0 := (dg_len_pos b n hb).2 h
    have h1 := V_ge_of_trd (by omega) (dg b n) (InB_dg b hb n) (dg_trd b hb n) h0
    rw [V_dg b hb] at h1
    obtain ⟨k, hk⟩ : ∃ k, (dg b n).length = k + 1 := ⟨(dg b n).length - 1, by omega⟩
    rw [hk] at h1 ⊢
    rw [Nat.pow_succ, Nat.mul_comm]
    exact Nat.le_succ_of_le (Nat.mul_le_mul_left b h1)
theorem fit_small {n : Nat} (h : (dg 4294967296 n).length ≤ 600) : fitN (dg 4294967296 n) = dg 4294967296 n ∧ fitC (dg 4294967296 n) = 0 ∧ fitI (dg 4294967296 n) = 0 := by
  obtain ⟨h1, h2, h3⟩ := fit_dg n
  rw [h1, h2, h3]; simp [h]
theorem okN_one {b : Nat} (h0 : 0 < b) (h : b < 4294967296) : okN [(b : Int)] = true := by
  unfold okN; exact decide_eq_true ⟨by simp, .inr (by simp; omega)⟩

/-- digits that may be refused -/
noncomputable def dgd (xs : List Int) (b : Int) : Nat := if okN xs = true ∧ 2 ≤ b ∧ b ≤ 36 then 1 else 0
def digA : CT := mkCT [.inl (some (.ints .u32 []))] false fun l K => match l with
  | [.inl (.ints .u32 xs), .inl (.i .i64 b)] => (xs.length ≤ 140737488355328 ∧ InB 4294967296 xs) ∧ ∀ (L : List Int) (c i : Int), (L.length ≤ 19200 ∧ (c = 0 ∨ L.length = 0) ∧ (c ≠ 0 ∨ dgd xs b = 1)) → K (.t [.inl (.ints .i64 L), .inr [.i .i64 c, .i .i64 i]])
  | _ => False
def dkA : Cfg := addT 34 digA dk3
theorem dkA_ok : TblOk Try.prog dkA := mkCT_ok dk3_ok (enters_of Try.func34 (by kernel_rfl) (by kernel_rfl)) rfl fun l K h => by
  split at h
  · rename_i xs b
    obtain ⟨⟨h1, h2⟩, h⟩ := h
    cases ho : okN xs
    · exact ⟨_, Digits_bad xs b h1 ho, h [] 6 (-1) ⟨by simp, .inr rfl, .inl (by decide)⟩⟩
    · by_cases hb : b < 2 ∨ 36 < b
      · exact ⟨_, Digits_base xs b ho hb, h [] 4 (-2) ⟨by simp, .inr rfl, .inl (by decide)⟩⟩
      · obtain ⟨n, rfl⟩ : ∃ n : Nat, b = n := ⟨b.toNat, by omega⟩
        refine ⟨_, Digits_good xs n h2 ho (by omega) (by omega), h _ 0 0 ⟨?_, .inl rfl, .inr ?_⟩⟩
        · rw [List.length_reverse]
          exact Nat.le_trans (dg_len_two n _ (by omega) _ (lt_bl (V 4294967296 xs))) (bl_ok ho h2)
        · unfold dgd; rw [if_pos ⟨ho, by omega, by omega⟩]
  · exact h.elim
attribute [go_sem] dkA digA

set_option maxRecDepth 100000 in
set_option maxHeartbeats 1600000 in
theorem dmove_bad (xs ys : List Int) (b : Int) (hx : xs.length ≤ 140737488355328) (hy : ys.length ≤ 140737488355328) (bx : InB 4294967296 xs) (by' : InB 4294967296 ys) (h : 60 < xs.length ∨ 60 < ys.length ∨ dgd xs b = 0 ∨ dgd ys b = 0) :
    Ret Try.prog 7 false [.inl (.ints .u32 xs), .inl (.ints .u32 ys), .inl (.i .i64 b)] (.c (.b true)) := by
  (refine ret_eq Try.func7 rfl (Nat.le_of_ble_eq_true rfl) (fun F => ?_); simp only [argSl, ofSum, Try.ntmps7, Try.results7])
  repeat' (first | (with_reducible first | refine awp_seq ?_ | refine then_n ?_ | refine then_ret ?_ | refine then_exit ?_ | refine awp_block ?_ | refine awp_skip ?_ | refine awp_exit ?_ | refine awp_ret ?_ | refine inb_n ?_ | refine inb_ret ?_ | refine inb_same ?_ | refine inb_other (by decide) ?_ | refine round_ret ?_ | refine round_exit ?_ | refine join_ret ?_ | refine join_exit ?_) | ((first | with_reducible refine awp_region dkA_ok (fun K hK => ?_) | with_reducible refine awp_region_draw dkA_ok mixed (by kernel_rfl) (fun K hK => ?_)); (simp (config := { maxSteps := 2000000 }) only [go_sem, ↓gd_tt, ↓gd_tf, ↓gd_ft, ↓gd_ff, ↓reduceIte, reduceCtorEq, Nat.reduceLeDiff, Nat.reduceLT, Nat.reduceBEq, Nat.reduceAdd, false_and, and_false]); (with_reducible first | apply And.intro | (intro _; try first | contradiction | (exfalso; omega)) | (refine hK _ ?_; clear hK K)) <;> (repeat' (with_reducible first | apply And.intro | (intro _; try first | contradiction | (exfalso; omega)) | (refine hK _ ?_; clear hK K))) <;> (try (clear hK K; first | omega | assumption | ((simp (disch := omega) only [Int.tdiv_eq_ediv_of_nonneg, Int.tmod_eq_emod_of_nonneg]); omega)))) | (with_reducible refine awp_cond (by ((simp (config := { maxSteps := 2000000 }) only [go_sem, ↓gd_tt, ↓gd_tf, ↓gd_ft, ↓gd_ff, ↓reduceIte, reduceCtorEq, Nat.reduceLeDiff, Nat.reduceLT, Nat.reduceBEq, Nat.reduceAdd, false_and, and_false]); rfl)) ?_ ?_ <;> (try simp only [decide_eq_true_eq, decide_eq_false_iff_not, reduceCtorEq, false_implies, true_implies, eq_self, forall_const, Bool.not_eq_true', Bool.not_eq_false', Bool.not_true, Bool.not_false]) <;> (try (with_reducible intro _; try first | contradiction | (exfalso; omega)))) | with_reducible refine ends_ret (by ((simp only [go_sem, ↓gd_tt, ↓gd_tf, ↓gd_ft, ↓gd_ff, ↓reduceIte, reduceCtorEq, Nat.reduceLeDiff, Nat.reduceLT, Nat.reduceBEq, Nat.reduceAdd, false_and, and_false, ressO, resO, argsC]); rfl)) ?_)
  all_goals (first | contradiction | exact tells_eq rfl | (exfalso; omega) | omega | assumption | (refine tells_eq ?_; simp only [resAV, ofSum, AV.c.injEq, C.b.injEq, decide_eq_true_eq]; omega) | (trace_state; sorry))

set_option maxRecDepth 100000 in
set_option maxHeartbeats 1600000 in
theorem dmove_good (xs ys : List Int) (b : Nat) (bx : InB 4294967296 xs) (by' : InB 4294967296 ys) (ox : okN xs = true) (oy : okN ys = true) (h1 : 2 ≤ b) (h2 : b ≤ 36) (lx : xs.length ≤ 60) (ly : ys.length ≤ 60) :
    Ret Try.prog 7 false [.inl (.ints .u32 xs), .inl (.ints .u32 ys), .inl (.i .i64 b)] (.c (.b true)) := by
  have vx := dg_V 4294967296 (by omega) xs bx (okN_parts ox).2
  have vy := dg_V 4294967296 (by omega) ys by' (okN_parts oy).2
  have hxl : (dg b (V 4294967296 xs)).reverse.length ≤ 19200 := by
    rw [List.length_reverse]; exact Nat.le_trans (dg_len_two b _ h1 _ (lt_bl (V 4294967296 xs))) (bl_ok ox bx)
  have hyl : (dg b (V 4294967296 ys)).reverse.length ≤ 19200 := by
    rw [List.length_reverse]; exact Nat.le_trans (dg_len_two b _ h1 _ (lt_bl (V 4294967296 ys))) (bl_ok oy by')
  have hdx : InB b (dg b (V 4294967296 xs)).reverse := fun z hz => InB_dg b h1 _ z (List.mem_reverse.1 hz)
  have hdy : InB b (dg b (V 4294967296 ys)).reverse := fun z hz => InB_dg b h1 _ z (List.mem_reverse.1 hz)
  have hdd := InB_app hdx hdy
  have hv : rdv b ((dg b (V 4294967296 xs)).reverse ++ (dg b (V 4294967296 ys)).reverse) = V 4294967296 xs * b ^ (dg b (V 4294967296 ys)).reverse.length + V 4294967296 ys := by
    rw [rdv_app, rdv_dg b _ h1, rdv_dg b _ h1]
  have hp := pow_dg b (V 4294967296 ys) h1
  rw [← List.length_reverse] at hp
  have lx0 := lx
  have ly0 := ly
  rw [← vx] at lx
  rw [← vy] at ly
  have l36 : (dg 4294967296 (b * V 4294967296 ys + 1)).length ≤ 61 := by
    rw [Nat.mul_comm]
    refine dg_len_le (by omega) _ _ ?_
    have := lt_of_len (by omega) ly
    rw [Nat.pow_succ]
    have h3 : (V 4294967296 ys + 1) * b ≤ 4294967296 ^ 60 * b := Nat.mul_le_mul_right b this
    have h4 : 4294967296 ^ 60 * b ≤ 4294967296 ^ 60 * 4294967296 := Nat.mul_le_mul_left _ (by omega)
    rw [Nat.add_mul] at h3
    omega
  have hA : ∀ i, i ≤ (dg b (V 4294967296 ys)).reverse.length → (dg 4294967296 (V 4294967296 xs * b ^ i)).length ≤ 121 := fun i hi => by
    refine Nat.le_trans (dg_len_mono (by omega) (Nat.mul_le_mul_left _ (Nat.le_trans (Nat.pow_le_pow_right (by omega) hi) hp))) (mul_len (by omega) lx l36)
  have hS : (dg 4294967296 (V 4294967296 xs * b ^ (dg b (V 4294967296 ys)).reverse.length + V 4294967296 ys)).length ≤ 122 := add_len (by omega) (hA _ (Nat.le_refl _)) (Nat.le_trans ly (by omega))
  obtain ⟨f1, f2, f3⟩ := fit_small (Nat.le_trans hS (by omega))
  have ob := okN_one (b := b) (by omega) (by omega)
  have bb : InB 4294967296 [(b : Int)] := InB_one (by omega) (by omega)
  have hbm : (b : Int) % 4294967296 = b := by omega
  generalize hX : (dg b (V 4294967296 xs)).reverse = X at *
  generalize hY : (dg b (V 4294967296 ys)).reverse = Y at *
  generalize hM : V 4294967296 xs * b ^ Y.length = M at *
  have e1 : addN (dg 4294967296 M) ys = dg 4294967296 (M + V 4294967296 ys) := by unfold addN; rw [V32]
  (refine ret_eq Try.func7 rfl (Nat.le_of_ble_eq_true rfl) (fun F => ?_); simp only [argSl, ofSum, Try.ntmps7, Try.results7])
  repeat' (first | (with_reducible first | refine awp_seq ?_ | refine then_n ?_ | refine then_ret ?_ | refine then_exit ?_ | refine awp_block ?_ | refine awp_skip ?_ | refine awp_exit ?_ | refine awp_ret ?_ | refine inb_n ?_ | refine inb_ret ?_ | refine inb_same ?_ | refine inb_other (by decide) ?_ | refine round_ret ?_ | refine round_exit ?_ | refine join_ret ?_ | refine join_exit ?_) | ((first | with_reducible refine awp_region dkGokT (fun K hK => ?_) | with_reducible refine awp_region_draw dkGokT mixed (by kernel_rfl) (fun K hK => ?_)); (simp (config := { maxSteps := 2000000 }) only [go_sem, ↓gd_tt, ↓gd_tf, ↓gd_ft, ↓gd_ff, ↓reduceIte, reduceCtorEq, Nat.reduceLeDiff, Nat.reduceLT, Nat.reduceBEq, Nat.reduceAdd, false_and, and_false, hX, hY, hv, f1, f2, f3]); (with_reducible first | apply And.intro | (intro _; try first | contradiction | (exfalso; omega)) | (refine hK _ ?_; clear hK K)) <;> (repeat' (with_reducible first | apply And.intro | (intro _; try first | contradiction | (exfalso; omega)) | (refine hK _ ?_; clear hK K))) <;> (try (clear hK K; first | omega | assumption | ((simp (disch := omega) only [Int.tdiv_eq_ediv_of_nonneg, Int.tmod_eq_emod_of_nonneg]); omega)))) | (with_reducible refine awp_cond (by ((simp (config := { maxSteps := 2000000 }) only [go_sem, ↓gd_tt, ↓gd_tf, ↓gd_ft, ↓gd_ff, ↓reduceIte, reduceCtorEq, Nat.reduceLeDiff, Nat.reduceLT, Nat.reduceBEq, Nat.reduceAdd, false_and, and_false, hX, hY, hv, f1, f2, f3]); rfl)) ?_ ?_ <;> (try simp only [decide_eq_true_eq, decide_eq_false_iff_not, reduceCtorEq, false_implies, true_implies, eq_self, forall_const, Bool.not_eq_true', Bool.not_eq_false', Bool.not_true, Bool.not_false]) <;> (try (with_reducible intro _; try first | contradiction | (exfalso; omega)))) | with_reducible refine ends_ret (by ((simp only [go_sem, ↓gd_tt, ↓gd_tf, ↓gd_ft, ↓gd_ff, ↓reduceIte, reduceCtorEq, Nat.reduceLeDiff, Nat.reduceLT, Nat.reduceBEq, Nat.reduceAdd, false_and, and_false, hX, hY, hv, f1, f2, f3, ressO, resO, argsC]); rfl)) ?_)
  all_goals (try omega)
  refine loop_of (ι := { i : Nat // i ≤ Y.length }) (fun i => ⟨116, [(0, .c (.ints .u32 xs)), (1, .c (.ints .u32 ys)), (2, .c (.i .i64 b)), (9, .c (.ints .i64 Y)), (11, .c (.ints .u32 (dg 4294967296 (M + V 4294967296 ys)))), (12, .bx 3 0), (13, .c (.ints .u32 (dg 4294967296 (V 4294967296 xs * b ^ i.1)))), (14, .c (.i .i64 (i.1 : Nat)))], ⟨[(3, [.c (.i .i64 0), .c (.i .i64 0)])], [], []⟩, 5⟩) (fun i => Y.length - i.1) ⟨0, by simp⟩ ?_ ?_
  · ((simp only [FitP, fitSl, fitBox, fitBuf, fitBor, fitAV, fitL, go_sem, ↓gd_tt, ↓gd_tf, ↓gd_ft, ↓gd_ff, ↓reduceIte, reduceCtorEq, Nat.reduceLeDiff, Nat.reduceLT, Nat.reduceBEq, Nat.reduceAdd, false_and, and_false]) <;> (try (simp; done)) <;> (try ((simp only [C.i.injEq, C.b.injEq, C.ints.injEq, C.bools.injEq, List.append_cancel_left_eq, List.cons.injEq, true_and, and_true]); (repeat' with_reducible apply And.intro) <;> (first | rfl | assumption | omega | (simp; omega) | (congr 1; omega) | (congr 2; omega)))))
    simp [vx]
  rintro ⟨i, g1⟩
  simp only at g1 ⊢
  have oi := okN_dg' (Nat.le_trans (hA i g1) (by omega))
  rcases Nat.lt_or_ge i Y.length with hi | hi
  · obtain ⟨k1, k2, k3⟩ := fit_small (Nat.le_trans (hA (i + 1) hi) (by omega))
    have mu : mulN (dg 4294967296 (V 4294967296 xs * b ^ i)) [(b : Int)] = dg 4294967296 (V 4294967296 xs * b ^ (i + 1)) := by
      rw [mulN1, Nat.mul_assoc, ← Nat.pow_succ]
    repeat' (first | (with_reducible first | refine awp_seq ?_ | refine then_n ?_ | refine then_ret ?_ | refine then_exit ?_ | refine awp_block ?_ | refine awp_skip ?_ | refine awp_exit ?_ | refine awp_ret ?_ | refine inb_n ?_ | refine inb_ret ?_ | refine inb_same ?_ | refine inb_other (by decide) ?_ | refine round_ret ?_ | refine round_exit ?_ | refine join_ret ?_ | refine join_exit ?_) | ((first | with_reducible refine awp_region dkGokT (fun K hK => ?_) | with_reducible refine awp_region_draw dkGokT mixed (by kernel_rfl) (fun K hK => ?_)); (simp (config := { maxSteps := 2000000 }) only [go_sem, ↓gd_tt, ↓gd_tf, ↓gd_ft, ↓gd_ff, ↓reduceIte, reduceCtorEq, Nat.reduceLeDiff, Nat.reduceLT, Nat.reduceBEq, Nat.reduceAdd, false_and, and_false, hbm, mu, k1, k2, k3]); (with_reducible first | apply And.intro | (intro _; try first | contradiction | (exfalso; omega)) | (refine hK _ ?_; clear hK K)) <;> (repeat' (with_reducible first | apply And.intro | (intro _; try first | contradiction | (exfalso; omega)) | (refine hK _ ?_; clear hK K))) <;> (try (clear hK K; first | omega | assumption | ((simp (disch := omega) only [Int.tdiv_eq_ediv_of_nonneg, Int.tmod_eq_emod_of_nonneg]); omega)))) | (with_reducible refine awp_cond (by ((simp (config := { maxSteps := 2000000 }) only [go_sem, ↓gd_tt, ↓gd_tf, ↓gd_ft, ↓gd_ff, ↓reduceIte, reduceCtorEq, Nat.reduceLeDiff, Nat.reduceLT, Nat.reduceBEq, Nat.reduceAdd, false_and, and_false, hbm, mu, k1, k2, k3]); rfl)) ?_ ?_ <;> (try simp only [decide_eq_true_eq, decide_eq_false_iff_not, reduceCtorEq, false_implies, true_implies, eq_self, forall_const, Bool.not_eq_true', Bool.not_eq_false', Bool.not_true, Bool.not_false]) <;> (try (with_reducible intro _; try first | contradiction | (exfalso; omega)))) | with_reducible refine ends_ret (by ((simp only [go_sem, ↓gd_tt, ↓gd_tf, ↓gd_ft, ↓gd_ff, ↓reduceIte, reduceCtorEq, Nat.reduceLeDiff, Nat.reduceLT, Nat.reduceBEq, Nat.reduceAdd, false_and, and_false, hbm, mu, k1, k2, k3, ressO, resO, argsC]); rfl)) ?_)
    all_goals (first | assumption | omega | (refine round_n ⟨i + 1, hi⟩ ?_ (by simp only; omega); ((simp only [FitP, fitSl, fitBox, fitBuf, fitBor, fitAV, fitL, go_sem, ↓gd_tt, ↓gd_tf, ↓gd_ft, ↓gd_ff, ↓reduceIte, reduceCtorEq, Nat.reduceLeDiff, Nat.reduceLT, Nat.reduceBEq, Nat.reduceAdd, false_and, and_false]) <;> (try (simp; done)) <;> (try ((simp only [C.i.injEq, C.b.injEq, C.ints.injEq, C.bools.injEq, List.append_cancel_left_eq, List.cons.injEq, true_and, and_true]); (repeat' with_reducible apply And.intro) <;> (first | rfl | assumption | omega | (simp; omega) | (congr 1; omega) | (congr 2; omega))))); done) | (trace_state; sorry))
  · have hi' : i = Y.length := by omega
    subst hi'
    rw [hM] at oi ⊢
    repeat' (first | (with_reducible first | refine awp_seq ?_ | refine then_n ?_ | refine then_ret ?_ | refine then_exit ?_ | refine awp_block ?_ | refine awp_skip ?_ | refine awp_exit ?_ | refine awp_ret ?_ | refine inb_n ?_ | refine inb_ret ?_ | refine inb_same ?_ | refine inb_other (by decide) ?_ | refine round_ret ?_ | refine round_exit ?_ | refine join_ret ?_ | refine join_exit ?_) | ((first | with_reducible refine awp_region dkGokT (fun K hK => ?_) | with_reducible refine awp_region_draw dkGokT mixed (by kernel_rfl) (fun K hK => ?_)); (simp (config := { maxSteps := 2000000 }) only [go_sem, ↓gd_tt, ↓gd_tf, ↓gd_ft, ↓gd_ff, ↓reduceIte, reduceCtorEq, Nat.reduceLeDiff, Nat.reduceLT, Nat.reduceBEq, Nat.reduceAdd, false_and, and_false, e1, f1, f2, f3]); (with_reducible first | apply And.intro | (intro _; try first | contradiction | (exfalso; omega)) | (refine hK _ ?_; clear hK K)) <;> (repeat' (with_reducible first | apply And.intro | (intro _; try first | contradiction | (exfalso; omega)) | (refine hK _ ?_; clear hK K))) <;> (try (clear hK K; first | omega | assumption | ((simp (disch := omega) only [Int.tdiv_eq_ediv_of_nonneg, Int.tmod_eq_emod_of_nonneg]); omega)))) | (with_reducible refine awp_cond (by ((simp (config := { maxSteps := 2000000 }) only [go_sem, ↓gd_tt, ↓gd_tf, ↓gd_ft, ↓gd_ff, ↓reduceIte, reduceCtorEq, Nat.reduceLeDiff, Nat.reduceLT, Nat.reduceBEq, Nat.reduceAdd, false_and, and_false, e1, f1, f2, f3]); rfl)) ?_ ?_ <;> (try simp only [decide_eq_true_eq, decide_eq_false_iff_not, reduceCtorEq, false_implies, true_implies, eq_self, forall_const, Bool.not_eq_true', Bool.not_eq_false', Bool.not_true, Bool.not_false]) <;> (try (with_reducible intro _; try first | contradiction | (exfalso; omega)))) | with_reducible refine ends_ret (by ((simp only [go_sem, ↓gd_tt, ↓gd_tf, ↓gd_ft, ↓gd_ff, ↓reduceIte, reduceCtorEq, Nat.reduceLeDiff, Nat.reduceLT, Nat.reduceBEq, Nat.reduceAdd, false_and, and_false, e1, f1, f2, f3, ressO, resO, argsC]); rfl)) ?_)
    all_goals (first | assumption | omega | exact tells_eq rfl | (trace_state; sorry))

theorem dmove_ret (xs ys : List Int) (b : Int) (hx : xs.length ≤ 140737488355328) (hy : ys.length ≤ 140737488355328) (bx : InB 4294967296 xs) (by' : InB 4294967296 ys) :
    Ret Try.prog 7 false [.inl (.ints .u32 xs), .inl (.ints .u32 ys), .inl (.i .i64 b)] (.c (.b true)) := by
  by_cases h : 60 < xs.length ∨ 60 < ys.length ∨ dgd xs b = 0 ∨ dgd ys b = 0
  · exact dmove_bad xs ys b hx hy bx by' h
  · have h3 : dgd xs b ≠ 0 := fun e => h (.inr (.inr (.inl e)))
    have h4 : dgd ys b ≠ 0 := fun e => h (.inr (.inr (.inr e)))
    unfold dgd at h3 h4
    have h5 : okN xs = true ∧ 2 ≤ b ∧ b ≤ 36 := by
      by_cases h : okN xs = true ∧ 2 ≤ b ∧ b ≤ 36
      · exact h
      · rw [if_neg h] at h3; exact absurd rfl h3
    have h6 : okN ys = true ∧ 2 ≤ b ∧ b ≤ 36 := by
      by_cases h : okN ys = true ∧ 2 ≤ b ∧ b ≤ 36
      · exact h
      · rw [if_neg h] at h4; exact absurd rfl h4
    obtain ⟨n, rfl⟩ : ∃ n : Nat, b = n := ⟨b.toNat, by omega⟩
    exact dmove_good xs ys n bx by' h5.1 h6.1 (by omega) (by omega) (by omega) (by omega)

end Go.Proofs.Ytggehgnmfjdkhaa
