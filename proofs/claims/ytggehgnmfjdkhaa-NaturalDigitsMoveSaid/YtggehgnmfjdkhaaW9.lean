/- Division by one digit, the root of one number, the examples: contracts of package natural. -/
import Derived.Test.YtggehgnmfjdkhaaW7
import Derived.Test.YtggehgnmfjdkhaaW5
namespace Go.Proofs.Ytggehgnmfjdkhaa
set_option linter.unusedSimpArgs false
set_option linter.unusedVariables false
open Go.Abs Go.Proofs.NatL

theorem trd1 {y : Int} (h : Trd [y]) : y ≠ 0 := by
  rcases h with h | h
  · simp at h
  · simpa using h

set_option maxHeartbeats 1600000 in
/-- where the divisor has one digit -/
theorem divMod1_ret (xs : List Int) (d : Nat) (hx : xs.length ≤ 16777216) (bx : InB 4294967296 xs) (tx : Trd xs) (d0 : 0 < d) (d1 : d < 4294967296) :
    Ret Try.prog 41 false [.inl (.ints .u32 xs), .inl (.ints .u32 [(d : Int)])] (.t [.inl (.ints .u32 (dg 4294967296 (V 4294967296 xs / d))), .inl (.ints .u32 (dg 4294967296 (V 4294967296 xs % d)))]) := by
  have by' : InB 4294967296 [(d : Int)] := fun x hx => by simp at hx; subst hx; omega
  have ty : Trd [(d : Int)] := .inr (by simp; omega)
  have hV : V 4294967296 [(d : Int)] = d := by simp [V]
  obtain ⟨c1, c2, c3⟩ := cmpL_le bx by' tx ty
  rw [hV] at c1 c2
  have hr : V 4294967296 xs % d < 4294967296 := Nat.lt_trans (Nat.mod_lt _ d0) d1
  have hre : trimL [((V 4294967296 xs % d : Nat) : Int)] = dg 4294967296 (V 4294967296 xs % d) := by
    rw [trimL_eq 4294967296 (by omega)]
    · rw [V, V, Int.toNat_natCast]; simp
    · intro x hx; rw [List.mem_singleton] at hx; subst hx; omega
  (refine ret_eq Try.func41 rfl (Nat.le_of_ble_eq_true rfl) (fun F => ?_); simp only [argSl, ofSum, Try.ntmps41, Try.results41])
  repeat' (first | (with_reducible first | refine awp_seq ?_ | refine then_n ?_ | refine then_ret ?_ | refine then_exit ?_ | refine awp_block ?_ | refine awp_skip ?_ | refine awp_exit ?_ | refine awp_ret ?_ | refine inb_n ?_ | refine inb_ret ?_ | refine inb_same ?_ | refine inb_other (by decide) ?_ | refine round_ret ?_ | refine round_exit ?_ | refine join_ret ?_ | refine join_exit ?_) | ((first | with_reducible refine awp_region cf21_ok (fun K hK => ?_) | with_reducible refine awp_region_draw cf21_ok mixed (by kernel_rfl) (fun K hK => ?_)); (simp (config := { maxSteps := 2000000 }) only [go_sem, ↓gd_tt, ↓gd_tf, ↓gd_ft, ↓gd_ff, ↓reduceIte, reduceCtorEq, Nat.reduceLeDiff, Nat.reduceLT, Nat.reduceBEq, Nat.reduceAdd, false_and, and_false]); (with_reducible first | apply And.intro | (intro _; try first | contradiction | (exfalso; omega)) | (refine hK _ ?_; clear hK K)) <;> (repeat' (with_reducible first | apply And.intro | (intro _; try first | contradiction | (exfalso; omega)) | (refine hK _ ?_; clear hK K))) <;> (try (clear hK K; first | omega | assumption | ((simp (disch := omega) only [Int.tdiv_eq_ediv_of_nonneg, Int.tmod_eq_emod_of_nonneg]); omega)))) | (with_reducible refine awp_cond (by ((simp (config := { maxSteps := 2000000 }) only [go_sem, ↓gd_tt, ↓gd_tf, ↓gd_ft, ↓gd_ff, ↓reduceIte, reduceCtorEq, Nat.reduceLeDiff, Nat.reduceLT, Nat.reduceBEq, Nat.reduceAdd, false_and, and_false]); rfl)) ?_ ?_ <;> (try simp only [decide_eq_true_eq, decide_eq_false_iff_not, reduceCtorEq, false_implies, true_implies, eq_self, forall_const, Bool.not_eq_true', Bool.not_eq_false', Bool.not_true, Bool.not_false]) <;> (try (with_reducible intro _; try first | contradiction | (exfalso; omega)))) | with_reducible refine ends_ret (by ((simp only [go_sem, ↓gd_tt, ↓gd_tf, ↓gd_ft, ↓gd_ff, ↓reduceIte, reduceCtorEq, Nat.reduceLeDiff, Nat.reduceLT, Nat.reduceBEq, Nat.reduceAdd, false_and, and_false, ressO, resO, argsC]); rfl)) ?_)
  all_goals try (simp only [List.getD_cons_zero]; omega)
  · rename_i h
    have h1 := c1.1 h
    exact tells_n [.inl (some (.ints .u32 []))] rfl (by simp only [resAV, norm, nz, Nat.div_eq_of_lt h1, Nat.mod_eq_of_lt h1, dg_zero, dg_V 4294967296 (by omega) xs bx tx])
  · refine tells_eq ?_
    simp only [resAV, List.getD_cons_zero, Int.toNat_natCast, hre]

def divMod1CT : CT := mkCT [.inl (some (.ints .u32 [])), .inl (some (.ints .u32 []))] false fun l K => match l with
  | [.inl (.ints .u32 xs), .inl (.ints .u32 [d])] => (xs.length ≤ 16777216 ∧ InB 4294967296 xs ∧ Trd xs ∧ 0 < d ∧ d < 4294967296) ∧ K (.t [.inl (.ints .u32 (dg 4294967296 (V 4294967296 xs / d.toNat))), .inl (.ints .u32 (dg 4294967296 (V 4294967296 xs % d.toNat)))])
  | _ => False
def cg1 : Cfg := addT 41 divMod1CT cf21
theorem cg1_ok : TblOk Try.prog cg1 := mkCT_ok cf21_ok (enters_of Try.func41 (by kernel_rfl) (by kernel_rfl)) rfl fun l K h => by
  split at h
  · rename_i xs d
    obtain ⟨d, rfl⟩ : ∃ n : Nat, d = n := ⟨d.toNat, by omega⟩
    exact ⟨_, divMod1_ret _ d h.1.1 h.1.2.1 h.1.2.2.1 (by omega) (by omega), by simpa using h.2⟩
  · exact h.elim
attribute [go_sem] cg1 divMod1CT

theorem chkC1 (xs : List Int) (d : Nat) (hx : okN xs = true) (d0 : 0 < d) : chkC xs [(d : Int)] = 0 ∧ chkI xs [(d : Int)] = 0 := by
  have : okN [(d : Int)] = true := by
    unfold okN; exact decide_eq_true ⟨by simp, .inr (by simp; omega)⟩
  simp [chkC, chkI, hx, this]

set_option maxHeartbeats 1600000 in
theorem DivMod1_ret (xs : List Int) (d : Nat) (bx : InB 4294967296 xs) (ox : okN xs = true) (d0 : 0 < d) (d1 : d < 4294967296) :
    Ret Try.prog 9 false [.inl (.ints .u32 xs), .inl (.ints .u32 [(d : Int)])] (.t [.inl (.ints .u32 (dg 4294967296 (V 4294967296 xs / d))), .inl (.ints .u32 (dg 4294967296 (V 4294967296 xs % d))), .inr [.i .i64 0, .i .i64 0]]) := by
  have ox' : xs.length ≤ 600 ∧ Trd xs := by simpa [okN] using ox
  obtain ⟨h1, h2⟩ := chkC1 xs d ox d0
  (refine ret_eq Try.func9 rfl (Nat.le_of_ble_eq_true rfl) (fun F => ?_); simp only [argSl, ofSum, Try.ntmps9, Try.results9])
  repeat' (first | (with_reducible first | refine awp_seq ?_ | refine then_n ?_ | refine then_ret ?_ | refine then_exit ?_ | refine awp_block ?_ | refine awp_skip ?_ | refine awp_exit ?_ | refine awp_ret ?_ | refine inb_n ?_ | refine inb_ret ?_ | refine inb_same ?_ | refine inb_other (by decide) ?_ | refine round_ret ?_ | refine round_exit ?_ | refine join_ret ?_ | refine join_exit ?_) | ((first | with_reducible refine awp_region cg1_ok (fun K hK => ?_) | with_reducible refine awp_region_draw cg1_ok mixed (by kernel_rfl) (fun K hK => ?_)); (simp (config := { maxSteps := 2000000 }) only [go_sem, ↓gd_tt, ↓gd_tf, ↓gd_ft, ↓gd_ff, ↓reduceIte, reduceCtorEq, Nat.reduceLeDiff, Nat.reduceLT, Nat.reduceBEq, Nat.reduceAdd, false_and, and_false]); (with_reducible first | apply And.intro | intro _ | (refine hK _ ?_; clear hK K)) <;> (repeat' (with_reducible first | apply And.intro | intro _ | (refine hK _ ?_; clear hK K))) <;> (try (clear hK K; first | omega | assumption | ((simp (disch := omega) only [Int.tdiv_eq_ediv_of_nonneg, Int.tmod_eq_emod_of_nonneg]); omega)))) | (with_reducible refine awp_cond (by ((simp (config := { maxSteps := 2000000 }) only [go_sem, ↓gd_tt, ↓gd_tf, ↓gd_ft, ↓gd_ff, ↓reduceIte, reduceCtorEq, Nat.reduceLeDiff, Nat.reduceLT, Nat.reduceBEq, Nat.reduceAdd, false_and, and_false]); rfl)) ?_ ?_ <;> (try simp only [decide_eq_true_eq, decide_eq_false_iff_not, reduceCtorEq, false_implies, true_implies, eq_self, forall_const, Bool.not_eq_true', Bool.not_eq_false', Bool.not_true, Bool.not_false]) <;> (try with_reducible intro _)) | with_reducible refine ends_ret (by ((simp only [go_sem, ↓gd_tt, ↓gd_tf, ↓gd_ft, ↓gd_ff, ↓reduceIte, reduceCtorEq, Nat.reduceLeDiff, Nat.reduceLT, Nat.reduceBEq, Nat.reduceAdd, false_and, and_false, ressO, resO, argsC]); rfl)) ?_)
  all_goals try contradiction
  · exact ox'.2
  · exact tells_eq (by simp only [resAV])

theorem bl_V (xs : List Int) (h0 : 0 < xs.length) (bx : InB 4294967296 xs) (tx : Trd xs) : 32 * (xs.length - 1) + bl (xs.getD (xs.length - 1) 0).toNat = bl (V 4294967296 xs) := by
  have h1 := V_ge_of_trd (by omega) xs bx tx h0
  have e : (4294967296 : Nat) ^ (xs.length - 1) = 2 ^ (32 * (xs.length - 1)) := by rw [show (4294967296 : Nat) = 2 ^ 32 from rfl, ← Nat.pow_mul]
  rw [e] at h1
  rw [bl_shr _ _ h1, ← e, ← V_drop_div 4294967296 (by omega) xs bx, V_drop 4294967296 xs _ (by omega), List.drop_eq_nil_of_le (by omega)]
  simp [V]

set_option maxHeartbeats 1600000 in
theorem Bits_ret (xs : List Int) (hx : xs.length ≤ 140737488355328) (bx : InB 4294967296 xs) :
    Ret Try.prog 21 false [.inl (.ints .u32 xs)] (.t [.inl (.i .i64 ((if okN xs then bl (V 4294967296 xs) else 0 : Nat) : Int)), .inr [.i .i64 (if okN xs then 0 else 6), .i .i64 (if okN xs then 0 else -1)]]) := by
  by_cases ho : okN xs = true
  · have ox' : xs.length ≤ 600 ∧ Trd xs := by simpa [okN] using ho
    have b1 := InB_getD (by omega) bx (xs.length - 1)
    have hl : bl (xs.getD (xs.length - 1) 0).toNat ≤ 32 := bl_lt _ _ (by simp only [show (2 : Nat) ^ 32 = 4294967296 from rfl]; omega)
    have e0 : ((xs.length : Int) - 1).toNat = xs.length - 1 := by omega
    (refine ret_eq Try.func21 rfl (Nat.le_of_ble_eq_true rfl) (fun F => ?_); simp only [argSl, ofSum, Try.ntmps21, Try.results21])
    repeat' (first | (with_reducible first | refine awp_seq ?_ | refine then_n ?_ | refine then_ret ?_ | refine then_exit ?_ | refine awp_block ?_ | refine awp_skip ?_ | refine awp_exit ?_ | refine awp_ret ?_ | refine inb_n ?_ | refine inb_ret ?_ | refine inb_same ?_ | refine inb_other (by decide) ?_ | refine round_ret ?_ | refine round_exit ?_ | refine join_ret ?_ | refine join_exit ?_) | ((first | with_reducible refine awp_region cg1_ok (fun K hK => ?_) | with_reducible refine awp_region_draw cg1_ok mixed (by kernel_rfl) (fun K hK => ?_)); (simp (config := { maxSteps := 2000000 }) only [go_sem, ↓gd_tt, ↓gd_tf, ↓gd_ft, ↓gd_ff, ↓reduceIte, reduceCtorEq, Nat.reduceLeDiff, Nat.reduceLT, Nat.reduceBEq, Nat.reduceAdd, false_and, and_false]); (with_reducible first | apply And.intro | intro _ | (refine hK _ ?_; clear hK K)) <;> (repeat' (with_reducible first | apply And.intro | intro _ | (refine hK _ ?_; clear hK K))) <;> (try (clear hK K; first | omega | assumption | ((simp (disch := omega) only [Int.tdiv_eq_ediv_of_nonneg, Int.tmod_eq_emod_of_nonneg]); omega)))) | (with_reducible refine awp_cond (by ((simp (config := { maxSteps := 2000000 }) only [go_sem, ↓gd_tt, ↓gd_tf, ↓gd_ft, ↓gd_ff, ↓reduceIte, reduceCtorEq, Nat.reduceLeDiff, Nat.reduceLT, Nat.reduceBEq, Nat.reduceAdd, false_and, and_false]); rfl)) ?_ ?_ <;> (try simp only [decide_eq_true_eq, decide_eq_false_iff_not, reduceCtorEq, false_implies, true_implies, eq_self, forall_const, Bool.not_eq_true', Bool.not_eq_false', Bool.not_true, Bool.not_false]) <;> (try with_reducible intro _)) | with_reducible refine ends_ret (by ((simp only [go_sem, ↓gd_tt, ↓gd_tf, ↓gd_ft, ↓gd_ff, ↓reduceIte, reduceCtorEq, Nat.reduceLeDiff, Nat.reduceLT, Nat.reduceBEq, Nat.reduceAdd, false_and, and_false, ressO, resO, argsC]); rfl)) ?_)
    all_goals try (rw [e0])
    all_goals try (exact b1.1)
    all_goals try (exact b1.2)
    all_goals try omega
    · exfalso; simp_all
    · rename_i h0
      have : xs = [] := List.eq_nil_of_length_eq_zero (by omega)
      subst this
      exact tells_eq (by simp [resAV, okN, Trd, V, bl])
    · rename_i h0
      have h1 := bl_V xs (by omega) bx ox'.2
      refine tells_eq ?_
      simp only [resAV, if_pos ho, AV.t.injEq, List.cons.injEq, Sum.inl.injEq, C.i.injEq, true_and, and_true]
      omega
  · (refine ret_eq Try.func21 rfl (Nat.le_of_ble_eq_true rfl) (fun F => ?_); simp only [argSl, ofSum, Try.ntmps21, Try.results21])
    repeat' (first | (with_reducible first | refine awp_seq ?_ | refine then_n ?_ | refine then_ret ?_ | refine then_exit ?_ | refine awp_block ?_ | refine awp_skip ?_ | refine awp_exit ?_ | refine awp_ret ?_ | refine inb_n ?_ | refine inb_ret ?_ | refine inb_same ?_ | refine inb_other (by decide) ?_ | refine round_ret ?_ | refine round_exit ?_ | refine join_ret ?_ | refine join_exit ?_) | ((first | with_reducible refine awp_region cg1_ok (fun K hK => ?_) | with_reducible refine awp_region_draw cg1_ok mixed (by kernel_rfl) (fun K hK => ?_)); (simp (config := { maxSteps := 2000000 }) only [go_sem, ↓gd_tt, ↓gd_tf, ↓gd_ft, ↓gd_ff, ↓reduceIte, reduceCtorEq, Nat.reduceLeDiff, Nat.reduceLT, Nat.reduceBEq, Nat.reduceAdd, false_and, and_false]); (with_reducible first | apply And.intro | intro _ | (refine hK _ ?_; clear hK K)) <;> (repeat' (with_reducible first | apply And.intro | intro _ | (refine hK _ ?_; clear hK K))) <;> (try (clear hK K; first | omega | assumption | ((simp (disch := omega) only [Int.tdiv_eq_ediv_of_nonneg, Int.tmod_eq_emod_of_nonneg]); omega)))) | (with_reducible refine awp_cond (by ((simp (config := { maxSteps := 2000000 }) only [go_sem, ↓gd_tt, ↓gd_tf, ↓gd_ft, ↓gd_ff, ↓reduceIte, reduceCtorEq, Nat.reduceLeDiff, Nat.reduceLT, Nat.reduceBEq, Nat.reduceAdd, false_and, and_false]); rfl)) ?_ ?_ <;> (try simp only [decide_eq_true_eq, decide_eq_false_iff_not, reduceCtorEq, false_implies, true_implies, eq_self, forall_const, Bool.not_eq_true', Bool.not_eq_false', Bool.not_true, Bool.not_false]) <;> (try with_reducible intro _)) | with_reducible refine ends_ret (by ((simp only [go_sem, ↓gd_tt, ↓gd_tf, ↓gd_ft, ↓gd_ff, ↓reduceIte, reduceCtorEq, Nat.reduceLeDiff, Nat.reduceLT, Nat.reduceBEq, Nat.reduceAdd, false_and, and_false, ressO, resO, argsC]); rfl)) ?_)
    · exact tells_eq (by simp [resAV, ho])
    all_goals (exfalso; simp_all)

def bitsCT : CT := mkCT [.inl (some (.ints .u32 []))] true fun l K => match l with
  | [.inl (.ints .u32 xs)] => (xs.length ≤ 140737488355328 ∧ InB 4294967296 xs) ∧ K (.t [.inl (.i .i64 ((if okN xs then bl (V 4294967296 xs) else 0 : Nat) : Int)), .inr [.i .i64 (if okN xs then 0 else 6), .i .i64 (if okN xs then 0 else -1)]])
  | _ => False
def cg2 : Cfg := addT 21 bitsCT cg1
theorem cg2_ok : TblOk Try.prog cg2 := mkCT_ok cg1_ok (enters_of Try.func21 (by kernel_rfl) (by kernel_rfl)) rfl fun l K h => by
  split at h
  · exact ⟨_, (Bits_ret _ h.1.1 h.1.2).plain rfl, h.2⟩
  · exact h.elim
attribute [go_sem] cg2 bitsCT

theorem dg1 (n : Nat) (h0 : 0 < n) (h1 : n < 4294967296) : dg 4294967296 n = [(n : Int)] := by
  rw [dg_pos _ _ (by omega) h0, Nat.mod_eq_of_lt h1, Nat.div_eq_of_lt h1, dg_zero]

theorem ok01 : okN [0, 1] = true := by decide
theorem v01 : V 4294967296 [0, 1] = 4294967296 := rfl
theorem bl33 : bl 4294967296 = 33 := by decide +kernel
theorem v1 : V 4294967296 [1] = 1 := rfl
theorem h17 : (((33 : Nat) : Int) + 1).tdiv 2 = 17 := by decide
theorem two17 : dg 4294967296 (1 * 2 ^ (17 : Int).toNat) = [131072] := by decide +kernel
attribute [go_sem] ok01 v01 bl33 h17 v1 two17
def roots : List Nat := [131072, 81920, 67174, 65555, 65536]
theorem roots_step : ∀ x ∈ roots, (0 < x ∧ x < 1000000 ∧ 0 < 4294967296 / x ∧ 4294967296 / x < 1000000 ∧ (x + 4294967296 / x) / 2 ≠ 0) ∧ ((x + 4294967296 / x) / 2 < x → (x + 4294967296 / x) / 2 ∈ roots) ∧ (¬ (x + 4294967296 / x) / 2 < x → x = 65536) := by decide +kernel

set_option maxHeartbeats 1600000 in
/-- the root of 2 to the 32 -/
theorem Sqrt01_ret : Ret Try.prog 23 false [.inl (.ints .u32 [0, 1])] (.t [.inl (.ints .u32 [65536]), .inr [.i .i64 0, .i .i64 0]]) := by
  have b01 : InB 4294967296 [0, 1] := InB_two (by omega) (by omega)
  have b1 : InB 4294967296 [1] := fun x hx => by rw [List.mem_singleton] at hx; subst hx; omega
  have t01 : Trd [0, 1] := .inr (by simp)
  (refine ret_eq Try.func23 rfl (Nat.le_of_ble_eq_true rfl) (fun F => ?_); simp only [argSl, ofSum, Try.ntmps23, Try.results23])
  repeat' (first | (with_reducible first | refine awp_seq ?_ | refine then_n ?_ | refine then_ret ?_ | refine then_exit ?_ | refine awp_block ?_ | refine awp_skip ?_ | refine awp_exit ?_ | refine awp_ret ?_ | refine inb_n ?_ | refine inb_ret ?_ | refine inb_same ?_ | refine inb_other (by decide) ?_ | refine round_ret ?_ | refine round_exit ?_ | refine join_ret ?_ | refine join_exit ?_) | ((first | with_reducible refine awp_region cg2_ok (fun K hK => ?_) | with_reducible refine awp_region_draw cg2_ok mixed (by kernel_rfl) (fun K hK => ?_)); (simp (config := { maxSteps := 2000000 }) only [go_sem, ↓gd_tt, ↓gd_tf, ↓gd_ft, ↓gd_ff, ↓reduceIte, reduceCtorEq, Nat.reduceLeDiff, Nat.reduceLT, Nat.reduceBEq, Nat.reduceAdd, false_and, and_false]); (with_reducible first | apply And.intro | intro _ | (refine hK _ ?_; clear hK K)) <;> (repeat' (with_reducible first | apply And.intro | intro _ | (refine hK _ ?_; clear hK K))) <;> (try (clear hK K; first | omega | assumption | ((simp (disch := omega) only [Int.tdiv_eq_ediv_of_nonneg, Int.tmod_eq_emod_of_nonneg]); omega)))) | (with_reducible refine awp_cond (by ((simp (config := { maxSteps := 2000000 }) only [go_sem, ↓gd_tt, ↓gd_tf, ↓gd_ft, ↓gd_ff, ↓reduceIte, reduceCtorEq, Nat.reduceLeDiff, Nat.reduceLT, Nat.reduceBEq, Nat.reduceAdd, false_and, and_false]); rfl)) ?_ ?_ <;> (try simp only [decide_eq_true_eq, decide_eq_false_iff_not, reduceCtorEq, false_implies, true_implies, eq_self, forall_const, Bool.not_eq_true', Bool.not_eq_false', Bool.not_true, Bool.not_false]) <;> (try with_reducible intro _)) | with_reducible refine ends_ret (by ((simp only [go_sem, ↓gd_tt, ↓gd_tf, ↓gd_ft, ↓gd_ff, ↓reduceIte, reduceCtorEq, Nat.reduceLeDiff, Nat.reduceLT, Nat.reduceBEq, Nat.reduceAdd, false_and, and_false, ressO, resO, argsC]); rfl)) ?_)
  all_goals try omega
  refine loop_of (ι := { x : Nat // x ∈ roots }) (fun x => ⟨45, [(0, .c (.ints .u32 [0, 1])), (3, .bx 0 0), (6, .c (.ints .u32 [(x.1 : Int)]))], ⟨[(0, [.c (.i .i64 0), .c (.i .i64 0)])], [], []⟩, 3⟩) (fun x => x.1) ⟨131072, by decide⟩ ?_ ?_
  · ((simp only [FitP, fitSl, fitBox, fitBuf, fitBor, fitAV, fitL, go_sem, ↓gd_tt, ↓gd_tf, ↓gd_ft, ↓gd_ff, ↓reduceIte, reduceCtorEq, Nat.reduceLeDiff, Nat.reduceLT, Nat.reduceBEq, Nat.reduceAdd, false_and, and_false]) <;> (try (simp; done)) <;> (try ((simp only [C.i.injEq, C.b.injEq, C.ints.injEq, C.bools.injEq, List.append_cancel_left_eq, List.cons.injEq, true_and, and_true]); (repeat' with_reducible apply And.intro) <;> (first | rfl | assumption | omega | (simp; omega) | (congr 1; omega) | (congr 2; omega)))))
  rintro ⟨x, hx⟩
  simp only
  obtain ⟨⟨x0, x1, q0, q1, n0⟩, hs1, hs2⟩ := roots_step x hx
  have bx : InB 4294967296 [(x : Int)] := fun y hy => by rw [List.mem_singleton] at hy; subst hy; omega
  have tx : Trd [(x : Int)] := .inr (by simp; omega)
  have vx : V 4294967296 [(x : Int)] = x := by simp [V]
  have e1 : dg 4294967296 (4294967296 / x) = [((4294967296 / x : Nat) : Int)] := dg1 _ q0 (by omega)
  have bq : InB 4294967296 [((4294967296 / x : Nat) : Int)] := fun y hy => by rw [List.mem_singleton] at hy; subst hy; omega
  have vq : V 4294967296 [((4294967296 / x : Nat) : Int)] = 4294967296 / x := by rw [V, V, Int.toNat_natCast]; simp
  generalize hq : 4294967296 / x = q at *
  have e2 : addN [(x : Int)] [(q : Int)] = [((x + q : Nat) : Int)] := by unfold addN; rw [vx, vq, dg1 _ (by omega) (by omega)]
  have vs : V 4294967296 [((x + q : Nat) : Int)] = x + q := by rw [V, V, Int.toNat_natCast]; simp
  have bs : InB 4294967296 [((x + q : Nat) : Int)] := fun y hy => by rw [List.mem_singleton] at hy; subst hy; omega
  have e3 : dg 4294967296 ((x + q) / 2) = [(((x + q) / 2 : Nat) : Int)] := dg1 _ (by omega) (by omega)
  have bn : InB 4294967296 [(((x + q) / 2 : Nat) : Int)] := fun y hy => by rw [List.mem_singleton] at hy; subst hy; omega
  have tn : Trd [(((x + q) / 2 : Nat) : Int)] := .inr (by simp; omega)
  have vn : V 4294967296 [(((x + q) / 2 : Nat) : Int)] = (x + q) / 2 := by rw [V, V, Int.toNat_natCast]; simp
  obtain ⟨c1, -, -⟩ := cmpL_le bn bx tn tx
  rw [vn, vx] at c1
  have p1 : (2 : Nat) ^ Int.toNat 1 = 2 := rfl
  repeat' (first | (with_reducible first | refine awp_seq ?_ | refine then_n ?_ | refine then_ret ?_ | refine then_exit ?_ | refine awp_block ?_ | refine awp_skip ?_ | refine awp_exit ?_ | refine awp_ret ?_ | refine inb_n ?_ | refine inb_ret ?_ | refine inb_same ?_ | refine inb_other (by decide) ?_ | refine round_ret ?_ | refine round_exit ?_ | refine join_ret ?_ | refine join_exit ?_) | ((first | with_reducible refine awp_region cg2_ok (fun K hK => ?_) | with_reducible refine awp_region_draw cg2_ok mixed (by kernel_rfl) (fun K hK => ?_)); (simp (config := { maxSteps := 2000000 }) only [go_sem, ↓gd_tt, ↓gd_tf, ↓gd_ft, ↓gd_ff, ↓reduceIte, reduceCtorEq, Nat.reduceLeDiff, Nat.reduceLT, Nat.reduceBEq, Nat.reduceAdd, false_and, and_false]); (with_reducible first | apply And.intro | intro _ | (refine hK _ ?_; clear hK K)) <;> (repeat' (with_reducible first | apply And.intro | intro _ | (refine hK _ ?_; clear hK K))) <;> (try (clear hK K; first | omega | assumption | ((simp (disch := omega) only [Int.tdiv_eq_ediv_of_nonneg, Int.tmod_eq_emod_of_nonneg]); omega)))) | (with_reducible refine awp_cond (by ((simp (config := { maxSteps := 2000000 }) only [go_sem, ↓gd_tt, ↓gd_tf, ↓gd_ft, ↓gd_ff, ↓reduceIte, reduceCtorEq, Nat.reduceLeDiff, Nat.reduceLT, Nat.reduceBEq, Nat.reduceAdd, false_and, and_false]); rfl)) ?_ ?_ <;> (try simp only [decide_eq_true_eq, decide_eq_false_iff_not, reduceCtorEq, false_implies, true_implies, eq_self, forall_const, Bool.not_eq_true', Bool.not_eq_false', Bool.not_true, Bool.not_false]) <;> (try with_reducible intro _)) | with_reducible refine ends_ret (by ((simp only [go_sem, ↓gd_tt, ↓gd_tf, ↓gd_ft, ↓gd_ff, ↓reduceIte, reduceCtorEq, Nat.reduceLeDiff, Nat.reduceLT, Nat.reduceBEq, Nat.reduceAdd, false_and, and_false, ressO, resO, argsC]); rfl)) ?_)
  all_goals (try simp only [hq, e1, e2, vs, p1, e3])
  all_goals (first | assumption | (simp; done) | skip)
  · rename_i h
    simp only [hq, e1, e2, vs, p1, e3] at h
    have : x = 65536 := hs2 (fun h1 => by have := c1.2 h1; omega)
    subst this
    exact tells_eq rfl
  · rename_i h
    simp only [hq, e1, e2, vs, p1, e3] at h
    have h1 : (x + q) / 2 < x := c1.1 (by omega)
    refine round_n ⟨(x + q) / 2, hs1 h1⟩ ?_ h1
    ((simp only [FitP, fitSl, fitBox, fitBuf, fitBor, fitAV, fitL, go_sem, ↓gd_tt, ↓gd_tf, ↓gd_ft, ↓gd_ff, ↓reduceIte, reduceCtorEq, Nat.reduceLeDiff, Nat.reduceLT, Nat.reduceBEq, Nat.reduceAdd, false_and, and_false]) <;> (try (simp; done)) <;> (try ((simp only [C.i.injEq, C.b.injEq, C.ints.injEq, C.bools.injEq, List.append_cancel_left_eq, List.cons.injEq, true_and, and_true]); (repeat' with_reducible apply And.intro) <;> (first | rfl | assumption | omega | (simp; omega) | (congr 1; omega) | (congr 2; omega)))))

def sqrt01CT : CT := mkCT [] false fun l K => match l with
  | [.inl (.ints .u32 xs)] => xs = [0, 1] ∧ K (.t [.inl (.ints .u32 [65536]), .inr [.i .i64 0, .i .i64 0]])
  | _ => False
def cg3 : Cfg := addT 23 sqrt01CT cg2
theorem cg3_ok : TblOk Try.prog cg3 := mkCT_ok cg2_ok (enters_of Try.func23 (by kernel_rfl) (by kernel_rfl)) rfl fun l K h => by
  split at h
  · rename_i xs
    obtain ⟨rfl, h⟩ := h
    exact ⟨_, Sqrt01_ret, h⟩
  · exact h.elim
def divModE : CT := mkCT [] false fun l K => match l with
  | [.inl (.ints .u32 xs), .inl (.ints .u32 ys)] => (xs = [7, 1] ∧ ys = [8]) ∧ K (.t [.inl (.ints .u32 [536870912]), .inl (.ints .u32 [7]), .inr [.i .i64 0, .i .i64 0]])
  | _ => False
def cg4 : Cfg := addT 9 divModE cg3
theorem cg4_ok : TblOk Try.prog cg4 := mkCT_ok cg3_ok (enters_of Try.func9 (by kernel_rfl) (by kernel_rfl)) rfl fun l K h => by
  split at h
  · rename_i xs ys
    obtain ⟨⟨rfl, rfl⟩, h⟩ := h
    have h1 := DivMod1_ret [7, 1] 8 (InB_two (by omega) (by omega)) (by decide) (by omega) (by omega)
    have e : V 4294967296 [7, 1] = 4294967303 := rfl
    rw [e, dg1 _ (by omega) (by omega), dg1 _ (by omega) (by omega)] at h1
    exact ⟨_, h1, h⟩
  · exact h.elim
def addE : CT := mkCT [] false fun l K => match l with
  | [.inl (.ints .u32 xs), .inl (.ints .u32 ys)] => (xs = [4294967295] ∧ ys = [1]) ∧ K (.t [.inl (.ints .u32 [0, 1]), .inr [.i .i64 0, .i .i64 0]])
  | _ => False
def cg5 : Cfg := addT 28 addE cg4
theorem cg5_ok : TblOk Try.prog cg5 := mkCT_ok cg4_ok (enters_of Try.func28 (by kernel_rfl) (by kernel_rfl)) rfl fun l K h => by
  split at h
  · rename_i xs ys
    obtain ⟨⟨rfl, rfl⟩, h⟩ := h
    have h1 := Add_ret [4294967295] [1] (by simp) (by simp) (fun x hx => by rw [List.mem_singleton] at hx; subst hx; omega) (fun x hx => by rw [List.mem_singleton] at hx; subst hx; omega)
    have e : addN [4294967295] [1] = [0, 1] := by decide +kernel
    have e2 : chkC [4294967295] [1] = 0 := by decide
    have e3 : trimL [0, 1] = [0, 1] := by decide
    rw [e] at h1
    simp only [oneF, e2, fitN, fitC, fitI, e3] at h1
    exact ⟨_, by simpa using h1, h⟩
  · exact h.elim
def sameCT : CT := mkCT [.inl (some (.ints .u32 [])), .inl (some (.ints .u32 []))] true fun l K => match l with
  | [.inl (.ints .u32 xs), .inl (.ints .u32 ys)] => (xs.length ≤ 16777216 ∧ ys.length ≤ 16777216) ∧ K (.c (.b (decide (xs = ys))))
  | _ => False
def cg6 : Cfg := addT 13 sameCT cg5
theorem cg6_ok : TblOk Try.prog cg6 := mkCT_ok cg5_ok (enters_of Try.func13 (by kernel_rfl) (by kernel_rfl)) rfl fun l K h => by
  split at h
  · exact ⟨_, (sameLimbs_ret _ _ h.1.1 h.1.2).plain rfl, h.2⟩
  · exact h.elim
attribute [go_sem] cg3 sqrt01CT cg4 divModE cg5 addE cg6 sameCT

end Go.Proofs.Ytggehgnmfjdkhaa
