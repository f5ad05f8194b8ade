/- The law of moves and square roots: its walk over the contracts. -/
import Derived.Test.YtggehgnmfjdkhaaW18
import Derived.Test.YtggehgnmfjdkhaaW11
namespace Go.Proofs.Ytggehgnmfjdkhaa
set_option linter.unusedSimpArgs false
set_option linter.unusedVariables false
open Go.Abs Go.Proofs.NatL

def sqBadCT : CT := mkCT [.inl (some (.ints .u32 []))] false fun l K => match l with
  | [.inl (.ints .u32 xs)] => (xs.length ≤ 140737488355328 ∧ InB 4294967296 xs ∧ okN xs = false) ∧ K (.t [.inl (.ints .u32 []), .inr [.i .i64 6, .i .i64 (-1)]])
  | _ => False
def shBadCT : CT := mkCT [.inl (some (.ints .u32 []))] false fun l K => match l with
  | [.inl (.ints .u32 xs), .inl (.i .i64 _)] => (xs.length ≤ 140737488355328 ∧ InB 4294967296 xs ∧ okN xs = false) ∧ K (.t [.inl (.ints .u32 []), .inr [.i .i64 6, .i .i64 (-1)]])
  | _ => False
def okFCT : CT := mkCT [.inl (some (.ints .u32 []))] true fun l K => match l with
  | [.inl (.ints .u32 xs)] => (xs.length ≤ 140737488355328 ∧ okN xs = false) ∧ K (.c (.b false))
  | _ => False
def fa1 : Cfg := addT 21 bitsBadCT db13
theorem fa1_ok : TblOk Try.prog fa1 := mkCT_ok db13_ok (enters_of Try.func21 (by kernel_rfl) (by kernel_rfl)) rfl fun l K h => by
  split at h
  · obtain ⟨⟨h1, h2, h3⟩, h⟩ := h
    have := Bits_ret _ h1 h2
    simp only [h3, Bool.false_eq_true, if_false] at this
    exact ⟨_, this.plain rfl, h⟩
  · exact h.elim
def fa2 : Cfg := addT 23 sqBadCT fa1
theorem fa2_ok : TblOk Try.prog fa2 := mkCT_ok fa1_ok (enters_of Try.func23 (by kernel_rfl) (by kernel_rfl)) rfl fun l K h => by
  split at h
  · exact ⟨_, Sqrt_bad _ h.1.1 h.1.2.1 h.1.2.2, h.2⟩
  · exact h.elim
def fa3 : Cfg := addT 22 shBadCT fa2
theorem fa3_ok : TblOk Try.prog fa3 := mkCT_ok fa2_ok (enters_of Try.func22 (by kernel_rfl) (by kernel_rfl)) rfl fun l K h => by
  split at h
  · exact ⟨_, Shift_bad _ _ h.1.1 h.1.2.1 h.1.2.2, h.2⟩
  · exact h.elim
def fa4 : Cfg := addT 17 okFCT fa3
theorem fa4_ok : TblOk Try.prog fa4 := mkCT_ok fa3_ok (enters_of Try.func17 (by kernel_rfl) (by kernel_rfl)) rfl fun l K h => by
  split at h
  · obtain ⟨⟨h1, h2⟩, h⟩ := h
    have := naturalOk_ret _ h1
    rw [h2] at this
    exact ⟨_, this.plain rfl, h⟩
  · exact h.elim
attribute [go_sem] fa1 fa2 fa3 fa4 sqBadCT shBadCT okFCT

set_option maxRecDepth 100000 in
set_option maxHeartbeats 1000000 in
theorem moves_bad (xs : List Int) (n : Int) (hx : xs.length ≤ 140737488355328) (bx : InB 4294967296 xs) (h : okN xs = false) :
    Ret Try.prog 4 false [.inl (.ints .u32 xs), .inl (.i .i64 n)] (.c (.b true)) := by
  (refine ret_eq Try.func4 rfl (Nat.le_of_ble_eq_true rfl) (fun F => ?_); simp only [argSl, ofSum, Try.ntmps4, Try.results4])
  repeat' (first | (with_reducible first | refine awp_seq ?_ | refine then_n ?_ | refine then_ret ?_ | refine then_exit ?_ | refine awp_block ?_ | refine awp_skip ?_ | refine awp_exit ?_ | refine awp_ret ?_ | refine inb_n ?_ | refine inb_ret ?_ | refine inb_same ?_ | refine inb_other (by decide) ?_ | refine round_ret ?_ | refine round_exit ?_ | refine join_ret ?_ | refine join_exit ?_) | ((first | with_reducible refine awp_region fa4_ok (fun K hK => ?_) | with_reducible refine awp_region_draw fa4_ok mixed (by kernel_rfl) (fun K hK => ?_)); (simp (config := { maxSteps := 2000000 }) only [go_sem, ↓gd_tt, ↓gd_tf, ↓gd_ft, ↓gd_ff, ↓reduceIte, reduceCtorEq, Nat.reduceLeDiff, Nat.reduceLT, Nat.reduceBEq, Nat.reduceAdd, false_and, and_false]); (with_reducible first | apply And.intro | (intro _; try contradiction) | (refine hK _ ?_; clear hK K)) <;> (repeat' (with_reducible first | apply And.intro | (intro _; try contradiction) | (refine hK _ ?_; clear hK K))) <;> (try (clear hK K; first | omega | assumption | ((simp (disch := omega) only [Int.tdiv_eq_ediv_of_nonneg, Int.tmod_eq_emod_of_nonneg]); omega)))) | (with_reducible refine awp_cond (by ((simp (config := { maxSteps := 2000000 }) only [go_sem, ↓gd_tt, ↓gd_tf, ↓gd_ft, ↓gd_ff, ↓reduceIte, reduceCtorEq, Nat.reduceLeDiff, Nat.reduceLT, Nat.reduceBEq, Nat.reduceAdd, false_and, and_false]); rfl)) ?_ ?_ <;> (try simp only [decide_eq_true_eq, decide_eq_false_iff_not, reduceCtorEq, false_implies, true_implies, eq_self, forall_const, Bool.not_eq_true', Bool.not_eq_false', Bool.not_true, Bool.not_false]) <;> (try (with_reducible intro _; try contradiction))) | with_reducible refine ends_ret (by ((simp only [go_sem, ↓gd_tt, ↓gd_tf, ↓gd_ft, ↓gd_ff, ↓reduceIte, reduceCtorEq, Nat.reduceLeDiff, Nat.reduceLT, Nat.reduceBEq, Nat.reduceAdd, false_and, and_false, ressO, resO, argsC]); rfl)) ?_)
  all_goals (first | contradiction | exact tells_eq rfl | (exfalso; simp_all; done))

/-! ### a number -/
def sqGoodCT : CT := mkCT [.inl (some (.ints .u32 []))] false fun l K => match l with
  | [.inl (.ints .u32 xs)] => (okN xs = true ∧ InB 4294967296 xs) ∧ K (.t [.inl (.ints .u32 (dg 4294967296 (rt (V 4294967296 xs)))), .inr [.i .i64 0, .i .i64 0]])
  | _ => False
def shSmallCT : CT := mkCT [.inl (some (.ints .u32 []))] false fun l K => match l with
  | [.inl (.ints .u32 xs), .inl (.i .i64 n)] => (okN xs = true ∧ InB 4294967296 xs ∧ (-9223372036854775808 ≤ n ∧ n ≤ 9223372036854775807) ∧ shBig (V 4294967296 xs) n = false) ∧ K (.t [.inl (.ints .u32 (dg 4294967296 (shf (V 4294967296 xs) n))), .inr [.i .i64 0, .i .i64 0]])
  | _ => False
def shBigCT : CT := mkCT [.inl (some (.ints .u32 []))] false fun l K => match l with
  | [.inl (.ints .u32 xs), .inl (.i .i64 n)] => (okN xs = true ∧ InB 4294967296 xs ∧ (-9223372036854775808 ≤ n ∧ n ≤ 9223372036854775807) ∧ shBig (V 4294967296 xs) n = true) ∧ K (.t [.inl (.ints .u32 []), .inr [.i .i64 14, .i .i64 (-1)]])
  | _ => False
def fb1 : Cfg := addT 21 bitsGoodCT db13
theorem fb1_ok : TblOk Try.prog fb1 := mkCT_ok db13_ok (enters_of Try.func21 (by kernel_rfl) (by kernel_rfl)) rfl fun l K h => by
  split at h
  · obtain ⟨⟨h1, h2⟩, h⟩ := h
    have := Bits_ret _ (okN_LB' h1) h2
    simp only [if_pos h1] at this
    exact ⟨_, this.plain rfl, h⟩
  · exact h.elim
def fb2 : Cfg := addT 23 sqGoodCT fb1
theorem fb2_ok : TblOk Try.prog fb2 := mkCT_ok fb1_ok (enters_of Try.func23 (by kernel_rfl) (by kernel_rfl)) rfl fun l K h => by
  split at h
  · exact ⟨_, Sqrt_good _ h.1.2 h.1.1, h.2⟩
  · exact h.elim
def fb3 : Cfg := addT 25 smallCT fb2
theorem fb3_ok : TblOk Try.prog fb3 := mkCT_ok fb2_ok (enters_of Try.func25 (by kernel_rfl) (by kernel_rfl)) rfl fun l K h => by
  split at h
  · rename_i n
    obtain ⟨m, rfl⟩ : ∃ m : Nat, n = m := ⟨n.toNat, by omega⟩
    exact ⟨_, small_ret m (by omega), by simpa using h.2⟩
  · exact h.elim
def fb4 : Cfg := addT 24 onesCT fb3
theorem fb4_ok : TblOk Try.prog fb4 := mkCT_ok fb3_ok (enters_of Try.func24 (by kernel_rfl) (by kernel_rfl)) rfl fun l K h => by
  split at h
  · rename_i xs
    obtain ⟨⟨h1, h2, h3⟩, h⟩ := h
    have e := dg_V 65536 (by omega) xs h2 h3
    have := ones_ret (V 65536 xs) (by rw [e]; exact h1)
    rw [e] at this
    exact ⟨_, this, h⟩
  · exact h.elim
def fb5 : Cfg := addT 27 movedCT fb4
theorem fb5_ok : TblOk Try.prog fb5 := mkCT_ok fb4_ok (enters_of Try.func27 (by kernel_rfl) (by kernel_rfl)) rfl fun l K h => by
  split at h
  · exact ⟨_, movedCT_ok _ _ h.1, h.2⟩
  · exact h.elim
def fb6 : Cfg := addT 22 shSmallCT fb5
theorem fb6_ok : TblOk Try.prog fb6 := mkCT_ok fb5_ok (enters_of Try.func22 (by kernel_rfl) (by kernel_rfl)) rfl fun l K h => by
  split at h
  · obtain ⟨⟨h1, h2, h3, h4⟩, h⟩ := h
    have := Shift_good _ _ h3 h2 h1
    simp only [h4, Bool.false_eq_true, if_false] at this
    exact ⟨_, this, h⟩
  · exact h.elim
def fb7 : Cfg := addT 22 shBigCT fb5
theorem fb7_ok : TblOk Try.prog fb7 := mkCT_ok fb5_ok (enters_of Try.func22 (by kernel_rfl) (by kernel_rfl)) rfl fun l K h => by
  split at h
  · obtain ⟨⟨h1, h2, h3, h4⟩, h⟩ := h
    have := Shift_good _ _ h3 h2 h1
    simp only [h4, if_true] at this
    exact ⟨_, this, h⟩
  · exact h.elim
attribute [go_sem] fb1 fb2 fb3 fb4 fb5 fb6 fb7 sqGoodCT shSmallCT shBigCT movedCT

theorem okN_dg' {n : Nat} (h : (dg 4294967296 n).length ≤ 600) : okN (dg 4294967296 n) = true := by
  unfold okN; exact decide_eq_true ⟨h, dg_trd 4294967296 (by omega) n⟩
theorem toNat1 : (1 : Int).toNat = 1 := rfl
attribute [go_sem] toNat1 bs_bl
theorem shf_len (a : Nat) (n : Int) (hl : bl a ≤ 19200) (h : shBig a n = false) : (dg 65536 (shf a n)).length ≤ 1200 := by
  obtain ⟨m, hm⟩ : ∃ m, m = 1200 := ⟨_, rfl⟩
  rw [← hm]
  refine dg_len_le (by omega) _ _ ?_
  rw [show (65536 : Nat) = 2 ^ 16 from rfl, ← Nat.pow_mul]
  rcases Nat.eq_zero_or_pos a with h0 | h0
  · subst h0; rw [shf_zero]; exact Nat.pow_pos (by omega)
  · obtain ⟨-, h2, h3⟩ := bl_spec a h0
    have h4 : ¬ (0 < bl a ∧ 19200 - (bl a : Int) < n) := of_decide_eq_false h
    have h5 : bl a ≤ 16 * m := by omega
    by_cases hn : n < 0
    · rw [shf_neg a n hn]
      exact Nat.lt_of_le_of_lt (Nat.div_le_self _ _) (Nat.lt_of_lt_of_le h2 (Nat.pow_le_pow_right (by omega) h5))
    · rw [shf_pos a n hn]
      have h6 : bl a + n.toNat ≤ 16 * m := by omega
      have h7 : a * 2 ^ n.toNat < 2 ^ bl a * 2 ^ n.toNat := Nat.mul_lt_mul_of_pos_right h2 (Nat.pow_pos (by omega))
      rw [← Nat.pow_add] at h7
      exact Nat.lt_of_lt_of_le h7 (Nat.pow_le_pow_right (by omega) h6)

set_option maxRecDepth 100000 in
set_option maxHeartbeats 1000000 in
theorem moves_good (xs : List Int) (n : Int) (hn : -9223372036854775808 ≤ n ∧ n ≤ 9223372036854775807) (bx : InB 4294967296 xs) (ox : okN xs = true) (hb : shBig (V 4294967296 xs) n = false) :
    Ret Try.prog 4 false [.inl (.ints .u32 xs), .inl (.i .i64 n)] (.c (.b true)) := by
  obtain ⟨lx, tx⟩ := okN_parts ox
  have px := of_len lx bx
  have vx := dg_V 4294967296 (by omega) xs bx tx
  obtain ⟨r1, r2⟩ := rt_spec (V 4294967296 xs)
  have rl0 := dg_len_mono (B := 4294967296) (by omega) (rt_le (V 4294967296 xs))
  rw [vx] at rl0
  have or' := okN_dg' (Nat.le_trans rl0 lx)
  have rl2 := Nat.le_trans (dg_len_mono (B := 65536) (by omega) (rt_le (V 4294967296 xs))) px
  have o1 : (dg 65536 1).length ≤ 2 * 600 := by rw [dg_pos _ _ (by omega) (by omega)]; simp [dg_zero]
  have nl := add_len (B := 65536) (by omega) rl2 o1
  have m1 := mul_len (B := 65536) (by omega) rl2 rl2
  have m2 := mul_len (B := 65536) (by omega) nl nl
  have c1 : ¬ 0 < cmp3 (rt (V 4294967296 xs) * rt (V 4294967296 xs)) (V 4294967296 xs) := by
    unfold cmp3; split
    · omega
    · split
      · omega
      · omega
  have c2 : ¬ cmp3 ((rt (V 4294967296 xs) + 1) * (rt (V 4294967296 xs) + 1)) (V 4294967296 xs) ≤ 0 := by
    unfold cmp3; split
    · omega
    · split
      · omega
      · omega
  have hbl := bl_ok ox bx
  have sl := shf_len _ _ hbl hb
  have sl2 : (dg 4294967296 (shf (V 4294967296 xs) n)).length ≤ 600 := (dg_half _ 600).1 sl
  have hb' : ¬ (0 < bl (V 4294967296 xs) ∧ 19200 - (bl (V 4294967296 xs) : Int) < n) := of_decide_eq_false hb
  have iv : isV (dg 4294967296 (shf (V 4294967296 xs) n)) 0 0 (shf (V 4294967296 xs) n) 0 0 = true := by
    have : ¬ 1200 < (dg 65536 (shf (V 4294967296 xs) n)).length := by omega
    simp [isV, this]
  (refine ret_eq Try.func4 rfl (Nat.le_of_ble_eq_true rfl) (fun F => ?_); simp only [argSl, ofSum, Try.ntmps4, Try.results4])
  repeat' (first | (with_reducible first | refine awp_seq ?_ | refine then_n ?_ | refine then_ret ?_ | refine then_exit ?_ | refine awp_block ?_ | refine awp_skip ?_ | refine awp_exit ?_ | refine awp_ret ?_ | refine inb_n ?_ | refine inb_ret ?_ | refine inb_same ?_ | refine inb_other (by decide) ?_ | refine round_ret ?_ | refine round_exit ?_ | refine join_ret ?_ | refine join_exit ?_) | ((first | with_reducible refine awp_region fb6_ok (fun K hK => ?_) | with_reducible refine awp_region_draw fb6_ok mixed (by kernel_rfl) (fun K hK => ?_)); (simp (config := { maxSteps := 2000000 }) only [go_sem, ↓gd_tt, ↓gd_tf, ↓gd_ft, ↓gd_ff, ↓reduceIte, reduceCtorEq, Nat.reduceLeDiff, Nat.reduceLT, Nat.reduceBEq, Nat.reduceAdd, false_and, and_false]); (with_reducible first | apply And.intro | (intro _; try contradiction) | (refine hK _ ?_; clear hK K)) <;> (repeat' (with_reducible first | apply And.intro | (intro _; try contradiction) | (refine hK _ ?_; clear hK K))) <;> (try (clear hK K; first | omega | assumption | ((simp (disch := omega) only [Int.tdiv_eq_ediv_of_nonneg, Int.tmod_eq_emod_of_nonneg]); omega)))) | (with_reducible refine awp_cond (by ((simp (config := { maxSteps := 2000000 }) only [go_sem, ↓gd_tt, ↓gd_tf, ↓gd_ft, ↓gd_ff, ↓reduceIte, reduceCtorEq, Nat.reduceLeDiff, Nat.reduceLT, Nat.reduceBEq, Nat.reduceAdd, false_and, and_false]); rfl)) ?_ ?_ <;> (try simp only [decide_eq_true_eq, decide_eq_false_iff_not, reduceCtorEq, false_implies, true_implies, eq_self, forall_const, Bool.not_eq_true', Bool.not_eq_false', Bool.not_true, Bool.not_false]) <;> (try (with_reducible intro _; try contradiction))) | with_reducible refine ends_ret (by ((simp only [go_sem, ↓gd_tt, ↓gd_tf, ↓gd_ft, ↓gd_ff, ↓reduceIte, reduceCtorEq, Nat.reduceLeDiff, Nat.reduceLT, Nat.reduceBEq, Nat.reduceAdd, false_and, and_false, ressO, resO, argsC]); rfl)) ?_)
  all_goals (first | contradiction | exact tells_eq rfl | (exfalso; omega) | omega | assumption)

set_option maxRecDepth 100000 in
set_option maxHeartbeats 1000000 in
theorem moves_big (xs : List Int) (n : Int) (hn : -9223372036854775808 ≤ n ∧ n ≤ 9223372036854775807) (bx : InB 4294967296 xs) (ox : okN xs = true) (hb : shBig (V 4294967296 xs) n = true) :
    Ret Try.prog 4 false [.inl (.ints .u32 xs), .inl (.i .i64 n)] (.c (.b true)) := by
  obtain ⟨lx, tx⟩ := okN_parts ox
  have px := of_len lx bx
  have vx := dg_V 4294967296 (by omega) xs bx tx
  obtain ⟨r1, r2⟩ := rt_spec (V 4294967296 xs)
  have rl0 := dg_len_mono (B := 4294967296) (by omega) (rt_le (V 4294967296 xs))
  rw [vx] at rl0
  have or' := okN_dg' (Nat.le_trans rl0 lx)
  have rl2 := Nat.le_trans (dg_len_mono (B := 65536) (by omega) (rt_le (V 4294967296 xs))) px
  have o1 : (dg 65536 1).length ≤ 2 * 600 := by rw [dg_pos _ _ (by omega) (by omega)]; simp [dg_zero]
  have nl := add_len (B := 65536) (by omega) rl2 o1
  have m1 := mul_len (B := 65536) (by omega) rl2 rl2
  have m2 := mul_len (B := 65536) (by omega) nl nl
  have c1 : ¬ 0 < cmp3 (rt (V 4294967296 xs) * rt (V 4294967296 xs)) (V 4294967296 xs) := by
    unfold cmp3; split
    · omega
    · split
      · omega
      · omega
  have c2 : ¬ cmp3 ((rt (V 4294967296 xs) + 1) * (rt (V 4294967296 xs) + 1)) (V 4294967296 xs) ≤ 0 := by
    unfold cmp3; split
    · omega
    · split
      · omega
      · omega
  have hbl := bl_ok ox bx
  have hb' : 0 < bl (V 4294967296 xs) ∧ 19200 - (bl (V 4294967296 xs) : Int) < n := of_decide_eq_true hb
  (refine ret_eq Try.func4 rfl (Nat.le_of_ble_eq_true rfl) (fun F => ?_); simp only [argSl, ofSum, Try.ntmps4, Try.results4])
  repeat' (first | (with_reducible first | refine awp_seq ?_ | refine then_n ?_ | refine then_ret ?_ | refine then_exit ?_ | refine awp_block ?_ | refine awp_skip ?_ | refine awp_exit ?_ | refine awp_ret ?_ | refine inb_n ?_ | refine inb_ret ?_ | refine inb_same ?_ | refine inb_other (by decide) ?_ | refine round_ret ?_ | refine round_exit ?_ | refine join_ret ?_ | refine join_exit ?_) | ((first | with_reducible refine awp_region fb7_ok (fun K hK => ?_) | with_reducible refine awp_region_draw fb7_ok mixed (by kernel_rfl) (fun K hK => ?_)); (simp (config := { maxSteps := 2000000 }) only [go_sem, ↓gd_tt, ↓gd_tf, ↓gd_ft, ↓gd_ff, ↓reduceIte, reduceCtorEq, Nat.reduceLeDiff, Nat.reduceLT, Nat.reduceBEq, Nat.reduceAdd, false_and, and_false]); (with_reducible first | apply And.intro | (intro _; try contradiction) | (refine hK _ ?_; clear hK K)) <;> (repeat' (with_reducible first | apply And.intro | (intro _; try contradiction) | (refine hK _ ?_; clear hK K))) <;> (try (clear hK K; first | omega | assumption | ((simp (disch := omega) only [Int.tdiv_eq_ediv_of_nonneg, Int.tmod_eq_emod_of_nonneg]); omega)))) | (with_reducible refine awp_cond (by ((simp (config := { maxSteps := 2000000 }) only [go_sem, ↓gd_tt, ↓gd_tf, ↓gd_ft, ↓gd_ff, ↓reduceIte, reduceCtorEq, Nat.reduceLeDiff, Nat.reduceLT, Nat.reduceBEq, Nat.reduceAdd, false_and, and_false]); rfl)) ?_ ?_ <;> (try simp only [decide_eq_true_eq, decide_eq_false_iff_not, reduceCtorEq, false_implies, true_implies, eq_self, forall_const, Bool.not_eq_true', Bool.not_eq_false', Bool.not_true, Bool.not_false]) <;> (try (with_reducible intro _; try contradiction))) | with_reducible refine ends_ret (by ((simp only [go_sem, ↓gd_tt, ↓gd_tf, ↓gd_ft, ↓gd_ff, ↓reduceIte, reduceCtorEq, Nat.reduceLeDiff, Nat.reduceLT, Nat.reduceBEq, Nat.reduceAdd, false_and, and_false, ressO, resO, argsC]); rfl)) ?_)
  all_goals (first | contradiction | exact tells_eq rfl | (exfalso; omega) | omega | assumption)

theorem moves_ret (xs : List Int) (n : Int) (hx : xs.length ≤ 140737488355328) (bx : InB 4294967296 xs) (hn : -9223372036854775808 ≤ n ∧ n ≤ 9223372036854775807) :
    Ret Try.prog 4 false [.inl (.ints .u32 xs), .inl (.i .i64 n)] (.c (.b true)) := by
  cases ho : okN xs
  · exact moves_bad xs n hx bx ho
  · cases hb : shBig (V 4294967296 xs) n
    · exact moves_good xs n hn bx ho hb
    · exact moves_big xs n hn bx ho hb

end Go.Proofs.Ytggehgnmfjdkhaa
