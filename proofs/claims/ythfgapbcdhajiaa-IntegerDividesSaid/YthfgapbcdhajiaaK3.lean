/- The law IntegerDivides: its walk. -/
import Derived.Test.YthfgapbcdhajiaaK2
import Derived.Test.YthfgapbcdhajiaaJ5
namespace Go.Proofs.Ythfgapbcdhajiaa
set_option linter.unusedSimpArgs false
set_option linter.unusedVariables false
open Go.Abs Go.Proofs.NatL

def iSqP : CT := mkCT [nP] false fun l K => match l with
  | [.inr [.b s, .ints .u32 xs]] => (okZ s xs = true ∧ InB 4294967296 xs ∧ 0 ≤ sv 4294967296 s xs) ∧ K (.t [.inr (gI (rt (sv 4294967296 s xs).natAbs : Nat)), .inr [.i .i64 0, .i .i64 0]])
  | _ => False
def iSqN : CT := mkCT [nP] false fun l K => match l with
  | [.inr [.b s, .ints .u32 xs]] => (okZ s xs = true ∧ InB 4294967296 xs ∧ sv 4294967296 s xs < 0) ∧ K (.t [.inr [.b false, .ints .u32 []], .inr [.i .i64 4, .i .i64 (-1)]])
  | _ => False
def iSqB : CT := mkCT [nP] false fun l K => match l with
  | [.inr [.b s, .ints .u32 xs]] => (xs.length ≤ 140737488355328 ∧ okZ s xs = false) ∧ K (.t [.inr [.b false, .ints .u32 []], .inr [.i .i64 6, .i .i64 (-1)]])
  | _ => False
def kq1 : Cfg := addT 22 iSqP kd2
theorem kq1_ok : TblOk Try.prog kq1 := mkCT_ok kd2_ok (enters_of Try.func22 (by kernel_rfl) (by kernel_rfl)) rfl fun l K h => by
  split at h
  · obtain ⟨⟨h1, h2, h3⟩, h⟩ := h
    obtain ⟨a1, a2, a3⟩ := okZ_eq h1 h2
    have := iSqrt_ok _ h3 (by rw [← a2]; exact a3)
    rw [gI, ← a1, ← a2] at this
    exact ⟨_, this, h⟩
  · exact h.elim
def kq2 : Cfg := addT 22 iSqN kd2
theorem kq2_ok : TblOk Try.prog kq2 := mkCT_ok kd2_ok (enters_of Try.func22 (by kernel_rfl) (by kernel_rfl)) rfl fun l K h => by
  split at h
  · obtain ⟨⟨h1, h2, h3⟩, h⟩ := h
    obtain ⟨a1, a2, a3⟩ := okZ_eq h1 h2
    have := iSqrt_neg _ h3 (by rw [← a2]; exact a3)
    rw [gI, ← a1, ← a2] at this
    exact ⟨_, this, h⟩
  · exact h.elim
def kq3 : Cfg := addT 22 iSqB kd2
theorem kq3_ok : TblOk Try.prog kq3 := mkCT_ok kd2_ok (enters_of Try.func22 (by kernel_rfl) (by kernel_rfl)) rfl fun l K h => by
  split at h
  · exact ⟨_, iSqrt_bad _ _ h.1.1 h.1.2, h.2⟩
  · exact h.elim
def iDvZ : CT := mkCT [nP, nP] false fun l K => match l with
  | [.inr [.b s, .ints .u32 xs], .inr [.b t, .ints .u32 ys]] => (okZ s xs = true ∧ InB 4294967296 xs ∧ okZ t ys = true ∧ InB 4294967296 ys ∧ sv 4294967296 t ys = 0) ∧ K (.t [.inr [.b false, .ints .u32 []], .inr [.b false, .ints .u32 []], .inr [.i .i64 22, .i .i64 (-2)]])
  | _ => False
def kq4 : Cfg := addT 19 iDvZ kd2
theorem kq4_ok : TblOk Try.prog kq4 := mkCT_ok kd2_ok (enters_of Try.func19 (by kernel_rfl) (by kernel_rfl)) rfl fun l K h => by
  split at h
  · obtain ⟨⟨h1, h2, h3, h4, h5⟩, h⟩ := h
    obtain ⟨a1, a2, a3⟩ := okZ_eq h1 h2
    obtain ⟨b1, b2, b3⟩ := okZ_eq h3 h4
    have := iDivMod_zero _ (by rw [← a2]; exact a3)
    rw [← h5, gI, ← a1, ← a2, gI, ← b1, ← b2] at this
    exact ⟨_, this, h⟩
  · exact h.elim
attribute [go_sem] iSqP iSqN iSqB iDvZ

def kvgP : Cfg := listT [(13, countsCT), (24, atCT), (23, ivalidCT), (14, icheckCT), (28, intOfCT), (18, noIntCT), (20, sameIntCT), (26, ofCT), (25, rootCT), (27, commonCT), (29, ifloorCT), (19, (iF2CT (fun _ b => b ≠ 0) rDiv)), (15, (iF2CT (fun _ _ => True) rGcd)), (22, iSqP)] [27]
theorem kvgP_ok : TblOk Try.prog kvgP := listE_ok (by simp only [List.mem_singleton, forall_eq]; exact flt) ⟨⟨kd2, kd2_ok, rfl⟩, ⟨kd2, kd2_ok, rfl⟩, ⟨kd2, kd2_ok, rfl⟩, ⟨kd2, kd2_ok, rfl⟩, ⟨kd2, kd2_ok, rfl⟩, ⟨kd2, kd2_ok, rfl⟩, ⟨kd2, kd2_ok, rfl⟩, ⟨kd2, kd2_ok, rfl⟩, ⟨jt15, jt15_ok, rfl⟩, ⟨kd2, kd2_ok, rfl⟩, ⟨jt15, jt15_ok, rfl⟩, ⟨ku6, ku6_ok, rfl⟩, ⟨ku6, ku6_ok, rfl⟩, ⟨kq1, kq1_ok, rfl⟩, trivial⟩
attribute [go_sem] kvgP
def kvzP : Cfg := listT [(13, countsCT), (24, atCT), (23, ivalidCT), (14, icheckCT), (18, noIntCT), (20, sameIntCT), (26, ofCT), (25, rootCT), (27, commonCT), (19, iDvZ), (15, (iF2CT (fun _ _ => True) rGcd)), (22, iSqP)] [27]
theorem kvzP_ok : TblOk Try.prog kvzP := listE_ok (by simp only [List.mem_singleton, forall_eq]; exact flt) ⟨⟨kd2, kd2_ok, rfl⟩, ⟨kd2, kd2_ok, rfl⟩, ⟨kd2, kd2_ok, rfl⟩, ⟨kd2, kd2_ok, rfl⟩, ⟨kd2, kd2_ok, rfl⟩, ⟨kd2, kd2_ok, rfl⟩, ⟨kd2, kd2_ok, rfl⟩, ⟨jt15, jt15_ok, rfl⟩, ⟨kd2, kd2_ok, rfl⟩, ⟨kq4, kq4_ok, rfl⟩, ⟨ku6, ku6_ok, rfl⟩, ⟨kq1, kq1_ok, rfl⟩, trivial⟩
attribute [go_sem] kvzP
def kvbP : Cfg := listT [(13, countsCT), (24, atCT), (23, ivalidCT), (14, icheckCT), (18, noIntCT), (20, sameIntCT), (26, ofCT), (25, rootCT), (19, (iB2CT [] [.inr [.b false, .ints .u32 []], .inr [.b false, .ints .u32 []]])), (15, (iB2CT [] [.inr [.b false, .ints .u32 []]])), (22, iSqP)] [27]
theorem kvbP_ok : TblOk Try.prog kvbP := listE_ok (by simp only [List.mem_singleton, forall_eq]; exact flt) ⟨⟨kd2, kd2_ok, rfl⟩, ⟨kd2, kd2_ok, rfl⟩, ⟨kd2, kd2_ok, rfl⟩, ⟨kd2, kd2_ok, rfl⟩, ⟨kd2, kd2_ok, rfl⟩, ⟨kd2, kd2_ok, rfl⟩, ⟨kd2, kd2_ok, rfl⟩, ⟨jt15, jt15_ok, rfl⟩, ⟨kb6, kb6_ok, rfl⟩, ⟨kb6, kb6_ok, rfl⟩, ⟨kq1, kq1_ok, rfl⟩, trivial⟩
attribute [go_sem] kvbP
set_option maxRecDepth 100000 in
set_option maxHeartbeats 3200000 in
theorem idiv_goodP (a b : Int) (hs : 0 ≤ a) (hb : b ≠ 0) (la : (dg 4294967296 a.natAbs).length ≤ 128) (lb : (dg 4294967296 b.natAbs).length ≤ 128) :
    Ret Try.prog 4 false [.inr (gI a), .inr (gI b)] (.c (.b true)) := by
  have la2 := len65 la
  have lb2 := len65 lb
  have hg := gcd_le_add a.natAbs b.natAbs
  have g1 := Nat.le_trans (dg_len_mono (B := 65536) (by omega) hg) (add_len (by omega) la2 lb2)
  have g2 : (dg 4294967296 ((Nat.gcd a.natAbs b.natAbs : Nat) : Int).natAbs).length ≤ 129 := Nat.le_trans (dg_len_mono (B := 4294967296) (by omega) hg) (add_len (by omega) la lb)
  have r1 := Nat.le_trans (dg_len_mono (B := 65536) (by omega) (rt_le a.natAbs)) la2
  have r2 : (dg 4294967296 ((rt a.natAbs : Nat) : Int).natAbs).length ≤ 128 := Nat.le_trans (dg_len_mono (B := 4294967296) (by omega) (rt_le a.natAbs)) la
  obtain ⟨f1, f2⟩ := fdiv_abs (a := a) hb
  have q1 := Nat.le_trans (dg_len_mono (B := 65536) (by omega) f1) la2
  have q2 := Nat.le_trans (dg_len_mono (B := 4294967296) (by omega) f1) la
  have p1 := Nat.le_trans (dg_len_mono (B := 65536) (by omega) f2) lb2
  have p2 := Nat.le_trans (dg_len_mono (B := 4294967296) (by omega) f2) lb
  (refine ret_eq Try.func4 rfl (Nat.le_of_ble_eq_true rfl) (fun F => ?_); simp only [argSl, ofSum, Try.ntmps4, Try.results4])
  repeat' (first | (with_reducible first | refine awp_seq ?_ | refine then_n ?_ | refine then_ret ?_ | refine then_exit ?_ | refine awp_block ?_ | refine awp_skip ?_ | refine awp_exit ?_ | refine awp_ret ?_ | refine inb_n ?_ | refine inb_ret ?_ | refine inb_same ?_ | refine inb_other (by decide) ?_ | refine round_ret ?_ | refine round_exit ?_ | refine join_ret ?_ | refine join_exit ?_) | ((first | with_reducible refine awp_region kvgP_ok (fun K hK => ?_) | with_reducible refine awp_region_draw kvgP_ok mixed (by kernel_rfl) (fun K hK => ?_)); (simp (config := { maxSteps := 2000000 }) only [go_sem, ↓gd_tt, ↓gd_tf, ↓gd_ft, ↓gd_ff, ↓reduceIte, reduceCtorEq, Nat.reduceLeDiff, Nat.reduceLT, Nat.reduceBEq, Nat.reduceAdd, false_and, and_false, la, lb, hb, sgf]); (with_reducible first | apply And.intro | (intro _; try first | contradiction | (exfalso; omega)) | (refine hK _ ?_; clear hK K)) <;> (repeat' (with_reducible first | apply And.intro | (intro _; try first | contradiction | (exfalso; omega)) | (refine hK _ ?_; clear hK K))) <;> (try (clear hK K; first | omega | assumption | ((simp (disch := omega) only [Int.tdiv_eq_ediv_of_nonneg, Int.tmod_eq_emod_of_nonneg]); omega)))) | (with_reducible refine awp_cond (by ((simp (config := { maxSteps := 2000000 }) only [go_sem, ↓gd_tt, ↓gd_tf, ↓gd_ft, ↓gd_ff, ↓reduceIte, reduceCtorEq, Nat.reduceLeDiff, Nat.reduceLT, Nat.reduceBEq, Nat.reduceAdd, false_and, and_false, la, lb, hb, sgf]); rfl)) ?_ ?_ <;> (try simp only [decide_eq_true_eq, decide_eq_false_iff_not, reduceCtorEq, false_implies, true_implies, eq_self, forall_const, Bool.not_eq_true', Bool.not_eq_false', Bool.not_true, Bool.not_false]) <;> (try (with_reducible intro _; try first | contradiction | (exfalso; omega)))) | with_reducible refine ends_ret (by ((simp only [go_sem, ↓gd_tt, ↓gd_tf, ↓gd_ft, ↓gd_ff, ↓reduceIte, reduceCtorEq, Nat.reduceLeDiff, Nat.reduceLT, Nat.reduceBEq, Nat.reduceAdd, false_and, and_false, la, lb, hb, sgf, ressO, resO, argsC]); rfl)) ?_)
  all_goals first | contradiction | omega | exact tells_eq rfl | exact tells_eq (by simp [resAV, ofSum]) | skip
set_option maxRecDepth 100000 in
set_option maxHeartbeats 3200000 in
theorem idiv_zeroP (a b : Int) (hs : 0 ≤ a) (hb : b = 0) (la : (dg 4294967296 a.natAbs).length ≤ 128) (lb : (dg 4294967296 b.natAbs).length ≤ 128) :
    Ret Try.prog 4 false [.inr (gI a), .inr (gI b)] (.c (.b true)) := by
  have hb' : (b = 0) = True := eq_true hb
  have la2 := len65 la
  have lb2 := len65 lb
  have hg := gcd_le_add a.natAbs b.natAbs
  have g1 := Nat.le_trans (dg_len_mono (B := 65536) (by omega) hg) (add_len (by omega) la2 lb2)
  have g2 : (dg 4294967296 ((Nat.gcd a.natAbs b.natAbs : Nat) : Int).natAbs).length ≤ 129 := Nat.le_trans (dg_len_mono (B := 4294967296) (by omega) hg) (add_len (by omega) la lb)
  have r1 := Nat.le_trans (dg_len_mono (B := 65536) (by omega) (rt_le a.natAbs)) la2
  have r2 : (dg 4294967296 ((rt a.natAbs : Nat) : Int).natAbs).length ≤ 128 := Nat.le_trans (dg_len_mono (B := 4294967296) (by omega) (rt_le a.natAbs)) la
  (refine ret_eq Try.func4 rfl (Nat.le_of_ble_eq_true rfl) (fun F => ?_); simp only [argSl, ofSum, Try.ntmps4, Try.results4])
  repeat' (first | (with_reducible first | refine awp_seq ?_ | refine then_n ?_ | refine then_ret ?_ | refine then_exit ?_ | refine awp_block ?_ | refine awp_skip ?_ | refine awp_exit ?_ | refine awp_ret ?_ | refine inb_n ?_ | refine inb_ret ?_ | refine inb_same ?_ | refine inb_other (by decide) ?_ | refine round_ret ?_ | refine round_exit ?_ | refine join_ret ?_ | refine join_exit ?_) | ((first | with_reducible refine awp_region kvzP_ok (fun K hK => ?_) | with_reducible refine awp_region_draw kvzP_ok mixed (by kernel_rfl) (fun K hK => ?_)); (simp (config := { maxSteps := 2000000 }) only [go_sem, ↓gd_tt, ↓gd_tf, ↓gd_ft, ↓gd_ff, ↓reduceIte, reduceCtorEq, Nat.reduceLeDiff, Nat.reduceLT, Nat.reduceBEq, Nat.reduceAdd, false_and, and_false, la, lb, hb', sgf]); (with_reducible first | apply And.intro | (intro _; try first | contradiction | (exfalso; omega)) | (refine hK _ ?_; clear hK K)) <;> (repeat' (with_reducible first | apply And.intro | (intro _; try first | contradiction | (exfalso; omega)) | (refine hK _ ?_; clear hK K))) <;> (try (clear hK K; first | omega | assumption | ((simp (disch := omega) only [Int.tdiv_eq_ediv_of_nonneg, Int.tmod_eq_emod_of_nonneg]); omega)))) | (with_reducible refine awp_cond (by ((simp (config := { maxSteps := 2000000 }) only [go_sem, ↓gd_tt, ↓gd_tf, ↓gd_ft, ↓gd_ff, ↓reduceIte, reduceCtorEq, Nat.reduceLeDiff, Nat.reduceLT, Nat.reduceBEq, Nat.reduceAdd, false_and, and_false, la, lb, hb', sgf]); rfl)) ?_ ?_ <;> (try simp only [decide_eq_true_eq, decide_eq_false_iff_not, reduceCtorEq, false_implies, true_implies, eq_self, forall_const, Bool.not_eq_true', Bool.not_eq_false', Bool.not_true, Bool.not_false]) <;> (try (with_reducible intro _; try first | contradiction | (exfalso; omega)))) | with_reducible refine ends_ret (by ((simp only [go_sem, ↓gd_tt, ↓gd_tf, ↓gd_ft, ↓gd_ff, ↓reduceIte, reduceCtorEq, Nat.reduceLeDiff, Nat.reduceLT, Nat.reduceBEq, Nat.reduceAdd, false_and, and_false, la, lb, hb', sgf, ressO, resO, argsC]); rfl)) ?_)
  all_goals first | contradiction | omega | exact tells_eq rfl | exact tells_eq (by simp [resAV, ofSum]) | skip
set_option maxRecDepth 100000 in
set_option maxHeartbeats 3200000 in
theorem idiv_badbP (a : Int) (t : Bool) (ys : List Int) (hs : 0 ≤ a) (la : (dg 4294967296 a.natAbs).length ≤ 128) (ly : ys.length ≤ 140737488355328) (hy : okZ t ys = false) :
    Ret Try.prog 4 false [.inr (gI a), .inr [.b t, .ints .u32 ys]] (.c (.b true)) := by
  have la2 := len65 la
  have r1 := Nat.le_trans (dg_len_mono (B := 65536) (by omega) (rt_le a.natAbs)) la2
  have r2 : (dg 4294967296 ((rt a.natAbs : Nat) : Int).natAbs).length ≤ 128 := Nat.le_trans (dg_len_mono (B := 4294967296) (by omega) (rt_le a.natAbs)) la
  (refine ret_eq Try.func4 rfl (Nat.le_of_ble_eq_true rfl) (fun F => ?_); simp only [argSl, ofSum, Try.ntmps4, Try.results4])
  repeat' (first | (with_reducible first | refine awp_seq ?_ | refine then_n ?_ | refine then_ret ?_ | refine then_exit ?_ | refine awp_block ?_ | refine awp_skip ?_ | refine awp_exit ?_ | refine awp_ret ?_ | refine inb_n ?_ | refine inb_ret ?_ | refine inb_same ?_ | refine inb_other (by decide) ?_ | refine round_ret ?_ | refine round_exit ?_ | refine join_ret ?_ | refine join_exit ?_) | ((first | with_reducible refine awp_region kvbP_ok (fun K hK => ?_) | with_reducible refine awp_region_draw kvbP_ok mixed (by kernel_rfl) (fun K hK => ?_)); (simp (config := { maxSteps := 2000000 }) only [go_sem, ↓gd_tt, ↓gd_tf, ↓gd_ft, ↓gd_ff, ↓reduceIte, reduceCtorEq, Nat.reduceLeDiff, Nat.reduceLT, Nat.reduceBEq, Nat.reduceAdd, false_and, and_false, la, hy, sgf]); (with_reducible first | apply And.intro | (intro _; try first | contradiction | (exfalso; omega)) | (refine hK _ ?_; clear hK K)) <;> (repeat' (with_reducible first | apply And.intro | (intro _; try first | contradiction | (exfalso; omega)) | (refine hK _ ?_; clear hK K))) <;> (try (clear hK K; first | omega | assumption | ((simp (disch := omega) only [Int.tdiv_eq_ediv_of_nonneg, Int.tmod_eq_emod_of_nonneg]); omega)))) | (with_reducible refine awp_cond (by ((simp (config := { maxSteps := 2000000 }) only [go_sem, ↓gd_tt, ↓gd_tf, ↓gd_ft, ↓gd_ff, ↓reduceIte, reduceCtorEq, Nat.reduceLeDiff, Nat.reduceLT, Nat.reduceBEq, Nat.reduceAdd, false_and, and_false, la, hy, sgf]); rfl)) ?_ ?_ <;> (try simp only [decide_eq_true_eq, decide_eq_false_iff_not, reduceCtorEq, false_implies, true_implies, eq_self, forall_const, Bool.not_eq_true', Bool.not_eq_false', Bool.not_true, Bool.not_false]) <;> (try (with_reducible intro _; try first | contradiction | (exfalso; omega)))) | with_reducible refine ends_ret (by ((simp only [go_sem, ↓gd_tt, ↓gd_tf, ↓gd_ft, ↓gd_ff, ↓reduceIte, reduceCtorEq, Nat.reduceLeDiff, Nat.reduceLT, Nat.reduceBEq, Nat.reduceAdd, false_and, and_false, la, hy, sgf, ressO, resO, argsC]); rfl)) ?_)
  all_goals first | contradiction | omega | exact tells_eq rfl | exact tells_eq (by simp [resAV, ofSum]) | skip
def kvgN : Cfg := listT [(13, countsCT), (24, atCT), (23, ivalidCT), (14, icheckCT), (28, intOfCT), (18, noIntCT), (20, sameIntCT), (26, ofCT), (25, rootCT), (27, commonCT), (29, ifloorCT), (19, (iF2CT (fun _ b => b ≠ 0) rDiv)), (15, (iF2CT (fun _ _ => True) rGcd)), (22, iSqN)] [27]
theorem kvgN_ok : TblOk Try.prog kvgN := listE_ok (by simp only [List.mem_singleton, forall_eq]; exact flt) ⟨⟨kd2, kd2_ok, rfl⟩, ⟨kd2, kd2_ok, rfl⟩, ⟨kd2, kd2_ok, rfl⟩, ⟨kd2, kd2_ok, rfl⟩, ⟨kd2, kd2_ok, rfl⟩, ⟨kd2, kd2_ok, rfl⟩, ⟨kd2, kd2_ok, rfl⟩, ⟨kd2, kd2_ok, rfl⟩, ⟨jt15, jt15_ok, rfl⟩, ⟨kd2, kd2_ok, rfl⟩, ⟨jt15, jt15_ok, rfl⟩, ⟨ku6, ku6_ok, rfl⟩, ⟨ku6, ku6_ok, rfl⟩, ⟨kq2, kq2_ok, rfl⟩, trivial⟩
attribute [go_sem] kvgN
def kvzN : Cfg := listT [(13, countsCT), (24, atCT), (23, ivalidCT), (14, icheckCT), (18, noIntCT), (20, sameIntCT), (26, ofCT), (25, rootCT), (27, commonCT), (19, iDvZ), (15, (iF2CT (fun _ _ => True) rGcd)), (22, iSqN)] [27]
theorem kvzN_ok : TblOk Try.prog kvzN := listE_ok (by simp only [List.mem_singleton, forall_eq]; exact flt) ⟨⟨kd2, kd2_ok, rfl⟩, ⟨kd2, kd2_ok, rfl⟩, ⟨kd2, kd2_ok, rfl⟩, ⟨kd2, kd2_ok, rfl⟩, ⟨kd2, kd2_ok, rfl⟩, ⟨kd2, kd2_ok, rfl⟩, ⟨kd2, kd2_ok, rfl⟩, ⟨jt15, jt15_ok, rfl⟩, ⟨kd2, kd2_ok, rfl⟩, ⟨kq4, kq4_ok, rfl⟩, ⟨ku6, ku6_ok, rfl⟩, ⟨kq2, kq2_ok, rfl⟩, trivial⟩
attribute [go_sem] kvzN
def kvbN : Cfg := listT [(13, countsCT), (24, atCT), (23, ivalidCT), (14, icheckCT), (18, noIntCT), (20, sameIntCT), (26, ofCT), (25, rootCT), (19, (iB2CT [] [.inr [.b false, .ints .u32 []], .inr [.b false, .ints .u32 []]])), (15, (iB2CT [] [.inr [.b false, .ints .u32 []]])), (22, iSqN)] [27]
theorem kvbN_ok : TblOk Try.prog kvbN := listE_ok (by simp only [List.mem_singleton, forall_eq]; exact flt) ⟨⟨kd2, kd2_ok, rfl⟩, ⟨kd2, kd2_ok, rfl⟩, ⟨kd2, kd2_ok, rfl⟩, ⟨kd2, kd2_ok, rfl⟩, ⟨kd2, kd2_ok, rfl⟩, ⟨kd2, kd2_ok, rfl⟩, ⟨kd2, kd2_ok, rfl⟩, ⟨jt15, jt15_ok, rfl⟩, ⟨kb6, kb6_ok, rfl⟩, ⟨kb6, kb6_ok, rfl⟩, ⟨kq2, kq2_ok, rfl⟩, trivial⟩
attribute [go_sem] kvbN
set_option maxRecDepth 100000 in
set_option maxHeartbeats 3200000 in
theorem idiv_goodN (a b : Int) (hs : a < 0) (hb : b ≠ 0) (la : (dg 4294967296 a.natAbs).length ≤ 128) (lb : (dg 4294967296 b.natAbs).length ≤ 128) :
    Ret Try.prog 4 false [.inr (gI a), .inr (gI b)] (.c (.b true)) := by
  have la2 := len65 la
  have lb2 := len65 lb
  have hg := gcd_le_add a.natAbs b.natAbs
  have g1 := Nat.le_trans (dg_len_mono (B := 65536) (by omega) hg) (add_len (by omega) la2 lb2)
  have g2 : (dg 4294967296 ((Nat.gcd a.natAbs b.natAbs : Nat) : Int).natAbs).length ≤ 129 := Nat.le_trans (dg_len_mono (B := 4294967296) (by omega) hg) (add_len (by omega) la lb)
  have r1 := Nat.le_trans (dg_len_mono (B := 65536) (by omega) (rt_le a.natAbs)) la2
  have r2 : (dg 4294967296 ((rt a.natAbs : Nat) : Int).natAbs).length ≤ 128 := Nat.le_trans (dg_len_mono (B := 4294967296) (by omega) (rt_le a.natAbs)) la
  obtain ⟨f1, f2⟩ := fdiv_abs (a := a) hb
  have q1 := Nat.le_trans (dg_len_mono (B := 65536) (by omega) f1) la2
  have q2 := Nat.le_trans (dg_len_mono (B := 4294967296) (by omega) f1) la
  have p1 := Nat.le_trans (dg_len_mono (B := 65536) (by omega) f2) lb2
  have p2 := Nat.le_trans (dg_len_mono (B := 4294967296) (by omega) f2) lb
  (refine ret_eq Try.func4 rfl (Nat.le_of_ble_eq_true rfl) (fun F => ?_); simp only [argSl, ofSum, Try.ntmps4, Try.results4])
  repeat' (first | (with_reducible first | refine awp_seq ?_ | refine then_n ?_ | refine then_ret ?_ | refine then_exit ?_ | refine awp_block ?_ | refine awp_skip ?_ | refine awp_exit ?_ | refine awp_ret ?_ | refine inb_n ?_ | refine inb_ret ?_ | refine inb_same ?_ | refine inb_other (by decide) ?_ | refine round_ret ?_ | refine round_exit ?_ | refine join_ret ?_ | refine join_exit ?_) | ((first | with_reducible refine awp_region kvgN_ok (fun K hK => ?_) | with_reducible refine awp_region_draw kvgN_ok mixed (by kernel_rfl) (fun K hK => ?_)); (simp (config := { maxSteps := 2000000 }) only [go_sem, ↓gd_tt, ↓gd_tf, ↓gd_ft, ↓gd_ff, ↓reduceIte, reduceCtorEq, Nat.reduceLeDiff, Nat.reduceLT, Nat.reduceBEq, Nat.reduceAdd, false_and, and_false, la, lb, hb, sgf]); (with_reducible first | apply And.intro | (intro _; try first | contradiction | (exfalso; omega)) | (refine hK _ ?_; clear hK K)) <;> (repeat' (with_reducible first | apply And.intro | (intro _; try first | contradiction | (exfalso; omega)) | (refine hK _ ?_; clear hK K))) <;> (try (clear hK K; first | omega | assumption | ((simp (disch := omega) only [Int.tdiv_eq_ediv_of_nonneg, Int.tmod_eq_emod_of_nonneg]); omega)))) | (with_reducible refine awp_cond (by ((simp (config := { maxSteps := 2000000 }) only [go_sem, ↓gd_tt, ↓gd_tf, ↓gd_ft, ↓gd_ff, ↓reduceIte, reduceCtorEq, Nat.reduceLeDiff, Nat.reduceLT, Nat.reduceBEq, Nat.reduceAdd, false_and, and_false, la, lb, hb, sgf]); rfl)) ?_ ?_ <;> (try simp only [decide_eq_true_eq, decide_eq_false_iff_not, reduceCtorEq, false_implies, true_implies, eq_self, forall_const, Bool.not_eq_true', Bool.not_eq_false', Bool.not_true, Bool.not_false]) <;> (try (with_reducible intro _; try first | contradiction | (exfalso; omega)))) | with_reducible refine ends_ret (by ((simp only [go_sem, ↓gd_tt, ↓gd_tf, ↓gd_ft, ↓gd_ff, ↓reduceIte, reduceCtorEq, Nat.reduceLeDiff, Nat.reduceLT, Nat.reduceBEq, Nat.reduceAdd, false_and, and_false, la, lb, hb, sgf, ressO, resO, argsC]); rfl)) ?_)
  all_goals first | contradiction | omega | exact tells_eq rfl | exact tells_eq (by simp [resAV, ofSum]) | skip
set_option maxRecDepth 100000 in
set_option maxHeartbeats 3200000 in
theorem idiv_zeroN (a b : Int) (hs : a < 0) (hb : b = 0) (la : (dg 4294967296 a.natAbs).length ≤ 128) (lb : (dg 4294967296 b.natAbs).length ≤ 128) :
    Ret Try.prog 4 false [.inr (gI a), .inr (gI b)] (.c (.b true)) := by
  have hb' : (b = 0) = True := eq_true hb
  have la2 := len65 la
  have lb2 := len65 lb
  have hg := gcd_le_add a.natAbs b.natAbs
  have g1 := Nat.le_trans (dg_len_mono (B := 65536) (by omega) hg) (add_len (by omega) la2 lb2)
  have g2 : (dg 4294967296 ((Nat.gcd a.natAbs b.natAbs : Nat) : Int).natAbs).length ≤ 129 := Nat.le_trans (dg_len_mono (B := 4294967296) (by omega) hg) (add_len (by omega) la lb)
  have r1 := Nat.le_trans (dg_len_mono (B := 65536) (by omega) (rt_le a.natAbs)) la2
  have r2 : (dg 4294967296 ((rt a.natAbs : Nat) : Int).natAbs).length ≤ 128 := Nat.le_trans (dg_len_mono (B := 4294967296) (by omega) (rt_le a.natAbs)) la
  (refine ret_eq Try.func4 rfl (Nat.le_of_ble_eq_true rfl) (fun F => ?_); simp only [argSl, ofSum, Try.ntmps4, Try.results4])
  repeat' (first | (with_reducible first | refine awp_seq ?_ | refine then_n ?_ | refine then_ret ?_ | refine then_exit ?_ | refine awp_block ?_ | refine awp_skip ?_ | refine awp_exit ?_ | refine awp_ret ?_ | refine inb_n ?_ | refine inb_ret ?_ | refine inb_same ?_ | refine inb_other (by decide) ?_ | refine round_ret ?_ | refine round_exit ?_ | refine join_ret ?_ | refine join_exit ?_) | ((first | with_reducible refine awp_region kvzN_ok (fun K hK => ?_) | with_reducible refine awp_region_draw kvzN_ok mixed (by kernel_rfl) (fun K hK => ?_)); (simp (config := { maxSteps := 2000000 }) only [go_sem, ↓gd_tt, ↓gd_tf, ↓gd_ft, ↓gd_ff, ↓reduceIte, reduceCtorEq, Nat.reduceLeDiff, Nat.reduceLT, Nat.reduceBEq, Nat.reduceAdd, false_and, and_false, la, lb, hb', sgf]); (with_reducible first | apply And.intro | (intro _; try first | contradiction | (exfalso; omega)) | (refine hK _ ?_; clear hK K)) <;> (repeat' (with_reducible first | apply And.intro | (intro _; try first | contradiction | (exfalso; omega)) | (refine hK _ ?_; clear hK K))) <;> (try (clear hK K; first | omega | assumption | ((simp (disch := omega) only [Int.tdiv_eq_ediv_of_nonneg, Int.tmod_eq_emod_of_nonneg]); omega)))) | (with_reducible refine awp_cond (by ((simp (config := { maxSteps := 2000000 }) only [go_sem, ↓gd_tt, ↓gd_tf, ↓gd_ft, ↓gd_ff, ↓reduceIte, reduceCtorEq, Nat.reduceLeDiff, Nat.reduceLT, Nat.reduceBEq, Nat.reduceAdd, false_and, and_false, la, lb, hb', sgf]); rfl)) ?_ ?_ <;> (try simp only [decide_eq_true_eq, decide_eq_false_iff_not, reduceCtorEq, false_implies, true_implies, eq_self, forall_const, Bool.not_eq_true', Bool.not_eq_false', Bool.not_true, Bool.not_false]) <;> (try (with_reducible intro _; try first | contradiction | (exfalso; omega)))) | with_reducible refine ends_ret (by ((simp only [go_sem, ↓gd_tt, ↓gd_tf, ↓gd_ft, ↓gd_ff, ↓reduceIte, reduceCtorEq, Nat.reduceLeDiff, Nat.reduceLT, Nat.reduceBEq, Nat.reduceAdd, false_and, and_false, la, lb, hb', sgf, ressO, resO, argsC]); rfl)) ?_)
  all_goals first | contradiction | omega | exact tells_eq rfl | exact tells_eq (by simp [resAV, ofSum]) | skip
set_option maxRecDepth 100000 in
set_option maxHeartbeats 3200000 in
theorem idiv_badbN (a : Int) (t : Bool) (ys : List Int) (hs : a < 0) (la : (dg 4294967296 a.natAbs).length ≤ 128) (ly : ys.length ≤ 140737488355328) (hy : okZ t ys = false) :
    Ret Try.prog 4 false [.inr (gI a), .inr [.b t, .ints .u32 ys]] (.c (.b true)) := by
  have la2 := len65 la
  have r1 := Nat.le_trans (dg_len_mono (B := 65536) (by omega) (rt_le a.natAbs)) la2
  have r2 : (dg 4294967296 ((rt a.natAbs : Nat) : Int).natAbs).length ≤ 128 := Nat.le_trans (dg_len_mono (B := 4294967296) (by omega) (rt_le a.natAbs)) la
  (refine ret_eq Try.func4 rfl (Nat.le_of_ble_eq_true rfl) (fun F => ?_); simp only [argSl, ofSum, Try.ntmps4, Try.results4])
  repeat' (first | (with_reducible first | refine awp_seq ?_ | refine then_n ?_ | refine then_ret ?_ | refine then_exit ?_ | refine awp_block ?_ | refine awp_skip ?_ | refine awp_exit ?_ | refine awp_ret ?_ | refine inb_n ?_ | refine inb_ret ?_ | refine inb_same ?_ | refine inb_other (by decide) ?_ | refine round_ret ?_ | refine round_exit ?_ | refine join_ret ?_ | refine join_exit ?_) | ((first | with_reducible refine awp_region kvbN_ok (fun K hK => ?_) | with_reducible refine awp_region_draw kvbN_ok mixed (by kernel_rfl) (fun K hK => ?_)); (simp (config := { maxSteps := 2000000 }) only [go_sem, ↓gd_tt, ↓gd_tf, ↓gd_ft, ↓gd_ff, ↓reduceIte, reduceCtorEq, Nat.reduceLeDiff, Nat.reduceLT, Nat.reduceBEq, Nat.reduceAdd, false_and, and_false, la, hy, sgf]); (with_reducible first | apply And.intro | (intro _; try first | contradiction | (exfalso; omega)) | (refine hK _ ?_; clear hK K)) <;> (repeat' (with_reducible first | apply And.intro | (intro _; try first | contradiction | (exfalso; omega)) | (refine hK _ ?_; clear hK K))) <;> (try (clear hK K; first | omega | assumption | ((simp (disch := omega) only [Int.tdiv_eq_ediv_of_nonneg, Int.tmod_eq_emod_of_nonneg]); omega)))) | (with_reducible refine awp_cond (by ((simp (config := { maxSteps := 2000000 }) only [go_sem, ↓gd_tt, ↓gd_tf, ↓gd_ft, ↓gd_ff, ↓reduceIte, reduceCtorEq, Nat.reduceLeDiff, Nat.reduceLT, Nat.reduceBEq, Nat.reduceAdd, false_and, and_false, la, hy, sgf]); rfl)) ?_ ?_ <;> (try simp only [decide_eq_true_eq, decide_eq_false_iff_not, reduceCtorEq, false_implies, true_implies, eq_self, forall_const, Bool.not_eq_true', Bool.not_eq_false', Bool.not_true, Bool.not_false]) <;> (try (with_reducible intro _; try first | contradiction | (exfalso; omega)))) | with_reducible refine ends_ret (by ((simp only [go_sem, ↓gd_tt, ↓gd_tf, ↓gd_ft, ↓gd_ff, ↓reduceIte, reduceCtorEq, Nat.reduceLeDiff, Nat.reduceLT, Nat.reduceBEq, Nat.reduceAdd, false_and, and_false, la, hy, sgf, ressO, resO, argsC]); rfl)) ?_)
  all_goals first | contradiction | omega | exact tells_eq rfl | exact tells_eq (by simp [resAV, ofSum]) | skip
def kvb : Cfg := listT [(13, countsCT), (24, atCT), (23, ivalidCT), (14, icheckCT), (18, noIntCT), (19, (iB2CT [] [.inr [.b false, .ints .u32 []], .inr [.b false, .ints .u32 []]])), (15, (iB2CT [] [.inr [.b false, .ints .u32 []]])), (22, iSqB)] [27]
theorem kvb_ok : TblOk Try.prog kvb := listE_ok (by simp only [List.mem_singleton, forall_eq]; exact flt) ⟨⟨kd2, kd2_ok, rfl⟩, ⟨kd2, kd2_ok, rfl⟩, ⟨kd2, kd2_ok, rfl⟩, ⟨kd2, kd2_ok, rfl⟩, ⟨kd2, kd2_ok, rfl⟩, ⟨kb6, kb6_ok, rfl⟩, ⟨kb6, kb6_ok, rfl⟩, ⟨kq3, kq3_ok, rfl⟩, trivial⟩
attribute [go_sem] kvb
set_option maxRecDepth 100000 in
set_option maxHeartbeats 3200000 in
theorem idiv_bada (s t : Bool) (xs ys : List Int) (lx : xs.length ≤ 140737488355328) (ly : ys.length ≤ 140737488355328) (hx : okZ s xs = false) :
    Ret Try.prog 4 false [.inr [.b s, .ints .u32 xs], .inr [.b t, .ints .u32 ys]] (.c (.b true)) := by
  (refine ret_eq Try.func4 rfl (Nat.le_of_ble_eq_true rfl) (fun F => ?_); simp only [argSl, ofSum, Try.ntmps4, Try.results4])
  repeat' (first | (with_reducible first | refine awp_seq ?_ | refine then_n ?_ | refine then_ret ?_ | refine then_exit ?_ | refine awp_block ?_ | refine awp_skip ?_ | refine awp_exit ?_ | refine awp_ret ?_ | refine inb_n ?_ | refine inb_ret ?_ | refine inb_same ?_ | refine inb_other (by decide) ?_ | refine round_ret ?_ | refine round_exit ?_ | refine join_ret ?_ | refine join_exit ?_) | ((first | with_reducible refine awp_region kvb_ok (fun K hK => ?_) | with_reducible refine awp_region_draw kvb_ok mixed (by kernel_rfl) (fun K hK => ?_)); (simp (config := { maxSteps := 2000000 }) only [go_sem, ↓gd_tt, ↓gd_tf, ↓gd_ft, ↓gd_ff, ↓reduceIte, reduceCtorEq, Nat.reduceLeDiff, Nat.reduceLT, Nat.reduceBEq, Nat.reduceAdd, false_and, and_false, hx]); (with_reducible first | apply And.intro | (intro _; try first | contradiction | (exfalso; omega)) | (refine hK _ ?_; clear hK K)) <;> (repeat' (with_reducible first | apply And.intro | (intro _; try first | contradiction | (exfalso; omega)) | (refine hK _ ?_; clear hK K))) <;> (try (clear hK K; first | omega | assumption | ((simp (disch := omega) only [Int.tdiv_eq_ediv_of_nonneg, Int.tmod_eq_emod_of_nonneg]); omega)))) | (with_reducible refine awp_cond (by ((simp (config := { maxSteps := 2000000 }) only [go_sem, ↓gd_tt, ↓gd_tf, ↓gd_ft, ↓gd_ff, ↓reduceIte, reduceCtorEq, Nat.reduceLeDiff, Nat.reduceLT, Nat.reduceBEq, Nat.reduceAdd, false_and, and_false, hx]); rfl)) ?_ ?_ <;> (try simp only [decide_eq_true_eq, decide_eq_false_iff_not, reduceCtorEq, false_implies, true_implies, eq_self, forall_const, Bool.not_eq_true', Bool.not_eq_false', Bool.not_true, Bool.not_false]) <;> (try (with_reducible intro _; try first | contradiction | (exfalso; omega)))) | with_reducible refine ends_ret (by ((simp only [go_sem, ↓gd_tt, ↓gd_tf, ↓gd_ft, ↓gd_ff, ↓reduceIte, reduceCtorEq, Nat.reduceLeDiff, Nat.reduceLT, Nat.reduceBEq, Nat.reduceAdd, false_and, and_false, hx, ressO, resO, argsC]); rfl)) ?_)
  all_goals first | contradiction | omega | exact tells_eq rfl | exact tells_eq (by simp [resAV, ofSum]) | skip

theorem gI_of {s : Bool} {xs : List Int} (h1 : okZ s xs = true) (h2 : InB 4294967296 xs) : gI (sv 4294967296 s xs) = [.b s, .ints .u32 xs] ∧ (dg 4294967296 (sv 4294967296 s xs).natAbs).length ≤ 128 := by
  obtain ⟨a1, a2, a3⟩ := okZ_eq h1 h2
  exact ⟨by rw [gI, ← a1, ← a2], by rw [← a2]; exact a3⟩
theorem idiv_ret (s t : Bool) (xs ys : List Int) (lx : xs.length ≤ 140737488355328) (ly : ys.length ≤ 140737488355328) (bx : InB 4294967296 xs) (by_ : InB 4294967296 ys) :
    Ret Try.prog 4 false [.inr [.b s, .ints .u32 xs], .inr [.b t, .ints .u32 ys]] (.c (.b true)) := by
  cases h1 : okZ s xs
  · exact idiv_bada s t xs ys lx ly h1
  · obtain ⟨e1, l1⟩ := gI_of h1 bx
    rw [← e1]
    generalize sv 4294967296 s xs = a at *
    cases h2 : okZ t ys
    · by_cases ha : a < 0
      · exact idiv_badbN a t ys ha l1 ly h2
      · exact idiv_badbP a t ys (by omega) l1 ly h2
    · obtain ⟨e2, l2⟩ := gI_of h2 by_
      rw [← e2]
      generalize sv 4294967296 t ys = b at *
      by_cases hb : b = 0
      · by_cases ha : a < 0
        · exact idiv_zeroN a b ha hb l1 l2
        · exact idiv_zeroP a b (by omega) hb l1 l2
      · by_cases ha : a < 0
        · exact idiv_goodN a b ha hb l1 l2
        · exact idiv_goodP a b (by omega) hb l1 l2

end Go.Proofs.Ythfgapbcdhajiaa
