/- The law of digits: its walk over the contracts. -/
import Derived.Test.YtggehgnmfjdkhaaW22
import Derived.Test.YtggehgnmfjdkhaaW23
import Derived.Test.YtggehgnmfjdkhaaW19
namespace Go.Proofs.Ytggehgnmfjdkhaa
set_option linter.unusedSimpArgs false
set_option linter.unusedVariables false
open Go.Abs Go.Proofs.NatL

def okXCT : CT := mkCT [.inl (some (.ints .u32 []))] true fun l K => match l with
  | [.inl (.ints .u32 xs)] => (xs.length ≤ 140737488355328 ∧ okN xs = false) ∧ K (.c (.b false))
  | _ => False
def ck4 : Cfg := addT 32 okXCT ck2
theorem ck4_ok : TblOk Try.prog ck4 := mkCT_ok ck2_ok (enters_of Try.func32 (by kernel_rfl) (by kernel_rfl)) rfl fun l K h => by
  split at h
  · obtain ⟨⟨h0, h1⟩, h⟩ := h
    have := valid_ret _ h0
    rw [h1] at this
    exact ⟨_, this.plain rfl, h⟩
  · exact h.elim
attribute [go_sem] ck4 okXCT

theorem Digits_bad (xs : List Int) (b : Int) (hx : xs.length ≤ 140737488355328) (ho : okN xs = false) :
    Ret Try.prog 34 false [.inl (.ints .u32 xs), .inl (.i .i64 b)] (.t [.inl (.ints .i64 []), .inr [.i .i64 6, .i .i64 (-1)]]) := by
  (refine ret_eq Try.func34 rfl (Nat.le_of_ble_eq_true rfl) (fun F => ?_); simp only [argSl, ofSum, Try.ntmps34, Try.results34])
  repeat' (first | (with_reducible first | refine awp_seq ?_ | refine then_n ?_ | refine then_ret ?_ | refine then_exit ?_ | refine awp_block ?_ | refine awp_skip ?_ | refine awp_exit ?_ | refine awp_ret ?_ | refine inb_n ?_ | refine inb_ret ?_ | refine inb_same ?_ | refine inb_other (by decide) ?_ | refine round_ret ?_ | refine round_exit ?_ | refine join_ret ?_ | refine join_exit ?_) | ((first | with_reducible refine awp_region ck4_ok (fun K hK => ?_) | with_reducible refine awp_region_draw ck4_ok mixed (by kernel_rfl) (fun K hK => ?_)); (simp (config := { maxSteps := 2000000 }) only [go_sem, ↓gd_tt, ↓gd_tf, ↓gd_ft, ↓gd_ff, ↓reduceIte, reduceCtorEq, Nat.reduceLeDiff, Nat.reduceLT, Nat.reduceBEq, Nat.reduceAdd, false_and, and_false]); (with_reducible first | apply And.intro | (intro _; try first | contradiction | (exfalso; omega)) | (refine hK _ ?_; clear hK K)) <;> (repeat' (with_reducible first | apply And.intro | (intro _; try first | contradiction | (exfalso; omega)) | (refine hK _ ?_; clear hK K))) <;> (try (clear hK K; first | omega | assumption | ((simp (disch := omega) only [Int.tdiv_eq_ediv_of_nonneg, Int.tmod_eq_emod_of_nonneg]); omega)))) | (with_reducible refine awp_cond (by ((simp (config := { maxSteps := 2000000 }) only [go_sem, ↓gd_tt, ↓gd_tf, ↓gd_ft, ↓gd_ff, ↓reduceIte, reduceCtorEq, Nat.reduceLeDiff, Nat.reduceLT, Nat.reduceBEq, Nat.reduceAdd, false_and, and_false]); rfl)) ?_ ?_ <;> (try simp only [decide_eq_true_eq, decide_eq_false_iff_not, reduceCtorEq, false_implies, true_implies, eq_self, forall_const, Bool.not_eq_true', Bool.not_eq_false', Bool.not_true, Bool.not_false]) <;> (try (with_reducible intro _; try first | contradiction | (exfalso; omega)))) | with_reducible refine ends_ret (by ((simp only [go_sem, ↓gd_tt, ↓gd_tf, ↓gd_ft, ↓gd_ff, ↓reduceIte, reduceCtorEq, Nat.reduceLeDiff, Nat.reduceLT, Nat.reduceBEq, Nat.reduceAdd, false_and, and_false, ressO, resO, argsC]); rfl)) ?_)
  all_goals exact tells_n [.inl (some (.ints .i64 []))] rfl rfl
theorem Digits_base (xs : List Int) (b : Int) (ho : okN xs = true) (h : b < 2 ∨ 36 < b) :
    Ret Try.prog 34 false [.inl (.ints .u32 xs), .inl (.i .i64 b)] (.t [.inl (.ints .i64 []), .inr [.i .i64 4, .i .i64 (-2)]]) := by
  (refine ret_eq Try.func34 rfl (Nat.le_of_ble_eq_true rfl) (fun F => ?_); simp only [argSl, ofSum, Try.ntmps34, Try.results34])
  repeat' (first | (with_reducible first | refine awp_seq ?_ | refine then_n ?_ | refine then_ret ?_ | refine then_exit ?_ | refine awp_block ?_ | refine awp_skip ?_ | refine awp_exit ?_ | refine awp_ret ?_ | refine inb_n ?_ | refine inb_ret ?_ | refine inb_same ?_ | refine inb_other (by decide) ?_ | refine round_ret ?_ | refine round_exit ?_ | refine join_ret ?_ | refine join_exit ?_) | ((first | with_reducible refine awp_region ck3_ok (fun K hK => ?_) | with_reducible refine awp_region_draw ck3_ok mixed (by kernel_rfl) (fun K hK => ?_)); (simp (config := { maxSteps := 2000000 }) only [go_sem, ↓gd_tt, ↓gd_tf, ↓gd_ft, ↓gd_ff, ↓reduceIte, reduceCtorEq, Nat.reduceLeDiff, Nat.reduceLT, Nat.reduceBEq, Nat.reduceAdd, false_and, and_false]); (with_reducible first | apply And.intro | (intro _; try first | contradiction | (exfalso; omega)) | (refine hK _ ?_; clear hK K)) <;> (repeat' (with_reducible first | apply And.intro | (intro _; try first | contradiction | (exfalso; omega)) | (refine hK _ ?_; clear hK K))) <;> (try (clear hK K; first | omega | assumption | ((simp (disch := omega) only [Int.tdiv_eq_ediv_of_nonneg, Int.tmod_eq_emod_of_nonneg]); omega)))) | (with_reducible refine awp_cond (by ((simp (config := { maxSteps := 2000000 }) only [go_sem, ↓gd_tt, ↓gd_tf, ↓gd_ft, ↓gd_ff, ↓reduceIte, reduceCtorEq, Nat.reduceLeDiff, Nat.reduceLT, Nat.reduceBEq, Nat.reduceAdd, false_and, and_false]); rfl)) ?_ ?_ <;> (try simp only [decide_eq_true_eq, decide_eq_false_iff_not, reduceCtorEq, false_implies, true_implies, eq_self, forall_const, Bool.not_eq_true', Bool.not_eq_false', Bool.not_true, Bool.not_false]) <;> (try (with_reducible intro _; try first | contradiction | (exfalso; omega)))) | with_reducible refine ends_ret (by ((simp only [go_sem, ↓gd_tt, ↓gd_tf, ↓gd_ft, ↓gd_ff, ↓reduceIte, reduceCtorEq, Nat.reduceLeDiff, Nat.reduceLT, Nat.reduceBEq, Nat.reduceAdd, false_and, and_false, ressO, resO, argsC]); rfl)) ?_)
  all_goals exact tells_n [.inl (some (.ints .i64 []))] rfl rfl

/-! ### the contracts, by cases -/
def digP (t : Bool) : CT := mkCT [.inl (some (.ints .u32 []))] false fun l K => match l with
  | [.inl (.ints .u32 xs), .inl (.i .i64 b)] => (xs.length ≤ 140737488355328 ∧ InB 4294967296 xs ∧ okN xs = t ∧ 2 ≤ b ∧ b ≤ 36) ∧ K (.t [.inl (.ints .i64 (if t then (dg b.toNat (V 4294967296 xs)).reverse else [])), .inr [.i .i64 (if t then 0 else 6), .i .i64 (if t then 0 else -1)]])
  | _ => False
def digQ (t : Bool) : CT := mkCT [.inl (some (.ints .u32 []))] false fun l K => match l with
  | [.inl (.ints .u32 xs), .inl (.i .i64 b)] => (xs.length ≤ 140737488355328 ∧ okN xs = t ∧ (b < 2 ∨ 36 < b)) ∧ K (.t [.inl (.ints .i64 []), .inr [.i .i64 (if t then 4 else 6), .i .i64 (if t then -2 else -1)]])
  | _ => False
def okP (t : Bool) : CT := mkCT [.inl (some (.ints .u32 []))] true fun l K => match l with
  | [.inl (.ints .u32 xs)] => (xs.length ≤ 140737488355328 ∧ okN xs = t) ∧ K (.c (.b t))
  | _ => False
def fromG : CT := mkCT [.inl (some (.ints .i64 []))] false fun l K => match l with
  | [.inl (.ints .i64 ds), .inl (.i .i64 b)] => (ds.length ≤ 140737488355328 ∧ InB b.toNat ds ∧ 2 ≤ b ∧ b ≤ 36) ∧ K (.t [.inl (.ints .u32 (fitN (dg 4294967296 (rdv b.toNat ds)))), .inr [.i .i64 (fitC (dg 4294967296 (rdv b.toNat ds))), .i .i64 (fitI (dg 4294967296 (rdv b.toNat ds)))]])
  | _ => False
def fromB (k : Nat) : CT := mkCT [.inl (some (.ints .i64 []))] false fun l K => match l with
  | [.inl (.ints .i64 ds), .inl (.i .i64 b)] => (ds.length ≤ 140737488355328 ∧ k < ds.length ∧ InB b.toNat (ds.take k) ∧ ¬ (0 ≤ ds.getD k 0 ∧ ds.getD k 0 < b) ∧ 2 ≤ b ∧ b ≤ 36) ∧ K (.t [.inl (.ints .u32 []), .inr [.i .i64 4, .i .i64 k]])
  | _ => False
def fromQ : CT := mkCT [.inl (some (.ints .i64 []))] false fun l K => match l with
  | [.inl (.ints .i64 ds), .inl (.i .i64 b)] => (b < 2 ∨ 36 < b) ∧ K (.t [.inl (.ints .u32 []), .inr [.i .i64 4, .i .i64 (-2)]])
  | _ => False
def figCT : CT := mkCT [.inl (some (.ints .i64 []))] false fun l K => match l with
  | [.inl (.ints .i64 xs), .inl (.i .i64 b)] => (xs.length ≤ 65536 ∧ InB 65536 xs ∧ Trd xs ∧ 2 ≤ b ∧ b ≤ 36) ∧ K (.c (.ints .i64 (dg b.toNat (V 65536 xs)).reverse))
  | _ => False
def numbersCT : CT := mkCT [.inl (some (.ints .i64 [])), .inl (some (.ints .i64 []))] true fun l K => match l with
  | [.inl (.ints .i64 xs), .inl (.ints .i64 ys)] => (xs.length ≤ 16777216 ∧ ys.length ≤ 16777216) ∧ K (.c (.b (decide (xs = ys))))
  | _ => False
def readCT : CT := mkCT [.inl (some (.ints .i64 []))] false fun l K => match l with
  | [.inl (.ints .i64 ds), .inl (.i .i64 b)] => (ds.length ≤ 65536 ∧ InB b.toNat ds ∧ 2 ≤ b ∧ b ≤ 36) ∧ K (.c (.ints .i64 (dg 65536 (rdv b.toNat ds))))
  | _ => False

def dk1 : Cfg := addT 37 figCT dd1
theorem dk1_ok : TblOk Try.prog dk1 := mkCT_ok dd1_ok (enters_of Try.func37 (by kernel_rfl) (by kernel_rfl)) rfl fun l K h => by
  split at h
  · rename_i xs b
    obtain ⟨⟨h1, h2, h3, h4, h5⟩, h⟩ := h
    obtain ⟨n, rfl⟩ : ∃ n : Nat, b = n := ⟨b.toNat, by omega⟩
    have e := dg_V 65536 (by omega) xs h2 h3
    have := figures_ret (V 65536 xs) n (by rw [e]; exact h1) (by omega) (by omega)
    rw [e] at this
    exact ⟨_, this, by simpa using h⟩
  · exact h.elim
def dk2 : Cfg := addT 36 numbersCT dk1
theorem dk2_ok : TblOk Try.prog dk2 := mkCT_ok dk1_ok (enters_of Try.func36 (by kernel_rfl) (by kernel_rfl)) rfl fun l K h => by
  split at h
  · exact ⟨_, (numbers_ret _ _ h.1.1 h.1.2).plain rfl, h.2⟩
  · exact h.elim
def dk3 : Cfg := addT 38 readCT dk2
theorem dk3_ok : TblOk Try.prog dk3 := mkCT_ok dk2_ok (enters_of Try.func38 (by kernel_rfl) (by kernel_rfl)) rfl fun l K h => by
  split at h
  · rename_i ds b
    obtain ⟨⟨h1, h2, h3, h4⟩, h⟩ := h
    obtain ⟨n, rfl⟩ : ∃ n : Nat, b = n := ⟨b.toNat, by omega⟩
    have := read_ret ds n (by simpa using h2) (by omega) (by omega) h1
    exact ⟨_, this, by simpa using h⟩
  · exact h.elim
def dk4 (t : Bool) : Cfg := addT 17 (okP t) dk3
theorem dk4_ok (t : Bool) : TblOk Try.prog (dk4 t) := mkCT_ok dk3_ok (enters_of Try.func17 (by kernel_rfl) (by kernel_rfl)) rfl fun l K h => by
  split at h
  · obtain ⟨⟨h0, h1⟩, h⟩ := h
    have := naturalOk_ret _ h0
    rw [h1] at this
    exact ⟨_, this.plain rfl, h⟩
  · exact h.elim
def dk5 (t : Bool) : Cfg := addT 34 (digP t) (dk4 t)
theorem dk5_ok (t : Bool) : TblOk Try.prog (dk5 t) := mkCT_ok (dk4_ok t) (enters_of Try.func34 (by kernel_rfl) (by kernel_rfl)) rfl fun l K h => by
  split at h
  · rename_i xs b
    obtain ⟨⟨h1, h2, h3, h4, h5⟩, h⟩ := h
    obtain ⟨n, rfl⟩ : ∃ n : Nat, b = n := ⟨b.toNat, by omega⟩
    cases t
    · exact ⟨_, Digits_bad xs n h1 h3, by simpa using h⟩
    · exact ⟨_, Digits_good xs n h2 h3 (by omega) (by omega), by simpa using h⟩
  · exact h.elim
def dk6 (t : Bool) : Cfg := addT 34 (digQ t) (dk4 t)
theorem dk6_ok (t : Bool) : TblOk Try.prog (dk6 t) := mkCT_ok (dk4_ok t) (enters_of Try.func34 (by kernel_rfl) (by kernel_rfl)) rfl fun l K h => by
  split at h
  · rename_i xs b
    obtain ⟨⟨h1, h3, h4⟩, h⟩ := h
    cases t
    · exact ⟨_, Digits_bad xs b h1 h3, by simpa using h⟩
    · exact ⟨_, Digits_base xs b h3 h4, by simpa using h⟩
  · exact h.elim
def dkG (t : Bool) : Cfg := addT 35 fromG (dk5 t)
theorem dkG_ok (t : Bool) : TblOk Try.prog (dkG t) := mkCT_ok (dk5_ok t) (enters_of Try.func35 (by kernel_rfl) (by kernel_rfl)) rfl fun l K h => by
  split at h
  · rename_i ds b
    obtain ⟨⟨h1, h2, h3, h4⟩, h⟩ := h
    obtain ⟨n, rfl⟩ : ∃ n : Nat, b = n := ⟨b.toNat, by omega⟩
    exact ⟨_, From_good ds n (by simpa using h2) (by omega) (by omega) h1, by simpa using h⟩
  · exact h.elim
def dkB (k : Nat) (t : Bool) : Cfg := addT 35 (fromB k) (dk5 t)
theorem dkB_ok (k : Nat) (t : Bool) : TblOk Try.prog (dkB k t) := mkCT_ok (dk5_ok t) (enters_of Try.func35 (by kernel_rfl) (by kernel_rfl)) rfl fun l K h => by
  split at h
  · rename_i ds b
    obtain ⟨⟨h1, h2, h3, h4, h5, h6⟩, h⟩ := h
    obtain ⟨n, rfl⟩ : ∃ n : Nat, b = n := ⟨b.toNat, by omega⟩
    exact ⟨_, From_badd ds n k h2 (by simpa using h3) h4 (by omega) (by omega) h1, h⟩
  · exact h.elim
def dkQ (t : Bool) : Cfg := addT 35 fromQ (dk6 t)
theorem dkQ_ok (t : Bool) : TblOk Try.prog (dkQ t) := mkCT_ok (dk6_ok t) (enters_of Try.func35 (by kernel_rfl) (by kernel_rfl)) rfl fun l K h => by
  split at h
  · exact ⟨_, From_base _ _ h.1, h.2⟩
  · exact h.elim
theorem dkQokT : TblOk Try.prog (dkQ true) := dkQ_ok true
theorem dkGokT : TblOk Try.prog (dkG true) := dkG_ok true
theorem dkBokT (k : Nat) : TblOk Try.prog (dkB k true) := dkB_ok k true
theorem dkQokF : TblOk Try.prog (dkQ false) := dkQ_ok false
theorem dkGokF : TblOk Try.prog (dkG false) := dkG_ok false
theorem dkBokF (k : Nat) : TblOk Try.prog (dkB k false) := dkB_ok k false
attribute [go_sem] dk1 dk2 dk3 dk4 dk5 dk6 dkG dkB dkQ digP digQ okP fromG fromB fromQ figCT numbersCT readCT

end Go.Proofs.Ytggehgnmfjdkhaa
