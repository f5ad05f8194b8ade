/- The law of sums, differences and products: its walk over the contracts. -/
import Derived.Test.YtggehgnmfjdkhaaW10
import Derived.Test.YtggehgnmfjdkhaaL
namespace Go.Proofs.Ytggehgnmfjdkhaa
set_option linter.unusedSimpArgs false
set_option linter.unusedVariables false
open Go.Abs Go.Proofs.NatL

theorem chkC_zero {xs ys : List Int} (h : okN xs = true) (k : okN ys = true) : chkC xs ys = 0 ∧ chkI xs ys = 0 := by simp [chkC, chkI, h, k]
theorem okN_parts {xs : List Int} (h : okN xs = true) : xs.length ≤ 600 ∧ Trd xs := by simpa [okN] using h
theorem chkC_bad {xs ys : List Int} (h : ¬ (okN xs = true ∧ okN ys = true)) : chkC xs ys ≠ 0 := by
  unfold chkC
  cases hx : okN xs <;> cases hy : okN ys <;> simp_all

/-- two numbers of which one is none -/
def bad2CT : CT := mkCT [.inl (some (.ints .u32 [])), .inl (some (.ints .u32 []))] false fun l K => match l with
  | [.inl (.ints .u32 xs), .inl (.ints .u32 ys)] => (xs.length ≤ 140737488355328 ∧ ys.length ≤ 140737488355328 ∧ InB 4294967296 xs ∧ InB 4294967296 ys ∧ chkC xs ys ≠ 0) ∧ K (.t [.inl (.ints .u32 []), .inr [.i .i64 (chkC xs ys), .i .i64 (chkI xs ys)]])
  | _ => False
def da1 : Cfg := addT 28 bad2CT ch3
theorem da1_ok : TblOk Try.prog da1 := mkCT_ok ch3_ok (enters_of Try.func28 (by kernel_rfl) (by kernel_rfl)) rfl fun l K h => by
  split at h
  · obtain ⟨⟨h1, h2, h3, h4, h5⟩, h⟩ := h
    have := Add_ret _ _ h1 h2 h3 h4
    unfold oneF at this
    rw [if_pos h5] at this
    exact ⟨_, this, h⟩
  · exact h.elim
def da2 : Cfg := addT 29 bad2CT da1
theorem da2_ok : TblOk Try.prog da2 := mkCT_ok da1_ok (enters_of Try.func29 (by kernel_rfl) (by kernel_rfl)) rfl fun l K h => by
  split at h
  · obtain ⟨⟨h1, h2, h3, h4, h5⟩, h⟩ := h
    have := Sub_ret _ _ h1 h2 h3 h4
    unfold oneF at this
    rw [if_pos h5] at this
    exact ⟨_, this, h⟩
  · exact h.elim
def da3 : Cfg := addT 30 bad2CT da2
theorem da3_ok : TblOk Try.prog da3 := mkCT_ok da2_ok (enters_of Try.func30 (by kernel_rfl) (by kernel_rfl)) rfl fun l K h => by
  split at h
  · obtain ⟨⟨h1, h2, h3, h4, h5⟩, h⟩ := h
    have := Mul_ret _ _ h1 h2 h3 h4
    unfold oneF at this
    rw [if_pos h5] at this
    exact ⟨_, this, h⟩
  · exact h.elim
def badCmpCT : CT := mkCT [.inl (some (.ints .u32 [])), .inl (some (.ints .u32 []))] false fun l K => match l with
  | [.inl (.ints .u32 xs), .inl (.ints .u32 ys)] => (xs.length ≤ 140737488355328 ∧ ys.length ≤ 140737488355328 ∧ InB 4294967296 xs ∧ InB 4294967296 ys ∧ chkC xs ys ≠ 0) ∧ K (.t [.inl (.i .i64 0), .inr [.i .i64 (chkC xs ys), .i .i64 (chkI xs ys)]])
  | _ => False
def da4 : Cfg := addT 31 badCmpCT da3
theorem da4_ok : TblOk Try.prog da4 := mkCT_ok da3_ok (enters_of Try.func31 (by kernel_rfl) (by kernel_rfl)) rfl fun l K h => by
  split at h
  · obtain ⟨⟨h1, h2, h3, h4, h5⟩, h⟩ := h
    have := Cmp_ret _ _ h1 h2 h3 h4
    rw [if_pos h5] at this
    exact ⟨_, this, h⟩
  · exact h.elim
attribute [go_sem] da1 da2 da3 da4 bad2CT badCmpCT

set_option maxRecDepth 100000 in
set_option maxHeartbeats 1000000 in
theorem arith_bad (xs ys : List Int) (hx : xs.length ≤ 140737488355328) (hy : ys.length ≤ 140737488355328) (bx : InB 4294967296 xs) (by' : InB 4294967296 ys) (h : chkC xs ys ≠ 0) :
    Ret Try.prog 5 false [.inl (.ints .u32 xs), .inl (.ints .u32 ys)] (.c (.b true)) := by
  (refine ret_eq Try.func5 rfl (Nat.le_of_ble_eq_true rfl) (fun F => ?_); simp only [argSl, ofSum, Try.ntmps5, Try.results5])
  repeat' (first | (with_reducible first | refine awp_seq ?_ | refine then_n ?_ | refine then_ret ?_ | refine then_exit ?_ | refine awp_block ?_ | refine awp_skip ?_ | refine awp_exit ?_ | refine awp_ret ?_ | refine inb_n ?_ | refine inb_ret ?_ | refine inb_same ?_ | refine inb_other (by decide) ?_ | refine round_ret ?_ | refine round_exit ?_ | refine join_ret ?_ | refine join_exit ?_) | ((first | with_reducible refine awp_region da4_ok (fun K hK => ?_) | with_reducible refine awp_region_draw da4_ok mixed (by kernel_rfl) (fun K hK => ?_)); (simp (config := { maxSteps := 2000000 }) only [go_sem, ↓gd_tt, ↓gd_tf, ↓gd_ft, ↓gd_ff, ↓reduceIte, reduceCtorEq, Nat.reduceLeDiff, Nat.reduceLT, Nat.reduceBEq, Nat.reduceAdd, false_and, and_false]); (with_reducible first | apply And.intro | intro _ | (refine hK _ ?_; clear hK K)) <;> (repeat' (with_reducible first | apply And.intro | intro _ | (refine hK _ ?_; clear hK K))) <;> (try (clear hK K; first | omega | assumption | ((simp (disch := omega) only [Int.tdiv_eq_ediv_of_nonneg, Int.tmod_eq_emod_of_nonneg]); omega)))) | (with_reducible refine awp_cond (by ((simp (config := { maxSteps := 2000000 }) only [go_sem, ↓gd_tt, ↓gd_tf, ↓gd_ft, ↓gd_ff, ↓reduceIte, reduceCtorEq, Nat.reduceLeDiff, Nat.reduceLT, Nat.reduceBEq, Nat.reduceAdd, false_and, and_false]); rfl)) ?_ ?_ <;> (try simp only [decide_eq_true_eq, decide_eq_false_iff_not, reduceCtorEq, false_implies, true_implies, eq_self, forall_const, Bool.not_eq_true', Bool.not_eq_false', Bool.not_true, Bool.not_false]) <;> (try with_reducible intro _)) | with_reducible refine ends_ret (by ((simp only [go_sem, ↓gd_tt, ↓gd_tf, ↓gd_ft, ↓gd_ff, ↓reduceIte, reduceCtorEq, Nat.reduceLeDiff, Nat.reduceLT, Nat.reduceBEq, Nat.reduceAdd, false_and, and_false, ressO, resO, argsC]); rfl)) ?_)
  all_goals (first | contradiction | exact tells_eq rfl | (exfalso; simp_all))


/-! ### two numbers -/
def goodCT (n : List Int → List Int → List Int) (c i : List Int → List Int → Int) : CT := mkCT [.inl (some (.ints .u32 [])), .inl (some (.ints .u32 []))] false fun l K => match l with
  | [.inl (.ints .u32 xs), .inl (.ints .u32 ys)] => (okN xs = true ∧ okN ys = true ∧ InB 4294967296 xs ∧ InB 4294967296 ys) ∧ K (.t [.inl (.ints .u32 (n xs ys)), .inr [.i .i64 (c xs ys), .i .i64 (i xs ys)]])
  | _ => False
theorem oneF_good {xs ys n : List Int} {c i : Int} (h : okN xs = true) (k : okN ys = true) : oneF xs ys n c i = .t [.inl (.ints .u32 n), .inr [.i .i64 c, .i .i64 i]] := by
  unfold oneF; rw [if_neg]; simp [(chkC_zero h k).1]
theorem okN_LB {xs : List Int} (h : okN xs = true) : xs.length ≤ 140737488355328 := Nat.le_trans (okN_parts h).1 (by omega)
def subO (xs ys : List Int) : List Int := if V 4294967296 xs < V 4294967296 ys then [] else subN xs ys
def subC (xs ys : List Int) : Int := if V 4294967296 xs < V 4294967296 ys then 4 else 0
def subI (xs ys : List Int) : Int := if V 4294967296 xs < V 4294967296 ys then -2 else 0
def db1 : Cfg := addT 28 (goodCT (fun xs ys => fitN (addN xs ys)) (fun xs ys => fitC (addN xs ys)) (fun xs ys => fitI (addN xs ys))) ch3
theorem db1_ok : TblOk Try.prog db1 := mkCT_ok ch3_ok (enters_of Try.func28 (by kernel_rfl) (by kernel_rfl)) rfl fun l K h => by
  split at h
  · obtain ⟨⟨h1, h2, h3, h4⟩, h⟩ := h
    have := Add_ret _ _ (okN_LB h1) (okN_LB h2) h3 h4
    rw [oneF_good h1 h2] at this
    exact ⟨_, this, h⟩
  · exact h.elim
def db2 : Cfg := addT 30 (goodCT (fun xs ys => fitN (mulN xs ys)) (fun xs ys => fitC (mulN xs ys)) (fun xs ys => fitI (mulN xs ys))) db1
theorem db2_ok : TblOk Try.prog db2 := mkCT_ok db1_ok (enters_of Try.func30 (by kernel_rfl) (by kernel_rfl)) rfl fun l K h => by
  split at h
  · obtain ⟨⟨h1, h2, h3, h4⟩, h⟩ := h
    have := Mul_ret _ _ (okN_LB h1) (okN_LB h2) h3 h4
    rw [oneF_good h1 h2] at this
    exact ⟨_, this, h⟩
  · exact h.elim
def db3 : Cfg := addT 29 (goodCT subO subC subI) db2
theorem db3_ok : TblOk Try.prog db3 := mkCT_ok db2_ok (enters_of Try.func29 (by kernel_rfl) (by kernel_rfl)) rfl fun l K h => by
  split at h
  · obtain ⟨⟨h1, h2, h3, h4⟩, h⟩ := h
    have := Sub_ret _ _ (okN_LB h1) (okN_LB h2) h3 h4
    rw [oneF_good h1 h2] at this
    exact ⟨_, this, h⟩
  · exact h.elim
def CmpCT : CT := mkCT [.inl (some (.ints .u32 [])), .inl (some (.ints .u32 []))] true fun l K => match l with
  | [.inl (.ints .u32 xs), .inl (.ints .u32 ys)] => (okN xs = true ∧ okN ys = true ∧ InB 4294967296 xs ∧ InB 4294967296 ys) ∧ K (.t [.inl (.i .i64 (cmp3 (V 4294967296 xs) (V 4294967296 ys))), .inr [.i .i64 0, .i .i64 0]])
  | _ => False
def db4 : Cfg := addT 31 CmpCT db3
theorem db4_ok : TblOk Try.prog db4 := mkCT_ok db3_ok (enters_of Try.func31 (by kernel_rfl) (by kernel_rfl)) rfl fun l K h => by
  split at h
  · obtain ⟨⟨h1, h2, h3, h4⟩, h⟩ := h
    have := Cmp_ret _ _ (okN_LB h1) (okN_LB h2) h3 h4
    rw [(chkC_zero h1 h2).1, (chkC_zero h1 h2).2, if_neg (by simp)] at this
    exact ⟨_, this.plain rfl, h⟩
  · exact h.elim
def pairCT : CT := mkCT [.inl (some (.ints .u32 [])), .inl (some (.ints .u32 []))] true fun l K => match l with
  | [.inl (.ints .u32 xs), .inl (.ints .u32 ys)] => (okN xs = true ∧ okN ys = true ∧ InB 4294967296 xs ∧ InB 4294967296 ys) ∧ K (.g [.i .i64 0, .i .i64 0])
  | _ => False
def db5 : Cfg := addT 8 pairCT db4
theorem db5_ok : TblOk Try.prog db5 := mkCT_ok db4_ok (enters_of Try.func8 (by kernel_rfl) (by kernel_rfl)) rfl fun l K h => by
  split at h
  · obtain ⟨⟨h1, h2, h3, h4⟩, h⟩ := h
    have := pairFault_ret _ _ (okN_LB h1) (okN_LB h2)
    rw [(chkC_zero h1 h2).1, (chkC_zero h1 h2).2] at this
    exact ⟨_, this.plain rfl, h⟩
  · exact h.elim
def db6 : Cfg := addT 16 ofCT db5
theorem db6_ok : TblOk Try.prog db6 := mkCT_ok db5_ok (enters_of Try.func16 (by kernel_rfl) (by kernel_rfl)) rfl fun l K h => by
  split at h
  · exact ⟨_, of_ret _ h.1.1 h.1.2, h.2⟩
  · exact h.elim
attribute [go_sem] V65 I65 T65 V32 I32 T32 I0 T0 V0
def rnumCT (p : List Int → List Int → Prop) (f : Nat → Nat → Nat) : CT := mkCT [.inl (some (.ints .i64 [])), .inl (some (.ints .i64 []))] false fun l K => match l with
  | [.inl (.ints .i64 xs), .inl (.ints .i64 ys)] => (xs.length ≤ 4194304 ∧ ys.length ≤ 4194304 ∧ InB 65536 xs ∧ InB 65536 ys ∧ Trd xs ∧ Trd ys ∧ p xs ys) ∧ K (.c (.ints .i64 (dg 65536 (f (V 65536 xs) (V 65536 ys)))))
  | _ => False
def rcmpCT : CT := mkCT [.inl (some (.ints .i64 [])), .inl (some (.ints .i64 []))] true fun l K => match l with
  | [.inl (.ints .i64 xs), .inl (.ints .i64 ys)] => (xs.length ≤ 4194304 ∧ ys.length ≤ 4194304 ∧ InB 65536 xs ∧ InB 65536 ys ∧ Trd xs ∧ Trd ys) ∧ K (.c (.i .i64 (cmp3 (V 65536 xs) (V 65536 ys))))
  | _ => False
def db7 : Cfg := addT 18 rcmpCT db6
theorem db7_ok : TblOk Try.prog db7 := mkCT_ok db6_ok (enters_of Try.func18 (by kernel_rfl) (by kernel_rfl)) rfl fun l K h => by
  split at h
  · obtain ⟨⟨h1, h2, h3, h4, h5, h6⟩, h⟩ := h
    exact ⟨_, (rcompare_ret _ _ h1 h2 h3 h4 h5 h6).plain rfl, h⟩
  · exact h.elim
def db8 : Cfg := addT 19 (rnumCT (fun _ _ => True) (· + ·)) db7
theorem db8_ok : TblOk Try.prog db8 := mkCT_ok db7_ok (enters_of Try.func19 (by kernel_rfl) (by kernel_rfl)) rfl fun l K h => by
  split at h
  · obtain ⟨⟨h1, h2, h3, h4, h5, h6, h7⟩, h⟩ := h
    exact ⟨_, plus_ret _ _ h1 h2 h3 h4, h⟩
  · exact h.elim
def db9 : Cfg := addT 20 (rnumCT (fun _ _ => True) (· * ·)) db8
theorem db9_ok : TblOk Try.prog db9 := mkCT_ok db8_ok (enters_of Try.func20 (by kernel_rfl) (by kernel_rfl)) rfl fun l K h => by
  split at h
  · obtain ⟨⟨h1, h2, h3, h4, h5, h6, h7⟩, h⟩ := h
    exact ⟨_, times_ret _ _ h1 h2 h3 h4, h⟩
  · exact h.elim
def db10 : Cfg := addT 33 (rnumCT (fun xs ys => V 65536 ys ≤ V 65536 xs) (· - ·)) db9
theorem db10_ok : TblOk Try.prog db10 := mkCT_ok db9_ok (enters_of Try.func33 (by kernel_rfl) (by kernel_rfl)) rfl fun l K h => by
  split at h
  · obtain ⟨⟨h1, h2, h3, h4, h5, h6, h7⟩, h⟩ := h
    exact ⟨_, minus_ret _ _ h1 (V_le_len (by omega) h3 h4 h6 h7) h3 h4 h7, h⟩
  · exact h.elim
def isTCT : CT := mkCT [.inl (some (.ints .u32 [])), .inr [none, none], .inl (some (.ints .i64 [])), .inr [none, none]] true fun l K => match l with
  | [.inl (.ints .u32 xs), .inr [.i .i64 c, .i .i64 i], .inl (.ints .i64 ys), .inr [.i .i64 wc, .i .i64 wi]] => ((xs.length ≤ 16777216 ∧ ys.length ≤ 4194304 ∧ InB 65536 ys ∧ Trd ys) ∧ isV xs c i (V 65536 ys) wc wi = true) ∧ K (.c (.b true))
  | _ => False
def db11 : Cfg := addT 26 isTCT db10
theorem db11_ok : TblOk Try.prog db11 := mkCT_ok db10_ok (enters_of Try.func26 (by kernel_rfl) (by kernel_rfl)) rfl fun l K h => by
  split at h
  · rename_i xs c i ys wc wi
    obtain ⟨⟨⟨h1, h2, h3, h4⟩, h5⟩, h⟩ := h
    have e := dg_V 65536 (by omega) ys h3 h4
    have := is_ret xs c i (V 65536 ys) wc wi h1 (by rw [e]; exact h2)
    rw [e, h5] at this
    exact ⟨_, this.plain rfl, h⟩
  · exact h.elim
def okTCT : CT := mkCT [.inl (some (.ints .u32 []))] true fun l K => match l with
  | [.inl (.ints .u32 xs)] => okN xs = true ∧ K (.c (.b true))
  | _ => False
def db12 : Cfg := addT 32 okTCT db11
theorem db12_ok : TblOk Try.prog db12 := mkCT_ok db11_ok (enters_of Try.func32 (by kernel_rfl) (by kernel_rfl)) rfl fun l K h => by
  split at h
  · obtain ⟨h1, h⟩ := h
    have := valid_ret _ (okN_LB h1)
    rw [h1] at this
    exact ⟨_, this.plain rfl, h⟩
  · exact h.elim
def db13 : Cfg := addT 17 okTCT db12
theorem db13_ok : TblOk Try.prog db13 := mkCT_ok db12_ok (enters_of Try.func17 (by kernel_rfl) (by kernel_rfl)) rfl fun l K h => by
  split at h
  · obtain ⟨h1, h⟩ := h
    have := naturalOk_ret _ (okN_LB h1)
    rw [h1] at this
    exact ⟨_, this.plain rfl, h⟩
  · exact h.elim
attribute [go_sem] db1 db2 db3 db4 db5 db6 db7 db8 db9 db10 db11 db12 db13 goodCT CmpCT pairCT rnumCT rcmpCT isTCT okTCT

theorem fit_dg (n : Nat) : fitN (dg 4294967296 n) = (if (dg 4294967296 n).length ≤ 600 then dg 4294967296 n else []) ∧ fitC (dg 4294967296 n) = (if (dg 4294967296 n).length ≤ 600 then 0 else 14) ∧ fitI (dg 4294967296 n) = (if (dg 4294967296 n).length ≤ 600 then 0 else -1) := by
  have e : trimL (dg 4294967296 n) = dg 4294967296 n := trimL_stop _ (dg_trd 4294967296 (by omega) n)
  simp only [fitN, fitC, fitI, e, and_self]
theorem isV_fit (n : Nat) : isV (fitN (dg 4294967296 n)) (fitC (dg 4294967296 n)) (fitI (dg 4294967296 n)) n 0 0 = true := by
  obtain ⟨h1, h2, h3⟩ := fit_dg n
  have h4 := dg_half n 600
  rw [h1, h2, h3]
  unfold isV
  by_cases h : (dg 4294967296 n).length ≤ 600
  · have : ¬ 1200 < (dg 65536 n).length := by omega
    simp [h, this]
  · have : 1200 < (dg 65536 n).length := by omega
    simp [h, this]
theorem fitN_len (xs : List Int) : (fitN xs).length ≤ 600 := by
  unfold fitN; split <;> simp_all

set_option maxRecDepth 100000 in
set_option maxHeartbeats 1000000 in
theorem arith_good (xs ys : List Int) (bx : InB 4294967296 xs) (by' : InB 4294967296 ys) (ox : okN xs = true) (oy : okN ys = true) :
    Ret Try.prog 5 false [.inl (.ints .u32 xs), .inl (.ints .u32 ys)] (.c (.b true)) := by
  obtain ⟨lx, tx⟩ := okN_parts ox
  obtain ⟨ly, ty⟩ := okN_parts oy
  have px := of_len lx bx
  have py := of_len ly by'
  have pa := add_len (by omega) px py
  have pm := mul_len (by omega) px py
  have ps : (dg 65536 (V 4294967296 xs - V 4294967296 ys)).length ≤ 2 * 600 := sub_len (by omega) px
  have fa := isV_fit (V 4294967296 xs + V 4294967296 ys)
  have fm := isV_fit (V 4294967296 xs * V 4294967296 ys)
  have ga := fitN_len (addN xs ys)
  have gm := fitN_len (mulN xs ys)
  have gs : (subO xs ys).length ≤ 1200 := by
    unfold subO; split
    · simp
    · exact Nat.le_trans (dg_half_le _ _ ps) (by omega)
  have c1 := cmp3_lt (V 4294967296 xs) (V 4294967296 ys)
  have h0 : (fitC (addN xs ys) = 0 ∧ fitI (addN xs ys) = 0) ∨ (fitC (addN xs ys) = 14 ∧ fitI (addN xs ys) = -1) := by
    unfold addN
    obtain ⟨-, h2, h3⟩ := fit_dg (V 4294967296 xs + V 4294967296 ys)
    rw [h2, h3]
    split <;> simp
  have s1 : cmp3 (V 4294967296 xs) (V 4294967296 ys) < 0 → isV (subO xs ys) (subC xs ys) (subI xs ys) 0 4 (-2) = true := fun h => by
    simp [isV, subO, subC, subI, c1.1 h]
  have s2 : ¬ cmp3 (V 4294967296 xs) (V 4294967296 ys) < 0 → isV (subO xs ys) (subC xs ys) (subI xs ys) (V 4294967296 xs - V 4294967296 ys) 0 0 = true := fun h => by
    have : ¬ V 4294967296 xs < V 4294967296 ys := fun k => h (c1.2 k)
    have h2 : ¬ 1200 < (dg 65536 (V 4294967296 xs - V 4294967296 ys)).length := by omega
    simp [isV, subO, subC, subI, this, h2, subN]
  have s3 : ¬ cmp3 (V 4294967296 xs) (V 4294967296 ys) < 0 → V 4294967296 ys ≤ V 4294967296 xs := fun h => by
    have : ¬ V 4294967296 xs < V 4294967296 ys := fun k => h (c1.2 k)
    omega
  (refine ret_eq Try.func5 rfl (Nat.le_of_ble_eq_true rfl) (fun F => ?_); simp only [argSl, ofSum, Try.ntmps5, Try.results5])
  repeat' (first | (with_reducible first | refine awp_seq ?_ | refine then_n ?_ | refine then_ret ?_ | refine then_exit ?_ | refine awp_block ?_ | refine awp_skip ?_ | refine awp_exit ?_ | refine awp_ret ?_ | refine inb_n ?_ | refine inb_ret ?_ | refine inb_same ?_ | refine inb_other (by decide) ?_ | refine round_ret ?_ | refine round_exit ?_ | refine join_ret ?_ | refine join_exit ?_) | ((first | with_reducible refine awp_region db13_ok (fun K hK => ?_) | with_reducible refine awp_region_draw db13_ok mixed (by kernel_rfl) (fun K hK => ?_)); (simp (config := { maxSteps := 2000000 }) only [go_sem, ↓gd_tt, ↓gd_tf, ↓gd_ft, ↓gd_ff, ↓reduceIte, reduceCtorEq, Nat.reduceLeDiff, Nat.reduceLT, Nat.reduceBEq, Nat.reduceAdd, false_and, and_false]); (with_reducible first | apply And.intro | intro _ | (refine hK _ ?_; clear hK K)) <;> (repeat' (with_reducible first | apply And.intro | intro _ | (refine hK _ ?_; clear hK K))) <;> (try (clear hK K; first | omega | assumption | ((simp (disch := omega) only [Int.tdiv_eq_ediv_of_nonneg, Int.tmod_eq_emod_of_nonneg]); omega)))) | (with_reducible refine awp_cond (by ((simp (config := { maxSteps := 2000000 }) only [go_sem, ↓gd_tt, ↓gd_tf, ↓gd_ft, ↓gd_ff, ↓reduceIte, reduceCtorEq, Nat.reduceLeDiff, Nat.reduceLT, Nat.reduceBEq, Nat.reduceAdd, false_and, and_false]); rfl)) ?_ ?_ <;> (try simp only [decide_eq_true_eq, decide_eq_false_iff_not, reduceCtorEq, false_implies, true_implies, eq_self, forall_const, Bool.not_eq_true', Bool.not_eq_false', Bool.not_true, Bool.not_false]) <;> (try with_reducible intro _)) | with_reducible refine ends_ret (by ((simp only [go_sem, ↓gd_tt, ↓gd_tf, ↓gd_ft, ↓gd_ff, ↓reduceIte, reduceCtorEq, Nat.reduceLeDiff, Nat.reduceLT, Nat.reduceBEq, Nat.reduceAdd, false_and, and_false, ressO, resO, argsC]); rfl)) ?_)
  all_goals (first | assumption | exact tells_eq rfl | (apply s1; assumption) | (apply s2; assumption) | (apply s3; assumption) | (exfalso; rcases h0 with h0 | h0 <;> contradiction) | omega)

theorem arith_ret (xs ys : List Int) (hx : xs.length ≤ 140737488355328) (hy : ys.length ≤ 140737488355328) (bx : InB 4294967296 xs) (by' : InB 4294967296 ys) :
    Ret Try.prog 5 false [.inl (.ints .u32 xs), .inl (.ints .u32 ys)] (.c (.b true)) := by
  by_cases h : okN xs = true ∧ okN ys = true
  · exact arith_good xs ys bx by' h.1 h.2
  · exact arith_bad xs ys hx hy bx by' (chkC_bad h)

end Go.Proofs.Ytggehgnmfjdkhaa
