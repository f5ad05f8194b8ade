import Derived.Test.YtgogdabniebplaaN14
import Derived.Test.YtgogdabniebplaaN22
import Derived.Test.YtgogdabniebplaaN23
namespace Go.Proofs.Ytgogdabniebplaa
set_option linter.unusedSimpArgs false
set_option linter.unusedVariables false
open Go.Abs Go.Proofs.NatL

theorem okN_dg' {n : Nat} (h : (dg 4294967296 n).length ≤ 600) : okN (dg 4294967296 n) = true := by
  unfold okN; exact decide_eq_true ⟨h, dg_trd 4294967296 (by omega) n⟩
theorem okN_d (n : Nat) : okN (dg 4294967296 n) = decide ((dg 4294967296 n).length ≤ 600) := by
  unfold okN
  congr 1
  exact propext ⟨fun h => h.1, fun h => ⟨h, dg_trd 4294967296 (by omega) n⟩⟩
theorem okN_one {b : Nat} (h0 : 0 < b) (h : b < 4294967296) : okN [(b : Int)] = true := by
  unfold okN; exact decide_eq_true ⟨by simp, .inr (by simp; omega)⟩
theorem fit_small {n : Nat} (h : (dg 4294967296 n).length ≤ 600) : fitN (dg 4294967296 n) = dg 4294967296 n ∧ fitC (dg 4294967296 n) = 0 ∧ fitI (dg 4294967296 n) = 0 := by
  obtain ⟨h1, h2, h3⟩ := fit_dg n
  rw [h1, h2, h3]; simp [h]

def dvGoodCT : CT := mkCT [.inl (some (.ints .u32 [])), .inl (some (.ints .u32 []))] false fun l K => match l with
  | [.inl (.ints .u32 xs), .inl (.ints .u32 ys)] => (okN xs = true ∧ okN ys = true ∧ InB 4294967296 xs ∧ InB 4294967296 ys ∧ 0 < V 4294967296 ys) ∧ K (.t [.inl (.ints .u32 (dg 4294967296 (V 4294967296 xs / V 4294967296 ys))), .inl (.ints .u32 (dg 4294967296 (V 4294967296 xs % V 4294967296 ys))), .inr [.i .i64 0, .i .i64 0]])
  | _ => False
def dvZeroCT : CT := mkCT [.inl (some (.ints .u32 [])), .inl (some (.ints .u32 []))] false fun l K => match l with
  | [.inl (.ints .u32 xs), .inl (.ints .u32 ys)] => (okN xs = true ∧ InB 4294967296 xs ∧ ys = []) ∧ K (.t [.inl (.ints .u32 []), .inl (.ints .u32 []), .inr [.i .i64 22, .i .i64 (-2)]])
  | _ => False
def gcGoodCT : CT := mkCT [.inl (some (.ints .u32 [])), .inl (some (.ints .u32 []))] false fun l K => match l with
  | [.inl (.ints .u32 xs), .inl (.ints .u32 ys)] => (okN xs = true ∧ okN ys = true ∧ InB 4294967296 xs ∧ InB 4294967296 ys) ∧ K (.t [.inl (.ints .u32 (dg 4294967296 (Nat.gcd (V 4294967296 xs) (V 4294967296 ys)))), .inr [.i .i64 0, .i .i64 0]])
  | _ => False
def nt1 : Cfg := addT 131 gcGoodCT rg3
theorem nt1_ok : TblOk Try.prog nt1 := q_I rg3_ok Try.func131 fun l K h => by
  split at h
  · obtain ⟨⟨h1, h2, h3, h4⟩, h⟩ := h
    have := Gcd_ret _ _ (okN_LB h1) (okN_LB h2) h3 h4
    simp only [gcO, (chkC_zero h1 h2).1, (chkC_zero h1 h2).2, if_true] at this
    exact ⟨_, this, h⟩
  · exact h.elim
theorem dvGood_ok (xs ys : List Int) (h1 : okN xs = true) (h2 : okN ys = true) (h3 : InB 4294967296 xs) (h4 : InB 4294967296 ys) (h5 : 0 < V 4294967296 ys) :
    Ret Try.prog 127 false [.inl (.ints .u32 xs), .inl (.ints .u32 ys)] (.t [.inl (.ints .u32 (dg 4294967296 (V 4294967296 xs / V 4294967296 ys))), .inl (.ints .u32 (dg 4294967296 (V 4294967296 xs % V 4294967296 ys))), .inr [.i .i64 0, .i .i64 0]]) := by
  have := DivMod_ret _ _ (okN_LB h1) (okN_LB h2) h3 h4
  have hn : ys ≠ [] := fun e => by subst e; simp [V] at h5
  simp only [dvQ, dvR, dvC, dvI, dvE, (chkC_zero h1 h2).1, hn, ne_eq, not_true_eq_false, not_false_eq_true, and_self, decide_true, if_true, if_false] at this
  exact this
theorem dvZero_ok (xs : List Int) (h1 : okN xs = true) (h2 : InB 4294967296 xs) :
    Ret Try.prog 127 false [.inl (.ints .u32 xs), .inl (.ints .u32 [])] (.t [.inl (.ints .u32 []), .inl (.ints .u32 []), .inr [.i .i64 22, .i .i64 (-2)]]) := by
  have h0 : okN [] = true := by decide
  have := DivMod_ret xs [] (okN_LB h1) (by simp) h2 (InB_nil _)
  simp only [dvQ, dvR, dvC, dvI, dvE, (chkC_zero h1 h0).1, ne_eq, not_true_eq_false, and_false, decide_false, Bool.false_eq_true, if_true, if_false] at this
  exact this
def nt2 : Cfg := addT 127 dvGoodCT nt1
theorem nt2_ok : TblOk Try.prog nt2 := q_I nt1_ok Try.func127 fun l K h => by
  split at h
  · obtain ⟨⟨h1, h2, h3, h4, h5⟩, h⟩ := h
    exact ⟨_, dvGood_ok _ _ h1 h2 h3 h4 h5, h⟩
  · exact h.elim
def nt3 : Cfg := addT 145 bitsGoodCT nt2
theorem nt3_ok : TblOk Try.prog nt3 := q_I nt2_ok Try.func145 fun l K h => by
  split at h
  · obtain ⟨⟨h1, h2⟩, h⟩ := h
    have := Bits_ret _ (okN_LB' h1) h2
    simp only [if_pos h1] at this
    exact ⟨_, this.plain rfl, h⟩
  · exact h.elim
def sqGoodCT : CT := mkCT [.inl (some (.ints .u32 []))] false fun l K => match l with
  | [.inl (.ints .u32 xs)] => (okN xs = true ∧ InB 4294967296 xs) ∧ K (.t [.inl (.ints .u32 (dg 4294967296 (rt (V 4294967296 xs)))), .inr [.i .i64 0, .i .i64 0]])
  | _ => False
def nt4 : Cfg := addT 133 sqGoodCT nt3
theorem nt4_ok : TblOk Try.prog nt4 := q_I nt3_ok Try.func133 fun l K h => by
  split at h
  · exact ⟨_, Sqrt_good _ h.1.2 h.1.1, h.2⟩
  · exact h.elim
def digG : CT := mkCT [.inl (some (.ints .u32 []))] false fun l K => match l with
  | [.inl (.ints .u32 xs), .inl (.i .i64 b)] => (InB 4294967296 xs ∧ okN xs = true ∧ 2 ≤ b ∧ b ≤ 36) ∧ K (.t [.inl (.ints .i64 (dg b.toNat (V 4294967296 xs)).reverse), .inr [.i .i64 0, .i .i64 0]])
  | _ => False
def nt5 : Cfg := addT 139 digG nt4
theorem nt5_ok : TblOk Try.prog nt5 := q_I nt4_ok Try.func139 fun l K h => by
  split at h
  · rename_i xs b
    obtain ⟨⟨h2, h3, h4, h5⟩, h⟩ := h
    obtain ⟨n, rfl⟩ : ∃ n : Nat, b = n := ⟨b.toNat, by omega⟩
    exact ⟨_, Digits_good xs n h2 h3 (by omega) (by omega), by simpa using h⟩
  · exact h.elim
def fromG : CT := mkCT [.inl (some (.ints .i64 []))] false fun l K => match l with
  | [.inl (.ints .i64 ds), .inl (.i .i64 b)] => (ds.length ≤ 140737488355328 ∧ InB b.toNat ds ∧ 2 ≤ b ∧ b ≤ 36) ∧ K (.t [.inl (.ints .u32 (fitN (dg 4294967296 (rdv b.toNat ds)))), .inr [.i .i64 (fitC (dg 4294967296 (rdv b.toNat ds))), .i .i64 (fitI (dg 4294967296 (rdv b.toNat ds)))]])
  | _ => False
def nt6 : Cfg := addT 141 fromG nt5
theorem nt6_ok : TblOk Try.prog nt6 := q_I nt5_ok Try.func141 fun l K h => by
  split at h
  · rename_i ds b
    obtain ⟨⟨h1, h2, h3, h4⟩, h⟩ := h
    obtain ⟨n, rfl⟩ : ∃ n : Nat, b = n := ⟨b.toNat, by omega⟩
    exact ⟨_, From_good ds n (by simpa using h2) (by omega) (by omega) h1, by simpa using h⟩
  · exact h.elim
def nt7 : Cfg := addT 138 smallCT nt6
theorem nt7_ok : TblOk Try.prog nt7 := q_I nt6_ok Try.func138 fun l K h => by
  split at h
  · rename_i n
    obtain ⟨m, rfl⟩ : ∃ m : Nat, n = m := ⟨n.toNat, by omega⟩
    exact ⟨_, small_ret m (by omega), by simpa using h.2⟩
  · exact h.elim
def nt8 : Cfg := addT 81 onesCT nt7
theorem nt8_ok : TblOk Try.prog nt8 := q_I nt7_ok Try.func81 fun l K h => by
  split at h
  · rename_i xs
    obtain ⟨⟨h1, h2, h3⟩, h⟩ := h
    have e := dg_V 65536 (by omega) xs h2 h3
    have := ones_ret (V 65536 xs) (by rw [e]; exact h1)
    rw [e] at this
    exact ⟨_, this, h⟩
  · exact h.elim
def nt9 : Cfg := addT 120 binaryCT nt8
theorem nt9_ok : TblOk Try.prog nt9 := q_I nt8_ok Try.func120 fun l K h => by
  split at h
  · exact ⟨_, binary_ret _ h.1, h.2⟩
  · exact h.elim
def nt10 : Cfg := addT 85 movedCT nt9
theorem nt10_ok : TblOk Try.prog nt10 := q_I nt9_ok Try.func85 fun l K h => by
  split at h
  · exact ⟨_, movedCT_ok _ _ h.1, h.2⟩
  · exact h.elim
def figCT : CT := mkCT [.inl (some (.ints .i64 []))] false fun l K => match l with
  | [.inl (.ints .i64 xs), .inl (.i .i64 b)] => (xs.length ≤ 65536 ∧ InB 65536 xs ∧ Trd xs ∧ 2 ≤ b ∧ b ≤ 36) ∧ K (.c (.ints .i64 (dg b.toNat (V 65536 xs)).reverse))
  | _ => False
def readCT : CT := mkCT [.inl (some (.ints .i64 []))] false fun l K => match l with
  | [.inl (.ints .i64 ds), .inl (.i .i64 b)] => (ds.length ≤ 65536 ∧ InB b.toNat ds ∧ 2 ≤ b ∧ b ≤ 36) ∧ K (.c (.ints .i64 (dg 65536 (rdv b.toNat ds))))
  | _ => False
def nt11 : Cfg := addT 142 figCT nt10
theorem nt11_ok : TblOk Try.prog nt11 := q_I nt10_ok Try.func142 fun l K h => by
  split at h
  · rename_i xs b
    obtain ⟨⟨h1, h2, h3, h4, h5⟩, h⟩ := h
    obtain ⟨n, rfl⟩ : ∃ n : Nat, b = n := ⟨b.toNat, by omega⟩
    have e := dg_V 65536 (by omega) xs h2 h3
    have := figures_ret (V 65536 xs) n (by rw [e]; exact h1) (by omega) (by omega)
    rw [e] at this
    exact ⟨_, this, by simpa using h⟩
  · exact h.elim
def nt12 : Cfg := addT 143 readCT nt11
theorem nt12_ok : TblOk Try.prog nt12 := q_I nt11_ok Try.func143 fun l K h => by
  split at h
  · rename_i ds b
    obtain ⟨⟨h1, h2, h3, h4⟩, h⟩ := h
    obtain ⟨n, rfl⟩ : ∃ n : Nat, b = n := ⟨b.toNat, by omega⟩
    have := read_ret ds n (by simpa using h2) (by omega) (by omega) h1
    exact ⟨_, this, by simpa using h⟩
  · exact h.elim
def nt13 : Cfg := addT 146 cloneCT nt12
theorem nt13_ok : TblOk Try.prog nt13 := mkCTO_ok nt12_ok (q_C Try.func146 (by kernel_rfl) (by kernel_rfl)) rfl fun l K h => by
  split at h
  · exact ⟨_, clone_ret _ h.1, h.2⟩
  · exact h.elim
attribute [go_sem] dvGoodCT gcGoodCT sqGoodCT digG fromG figCT readCT movedCT okN_d V65 I65 T65 V32 I32 T32

end Go.Proofs.Ytgogdabniebplaa
