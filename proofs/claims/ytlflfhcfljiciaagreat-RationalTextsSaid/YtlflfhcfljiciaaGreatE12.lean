import Derived.Test.YtlflfhcfljiciaaGreatE11
import Derived.Test.YtlflfhcfljiciaaGreatE5
import Derived.Test.YtlflfhcfljiciaaGreatE9
namespace Go.Proofs.YtlflfhcfljiciaaGreat
set_option linter.unusedSimpArgs false
set_option linter.unusedVariables false
open Go.Abs Go.Proofs.NatL

theorem okN_dg' {n : Nat} (h : (dg 4294967296 n).length ≤ 600) : okN (dg 4294967296 n) = true := by
  unfold okN; exact decide_eq_true ⟨h, dg_trd 4294967296 (by omega) n⟩
theorem okN_d (n : Nat) : okN (dg 4294967296 n) = decide ((dg 4294967296 n).length ≤ 600) := by
  unfold okN
  congr 1
  exact propext ⟨fun h => h.1, fun h => ⟨h, dg_trd 4294967296 (by omega) n⟩⟩
theorem okN_one {b : Nat} (h0 : 0 < b) (h : b < 4294967296) : okN [(b : Int)] = true := by
  unfold okN; exact decide_eq_true ⟨by simp, .inr (by simp; omega)⟩
theorem fit_small {n : Nat} (h : (dg 4294967296 n).length ≤ 600) : fitN (dg 4294967296 n) = dg 4294967296 n ∧ fitC (dg 4294967296 n) = 0 ∧ fitI (dg 4294967296 n) = 0 := by
  obtain ⟨h1, h2, h3⟩ := fit_dg n
  rw [h1, h2, h3]; simp [h]

def dvGoodCT : CT := mkCT [.inl (some (.ints .u32 [])), .inl (some (.ints .u32 []))] false fun l K => match l with
  | [.inl (.ints .u32 xs), .inl (.ints .u32 ys)] => (okN xs = true ∧ okN ys = true ∧ InB 4294967296 xs ∧ InB 4294967296 ys ∧ 0 < V 4294967296 ys) ∧ K (.t [.inl (.ints .u32 (dg 4294967296 (V 4294967296 xs / V 4294967296 ys))), .inl (.ints .u32 (dg 4294967296 (V 4294967296 xs % V 4294967296 ys))), .inr [.i .i64 0, .i .i64 0]])
  | _ => False
def gcGoodCT : CT := mkCT [.inl (some (.ints .u32 [])), .inl (some (.ints .u32 []))] false fun l K => match l with
  | [.inl (.ints .u32 xs), .inl (.ints .u32 ys)] => (okN xs = true ∧ okN ys = true ∧ InB 4294967296 xs ∧ InB 4294967296 ys) ∧ K (.t [.inl (.ints .u32 (dg 4294967296 (Nat.gcd (V 4294967296 xs) (V 4294967296 ys)))), .inr [.i .i64 0, .i .i64 0]])
  | _ => False
def nt1 : Cfg := addT 50 gcGoodCT rg3
theorem nt1_ok : TblOk Tryz.prog nt1 := q_I rg3_ok Tryz.func50 fun l K h => by
  split at h
  · obtain ⟨⟨h1, h2, h3, h4⟩, h⟩ := h
    have := Gcd_ret _ _ (okN_LB h1) (okN_LB h2) h3 h4
    simp only [gcO, (chkC_zero h1 h2).1, (chkC_zero h1 h2).2, if_true] at this
    exact ⟨_, this, h⟩
  · exact h.elim
theorem dvGood_ok (xs ys : List Int) (h1 : okN xs = true) (h2 : okN ys = true) (h3 : InB 4294967296 xs) (h4 : InB 4294967296 ys) (h5 : 0 < V 4294967296 ys) :
    Ret Tryz.prog 73 false [.inl (.ints .u32 xs), .inl (.ints .u32 ys)] (.t [.inl (.ints .u32 (dg 4294967296 (V 4294967296 xs / V 4294967296 ys))), .inl (.ints .u32 (dg 4294967296 (V 4294967296 xs % V 4294967296 ys))), .inr [.i .i64 0, .i .i64 0]]) := by
  have := DivMod_ret _ _ (okN_LB h1) (okN_LB h2) h3 h4
  have hn : ys ≠ [] := fun e => by subst e; simp [V] at h5
  simp only [dvQ, dvR, dvC, dvI, dvE, (chkC_zero h1 h2).1, hn, ne_eq, not_true_eq_false, not_false_eq_true, and_self, decide_true, if_true, if_false] at this
  exact this
def nt2 : Cfg := addT 73 dvGoodCT nt1
theorem nt2_ok : TblOk Tryz.prog nt2 := q_I nt1_ok Tryz.func73 fun l K h => by
  split at h
  · obtain ⟨⟨h1, h2, h3, h4, h5⟩, h⟩ := h
    exact ⟨_, dvGood_ok _ _ h1 h2 h3 h4 h5, h⟩
  · exact h.elim
def nt3 : Cfg := nt2
theorem nt3_ok : TblOk Tryz.prog nt3 := nt2_ok
def sqGoodCT : CT := mkCT [.inl (some (.ints .u32 []))] false fun l K => match l with
  | [.inl (.ints .u32 xs)] => (okN xs = true ∧ InB 4294967296 xs) ∧ K (.t [.inl (.ints .u32 (dg 4294967296 (rt (V 4294967296 xs)))), .inr [.i .i64 0, .i .i64 0]])
  | _ => False
def nt4 : Cfg := nt3
theorem nt4_ok : TblOk Tryz.prog nt4 := nt3_ok
def digG : CT := mkCT [.inl (some (.ints .u32 []))] false fun l K => match l with
  | [.inl (.ints .u32 xs), .inl (.i .i64 b)] => (InB 4294967296 xs ∧ okN xs = true ∧ 2 ≤ b ∧ b ≤ 36) ∧ K (.t [.inl (.ints .i64 (dg b.toNat (V 4294967296 xs)).reverse), .inr [.i .i64 0, .i .i64 0]])
  | _ => False
def nt5 : Cfg := addT 43 digG nt4
theorem nt5_ok : TblOk Tryz.prog nt5 := q_I nt4_ok Tryz.func43 fun l K h => by
  split at h
  · rename_i xs b
    obtain ⟨⟨h2, h3, h4, h5⟩, h⟩ := h
    obtain ⟨n, rfl⟩ : ∃ n : Nat, b = n := ⟨b.toNat, by omega⟩
    exact ⟨_, Digits_good xs n h2 h3 (by omega) (by omega), by simpa using h⟩
  · exact h.elim
def fromG : CT := mkCT [.inl (some (.ints .i64 []))] false fun l K => match l with
  | [.inl (.ints .i64 ds), .inl (.i .i64 b)] => (ds.length ≤ 140737488355328 ∧ InB b.toNat ds ∧ 2 ≤ b ∧ b ≤ 36) ∧ K (.t [.inl (.ints .u32 (fitN (dg 4294967296 (rdv b.toNat ds)))), .inr [.i .i64 (fitC (dg 4294967296 (rdv b.toNat ds))), .i .i64 (fitI (dg 4294967296 (rdv b.toNat ds)))]])
  | _ => False
def nt6 : Cfg := addT 47 fromG nt5
theorem nt6_ok : TblOk Tryz.prog nt6 := q_I nt5_ok Tryz.func47 fun l K h => by
  split at h
  · rename_i ds b
    obtain ⟨⟨h1, h2, h3, h4⟩, h⟩ := h
    obtain ⟨n, rfl⟩ : ∃ n : Nat, b = n := ⟨b.toNat, by omega⟩
    exact ⟨_, From_good ds n (by simpa using h2) (by omega) (by omega) h1, by simpa using h⟩
  · exact h.elim
def nt7 : Cfg := addT 11 smallCT nt6
theorem nt7_ok : TblOk Tryz.prog nt7 := q_I nt6_ok Tryz.func11 fun l K h => by
  split at h
  · rename_i n
    obtain ⟨m, rfl⟩ : ∃ m : Nat, n = m := ⟨n.toNat, by omega⟩
    exact ⟨_, small_ret m (by omega), by simpa using h.2⟩
  · exact h.elim
def nt8 : Cfg := nt7
theorem nt8_ok : TblOk Tryz.prog nt8 := nt7_ok
def nt9 : Cfg := addT 37 binaryCT nt8
theorem nt9_ok : TblOk Tryz.prog nt9 := q_I nt8_ok Tryz.func37 fun l K h => by
  split at h
  · exact ⟨_, binary_ret _ h.1, h.2⟩
  · exact h.elim
def nt10 : Cfg := nt9
theorem nt10_ok : TblOk Tryz.prog nt10 := nt9_ok
def figCT : CT := mkCT [.inl (some (.ints .i64 []))] false fun l K => match l with
  | [.inl (.ints .i64 xs), .inl (.i .i64 b)] => (xs.length ≤ 65536 ∧ InB 65536 xs ∧ Trd xs ∧ 2 ≤ b ∧ b ≤ 36) ∧ K (.c (.ints .i64 (dg b.toNat (V 65536 xs)).reverse))
  | _ => False
def readCT : CT := mkCT [.inl (some (.ints .i64 []))] false fun l K => match l with
  | [.inl (.ints .i64 ds), .inl (.i .i64 b)] => (ds.length ≤ 65536 ∧ InB b.toNat ds ∧ 2 ≤ b ∧ b ≤ 36) ∧ K (.c (.ints .i64 (dg 65536 (rdv b.toNat ds))))
  | _ => False
def nt11 : Cfg := addT 33 figCT nt10
theorem nt11_ok : TblOk Tryz.prog nt11 := q_I nt10_ok Tryz.func33 fun l K h => by
  split at h
  · rename_i xs b
    obtain ⟨⟨h1, h2, h3, h4, h5⟩, h⟩ := h
    obtain ⟨n, rfl⟩ : ∃ n : Nat, b = n := ⟨b.toNat, by omega⟩
    have e := dg_V 65536 (by omega) xs h2 h3
    have := figures_ret (V 65536 xs) n (by rw [e]; exact h1) (by omega) (by omega)
    rw [e] at this
    exact ⟨_, this, by simpa using h⟩
  · exact h.elim
def nt12 : Cfg := addT 36 readCT nt11
theorem nt12_ok : TblOk Tryz.prog nt12 := q_I nt11_ok Tryz.func36 fun l K h => by
  split at h
  · rename_i ds b
    obtain ⟨⟨h1, h2, h3, h4⟩, h⟩ := h
    obtain ⟨n, rfl⟩ : ∃ n : Nat, b = n := ⟨b.toNat, by omega⟩
    have := read_ret ds n (by simpa using h2) (by omega) (by omega) h1
    exact ⟨_, this, by simpa using h⟩
  · exact h.elim
def nt13 : Cfg := addT 71 cloneCT nt12
theorem nt13_ok : TblOk Tryz.prog nt13 := mkCTO_ok nt12_ok (q_C Tryz.func71 (by kernel_rfl) (by kernel_rfl)) rfl fun l K h => by
  split at h
  · exact ⟨_, clone_ret _ h.1, h.2⟩
  · exact h.elim
attribute [go_sem] dvGoodCT gcGoodCT sqGoodCT digG fromG figCT readCT movedCT okN_d V65 I65 T65 V32 I32 T32
end Go.Proofs.YtlflfhcfljiciaaGreat

namespace Go.Proofs.NatL
set_option linter.unusedSimpArgs false
set_option linter.unusedVariables false

def sv (B : Nat) (s : Bool) (xs : List Int) : Int := if s then -(V B xs : Int) else V B xs
def sgz (z : Int) (b : Bool) : Bool := if z = 0 then b else decide (z < 0)

theorem sv_sgz {B : Nat} (hB : 2 ≤ B) (z : Int) (b : Bool) : sv B (sgz z b) (dg B z.natAbs) = z := by
  unfold sv sgz
  rw [V_dg B hB]
  by_cases h0 : z = 0
  · subst h0; simp
  · rw [if_neg h0]
    by_cases h : z < 0
    · rw [if_pos (by simpa using h)]; omega
    · rw [if_neg (by simpa using h)]; omega
theorem sv_sg {B : Nat} (hB : 2 ≤ B) (z : Int) : sv B (decide (z < 0)) (dg B z.natAbs) = z := by
  have := sv_sgz hB z false
  unfold sgz at this
  by_cases h0 : z = 0
  · subst h0; simp [sv, dg_zero, V]
  · rw [if_neg h0] at this; exact this
theorem sv32 (z : Int) : sv 4294967296 (decide (z < 0)) (dg 4294967296 z.natAbs) = z := sv_sg (by omega) z
theorem sv65 (z : Int) : sv 65536 (decide (z < 0)) (dg 65536 z.natAbs) = z := sv_sg (by omega) z
theorem svz65 (z : Int) (b : Bool) : sv 65536 (sgz z b) (dg 65536 z.natAbs) = z := sv_sgz (by omega) z b
theorem svf (B : Nat) (xs : List Int) : sv B false xs = V B xs := rfl
theorem svt (B : Nat) (xs : List Int) : sv B true xs = -(V B xs : Int) := rfl
theorem sv0 (B : Nat) (s : Bool) : sv B s [] = 0 := by cases s <;> simp [sv, V]
theorem sv_abs (B : Nat) (s : Bool) (xs : List Int) : (sv B s xs).natAbs = V B xs := by cases s <;> simp [sv]
instance decTrd (xs : List Int) : Decidable (Trd xs) := by unfold Trd; infer_instance
def sg (s : Bool) (m : Nat) : Int := if s then -(m : Int) else m
theorem sv_d {B : Nat} (hB : 2 ≤ B) (s : Bool) (m : Nat) : sv B s (dg B m) = sg s m := by unfold sv sg; rw [V_dg B hB]
theorem sv32d (s : Bool) (m : Nat) : sv 4294967296 s (dg 4294967296 m) = sg s m := sv_d (by omega) s m
theorem sgt (m : Nat) : sg true m = -(m : Int) := rfl
theorem sgf (m : Nat) : sg false m = m := rfl
theorem sg_abs (s : Bool) (m : Nat) : (sg s m).natAbs = m := by cases s <;> simp [sg]
theorem sg_self (a : Int) : sg (decide (a < 0)) a.natAbs = a := by
  by_cases h : a < 0
  · rw [decide_eq_true h, sgt]; omega
  · rw [decide_eq_false h, sgf]; omega
theorem sg_not (s : Bool) (m : Nat) : sg (!s) m = -sg s m := by cases s <;> simp [sg]
theorem sg_mul (s t : Bool) (m n : Nat) : sg (s != t) (m * n) = sg s m * sg t n := by cases s <;> cases t <;> simp [sg, Int.neg_mul, Int.mul_neg]
def okZ (s : Bool) (xs : List Int) : Bool := decide (xs.length ≤ 128 ∧ ((xs = [] ∧ s = false) ∨ (xs ≠ [] ∧ Trd xs)))
theorem okZ_eq {s : Bool} {xs : List Int} (h : okZ s xs = true) (bx : InB 4294967296 xs) :
    s = decide (sv 4294967296 s xs < 0) ∧ xs = dg 4294967296 (sv 4294967296 s xs).natAbs ∧ xs.length ≤ 128 := by
  unfold okZ at h
  obtain ⟨hl, h⟩ := of_decide_eq_true h
  rw [sv_abs]
  rcases h with ⟨rfl, rfl⟩ | ⟨hne, ht⟩
  · exact ⟨by simp [sv, V], by simp [V, dg_zero], hl⟩
  · have hd := dg_V 4294967296 (by omega) xs bx ht
    have h0 : 0 < V 4294967296 xs := by
      rcases Nat.eq_zero_or_pos (V 4294967296 xs) with h | h
      · rw [h, dg_zero] at hd; exact absurd hd.symm hne
      · exact h
    refine ⟨?_, hd.symm, hl⟩
    cases s
    · rw [decide_eq_false]; simp [sv]
    · rw [decide_eq_true]; simp [sv]; omega
theorem okZ_g (z : Int) : okZ (decide (z < 0)) (dg 4294967296 z.natAbs) = decide ((dg 4294967296 z.natAbs).length ≤ 128) := by
  unfold okZ
  congr 1
  refine propext ⟨fun h => h.1, fun h => ⟨h, ?_⟩⟩
  by_cases h0 : z = 0
  · subst h0; left; exact ⟨rfl, rfl⟩
  · right
    refine ⟨fun e => ?_, dg_trd _ (by omega) _⟩
    have := (dg_len_pos 4294967296 z.natAbs (by omega)).2 (by omega)
    rw [e] at this; simp at this
theorem okZ_len {s : Bool} {xs : List Int} (h : okZ s xs = true) : xs.length ≤ 128 := (of_decide_eq_true h).1
theorem okZ_trd {s : Bool} {xs : List Int} (h : okZ s xs = true) : Trd xs := by
  rcases (of_decide_eq_true h).2 with ⟨rfl, _⟩ | ⟨_, h⟩
  · exact .inl rfl
  · exact h

def cl (k : Nat) (z : Int) : Int := if (dg 4294967296 z.natAbs).length ≤ k then z else 0
def clC (k : Nat) (z : Int) : Int := if (dg 4294967296 z.natAbs).length ≤ k then 0 else 14
def clI (k : Nat) (z : Int) : Int := if (dg 4294967296 z.natAbs).length ≤ k then 0 else -1
theorem cl_fit {k : Nat} {z : Int} (h : (dg 4294967296 z.natAbs).length ≤ k) : cl k z = z ∧ clC k z = 0 ∧ clI k z = 0 := by simp [cl, clC, clI, h]
theorem cl_big {k : Nat} {z : Int} (h : ¬ (dg 4294967296 z.natAbs).length ≤ k) : cl k z = 0 ∧ clC k z = 14 ∧ clI k z = -1 := by simp [cl, clC, clI, h]
theorem cl_len (k : Nat) (z : Int) : (dg 4294967296 (cl k z).natAbs).length ≤ k := by
  unfold cl; split
  · assumption
  · simp [dg_zero]
theorem dg_len_iff' {B : Nat} (hB : 2 ≤ B) (n k : Nat) : (dg B n).length ≤ k ↔ n < B ^ k := by
  constructor
  · intro h; exact lt_of_len hB h
  · exact dg_len_le hB n k
theorem dg_half' (n k : Nat) : (dg 65536 n).length ≤ 2 * k ↔ (dg 4294967296 n).length ≤ k := by
  rw [dg_len_iff' (by omega), dg_len_iff' (by omega), Nat.pow_mul]
def fbC : List (Bool × List Int) → Int
  | [] => 0
  | p :: l => if okZ p.1 p.2 then fbC l else 6
def fbX : Int → List (Bool × List Int) → Int
  | _, [] => 0
  | i, p :: l => if okZ p.1 p.2 then fbX (i + 1) l else -1 - i
def allL (n : Nat) : List (Bool × List Int) → Prop
  | [] => True
  | p :: l => p.2.length ≤ n ∧ allL n l
theorem allL_get {n : Nat} : ∀ {l : List (Bool × List Int)} {i : Nat}, allL n l → (l.getD i (false, [])).2.length ≤ n
  | [], i, _ => by simp
  | p :: l, 0, h => h.1
  | p :: l, i + 1, h => by simpa using allL_get (i := i) h.2
theorem drop_getD (l : List (Bool × List Int)) (i : Nat) (h : i < l.length) : l.drop i = l.getD i (false, []) :: l.drop (i + 1) := by
  rw [List.drop_eq_getElem_cons h, List.getD_eq_getElem?_getD, List.getElem?_eq_getElem h]; rfl
theorem okZ_iff (s : Bool) (xs : List Int) (b : Bool) (h : b = true ↔ ((xs.length : Int) ≤ 128 ∧ (((xs.length : Int) = 0 ∧ s = false) ∨ (0 < (xs.length : Int) ∧ xs.getD ((xs.length : Int) - 1).toNat 0 ≠ 0)))) : b = okZ s xs := by
  have e : ((xs.length : Int) - 1).toNat = xs.length - 1 := by omega
  have h2 : okZ s xs = true ↔ ((xs.length : Int) ≤ 128 ∧ (((xs.length : Int) = 0 ∧ s = false) ∨ (0 < (xs.length : Int) ∧ xs.getD ((xs.length : Int) - 1).toNat 0 ≠ 0))) := by
    unfold okZ Trd
    rw [decide_eq_true_iff, e]
    have e1 : xs = [] ↔ (xs.length : Int) = 0 := by rw [← List.length_eq_zero_iff]; omega
    have e2 : xs.length = 0 ↔ (xs.length : Int) = 0 := by omega
    rw [e1, e2, ne_eq, e1]
    constructor
    · rintro ⟨h1, h3 | ⟨h3, h4 | h4⟩⟩
      · exact ⟨by omega, .inl h3⟩
      · exact absurd h4 h3
      · exact ⟨by omega, .inr ⟨by omega, h4⟩⟩
    · rintro ⟨h1, h3 | ⟨h3, h4⟩⟩
      · exact ⟨by omega, .inl h3⟩
      · exact ⟨by omega, .inr ⟨by omega, .inr h4⟩⟩
  rw [Bool.eq_iff_iff, h, h2]

def cmpZ (a b : Int) : Int := if a < b then -1 else if a = b then 0 else 1
theorem cmp3_Z (a b : Nat) : cmp3 a b = cmpZ (a : Int) b := by
  unfold cmp3 cmpZ
  rcases Nat.lt_trichotomy a b with h | h | h
  · rw [if_pos h, if_pos (by omega)]
  · subst h; simp
  · rw [if_neg (by omega), if_neg (by omega), if_neg (by omega), if_neg (by omega)]

theorem floor_parts (b : Int) (hb : b ≠ 0) (a : Int) : ∃ (n m q r : Nat), 0 < n ∧ (b = n ∧ ¬ b < 0 ∨ b = -(n : Int) ∧ b < 0) ∧ (a = m ∧ ¬ a < 0 ∨ a = -(m : Int) ∧ a < 0) ∧ a.natAbs = m ∧ b.natAbs = n ∧ m / n = q ∧ m % n = r ∧ n * q + r = m ∧ r < n := by
  refine ⟨b.natAbs, a.natAbs, a.natAbs / b.natAbs, a.natAbs % b.natAbs, by omega, by omega, by omega, rfl, rfl, rfl, rfl, Nat.div_add_mod _ _, Nat.mod_lt _ (by omega)⟩
theorem fdm_pos {a b q r : Int} (hb : 0 < b) (h : r + b * q = a) (h0 : 0 ≤ r) (h1 : r < b) : q = a.fdiv b ∧ r = a.fmod b := by
  obtain ⟨h2, h3⟩ := (Int.fdiv_fmod_unique hb).2 ⟨h, h0, h1⟩
  exact ⟨h2.symm, h3.symm⟩
theorem fdm_neg {a b q r : Int} (hb : b < 0) (h : r + b * q = a) (h0 : b < r) (h1 : r ≤ 0) : q = a.fdiv b ∧ r = a.fmod b := by
  obtain ⟨h2, h3⟩ := (Int.fdiv_fmod_unique' hb).2 ⟨h, h0, h1⟩
  exact ⟨h2.symm, h3.symm⟩
theorem floor_same {a b : Int} (hb : b ≠ 0) (h : decide (a < 0) = decide (b < 0) ∨ a.natAbs % b.natAbs = 0) :
    sg (decide (a < 0) != decide (b < 0)) (a.natAbs / b.natAbs) = a.fdiv b ∧ sg (decide (b < 0)) (a.natAbs % b.natAbs) = a.fmod b := by
  obtain ⟨n, m, q, r, hn, h1, h2, e1, e2, e3, e4, e5, e6⟩ := floor_parts b hb a
  rw [e1, e2, e3, e4]
  rw [e1, e2, e4] at h
  have e7 : (n : Int) * q + r = m := by exact_mod_cast e5
  rcases h1 with ⟨rfl, hb0⟩ | ⟨rfl, hb0⟩ <;> rcases h2 with ⟨rfl, ha0⟩ | ⟨rfl, ha0⟩
  all_goals simp only [hb0, ha0, decide_true, decide_false, bne_self_eq_false, Bool.bne_true, Bool.bne_false, Bool.not_true, Bool.not_false, sgt, sgf, reduceCtorEq, false_or, Bool.true_bne, Bool.false_bne] at h ⊢
  · exact fdm_pos (by omega) (by omega) (by omega) (by omega)
  · subst h; exact fdm_pos (by omega) (by rw [Int.mul_neg]; omega) (by omega) (by omega)
  · subst h; exact fdm_neg (by omega) (by rw [Int.neg_mul, Int.mul_neg]; omega) (by omega) (by omega)
  · exact fdm_neg (by omega) (by rw [Int.neg_mul]; omega) (by omega) (by omega)
theorem floor_diff {a b : Int} (hb : b ≠ 0) (h : decide (a < 0) ≠ decide (b < 0)) (hr : a.natAbs % b.natAbs ≠ 0) :
    sg true (a.natAbs / b.natAbs + 1) = a.fdiv b ∧ sg (decide (b < 0)) (b.natAbs - a.natAbs % b.natAbs) = a.fmod b ∧ a.natAbs / b.natAbs + 1 ≤ a.natAbs := by
  obtain ⟨n, m, q, r, hn, h1, h2, e1, e2, e3, e4, e5, e6⟩ := floor_parts b hb a
  rw [e1, e2, e3, e4]
  rw [e1, e2, e4] at hr
  have e7 : (n : Int) * q + r = m := by exact_mod_cast e5
  have e8 : q + 1 ≤ m := by
    have : 1 * q ≤ n * q := Nat.mul_le_mul_right q hn
    omega
  rw [← and_assoc]
  refine ⟨?_, e8⟩
  have e9 : ((n - r : Nat) : Int) = (n : Int) - r := by omega
  rcases h1 with ⟨rfl, hb0⟩ | ⟨rfl, hb0⟩ <;> rcases h2 with ⟨rfl, ha0⟩ | ⟨rfl, ha0⟩
  all_goals simp only [hb0, ha0, decide_true, decide_false, ne_eq, not_true_eq_false] at h ⊢
  · simp only [sgt, sgf, e9]
    refine fdm_pos (by omega) ?_ (by omega) (by omega)
    rw [Int.mul_neg]; push_cast; rw [Int.mul_add]; omega
  · simp only [sgt, e9]
    refine fdm_neg (by omega) ?_ (by omega) (by omega)
    rw [Int.neg_mul_neg]; push_cast; rw [Int.mul_add]; omega

end Go.Proofs.NatL

namespace Go.Proofs.YtlflfhcfljiciaaGreat
set_option linter.unusedSimpArgs false
set_option linter.unusedVariables false
open Go.Abs Go.Proofs.NatL

theorem iat_ret (c i : Int) : Ret Tryz.prog 45 false [.inl (.i .i64 c), .inl (.i .i64 i)] (.g [.i .i64 c, .i .i64 i]) := by
  (refine q_H Tryz.func45 (fun F => ?_); simp only [q_z,q_y,Tryz.ntmps45,Tryz.results45])
  repeat' (first|(with_reducible first|apply q_a|apply q_b|apply q_c|apply q_d|apply q_e|apply q_f|apply q_g|apply q_h|apply q_i|apply q_j|apply q_k|apply q_m|apply q_n|apply q_o|apply q_p|refine q_l ?_)|((with_reducible first|refine q_q cf0_ok fun K hK=>?_|refine q_r cf0_ok fun K hK=>?_);simp (maxSteps:=2000000) only [go_sem,↓reduceIte,reduceCtorEq,Nat.reduceLeDiff,Nat.reduceLT,Nat.reduceBEq,Nat.reduceAdd];(repeat1' with_reducible first|apply And.intro|intro _|(refine hK _ ?_;clear hK K))<;>(try (clear hK K;exact q_u)))|(with_reducible refine q_s ?_;(first|apply q_J|apply q_K|apply q_L|apply q_M|apply q_N|apply q_O)<;>try intro _)|with_reducible refine q_t ?_)
  exact q_A rfl
def it1 : Cfg := addT 45 atCT nt13
theorem it1_ok : TblOk Tryz.prog it1 := q_I nt13_ok Tryz.func45 fun l K h => by
  split at h
  · exact ⟨_, (iat_ret _ _).plain rfl, h⟩
  · exact h.elim

set_option maxHeartbeats 800000 in
theorem ivalid_ret (s : Bool) (xs : List Int) (hx : xs.length ≤ 140737488355328) : Ret Tryz.prog 49 false [.inr [.b s, .ints .u32 xs]] (.c (.b (okZ s xs))) := by
  (refine q_H Tryz.func49 (fun F => ?_); simp only [q_z,q_y,Tryz.ntmps49,Tryz.results49])
  repeat' (first|(with_reducible first|apply q_a|apply q_b|apply q_c|apply q_d|apply q_e|apply q_f|apply q_g|apply q_h|apply q_i|apply q_j|apply q_k|apply q_m|apply q_n|apply q_o|apply q_p|refine q_l ?_)|((with_reducible first|refine q_q cf0_ok fun K hK=>?_|refine q_r cf0_ok fun K hK=>?_);simp (maxSteps:=2000000) only [go_sem,↓reduceIte,reduceCtorEq,Nat.reduceLeDiff,Nat.reduceLT,Nat.reduceBEq,Nat.reduceAdd];(repeat1' with_reducible first|apply And.intro|intro _|(refine hK _ ?_;clear hK K))<;>(try (clear hK K;exact q_u)))|(with_reducible refine q_s ?_;(first|apply q_J|apply q_K|apply q_L|apply q_M|apply q_N|apply q_O)<;>try intro _)|with_reducible refine q_t ?_)
  all_goals refine q_A ?_
  all_goals simp only [resAV, q_y, AV.c.injEq, C.b.injEq]
  all_goals refine okZ_iff s xs _ ?_
  all_goals first | (simp_all; done) | (simp_all; omega)
def ivalidCT : CT := mkCT [.inr [none, some (.ints .u32 [])]] true fun l K => match l with
  | [.inr [.b s, .ints .u32 xs]] => xs.length ≤ 140737488355328 ∧ K (.c (.b (okZ s xs)))
  | _ => False
def it2 : Cfg := addT 49 ivalidCT it1
theorem it2_ok : TblOk Tryz.prog it2 := q_I it1_ok Tryz.func49 fun l K h => by
  split at h
  · exact ⟨_, (ivalid_ret _ _ h.1).plain rfl, h.2⟩
  · exact h.elim
attribute [go_sem] ivalidCT listT
def ib1 : Cfg := listT [(45, atCT), (49, ivalidCT)] [28]
theorem ib1_ok : TblOk Tryz.prog ib1 := listT_ok (big := it2) it2_ok ⟨rfl, rfl, trivial⟩
attribute [go_sem] ib1
def rowI (p : Bool × List Int) : List C := [.b p.1, .ints .u32 p.2]
def unI : List (List C) → Option (List (Bool × List Int))
  | [] => some []
  | [.b s, .ints .u32 xs] :: r => (unI r).map ((s, xs) :: ·)
  | _ :: _ => none
theorem unI_some : ∀ {rows : List (List C)} {l : List (Bool × List Int)}, unI rows = some l → rows = l.map rowI
  | [], l, h => by simp [unI] at h; subst h; rfl
  | r :: rows, l, h => by
    unfold unI at h
    split at h
    · rename_i h0; cases h0
    · rename_i s xs r' h0
      cases h0
      obtain ⟨l', h1, rfl⟩ := Option.map_eq_some_iff.1 h
      rw [unI_some h1]; rfl
    · cases h
theorem rowI_get (l : List (Bool × List Int)) (i : Nat) (h : i < l.length) : (l.map rowI).getD i [] = [.b (l.getD i (false, [])).1, .ints .u32 (l.getD i (false, [])).2] := by
  simp [List.getD_eq_getElem?_getD, List.getElem?_eq_getElem h, rowI]

set_option maxHeartbeats 1600000 in
theorem icheck_ret (l : List (Bool × List Int)) (hn : l.length ≤ 1000) (hl : allL 140737488355328 l) :
    Ret Tryz.prog 42 false [.inl (.sl 2 (l.map rowI))] (.g [.i .i64 (fbC l), .i .i64 (fbX 0 l)]) := by
  (refine q_H Tryz.func42 (fun F => ?_); simp only [q_z,q_y,Tryz.ntmps42,Tryz.results42])
  repeat' (first|(with_reducible first|apply q_a|apply q_b|apply q_c|apply q_d|apply q_e|apply q_f|apply q_g|apply q_h|apply q_i|apply q_j|apply q_k|apply q_m|apply q_n|apply q_o|apply q_p|refine q_l ?_)|((with_reducible first|refine q_q ib1_ok fun K hK=>?_|refine q_r ib1_ok fun K hK=>?_);simp (maxSteps:=2000000) only [go_sem,↓reduceIte,reduceCtorEq,Nat.reduceLeDiff,Nat.reduceLT,Nat.reduceBEq,Nat.reduceAdd,List.length_map];(repeat1' with_reducible first|apply And.intro|intro _|(refine hK _ ?_;clear hK K))<;>(try (clear hK K;exact q_u)))|(with_reducible refine q_s ?_;(first|apply q_J|apply q_K|apply q_L|apply q_M|apply q_N|apply q_O)<;>try intro _)|with_reducible refine q_t ?_)
  refine q_G (ι := { i : Nat // i ≤ l.length ∧ fbC (l.drop i) = fbC l ∧ fbX i (l.drop i) = fbX 0 l }) (fun i => ⟨20, [(2, .bx 0 0), (5, .c (.sl 2 (l.map rowI))), (6, .c (.i .i64 l.length)), (7, .c (.i .i64 (i.1 : Nat)))], ⟨[(0, [.c (.i .i64 0), .c (.i .i64 0)])], [], []⟩, 1⟩) (fun i => l.length - i.1) ⟨0, by simp, rfl, rfl⟩ ?_ ?_
  · exact q_D
  rintro ⟨i, g1, g2, g3⟩
  simp only at g1 g2 g3 ⊢
  have hlen := allL_get (i := i) hl
  rcases Nat.lt_or_ge i l.length with hi | hi
  · have hr := rowI_get l i hi
    rw [drop_getD l i hi, fbC] at g2
    rw [drop_getD l i hi, fbX] at g3
    cases ho : okZ (l.getD i (false, [])).1 (l.getD i (false, [])).2
    · simp only [ho, Bool.false_eq_true, if_false] at g2 g3
      repeat' (first|(with_reducible first|apply q_a|apply q_b|apply q_c|apply q_d|apply q_e|apply q_f|apply q_g|apply q_h|apply q_i|apply q_j|apply q_k|apply q_m|apply q_n|apply q_o|apply q_p|refine q_l ?_)|((with_reducible first|refine q_q ib1_ok fun K hK=>?_|refine q_r ib1_ok fun K hK=>?_);simp (maxSteps:=2000000) only [go_sem,↓reduceIte,reduceCtorEq,Nat.reduceLeDiff,Nat.reduceLT,Nat.reduceBEq,Nat.reduceAdd,hr, ho, List.length_map];(repeat1' with_reducible first|apply And.intro|(intro _;try exact q_v)|(refine hK _ ?_;clear hK K))<;>(try (clear hK K;exact q_u)))|(with_reducible refine q_s ?_;(first|apply q_J|apply q_K|apply q_L|apply q_M|apply q_N|apply q_O)<;>try (intro _;try exact q_v))|with_reducible refine q_t ?_)
      exact q_A (by rw [← g2, ← g3]; rfl)
    · simp only [ho, if_true] at g2 g3
      repeat' (first|(with_reducible first|apply q_a|apply q_b|apply q_c|apply q_d|apply q_e|apply q_f|apply q_g|apply q_h|apply q_i|apply q_j|apply q_k|apply q_m|apply q_n|apply q_o|apply q_p|refine q_l ?_)|((with_reducible first|refine q_q ib1_ok fun K hK=>?_|refine q_r ib1_ok fun K hK=>?_);simp (maxSteps:=2000000) only [go_sem,↓reduceIte,reduceCtorEq,Nat.reduceLeDiff,Nat.reduceLT,Nat.reduceBEq,Nat.reduceAdd,hr, ho, List.length_map];(repeat1' with_reducible first|apply And.intro|(intro _;try exact q_v)|(refine hK _ ?_;clear hK K))<;>(try (clear hK K;exact q_u)))|(with_reducible refine q_s ?_;(first|apply q_J|apply q_K|apply q_L|apply q_M|apply q_N|apply q_O)<;>try (intro _;try exact q_v))|with_reducible refine q_t ?_)
      refine q_F ⟨i + 1, hi, g2, by push_cast; exact g3⟩ ?_ (by simp only; omega)
      exact q_D
  · have hi' : i = l.length := by omega
    subst hi'
    rw [List.drop_length] at g2 g3
    repeat' (first|(with_reducible first|apply q_a|apply q_b|apply q_c|apply q_d|apply q_e|apply q_f|apply q_g|apply q_h|apply q_i|apply q_j|apply q_k|apply q_m|apply q_n|apply q_o|apply q_p|refine q_l ?_)|((with_reducible first|refine q_q ib1_ok fun K hK=>?_|refine q_r ib1_ok fun K hK=>?_);simp (maxSteps:=2000000) only [go_sem,↓reduceIte,reduceCtorEq,Nat.reduceLeDiff,Nat.reduceLT,Nat.reduceBEq,Nat.reduceAdd,List.length_map];(repeat1' with_reducible first|apply And.intro|(intro _;try exact q_v)|(refine hK _ ?_;clear hK K))<;>(try (clear hK K;exact q_u)))|(with_reducible refine q_s ?_;(first|apply q_J|apply q_K|apply q_L|apply q_M|apply q_N|apply q_O)<;>try (intro _;try exact q_v))|with_reducible refine q_t ?_)
    exact q_A (by rw [← g2, ← g3]; rfl)
def icheckCT : CT := mkCT [] true fun l K => match l with
  | [.inl (.sl 2 rows)] => match unI rows with
    | some l => (l.length ≤ 1000 ∧ allL 140737488355328 l) ∧ K (.g [.i .i64 (fbC l), .i .i64 (fbX 0 l)])
    | none => False
  | _ => False
def it3 : Cfg := addT 42 icheckCT it2
theorem it3_ok : TblOk Tryz.prog it3 := q_I it2_ok Tryz.func42 fun l K h => by
  split at h
  · split at h
    · rename_i l hl
      rw [unI_some hl]
      exact ⟨_, (icheck_ret l h.1.1 h.1.2).plain rfl, h.2⟩
    · exact h.elim
  · exact h.elim
attribute [go_sem] icheckCT unI fbC fbX allL
abbrev gI (z : Int) : List C := [.b (decide (z < 0)), .ints .u32 (dg 4294967296 z.natAbs)]
abbrev nP : Option C ⊕ List (Option C) := .inr [none, some (.ints .u32 [])]
theorem dg_zeroA (B : Nat) : dg B (0 : Int).natAbs = [] := rfl

set_option maxHeartbeats 800000 in
theorem isigned_ret (s : Bool) (xs : List Int) (hx : xs.length ≤ 140737488355328) (bx : InB 4294967296 xs) (tx : Trd xs) :
    Ret Tryz.prog 48 false [.inl (.b s), .inl (.ints .u32 xs)] (.t [.inr (gI (cl 128 (sv 4294967296 s xs))), .inr [.i .i64 (clC 128 (sv 4294967296 s xs)), .i .i64 (clI 128 (sv 4294967296 s xs))]]) := by
  have hv := sv_abs 4294967296 s xs
  have hd := dg_V 4294967296 (by omega) xs bx tx
  have hl : (dg 4294967296 (sv 4294967296 s xs).natAbs).length = xs.length := by rw [hv, hd]
  have hp := dg_len_pos 4294967296 (V 4294967296 xs) (by omega)
  rw [hd] at hp
  have hs : (s && decide (0 < (xs.length : Int))) = decide (sv 4294967296 s xs < 0) := by
    rcases Nat.eq_zero_or_pos xs.length with h | h
    · have : xs = [] := List.eq_nil_of_length_eq_zero h
      subst this
      cases s <;> simp [sv, V]
    · have h2 := hp.1 h
      cases s
      · simp [sv]
      · simp [sv]; omega
  cases s
  all_goals
    (refine q_H Tryz.func48 (fun F => ?_); simp only [q_z,q_y,Tryz.ntmps48,Tryz.results48])
    repeat' (first|(with_reducible first|apply q_a|apply q_b|apply q_c|apply q_d|apply q_e|apply q_f|apply q_g|apply q_h|apply q_i|apply q_j|apply q_k|apply q_m|apply q_n|apply q_o|apply q_p|refine q_l ?_)|((with_reducible first|refine q_q ib1_ok fun K hK=>?_|refine q_r ib1_ok fun K hK=>?_);simp (maxSteps:=2000000) only [go_sem,↓reduceIte,reduceCtorEq,Nat.reduceLeDiff,Nat.reduceLT,Nat.reduceBEq,Nat.reduceAdd];(repeat1' with_reducible first|apply And.intro|(intro _;try exact q_v)|(refine hK _ ?_;clear hK K))<;>(try (clear hK K;exact q_u)))|(with_reducible refine q_s ?_;(first|apply q_J|apply q_K|apply q_L|apply q_M|apply q_N|apply q_O)<;>try (intro _;try exact q_v))|with_reducible refine q_t ?_)
  all_goals (try rename_i q)
  all_goals first
    | (obtain ⟨e1, e2, e3⟩ := cl_big (k := 128) (z := sv 4294967296 _ xs) (by rw [hl]; omega)
       exact q_B [nP] rfl (by simp only [norm, nz, nzL, resAV, e1, e2, e3, dg_zeroA]; rfl))
    | (obtain ⟨e1, e2, e3⟩ := cl_fit (k := 128) (z := sv 4294967296 _ xs) (by rw [hl]; omega)
       exact q_A (by simp only [resAV, gI, e1, e2, e3, hv, hd, ← hs, Bool.true_and, Bool.false_and]))
def isignedCT : CT := mkCT [.inl none, .inl (some (.ints .u32 []))] false fun l K => match l with
  | [.inl (.b s), .inl (.ints .u32 xs)] => (xs.length ≤ 140737488355328 ∧ InB 4294967296 xs ∧ Trd xs) ∧ K (.t [.inr (gI (cl 128 (sv 4294967296 s xs))), .inr [.i .i64 (clC 128 (sv 4294967296 s xs)), .i .i64 (clI 128 (sv 4294967296 s xs))]])
  | _ => False
def it4 : Cfg := addT 48 isignedCT it3
theorem it4_ok : TblOk Tryz.prog it4 := q_I it3_ok Tryz.func48 fun l K h => by
  split at h
  · exact ⟨_, isigned_ret _ _ h.1.1 h.1.2.1 h.1.2.2, h.2⟩
  · exact h.elim
attribute [go_sem] isignedCT
def cloneVCT : CT := mkCT [.inl (some (.ints .u32 []))] true fun l K => match l with
  | [.inl (.ints .u32 xs)] => xs.length ≤ 16777216 ∧ K (.c (.ints .u32 xs))
  | _ => False
def it5 : Cfg := addT 71 cloneVCT it4
theorem it5_ok : TblOk Tryz.prog it5 := q_I it4_ok Tryz.func71 fun l K h => by
  split at h
  · exact ⟨_, (clone_ret _ h.1).ret, h.2⟩
  · exact h.elim
attribute [go_sem] cloneVCT gI
def ib : Cfg := listT [(45, atCT), (42, icheckCT), (48, isignedCT), (71, cloneVCT), (90, (goodCT (fun xs ys => fitN (addN xs ys)) (fun xs ys => fitC (addN xs ys)) (fun xs ys => fitI (addN xs ys)))), (91, (goodCT subO subC subI)), (88, (goodCT (fun xs ys => fitN (mulN xs ys)) (fun xs ys => fitC (mulN xs ys)) (fun xs ys => fitI (mulN xs ys)))), (74, CmpCT), (73, dvGoodCT), (50, gcGoodCT)] [28]
theorem ib_ok : TblOk Tryz.prog ib := listT_ok (big := it5) it5_ok ⟨rfl, rfl, rfl, rfl, rfl, rfl, rfl, rfl, rfl, rfl, trivial⟩
attribute [go_sem] ib
end Go.Proofs.YtlflfhcfljiciaaGreat

namespace Go.Proofs.YtlflfhcfljiciaaGreat
set_option linter.unusedSimpArgs false
set_option linter.unusedVariables false
open Go.Abs Go.Proofs.NatL

theorem okN_128 {n : Nat} (h : (dg 4294967296 n).length ≤ 128) : okN (dg 4294967296 n) = true := okN_dg' (by omega)

end Go.Proofs.YtlflfhcfljiciaaGreat
