import Derived.Test.YtgogdabniebplaaP5
namespace Go.Abs
set_option linter.unusedSimpArgs false
set_option linter.unusedVariables false
variable {P : Program}
def AllE (P : Program) : List (FuncId × CT) → Prop
  | [] => True
  | p :: l => (∃ big, TblOk P big ∧ big.tbl p.1 = some p.2) ∧ AllE P l
theorem listE_ok {flt : List TypeId} (hf : ∀ t ∈ flt, FltOk P t) {l : List (FuncId × CT)} (h : AllE P l) : TblOk P (listT l flt) := by
  refine ⟨hf, fun f ct hl => ?_⟩
  have key : ∀ {l : List (FuncId × CT)}, AllE P l → look l f = some ct → ∃ big, TblOk P big ∧ big.tbl f = some ct := by
    intro l
    induction l with
    | nil => intro _ h; simp [look] at h
    | cons p l ih =>
      intro ha h
      simp only [look] at h
      split at h
      · rename_i he
        cases h
        rw [← beq_iff_eq.1 he]; exact ha.1
      · exact ih ha.2 h
  obtain ⟨big, h1, h2⟩ := key h hl
  exact h1.2 f ct h2
end Go.Abs
namespace Go.Proofs.Ytgogdabniebplaa
set_option linter.unusedSimpArgs false
set_option linter.unusedVariables false
open Go.Proofs.NatL

def mixL {α : Type} (rs xs : List α) (i : Nat) : List α := rs.take i ++ xs.drop i
theorem mixL_zero {α : Type} (rs xs : List α) : mixL rs xs 0 = xs := by simp [mixL]
theorem mixL_all {α : Type} (rs xs : List α) (i : Nat) (h : rs.length ≤ i) (h2 : xs.length ≤ i) : mixL rs xs i = rs := by
  simp [mixL, List.take_of_length_le h, List.drop_eq_nil_of_le h2]
theorem mixL_len {α : Type} {rs xs : List α} {i : Nat} (h : rs.length = xs.length) (hi : i ≤ xs.length) : (mixL rs xs i).length = xs.length := by
  simp [mixL]; omega
theorem mixL_get {α : Type} {rs xs : List α} {i : Nat} (d : α) (h : rs.length = xs.length) (hi : i ≤ xs.length) : (mixL rs xs i).getD i d = xs.getD i d := by
  simp only [mixL, List.getD_eq_getElem?_getD]
  rw [List.getElem?_append_right (by simp; omega), List.getElem?_drop]
  congr 2
  simp; omega
theorem mixL_set {α : Type} {rs xs : List α} {i : Nat} (d : α) (h : rs.length = xs.length) (hi : i < xs.length) (v : α) (hv : v = rs.getD i d) : (mixL rs xs i).set i v = mixL rs xs (i + 1) := by
  have h1 : (rs.take i).length = i := by simp; omega
  simp only [mixL]
  rw [List.set_append_right _ _ (by omega), h1, Nat.sub_self, List.drop_eq_getElem_cons hi, List.set_cons_zero]
  rw [hv, List.getD_eq_getElem?_getD, List.getElem?_eq_getElem (show i < rs.length by omega), List.take_succ_eq_append_getElem (show i < rs.length by omega), List.append_assoc]
  rfl

def zAnd (a b : Int) : Int := zop (fun x y => x &&& y) a b
def zOr (a b : Int) : Int := zop (fun x y => x ||| y) a b
def zXor (a b : Int) : Int := zop (fun x y => x ^^^ y) a b
def bits (n v : Nat) : List Bool := (List.range n).map fun i => v.testBit i
theorem bits_len (n v : Nat) : (bits n v).length = n := by simp [bits]
theorem bits_get (n v i : Nat) (h : i < n) : (bits n v).getD i false = v.testBit i := by
  simp [bits, List.getD_eq_getElem?_getD, h]
theorem tb_B2 : ∀ (l : List Bool) (i : Nat), (B2 l).testBit i = l.getD i false
  | [], i => by simp [B2_nil]
  | b :: l, 0 => by
    rw [B2_cons]
    cases b <;> simp [Nat.testBit_zero] <;> omega
  | b :: l, i + 1 => by
    rw [B2_cons, Nat.testBit_succ]
    have : (2 * B2 l + if b = true then 1 else 0) / 2 = B2 l := by cases b <;> simp <;> omega
    rw [this, tb_B2 l i]; simp
theorem B2_bits (n v : Nat) (h : v < 2 ^ n) : B2 (bits n v) = v := by
  refine Nat.eq_of_testBit_eq fun i => ?_
  rw [tb_B2]
  rcases Nat.lt_or_ge i n with hi | hi
  · exact bits_get n v i hi
  · rw [List.getD_eq_getElem?_getD, List.getElem?_eq_none (by rw [bits_len]; exact hi)]
    symm
    exact Nat.testBit_lt_two_pow (Nat.lt_of_lt_of_le h (Nat.pow_le_pow_right (by omega) hi))
theorem bits_ext {n : Nat} {l : List Bool} {v : Nat} (hl : l.length = n) (h : ∀ i, i < n → l.getD i false = v.testBit i) : l = bits n v := by
  refine List.ext_getElem (by rw [hl, bits_len]) fun i h1 h2 => ?_
  have := h i (by omega)
  rw [← bits_get n v i (by omega)] at this
  simpa [List.getD_eq_getElem?_getD, List.getElem?_eq_getElem h1, List.getElem?_eq_getElem h2] using this
theorem bits_ones (n v : Nat) : (bs v ++ List.replicate n false).take n = bits n v := by
  refine bits_ext (by simp) fun i hi => ?_
  rw [← B2_bs v, tb_B2, B2_bs]
  simp only [List.getD_eq_getElem?_getD, List.getElem?_take_of_lt hi]
  rcases Nat.lt_or_ge i (bs v).length with h | h
  · rw [List.getElem?_append_left h]
  · rw [List.getElem?_append_right h, List.getElem?_eq_none h, List.getElem?_replicate]
    split <;> rfl
theorem bits_flip (n v : Nat) (h : v < 2 ^ n) (s : Bool) : (bits n v).map (fun b => b != s) = bits n (if s then 2 ^ n - (v + 1) else v) := by
  refine bits_ext (by simp [bits_len]) fun i hi => ?_
  have e : ((bits n v).map (fun b => b != s)).getD i false = (v.testBit i != s) := by
    simp [bits, List.getD_eq_getElem?_getD, hi]
  rw [e]
  cases s
  · simp
  · rw [if_pos rfl, Nat.testBit_two_pow_sub_succ h]
    simp [hi]
theorem bits_zip {op : Nat → Nat → Nat} {f : Bool → Bool → Bool} (hf : ∀ a b i, (op a b).testBit i = f (a.testBit i) (b.testBit i)) (n a b : Nat) : List.zipWith f (bits n a) (bits n b) = bits n (op a b) := by
  refine bits_ext (by simp [bits_len]) fun i hi => ?_
  simp [bits, List.getD_eq_getElem?_getD, hi, hf, List.getElem?_zipWith]
theorem top_bit {n r : Nat} (h : r < 2 ^ (n + 1)) : r.testBit n = decide (2 ^ n ≤ r) := by
  have h3 : 2 ^ (n + 1) = 2 * 2 ^ n := by rw [Nat.pow_succ]; omega
  rw [Nat.testBit_eq_decide_div_mod_eq]
  congr 1
  refine propext ⟨fun hh => ?_, fun hh => ?_⟩
  · rcases Nat.lt_or_ge r (2 ^ n) with h1 | h1
    · rw [Nat.div_eq_of_lt h1] at hh; omega
    · exact h1
  · have h4 : r / 2 ^ n = 1 := by
      have h5 := Nat.div_add_mod r (2 ^ n)
      have h6 := Nat.mod_lt r (pow2_pos n)
      have h7 : 0 < r / 2 ^ n := Nat.div_pos hh (pow2_pos n)
      have h8 : r / 2 ^ n < 2 := Nat.div_lt_of_lt_mul (by omega)
      omega
    rw [h4]
def twv (s : Bool) (v : Nat) (n : Nat) : Nat := if s then (4294967296 ^ n - v) % 4294967296 ^ n else v
theorem pow32 (n : Nat) : (4294967296 : Nat) ^ n = 2 ^ (32 * n) := by rw [show (4294967296 : Nat) = 2 ^ 32 from rfl, ← Nat.pow_mul]
theorem twv_lt {s : Bool} {v n : Nat} (h : v < 4294967296 ^ n) : twv s v n < 4294967296 ^ n := by
  unfold twv
  split
  · exact Nat.mod_lt _ (Nat.pow_pos (by omega))
  · exact h
theorem twv_lo {s : Bool} {m n : Nat} (hs : s = true → 0 < m) (h : FitK (32 * n) (sg s m)) : twv s m n = lo (32 * n) (sg s m) := by
  have hp := pow2_pos (32 * n)
  cases s
  · rw [sgf] at h ⊢
    rw [lo_nat (by unfold FitK at h; omega)]; rfl
  · have h0 := hs rfl
    rw [sgt] at h ⊢
    have h1 := lo_eq h
    have h2 : sgB (-(m : Int)) = 1 := by unfold sgB; rw [if_pos (by omega)]
    rw [h2] at h1
    unfold FitK at h
    unfold twv
    rw [if_pos rfl, pow32, Nat.mod_eq_of_lt (by omega)]
    omega
theorem fitK_len {a : Int} {n : Nat} (h : (dg 4294967296 a.natAbs).length ≤ n) : FitK (32 * n) a := by
  have := lt_of_len (B := 4294967296) (by omega) h
  rw [pow32] at this
  unfold FitK; omega
theorem twos_step (B i : Nat) (o xs : List Int) (c r q y : Nat) (h : V B o + B ^ i * c + V B (xs.take i) = B ^ i) (hl : o.length = i) (hs : r + B * q = c + y) (hy : y + 1 + (xs.getD i 0).toNat = B) :
    V B (o ++ [(r : Int)]) + B ^ (i + 1) * q + V B (xs.take (i + 1)) = B ^ (i + 1) := by
  rw [V_snoc, V_take_getD, hl, Int.toNat_natCast, Nat.pow_succ]
  generalize (xs.getD i 0).toNat = z at *
  generalize V B (xs.take i) = v at *
  generalize V B o = u at *
  have h1 : B ^ i * (r + B * q) = B ^ i * (c + y) := by rw [hs]
  have h2 : B ^ i * (y + 1 + z) = B ^ i * B := by rw [hy]
  rw [Nat.mul_add] at h1
  rw [Nat.mul_add, Nat.mul_add, Nat.mul_one] at h2
  rw [Nat.mul_add] at h1
  rw [Nat.mul_assoc]
  omega

end Go.Proofs.Ytgogdabniebplaa
