/-
  The evaluation of single operations is sound: those that leave the world alone.
-/
import Derived.Test.YtggehgnmfjdkhaaAbsC
namespace Go.Abs
set_option linter.unusedSimpArgs false
set_option linter.unusedVariables false
open Go.RowKit

section rd
variable {w : World} {S : Nat → Prop} {v : Value}
theorem rd_i {k : IntKind} {n : Int} (h : Rd w S (.i k n) v) : v = .int k n := by cases h <;> first | rfl | (rename_i h; simp [C.rows] at h)
theorem rd_b {x : Bool} (h : Rd w S (.b x) v) : v = .bool x := by cases h <;> first | rfl | (rename_i h; simp [C.rows] at h)
theorem rd_str {x : ByteArray} (h : Rd w S (.str x) v) : v = .string x := by cases h <;> first | rfl | (rename_i h; simp [C.rows] at h)
theorem rd_nil (h : Rd w S .nil v) : v = .slice none 0 0 := by cases h <;> first | rfl | (rename_i h; simp [C.rows] at h)
theorem rd_a {x : Value} (h : Rd w S (.a x) v) : v = x := by cases h <;> first | rfl | (rename_i h; simp [C.rows] at h)
theorem rd_e0 (h : Rd w S .e0 v) : ∃ a cap, v = .slice (some a) 0 cap := by cases h <;> first | exact ⟨_, _, rfl⟩ | (rename_i h; simp [C.rows] at h)
end rd

theorem rd_ofC (w : World) (S : Nat → Prop) (v : Value) (h : oneCell v = true) : Rd w S (ofC v) v := by
  unfold ofC
  split
  · exact .i _ _
  · exact .b _
  · exact .str _
  · exact .nil
  · exact .a _ h

/-- yields, and leaves the world alone -/
def Yl (P : Program) (F : Fr) (H : Hp) (m : Mp) (w : World) (s : Sem Value) (r : AV) : Prop := ∃ v, s.run P w = .ok v w ∧ RepA F H m w r v

theorem wrap_signed {k : IntKind} {n : Int} (hs : k.signed = true) (h : InK k n) : k.wrap n = n := by
  cases k <;> simp [IntKind.signed] at hs <;> simp [InK, IntKind.min, IntKind.max, IntKind.signed, IntKind.bits] at h <;> simp [IntKind.wrap, IntKind.signed, IntKind.bits] <;> omega

theorem wrap_unsigned {k : IntKind} {n : Int} (hs : k.signed = false) : k.wrap n = n % modK k := by
  cases k <;> simp [IntKind.signed] at hs <;> simp [IntKind.wrap, IntKind.signed, IntKind.bits, modK]

variable {P : Program}

theorem arT_sound {k : IntKind} {n : Int} {K : AV → Prop} (h : arT k n K) : ∃ r, K r ∧ r = .c (.i k (k.wrap n)) := by
  unfold arT at h
  split at h
  · rename_i hs; exact ⟨_, h.2, by rw [wrap_signed hs h.1]⟩
  · rename_i hs; exact ⟨_, h, by rw [wrap_unsigned hs]⟩

theorem rep_int (F : Fr) (H : Hp) (m : Mp) (w : World) (k : IntKind) (n : Int) : RepA F H m w (.c (.i k n)) (.int k n) := Rd.i k n
theorem rep_bool (F : Fr) (H : Hp) (m : Mp) (w : World) (x : Bool) : RepA F H m w (.c (.b x)) (.bool x) := Rd.b x

theorem intT_sound {op : BinOp} {k : IntKind} {a b : Int} {K : AV → Prop} (h : intT op k a b K) :
    ∃ r, K r ∧ ∀ (F : Fr) (H : Hp) (m : Mp) (w : World) (t : TypeId), Yl P F H m w (binOp op t (.int k a) (.int k b)) r := by
  cases op <;> simp only [intT] at h
  case add => obtain ⟨r, hK, rfl⟩ := arT_sound h; exact ⟨_, hK, fun F H m w t => ⟨_, by simp [binOp, Op.intArith], rep_int ..⟩⟩
  case sub => obtain ⟨r, hK, rfl⟩ := arT_sound h; exact ⟨_, hK, fun F H m w t => ⟨_, by simp [binOp, Op.intArith], rep_int ..⟩⟩
  case mul => obtain ⟨r, hK, rfl⟩ := arT_sound h; exact ⟨_, hK, fun F H m w t => ⟨_, by simp [binOp, Op.intArith], rep_int ..⟩⟩
  case quo =>
    split at h
    · rename_i hs; obtain ⟨hb, hi, hK⟩ := h; exact ⟨_, hK, fun F H m w t => ⟨_, by simp [binOp, Op.intDiv, hb, wrap_signed hs hi], rep_int ..⟩⟩
    · rename_i hs; obtain ⟨⟨ha, ha2, hb⟩, hK⟩ := h
      refine ⟨_, hK, fun F H m w t => ⟨_, ?_, rep_int ..⟩⟩
      have e1 : a.tdiv b = a / b := Int.tdiv_eq_ediv_of_nonneg ha
      have h0 : 0 ≤ a / b := Int.ediv_nonneg ha (by omega)
      have h1 : a / b ≤ a := Int.ediv_le_self b ha
      have e2 : a / b % modK k = a / b := Int.emod_eq_of_lt h0 (by omega)
      have hb0 : b ≠ 0 := by omega
      simp [binOp, Op.intDiv, hb0, e1, wrap_unsigned hs, e2]
  case rem =>
    split at h
    · obtain ⟨hb, hK⟩ := h; exact ⟨_, hK, fun F H m w t => ⟨_, by simp [binOp, Op.intDiv, hb], rep_int ..⟩⟩
    · obtain ⟨⟨ha, hb⟩, hK⟩ := h
      refine ⟨_, hK, fun F H m w t => ⟨_, ?_, rep_int ..⟩⟩
      have e1 : a.tmod b = a % b := Int.tmod_eq_emod_of_nonneg ha
      have hb0 : b ≠ 0 := by omega
      simp [binOp, Op.intDiv, hb0, e1]
  case eql => exact ⟨_, h, fun F H m w t => ⟨.bool (a == b), by simp [binOp, Op.intCmp], by have : (a == b) = decide (a = b) := rfl; rw [this]; exact rep_bool ..⟩⟩
  case neq =>
    have e : (a != b) = decide (a ≠ b) := by rw [Bool.eq_iff_iff]; simp
    exact ⟨_, h, fun F H m w t => ⟨.bool (a != b), by simp [binOp, Op.intCmp], by rw [e]; exact rep_bool ..⟩⟩
  case lss => exact ⟨_, h, fun F H m w t => ⟨_, by simp [binOp, Op.intCmp], rep_bool ..⟩⟩
  case leq => exact ⟨_, h, fun F H m w t => ⟨_, by simp [binOp, Op.intCmp], rep_bool ..⟩⟩
  case gtr => exact ⟨_, h, fun F H m w t => ⟨_, by simp [binOp, Op.intCmp], rep_bool ..⟩⟩
  case geq => exact ⟨_, h, fun F H m w t => ⟨_, by simp [binOp, Op.intCmp], rep_bool ..⟩⟩
  case and => exact ⟨_, h, fun F H m w t => ⟨_, by simp [binOp, Op.intBits]; rfl, rep_int ..⟩⟩
  case or => exact ⟨_, h, fun F H m w t => ⟨_, by simp [binOp, Op.intBits]; rfl, rep_int ..⟩⟩
  case xor => exact ⟨_, h, fun F H m w t => ⟨_, by simp [binOp, Op.intBits]; rfl, rep_int ..⟩⟩
  case andNot => exact ⟨_, h, fun F H m w t => ⟨_, by simp only [binOp, Op.intBits, ne_eq, not_true_eq_false, if_false]; rfl, rep_int ..⟩⟩


theorem rep_i {F : Fr} {H : Hp} {m : Mp} {w : World} {k : IntKind} {n : Int} {v : Value} (h : RepA F H m w (.c (.i k n)) v) : v = .int k n := rd_i h
theorem rep_b {F : Fr} {H : Hp} {m : Mp} {w : World} {x : Bool} {v : Value} (h : RepA F H m w (.c (.b x)) v) : v = .bool x := rd_b h

theorem eqGuard_int (op : BinOp) (t : TypeId) (x y : Operand) (k k' : IntKind) (a b : Int) (w : World) : (eqGuard op t x y (.int k a) (.int k' b)).run P w = .ok () w := by
  cases op <;> simp [eqGuard]
theorem eqGuard_bool (op : BinOp) (t : TypeId) (x y : Operand) (a b : Bool) (w : World) : (eqGuard op t x y (.bool a) (.bool b)).run P w = .ok () w := by
  cases op <;> simp [eqGuard]

theorem eqGuard_str (op : BinOp) (t : TypeId) (x y : Operand) (a b : ByteArray) (w : World) : (eqGuard op t x y (.string a) (.string b)).run P w = .ok () w := by
  cases op <;> simp [eqGuard]

/-- the compared types are as the table says -/
def FltOk (P : Program) (t : TypeId) : Prop := ∀ (op : BinOp) (a b c d : Int) (x y : Operand) (w : World), op = .eql ∨ op = .neq →
  (do eqGuard op t x y (.agg #[.int .i64 a, .int .i64 b]) (.agg #[.int .i64 c, .int .i64 d]); binOp op t (.agg #[.int .i64 a, .int .i64 b]) (.agg #[.int .i64 c, .int .i64 d])).run P w =
    .ok (.bool (if op = .eql then decide (a = c ∧ b = d) else !decide (a = c ∧ b = d))) w

theorem rep_two {F : Fr} {H : Hp} {m : Mp} {w : World} {a b : Int} {v : Value} (h : RepA F H m w (.g [.i .i64 a, .i .i64 b]) v) : v = .agg #[.int .i64 a, .int .i64 b] := by
  obtain ⟨vs, rfl, hl, h⟩ := h
  obtain ⟨l⟩ := vs
  match l, hl with
  | [x, y], _ =>
    have h0 := rd_i (h 0 _ x rfl rfl)
    have h1 := rd_i (h 1 _ y rfl rfl)
    subst h0; subst h1; rfl

theorem equal_bool {t : TypeId} (ht : P.underlying t = some .bool) (a b : Bool) (w : World) : (Op.equal t (.bool a) (.bool b)).run P w = .ok (a == b) w := by
  obtain ⟨d, hd⟩ : ∃ d, Op.maxDepth = d + 1 := ⟨9999, rfl⟩
  rw [Op.equal, hd]
  simp [Op.equalIn, run_underlying ht]

theorem eqGuard_sl (op : BinOp) (t : TypeId) (x y : Operand) (a b : Option Addr) (l l' c c' : Nat) (w : World) : (eqGuard op t x y (.slice a l c) (.slice b l' c')).run P w = .ok () w := by
  cases op <;> simp [eqGuard]
theorem equal_sl_nil {t : TypeId} (ht : (elO P t).isSome = true) (a : Option Addr) (l c : Nat) (w : World) : (Op.equal t (.slice a l c) (.slice none 0 0)).run P w = .ok a.isNone w := by
  obtain ⟨e, he⟩ := Option.isSome_iff_exists.1 ht
  have hu : P.underlying t = some (.slice e) := by
    unfold elO at he
    split at he
    · rename_i e' he'; cases he; exact he'
    · cases he
  obtain ⟨d, hd⟩ : ∃ d, Op.maxDepth = d + 1 := ⟨9999, rfl⟩
  rw [Op.equal, hd]
  cases a <;> simp [Op.equalIn, run_underlying hu]
theorem rd_nonNil {w : World} {S : Nat → Prop} {c : C} {v : Value} (hn : nonNil c) (h : Rd w S c v) : ∃ a l cap, v = .slice (some a) l cap := by
  cases h with
  | e0 a cap => exact ⟨a, 0, cap, rfl⟩
  | emp c z p cap h hp => cases c <;> simp_all [nonNil, C.rows]
  | sl c z rs b off cap us h => exact ⟨_, _, _, rfl⟩
  | a => exact hn.elim
  | i => exact hn.elim
  | b => exact hn.elim
  | str => exact hn.elim
  | nil => exact hn.elim

theorem binT_sound {cf : Cfg} (hcf : ∀ t ∈ cf.flt, FltOk P t) {op : BinOp} {t : TypeId} {x y : AV} {K : AV → Prop} (h : binT P cf op t x y K) :
    ∃ r, K r ∧ ∀ (F : Fr) (H : Hp) (m : Mp) (w : World) (u v : Value) (ox oy : Operand), RepA F H m w x u → RepA F H m w y v → Yl P F H m w (do eqGuard op t ox oy u v; binOp op t u v) r := by
  unfold binT at h
  split at h
  · obtain ⟨hb, hK⟩ := h
    refine ⟨_, hK, fun F H m w u v ox oy hu hv => ⟨_, ?_, rep_int ..⟩⟩
    rename_i k a k' b
    obtain rfl := rep_i hu
    obtain rfl := rep_i hv
    have : ¬ b < 0 := by omega
    simp [eqGuard_int, binOp, Op.shift, this]
    rfl
  · obtain ⟨hb, hK⟩ := h
    refine ⟨_, hK, fun F H m w u v ox oy hu hv => ⟨_, ?_, rep_int ..⟩⟩
    rename_i k a k' b
    obtain rfl := rep_i hu
    obtain rfl := rep_i hv
    have : ¬ b < 0 := by omega
    simp [eqGuard_int, binOp, Op.shift, this]
    rfl
  · obtain ⟨rfl, h⟩ := h
    obtain ⟨r, hK, hr⟩ := intT_sound (P := P) h
    refine ⟨r, hK, fun F H m w u v ox oy hu hv => ?_⟩
    obtain rfl := rep_i hu
    obtain rfl := rep_i hv
    obtain ⟨v, hv, hrep⟩ := hr F H m w t
    exact ⟨v, by simp [eqGuard_int, hv], hrep⟩
  · refine ⟨_, h.2, fun F H m w u v ox oy hu hv => ⟨_, ?_, rep_bool ..⟩⟩
    obtain rfl := rep_b hu
    obtain rfl := rep_b hv
    simp [eqGuard_bool, binOp, equal_bool h.1]
  · refine ⟨_, h.2, fun F H m w u v ox oy hu hv => ⟨_, ?_, rep_bool ..⟩⟩
    obtain rfl := rep_b hu
    obtain rfl := rep_b hv
    simp only [Sem.run_bind, eqGuard_bool, Result.andThen_ok, binOp, equal_bool h.1]
    rfl
  · refine ⟨_, h, fun F H m w u v ox oy hu hv => ⟨_, ?_, rep_bool ..⟩⟩
    obtain rfl := rd_str hu
    obtain rfl := rd_str hv
    simp [eqGuard_str, binOp, Op.stringOp]
  · refine ⟨_, h, fun F H m w u v ox oy hu hv => ⟨_, ?_, rep_bool ..⟩⟩
    obtain rfl := rd_str hu
    obtain rfl := rd_str hv
    simp [eqGuard_str, binOp, Op.stringOp]
  · refine ⟨_, h.2, fun F H m w u v ox oy hu hv => ⟨_, ?_, rep_bool ..⟩⟩
    obtain rfl := rd_nil hu
    obtain rfl := rd_nil hv
    simp [eqGuard_sl, binOp, equal_sl_nil h.1]
  · refine ⟨_, h.2, fun F H m w u v ox oy hu hv => ⟨_, ?_, rep_bool ..⟩⟩
    obtain rfl := rd_nil hu
    obtain rfl := rd_nil hv
    simp [eqGuard_sl, binOp, equal_sl_nil h.1]
  · refine ⟨_, h.2.2, fun F H m w u v ox oy hu hv => ⟨_, ?_, rep_bool ..⟩⟩
    obtain ⟨a, l, cap, rfl⟩ := rd_nonNil h.2.1 hu
    obtain rfl := rd_nil hv
    simp [eqGuard_sl, binOp, equal_sl_nil h.1]
  · refine ⟨_, h.2.2, fun F H m w u v ox oy hu hv => ⟨_, ?_, rep_bool ..⟩⟩
    obtain ⟨a, l, cap, rfl⟩ := rd_nonNil h.2.1 hu
    obtain rfl := rd_nil hv
    simp [eqGuard_sl, binOp, equal_sl_nil h.1]
  · obtain ⟨hle, h⟩ := h
    refine ⟨_, h, fun F H m w u v ox oy hu hv => ⟨_, ?_, Rd.str _⟩⟩
    obtain rfl := rd_str hu
    obtain rfl := rd_str hv
    rename_i a b
    have : ¬ (((a.size + b.size : Nat) : Int) > IntKind.i64.max) := by simp [IntKind.max, IntKind.signed, IntKind.bits]; omega
    simp only [Sem.run_bind, eqGuard_str, Result.andThen_ok, binOp, Op.stringOp, this, if_false]
    rfl
  · refine ⟨_, h.2, fun F H m w u v ox oy hu hv => ⟨_, ?_, rep_bool ..⟩⟩
    obtain rfl := rep_two hu
    obtain rfl := rep_two hv
    rename_i a b c d
    have := hcf t h.1 .eql a b c d ox oy w (.inl rfl)
    simpa using this
  · refine ⟨_, h.2, fun F H m w u v ox oy hu hv => ⟨_, ?_, rep_bool ..⟩⟩
    obtain rfl := rep_two hu
    obtain rfl := rep_two hv
    rename_i a b c d
    have := hcf t h.1 .neq a b c d ox oy w (.inr rfl)
    simpa using this
  · exact h.elim

theorem unT_sound {op : UnOp} {x : AV} {K : AV → Prop} (h : unT op x K) :
    ∃ r, K r ∧ ∀ (F : Fr) (H : Hp) (m : Mp) (w : World) (u : Value), RepA F H m w x u → Yl P F H m w (Op.unary op u) r := by
  unfold unT at h
  split at h
  · exact ⟨_, h, fun F H m w u hu => by obtain rfl := rep_b hu; exact ⟨_, by simp [Op.unary], rep_bool ..⟩⟩
  · obtain ⟨r, hK, rfl⟩ := arT_sound h
    exact ⟨_, hK, fun F H m w u hu => by obtain rfl := rep_i hu; exact ⟨_, by simp only [Op.unary, Op.intArith]; rfl, rep_int ..⟩⟩
  · exact ⟨_, h, fun F H m w u hu => by obtain rfl := rep_i hu; exact ⟨_, by simp only [Op.unary, Op.intBits]; rfl, rep_int ..⟩⟩
  · exact h.elim

theorem intO_some {t : TypeId} {k : IntKind} (h : intO P t = some k) : P.underlying t = some (.int k) := by
  unfold intO at h
  split at h
  · rename_i e; cases h; exact e
  · cases h

theorem convT_sound {s d : TypeId} (hs : (P.underlying s).isSome = true) {x : AV} {K : AV → Prop} (h : convT P d x K) :
    ∃ r, K r ∧ ∀ (F : Fr) (H : Hp) (m : Mp) (w : World) (u : Value), RepA F H m w x u → Yl P F H m w (convert s d u) r := by
  unfold convT at h
  split at h
  · rename_i k k' n hk
    obtain ⟨r, hK, rfl⟩ := arT_sound h
    refine ⟨_, hK, fun F H m w u hu => ?_⟩
    obtain rfl := rep_i hu
    obtain ⟨ds, hds⟩ := Option.isSome_iff_exists.1 hs
    refine ⟨_, ?_, rep_int ..⟩
    simp only [convert, Sem.run_bind, run_underlying hds, run_underlying (intO_some hk), Result.andThen_ok]
    rfl
  · exact h.elim

end Go.Abs
