/-
  The law IntegerPowers holds: whatever it is given, it returns true and leaves what it was given as it is.
  No condition.
-/
import Derived.Test.YthfgapbcdhajiaaK11
import Derived.Test.YthfgapbcdhajiaaK12
import Derived.Test.YthfgapbcdhajiaaB2
namespace Go.Proofs.Ythfgapbcdhajiaa
set_option linter.unusedSimpArgs false
set_option linter.unusedVariables false
open Go.Abs Go.Proofs.NatL Go.ChangeShapes Go.WideShapes Go.ChangeAt Go.RowKit

theorem pows_ret (s t u : Bool) (xs es ms : List Int) (n : Int) (lx : xs.length ≤ 140737488355328) (le : es.length ≤ 140737488355328) (lm : ms.length ≤ 140737488355328) (bx : InB 4294967296 xs) (be : InB 4294967296 es) (bm : InB 4294967296 ms) (hn : -9223372036854775808 ≤ n ∧ n ≤ 9223372036854775807) :
    Ret Try.prog 9 false [.inr [.b s, .ints .u32 xs], .inl (.i .i64 n), .inr [.b t, .ints .u32 es], .inr [.b u, .ints .u32 ms]] (.c (.b true)) := by
  cases h1 : okZ s xs
  · exact pows_bada s t u xs es ms n hn lx le lm bx be bm h1
  obtain ⟨e1, l1⟩ := gI_of' h1 bx
  rw [e1]
  generalize sv 4294967296 s xs = a at *
  by_cases h : okZ t es = true ∧ okZ u ms = true ∧ t = false ∧ u = false ∧ ms ≠ []
  · obtain ⟨o1, o2, rfl, rfl, h3⟩ := h
    obtain ⟨-, e2, le'⟩ := okZ_eq o1 be
    obtain ⟨-, e3, lm'⟩ := okZ_eq o2 bm
    rw [e2] at le'
    rw [e3] at lm'
    have z3 : (sv 4294967296 false ms).natAbs ≠ 0 := fun hh => h3 ((okZ_zero o2 bm).1 (by omega))
    rw [e2, e3]
    by_cases hg : (dg 4294967296 (a ^ n.toNat).natAbs).length ≤ 128
    · exact powsy_b a n _ _ hn hg l1 (by omega) le' lm'
    · exact powsy_c a n _ _ hn hg l1 (by omega) le' lm'
  · by_cases hg : (dg 4294967296 (a ^ n.toNat).natAbs).length ≤ 128
    · exact powsx_b a n t u es ms hn hg l1 le lm be bm h
    · exact powsx_c a n t u es ms hn hg l1 le lm be bm h

set_option maxRecDepth 100000 in
theorem integerPowers_contract (H : Type) (enc : TypeId × Value → H) (W : World) (base : Nat) (args : Array Value) (ds gs : List (DataW H)) (before : List MemPlace)
    (hval : ∀ (j : Nat) t v, Try.f9.params[j]? = some t → args[j]? = some v → Value.okWide Try.prog W .any base t v)
    (hW : DataW.Whole enc Try.prog Try.f9.params.toList Rows.integerPowersSpec.vars false W args.toList ds gs before)
    (hz : (DataW.weightsEach Try.prog (Try.f9.params.toList ++ Rows.integerPowersSpec.plain.varTypes Try.prog) (ds ++ gs)).all (· ≤ reachBytes) = true) :
    Calls Try.prog 9 args W fun e W' => ∃ v, e = .returned v ∧ Rows.integerPowersSpec.post enc Try.prog Try.f9 false true false false W args v W' := by
  have hW' := hW
  obtain ⟨p, q, hA0, hV, rfl, hfz, hnd⟩ := hW
  have hA : DataW.TrodAll enc Try.prog W 0 (fun _ => true) true Try.f9.params.toList args.toList ds p := hA0
  rw [Try.params9] at hA hval hz
  obtain ⟨v0, vs0, d0, ds0, p0, q0, hargs, rfl, rfl, h0, r'0⟩ := trodAll_cons hA
  obtain ⟨v1, vs1, d1, ds1, p1, q1, rfl, rfl, rfl, h1, r'1⟩ := trodAll_cons r'0
  obtain ⟨v2, vs2, d2, ds2, p2, q2, rfl, rfl, rfl, h2, r'2⟩ := trodAll_cons r'1
  obtain ⟨v3, vs3, d3, ds3, p3, q3, rfl, rfl, rfl, h3, r'3⟩ := trodAll_cons r'2
  obtain ⟨rfl, rfl, rfl⟩ := trodAll_nil r'3
  obtain rfl : args = #[v0, v1, v2, v3] := by cases args; simp_all
  obtain ⟨rfl, rfl⟩ := trodVars_none hV
  obtain ⟨s0, hz⟩ := szd_cons hz
  obtain ⟨s1, hz⟩ := szd_cons hz
  obtain ⟨s2, hz⟩ := szd_cons hz
  obtain ⟨s3, hz⟩ := szd_cons hz
  obtain ⟨s_0, x0, r0, l0, b0⟩ := open_Int (hval 0 _ v0 rfl rfl) h0 s0
  obtain ⟨x1, rfl, rfl, rfl, w1⟩ := open_int Try.underlying3 (hval 1 _ v1 rfl rfl) h1
  have b1 := bounds_i64 w1
  obtain ⟨s_2, x2, r2, l2, b2⟩ := open_Int (hval 2 _ v2 rfl rfl) h2 s2
  obtain ⟨s_3, x3, r3, l3, b3⟩ := open_Int (hval 3 _ v3 rfl rfl) h3 s3
  refine law_post [.inr [.b s_0, .ints .u32 x0], .inl (.i .i64 x1), .inr [.b s_2, .ints .u32 x2], .inr [.b s_3, .ints .u32 x3]] kids full (by rw [Try.params9]; decide +kernel) rfl rfl Try.underlying4 rfl hW' rfl ?_ (pows_ret s_0 s_2 s_3 x0 x2 x3 x1 l0 l2 l3 b0 b2 b3 b1)
  intro j y u hy hu
  match j with
  | 0 => cases hy; cases hu; exact r0
  | 1 => cases hy; cases hu; exact Rd.i .i64 x1
  | 2 => cases hy; cases hu; exact r2
  | 3 => cases hy; cases hu; exact r3
  | _ + 4 => simp at hy

set_option maxRecDepth 100000 in
theorem integerPowers_lifted (os : Os) (started : os.Started) (H : Type) (enc : TypeId × Value → H) :
    ReturnsInHanded {} Try.checked os 9 .any (Rows.integerPowersSpec.pre6 enc Try.prog Try.f9 Rows.integerPowersRow.domain false) (Rows.integerPowersSpec.post enc Try.prog Try.f9 false true false false) := by
  refine returnsInHanded_of_change_sized (C := Try.checked) own_knob started (by kernel_rfl) Try.func9
    (ChangeSpec.witness6 false ⟨#[], #[.agg #[.bool false, .slice none 0 0], .int .i64 0, .agg #[.bool false, .slice none 0 0], .agg #[.bool false, .slice none 0 0]], []⟩ 8 (by kernel_rfl) (by kernel_rfl) (by kernel_rfl) (by kernel_rfl)) ?_
  intro W base args ds gs before hval hW _ hz _
  exact integerPowers_contract H enc W base args ds gs before hval hW hz

theorem integerPowers_holds : Rows.IntegerPowersSaid :=
  OpenClaim.holds_of_wide 9 Try.f9 rfl rfl rfl rfl rfl rfl rfl ⟨rfl, rfl, rfl, rfl, rfl⟩ rfl rfl rfl rfl rfl (by kernel_rfl) Try.func9 (by kernel_rfl)
    (of_decide_eq_true (by kernel_rfl)) (by unfold Func.isWrapper; first | (rw [if_pos (by decide +kernel)]; kernel_rfl) | (rw [if_neg (by decide +kernel)]; exact ⟨rfl, rfl⟩))
    (fun os started H enc _ => integerPowers_lifted os started H enc)

end Go.Proofs.Ythfgapbcdhajiaa
