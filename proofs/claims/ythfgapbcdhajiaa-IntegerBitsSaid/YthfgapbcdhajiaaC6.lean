/-
  The law IntegerBits holds: whatever it is given, it returns true and leaves what it was given as it is.
  No condition.
-/
import Derived.Test.YthfgapbcdhajiaaK7
import Derived.Test.YthfgapbcdhajiaaB2
namespace Go.Proofs.Ythfgapbcdhajiaa
set_option linter.unusedSimpArgs false
set_option linter.unusedVariables false
open Go.Abs Go.Proofs.NatL Go.ChangeShapes Go.WideShapes Go.ChangeAt Go.RowKit

set_option maxRecDepth 100000 in
theorem integerBits_contract (H : Type) (enc : TypeId × Value → H) (W : World) (base : Nat) (args : Array Value) (ds gs : List (DataW H)) (before : List MemPlace)
    (hval : ∀ (j : Nat) t v, Try.f10.params[j]? = some t → args[j]? = some v → Value.okWide Try.prog W .any base t v)
    (hW : DataW.Whole enc Try.prog Try.f10.params.toList Rows.integerBitsSpec.vars false W args.toList ds gs before)
    (hz : (DataW.weightsEach Try.prog (Try.f10.params.toList ++ Rows.integerBitsSpec.plain.varTypes Try.prog) (ds ++ gs)).all (· ≤ reachBytes) = true) :
    Calls Try.prog 10 args W fun e W' => ∃ v, e = .returned v ∧ Rows.integerBitsSpec.post enc Try.prog Try.f10 false true false false W args v W' := by
  have hW' := hW
  obtain ⟨p, q, hA0, hV, rfl, hfz, hnd⟩ := hW
  have hA : DataW.TrodAll enc Try.prog W 0 (fun _ => true) true Try.f10.params.toList args.toList ds p := hA0
  rw [Try.params10] at hA hval hz
  obtain ⟨v0, vs0, d0, ds0, p0, q0, hargs, rfl, rfl, h0, r'0⟩ := trodAll_cons hA
  obtain ⟨v1, vs1, d1, ds1, p1, q1, rfl, rfl, rfl, h1, r'1⟩ := trodAll_cons r'0
  obtain ⟨v2, vs2, d2, ds2, p2, q2, rfl, rfl, rfl, h2, r'2⟩ := trodAll_cons r'1
  obtain ⟨rfl, rfl, rfl⟩ := trodAll_nil r'2
  obtain rfl : args = #[v0, v1, v2] := by cases args; simp_all
  obtain ⟨rfl, rfl⟩ := trodVars_none hV
  obtain ⟨s0, hz⟩ := szd_cons hz
  obtain ⟨s1, hz⟩ := szd_cons hz
  obtain ⟨s2, hz⟩ := szd_cons hz
  obtain ⟨s_0, x0, r0, l0, b0⟩ := open_Int (hval 0 _ v0 rfl rfl) h0 s0
  obtain ⟨s_1, x1, r1, l1, b1⟩ := open_Int (hval 1 _ v1 rfl rfl) h1 s1
  obtain ⟨x2, rfl, rfl, rfl, w2⟩ := open_int Try.underlying3 (hval 2 _ v2 rfl rfl) h2
  have b2 := bounds_i64 w2
  refine law_post [.inr [.b s_0, .ints .u32 x0], .inr [.b s_1, .ints .u32 x1], .inl (.i .i64 x2)] kids full (by rw [Try.params10]; decide +kernel) rfl rfl Try.underlying4 rfl hW' rfl ?_ (bits_ret s_0 s_1 x0 x1 x2 l0 l1 b0 b1 b2)
  intro j y u hy hu
  match j with
  | 0 => cases hy; cases hu; exact r0
  | 1 => cases hy; cases hu; exact r1
  | 2 => cases hy; cases hu; exact Rd.i .i64 x2
  | _ + 3 => simp at hy

set_option maxRecDepth 100000 in
theorem integerBits_lifted (os : Os) (started : os.Started) (H : Type) (enc : TypeId × Value → H) :
    ReturnsInHanded {} Try.checked os 10 .any (Rows.integerBitsSpec.pre6 enc Try.prog Try.f10 Rows.integerBitsRow.domain false) (Rows.integerBitsSpec.post enc Try.prog Try.f10 false true false false) := by
  refine returnsInHanded_of_change_sized (C := Try.checked) own_knob started (by kernel_rfl) Try.func10
    (ChangeSpec.witness6 false ⟨#[], #[.agg #[.bool false, .slice none 0 0], .agg #[.bool false, .slice none 0 0], .int .i64 0], []⟩ 8 (by kernel_rfl) (by kernel_rfl) (by kernel_rfl) (by kernel_rfl)) ?_
  intro W base args ds gs before hval hW _ hz _
  exact integerBits_contract H enc W base args ds gs before hval hW hz

theorem integerBits_holds : Rows.IntegerBitsSaid :=
  OpenClaim.holds_of_wide 10 Try.f10 rfl rfl rfl rfl rfl rfl rfl ⟨rfl, rfl, rfl, rfl, rfl⟩ rfl rfl rfl rfl rfl (by kernel_rfl) Try.func10 (by kernel_rfl)
    (of_decide_eq_true (by kernel_rfl)) (by unfold Func.isWrapper; first | (rw [if_pos (by decide +kernel)]; kernel_rfl) | (rw [if_neg (by decide +kernel)]; exact ⟨rfl, rfl⟩))
    (fun os started H enc _ => integerBits_lifted os started H enc)

end Go.Proofs.Ythfgapbcdhajiaa
