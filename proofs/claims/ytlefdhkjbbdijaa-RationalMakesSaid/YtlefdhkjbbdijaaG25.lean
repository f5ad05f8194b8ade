import Derived.Test.YtlefdhkjbbdijaaG21
import Derived.Test.YtlefdhkjbbdijaaG24
namespace Go.Proofs.Ytlefdhkjbbdijaa
set_option linter.unusedSimpArgs false
set_option linter.unusedVariables false
open Go.Abs Go.Proofs.NatL Go.ChangeShapes Go.WideShapes Go.ChangeAt Go.RowKit

set_option maxRecDepth 100000 in
theorem rationalMakes_contract (H : Type) (enc : TypeId × Value → H) (W : World) (base : Nat) (args : Array Value) (ds gs : List (DataW H)) (before : List MemPlace)
    (hval : ∀ (j : Nat) t v, Try.f8.params[j]? = some t → args[j]? = some v → Value.okWide Try.prog W .any base t v)
    (hW : DataW.Whole enc Try.prog Try.f8.params.toList Rows.rationalMakesSpec.vars false W args.toList ds gs before)
    (hz : (DataW.weightsEach Try.prog (Try.f8.params.toList ++ Rows.rationalMakesSpec.plain.varTypes Try.prog) (ds ++ gs)).all (· ≤ reachBytes) = true) :
    Calls Try.prog 8 args W fun e W' => ∃ v, e = .returned v ∧ Rows.rationalMakesSpec.post enc Try.prog Try.f8 false true false false W args v W' := by
  have hW' := hW
  obtain ⟨p, q, hA0, hV, rfl, hfz, hnd⟩ := hW
  have hA : DataW.TrodAll enc Try.prog W 0 (fun _ => true) true Try.f8.params.toList args.toList ds p := hA0
  rw [Try.params8] at hA hval hz
  obtain ⟨v0, vs0, d0, ds0, p0, q0, hargs, rfl, rfl, h0, r'0⟩ := trodAll_cons hA
  obtain ⟨v1, vs1, d1, ds1, p1, q1, rfl, rfl, rfl, h1, r'1⟩ := trodAll_cons r'0
  obtain ⟨v2, vs2, d2, ds2, p2, q2, rfl, rfl, rfl, h2, r'2⟩ := trodAll_cons r'1
  obtain ⟨v3, vs3, d3, ds3, p3, q3, rfl, rfl, rfl, h3, r'3⟩ := trodAll_cons r'2
  obtain ⟨rfl, rfl, rfl⟩ := trodAll_nil r'3
  obtain rfl : args = #[v0, v1, v2, v3] := by cases args; simp_all
  obtain ⟨rfl, rfl⟩ := trodVars_none hV
  obtain ⟨s0, hz⟩ := szd_cons hz
  obtain ⟨s1, hz⟩ := szd_cons hz
  obtain ⟨s2, hz⟩ := szd_cons hz
  obtain ⟨s3, hz⟩ := szd_cons hz
  obtain ⟨s_0, x0, r0, l0, b0⟩ := open_Int (hval 0 _ v0 rfl rfl) h0 s0
  obtain ⟨s_1, x1, r1, l1, b1⟩ := open_Int (hval 1 _ v1 rfl rfl) h1 s1
  obtain ⟨s_2a, x2a, s_2b, x2b, r2, l2, b2⟩ := open_Ratio (hval 2 _ v2 rfl rfl) h2 s2
  obtain ⟨x3, rfl, rfl, rfl, w3⟩ := open_int Try.underlying3 (hval 3 _ v3 rfl rfl) h3
  have b3 := bounds_i64 w3
  refine law_post [.inr [.b s_0, .ints .u32 x0], .inr [.b s_1, .ints .u32 x1], .inr [.b s_2a, .ints .u32 x2a, .b s_2b, .ints .u32 x2b], .inl (.i .i64 x3)] kids full (by rw [Try.params8]; decide +kernel) rfl rfl Try.underlying4 rfl hW' rfl ?_ (qmakes_ret s_0 s_1 s_2a s_2b x0 x1 x2a x2b x3 l0 l1 l2 b0 b1 b2 b3)
  intro j y u hy hu
  match j with
  | 0 => cases hy; cases hu; exact r0
  | 1 => cases hy; cases hu; exact r1
  | 2 => cases hy; cases hu; exact r2
  | 3 => cases hy; cases hu; exact Rd.i .i64 x3
  | _ + 4 => simp at hy

set_option maxRecDepth 100000 in
theorem rationalMakes_lifted (os : Os) (started : os.Started) (H : Type) (enc : TypeId × Value → H) :
    ReturnsInHanded {} Try.checked os 8 .any (Rows.rationalMakesSpec.pre6 enc Try.prog Try.f8 Rows.rationalMakesRow.domain false) (Rows.rationalMakesSpec.post enc Try.prog Try.f8 false true false false) := by
  refine returnsInHanded_of_change_sized (C := Try.checked) own_knob started (by kernel_rfl) Try.func8
    (ChangeSpec.witness6 false ⟨#[], #[.agg #[.bool false, .slice none 0 0], .agg #[.bool false, .slice none 0 0], .agg #[.bool false, .slice none 0 0, .bool false, .slice none 0 0], .int .i64 0], []⟩ 8 (by kernel_rfl) (by kernel_rfl) (by kernel_rfl) (by kernel_rfl)) ?_
  intro W base args ds gs before hval hW _ hz _
  exact rationalMakes_contract H enc W base args ds gs before hval hW hz

theorem rationalMakes_h1 : Rows.rationalMakesRow.wf (OpenSpec.ofChange Rows.rationalMakesSpec) = true := by kernel_rfl
theorem rationalMakes_h2 : laidOutB Try.pinned.checked.prog = true := by kernel_rfl
theorem rationalMakes_h3 : mapsRowed Try.pinned.checked.prog = true := by kernel_rfl
theorem rationalMakes_h4 : (Rows.rationalMakesRow.inPlace == Try.pinned.checked.prog.inPlace 8) = true := by kernel_rfl
theorem rationalMakes_h5 : (Rows.rationalMakesRow.unfollowed == Try.pinned.checked.prog.unfollowed 8) = true := by kernel_rfl
theorem rationalMakes_h6 : (Rows.rationalMakesRow.recurses == Try.pinned.checked.prog.recurses 8) = true := by kernel_rfl
theorem rationalMakes_h7 : (Rows.rationalMakesRow.named == Try.pinned.checked.prog.varsNamed 8) = true := by kernel_rfl
theorem rationalMakes_h8 : (Rows.rationalMakesRow.plainKeys == Try.pinned.checked.prog.plainKeys) = true := by kernel_rfl
theorem rationalMakes_and {a b : Bool} (ha : a = true) (hb : b = true) : (a && b) = true := by rw [ha, hb]; rfl
theorem rationalMakes_facts : joinedFacts Try.pinned.checked.prog 8 Try.f8 Rows.rationalMakesSpec Rows.rationalMakesRow = true := by
  unfold joinedFacts
  repeat' (with_reducible refine rationalMakes_and ?_ ?_)
  all_goals first
    | with_reducible exact rationalMakes_h1
    | with_reducible exact rationalMakes_h2
    | with_reducible exact rationalMakes_h3
    | with_reducible exact rationalMakes_h4
    | with_reducible exact rationalMakes_h5
    | with_reducible exact rationalMakes_h6
    | with_reducible exact rationalMakes_h7
    | with_reducible exact rationalMakes_h8
    | kernel_rfl

theorem rationalMakes_holds : Rows.RationalMakesSaid :=
  OpenClaim.holds_of_wide 8 Try.f8 rfl rfl rfl rfl rfl rfl rfl ⟨rfl, rfl, rfl, rfl, rfl⟩ rfl rfl rfl rfl rfl (by kernel_rfl) Try.func8 rationalMakes_facts
    (of_decide_eq_true (by kernel_rfl)) (by unfold Func.isWrapper; first | (rw [if_pos (by decide +kernel)]; kernel_rfl) | (rw [if_neg (by decide +kernel)]; exact ⟨rfl, rfl⟩))
    (fun os started H enc _ => rationalMakes_lifted os started H enc)

end Go.Proofs.Ytlefdhkjbbdijaa
