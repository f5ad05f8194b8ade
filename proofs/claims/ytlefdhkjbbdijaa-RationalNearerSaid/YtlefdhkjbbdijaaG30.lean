import Derived.Test.YtlefdhkjbbdijaaG21
import Derived.Test.YtlefdhkjbbdijaaG29
namespace Go.Proofs.Ytlefdhkjbbdijaa
set_option linter.unusedSimpArgs false
set_option linter.unusedVariables false
open Go.Abs Go.Proofs.NatL Go.ChangeShapes Go.WideShapes Go.ChangeAt Go.RowKit

set_option maxRecDepth 100000 in
theorem rationalNearer_contract (H : Type) (enc : TypeId × Value → H) (W : World) (base : Nat) (args : Array Value) (ds gs : List (DataW H)) (before : List MemPlace)
    (hval : ∀ (j : Nat) t v, Try.f3.params[j]? = some t → args[j]? = some v → Value.okWide Try.prog W .any base t v)
    (hW : DataW.Whole enc Try.prog Try.f3.params.toList Rows.rationalNearerSpec.vars false W args.toList ds gs before)
    (hz : (DataW.weightsEach Try.prog (Try.f3.params.toList ++ Rows.rationalNearerSpec.plain.varTypes Try.prog) (ds ++ gs)).all (· ≤ reachBytes) = true) :
    Calls Try.prog 3 args W fun e W' => ∃ v, e = .returned v ∧ Rows.rationalNearerSpec.post enc Try.prog Try.f3 false true false false W args v W' := by
  have hW' := hW
  obtain ⟨p, q, hA0, hV, rfl, hfz, hnd⟩ := hW
  have hA : DataW.TrodAll enc Try.prog W 0 (fun _ => true) true Try.f3.params.toList args.toList ds p := hA0
  rw [Try.params3] at hA hval hz
  obtain ⟨v0, vs0, d0, ds0, p0, q0, hargs, rfl, rfl, h0, r'0⟩ := trodAll_cons hA
  obtain ⟨v1, vs1, d1, ds1, p1, q1, rfl, rfl, rfl, h1, r'1⟩ := trodAll_cons r'0
  obtain ⟨v2, vs2, d2, ds2, p2, q2, rfl, rfl, rfl, h2, r'2⟩ := trodAll_cons r'1
  obtain ⟨rfl, rfl, rfl⟩ := trodAll_nil r'2
  obtain rfl : args = #[v0, v1, v2] := by cases args; simp_all
  obtain ⟨rfl, rfl⟩ := trodVars_none hV
  obtain ⟨s0, hz⟩ := szd_cons hz
  obtain ⟨s1, hz⟩ := szd_cons hz
  obtain ⟨s2, hz⟩ := szd_cons hz
  obtain ⟨s_0a, x0a, s_0b, x0b, r0, l0, b0⟩ := open_Ratio (hval 0 _ v0 rfl rfl) h0 s0
  obtain ⟨x1, rfl, rfl, rfl, w1⟩ := open_int Try.underlying3 (hval 1 _ v1 rfl rfl) h1
  have b1 := bounds_i64 w1
  obtain ⟨x2, rfl, rfl, rfl, w2⟩ := open_int Try.underlying3 (hval 2 _ v2 rfl rfl) h2
  have b2 := bounds_i64 w2
  refine law_post [.inr [.b s_0a, .ints .u32 x0a, .b s_0b, .ints .u32 x0b], .inl (.i .i64 x1), .inl (.i .i64 x2)] kids full (by rw [Try.params3]; decide +kernel) rfl rfl Try.underlying4 rfl hW' rfl ?_ (qnearer_ret s_0a s_0b x0a x0b x1 x2 l0 b0 b1 b2)
  intro j y u hy hu
  match j with
  | 0 => cases hy; cases hu; exact r0
  | 1 => cases hy; cases hu; exact Rd.i .i64 x1
  | 2 => cases hy; cases hu; exact Rd.i .i64 x2
  | _ + 3 => simp at hy

set_option maxRecDepth 100000 in
theorem rationalNearer_lifted (os : Os) (started : os.Started) (H : Type) (enc : TypeId × Value → H) :
    ReturnsInHanded {} Try.checked os 3 .any (Rows.rationalNearerSpec.pre6 enc Try.prog Try.f3 Rows.rationalNearerRow.domain false) (Rows.rationalNearerSpec.post enc Try.prog Try.f3 false true false false) := by
  refine returnsInHanded_of_change_sized (C := Try.checked) own_knob started (by kernel_rfl) Try.func3
    (ChangeSpec.witness6 false ⟨#[], #[.agg #[.bool false, .slice none 0 0, .bool false, .slice none 0 0], .int .i64 0, .int .i64 0], []⟩ 8 (by kernel_rfl) (by kernel_rfl) (by kernel_rfl) (by kernel_rfl)) ?_
  intro W base args ds gs before hval hW _ hz _
  exact rationalNearer_contract H enc W base args ds gs before hval hW hz

theorem rationalNearer_h1 : Rows.rationalNearerRow.wf (OpenSpec.ofChange Rows.rationalNearerSpec) = true := by kernel_rfl
theorem rationalNearer_h2 : laidOutB Try.pinned.checked.prog = true := by kernel_rfl
theorem rationalNearer_h3 : mapsRowed Try.pinned.checked.prog = true := by kernel_rfl
theorem rationalNearer_h4 : (Rows.rationalNearerRow.inPlace == Try.pinned.checked.prog.inPlace 3) = true := by kernel_rfl
theorem rationalNearer_h5 : (Rows.rationalNearerRow.unfollowed == Try.pinned.checked.prog.unfollowed 3) = true := by kernel_rfl
theorem rationalNearer_h6 : (Rows.rationalNearerRow.recurses == Try.pinned.checked.prog.recurses 3) = true := by kernel_rfl
theorem rationalNearer_h7 : (Rows.rationalNearerRow.named == Try.pinned.checked.prog.varsNamed 3) = true := by kernel_rfl
theorem rationalNearer_h8 : (Rows.rationalNearerRow.plainKeys == Try.pinned.checked.prog.plainKeys) = true := by kernel_rfl
theorem rationalNearer_and {a b : Bool} (ha : a = true) (hb : b = true) : (a && b) = true := by rw [ha, hb]; rfl
theorem rationalNearer_facts : joinedFacts Try.pinned.checked.prog 3 Try.f3 Rows.rationalNearerSpec Rows.rationalNearerRow = true := by
  unfold joinedFacts
  repeat' (with_reducible refine rationalNearer_and ?_ ?_)
  all_goals first
    | with_reducible exact rationalNearer_h1
    | with_reducible exact rationalNearer_h2
    | with_reducible exact rationalNearer_h3
    | with_reducible exact rationalNearer_h4
    | with_reducible exact rationalNearer_h5
    | with_reducible exact rationalNearer_h6
    | with_reducible exact rationalNearer_h7
    | with_reducible exact rationalNearer_h8
    | kernel_rfl

theorem rationalNearer_holds : Rows.RationalNearerSaid :=
  OpenClaim.holds_of_wide 3 Try.f3 rfl rfl rfl rfl rfl rfl rfl ⟨rfl, rfl, rfl, rfl, rfl⟩ rfl rfl rfl rfl rfl (by kernel_rfl) Try.func3 rationalNearer_facts
    (of_decide_eq_true (by kernel_rfl)) (by unfold Func.isWrapper; first | (rw [if_pos (by decide +kernel)]; kernel_rfl) | (rw [if_neg (by decide +kernel)]; exact ⟨rfl, rfl⟩))
    (fun os started H enc _ => rationalNearer_lifted os started H enc)

end Go.Proofs.Ytlefdhkjbbdijaa
