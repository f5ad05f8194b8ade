import Derived.Test.YtlflfhcfljiciaaGreatE25
namespace Go.Proofs.YtlflfhcfljiciaaGreat
set_option linter.unusedSimpArgs false
set_option linter.unusedVariables false
open Go.Abs Go.Proofs.NatL Go.ChangeShapes Go.WideShapes Go.ChangeAt Go.RowKit

set_option maxRecDepth 100000 in
theorem rationalTexts_contract (H : Type) (enc : TypeId × Value → H) (W : World) (base : Nat) (args : Array Value) (ds gs : List (DataW H)) (before : List MemPlace)
    (hval : ∀ (j : Nat) t v, Tryz.f3.params[j]? = some t → args[j]? = some v → Value.okWide Tryz.prog W .any base t v)
    (hW : DataW.Whole enc Tryz.prog Tryz.f3.params.toList Rows.rationalTextsSpec.vars false W args.toList ds gs before)
    (hz : (DataW.weightsEach Tryz.prog (Tryz.f3.params.toList ++ Rows.rationalTextsSpec.plain.varTypes Tryz.prog) (ds ++ gs)).all (· ≤ reachBytes) = true) :
    Calls Tryz.prog 3 args W fun e W' => ∃ v, e = .returned v ∧ Rows.rationalTextsSpec.post enc Tryz.prog Tryz.f3 false true false false W args v W' := by
  have hW' := hW
  obtain ⟨p, q, hA0, hV, rfl, hfz, hnd⟩ := hW
  have hA : DataW.TrodAll enc Tryz.prog W 0 (fun _ => true) true Tryz.f3.params.toList args.toList ds p := hA0
  rw [Tryz.params3] at hA hval hz
  obtain ⟨v0, vs0, d0, ds0, p0, q0, hargs, rfl, rfl, h0, r'0⟩ := trodAll_cons hA
  obtain ⟨v1, vs1, d1, ds1, p1, q1, rfl, rfl, rfl, h1, r'1⟩ := trodAll_cons r'0
  obtain ⟨rfl, rfl, rfl⟩ := trodAll_nil r'1
  obtain rfl : args = #[v0, v1] := by cases args; simp_all
  obtain ⟨rfl, rfl⟩ := trodVars_none hV
  obtain ⟨s0, hz⟩ := szd_cons hz
  obtain ⟨s1, hz⟩ := szd_cons hz
  obtain ⟨s_0a, x0a, s_0b, x0b, r0, l0, b0⟩ := open_Ratio (hval 0 _ v0 rfl rfl) h0 s0
  obtain ⟨x1, rfl, l1⟩ := open_str (hval 1 _ v1 rfl rfl) h1
  refine law_post [.inr [.b s_0a, .ints .u32 x0a, .b s_0b, .ints .u32 x0b], .inl (.str x1)] kids full (by rw [Tryz.params3]; decide +kernel) rfl rfl Tryz.underlying4 rfl hW' rfl ?_ (qtexts_ret s_0a s_0b x0a x0b x1 l0 b0 l1)
  intro j y u hy hu
  match j with
  | 0 => cases hy; cases hu; exact r0
  | 1 => cases hy; cases hu; exact Rd.str x1
  | _ + 2 => simp at hy

set_option maxRecDepth 100000 in
theorem rationalTexts_lifted (os : Os) (started : os.Started) (H : Type) (enc : TypeId × Value → H) :
    ReturnsInHanded {} Tryz.checked os 3 .any (Rows.rationalTextsSpec.pre6 enc Tryz.prog Tryz.f3 Rows.rationalTextsRow.domain false) (Rows.rationalTextsSpec.post enc Tryz.prog Tryz.f3 false true false false) := by
  refine returnsInHanded_of_change_sized (C := Tryz.checked) own_knob started (by kernel_rfl) Tryz.func3
    (ChangeSpec.witness6 false ⟨#[], #[.agg #[.bool false, .slice none 0 0, .bool false, .slice none 0 0], .string ByteArray.empty], []⟩ 8 (by kernel_rfl) (by kernel_rfl) (by kernel_rfl) (by kernel_rfl)) ?_
  intro W base args ds gs before hval hW _ hz _
  exact rationalTexts_contract H enc W base args ds gs before hval hW hz

theorem rationalTexts_h1 : Rows.rationalTextsRow.wf (OpenSpec.ofChange Rows.rationalTextsSpec) = true := by kernel_rfl
theorem rationalTexts_h2 : laidOutB Tryz.pinned.checked.prog = true := by kernel_rfl
theorem rationalTexts_h3 : mapsRowed Tryz.pinned.checked.prog = true := by kernel_rfl
theorem rationalTexts_h4 : (Rows.rationalTextsRow.inPlace == Tryz.pinned.checked.prog.inPlace 3) = true := by kernel_rfl
theorem rationalTexts_h5 : (Rows.rationalTextsRow.unfollowed == Tryz.pinned.checked.prog.unfollowed 3) = true := by kernel_rfl
theorem rationalTexts_h6 : (Rows.rationalTextsRow.recurses == Tryz.pinned.checked.prog.recurses 3) = true := by kernel_rfl
theorem rationalTexts_h7 : (Rows.rationalTextsRow.named == Tryz.pinned.checked.prog.varsNamed 3) = true := by kernel_rfl
theorem rationalTexts_h8 : (Rows.rationalTextsRow.plainKeys == Tryz.pinned.checked.prog.plainKeys) = true := by kernel_rfl
theorem rationalTexts_and {a b : Bool} (ha : a = true) (hb : b = true) : (a && b) = true := by rw [ha, hb]; rfl
theorem rationalTexts_facts : joinedFacts Tryz.pinned.checked.prog 3 Tryz.f3 Rows.rationalTextsSpec Rows.rationalTextsRow = true := by
  unfold joinedFacts
  repeat' (with_reducible refine rationalTexts_and ?_ ?_)
  all_goals first
    | with_reducible exact rationalTexts_h1
    | with_reducible exact rationalTexts_h2
    | with_reducible exact rationalTexts_h3
    | with_reducible exact rationalTexts_h4
    | with_reducible exact rationalTexts_h5
    | with_reducible exact rationalTexts_h6
    | with_reducible exact rationalTexts_h7
    | with_reducible exact rationalTexts_h8
    | kernel_rfl

theorem rationalTexts_holds : Rows.RationalTextsSaid :=
  OpenClaim.holds_of_wide 3 Tryz.f3 rfl rfl rfl rfl rfl rfl rfl ⟨rfl, rfl, rfl, rfl, rfl⟩ rfl rfl rfl rfl rfl (by kernel_rfl) Tryz.func3 rationalTexts_facts
    (of_decide_eq_true (by kernel_rfl)) (by unfold Func.isWrapper; first | (rw [if_pos (by decide +kernel)]; kernel_rfl) | (rw [if_neg (by decide +kernel)]; exact ⟨rfl, rfl⟩))
    (fun os started H enc _ => rationalTexts_lifted os started H enc)

end Go.Proofs.YtlflfhcfljiciaaGreat
