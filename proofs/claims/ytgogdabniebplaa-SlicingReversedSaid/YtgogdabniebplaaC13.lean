/-
  The law SlicingReversed holds: whatever it is given, it returns true and leaves what it was given as it is.
  No condition.
-/
import Derived.Test.YtgogdabniebplaaS15
import Derived.Test.YtgogdabniebplaaB3
import Derived.Test.YtgogdabniebplaaB1
namespace Go.Proofs.Ytgogdabniebplaa
set_option linter.unusedSimpArgs false
set_option linter.unusedVariables false
open Go.Abs Go.Proofs.NatL Go.ChangeShapes Go.WideShapes Go.ChangeAt Go.RowKit

set_option maxRecDepth 100000 in
theorem slicingReversed_contract (H : Type) (enc : TypeId × Value → H) (W : World) (base : Nat) (args : Array Value) (ds gs : List (DataW H)) (before : List MemPlace)
    (hval : ∀ (j : Nat) t v, Try.f4.params[j]? = some t → args[j]? = some v → Value.okWide Try.prog W .any base t v)
    (hW : DataW.Whole enc Try.prog Try.f4.params.toList Rows.slicingReversedSpec.vars false W args.toList ds gs before)
    (hz : (DataW.weightsEach Try.prog (Try.f4.params.toList ++ Rows.slicingReversedSpec.plain.varTypes Try.prog) (ds ++ gs)).all (· ≤ reachBytes) = true) :
    Calls Try.prog 4 args W fun e W' => ∃ v, e = .returned v ∧ Rows.slicingReversedSpec.post enc Try.prog Try.f4 false true false false W args v W' := by
  have hW' := hW
  obtain ⟨p, q, hA0, hV, rfl, hfz, hnd⟩ := hW
  have hA : DataW.TrodAll enc Try.prog W 0 (fun _ => true) true Try.f4.params.toList args.toList ds p := hA0
  rw [Try.params4] at hA hval hz
  obtain ⟨v0, vs0, d0, ds0, p0, q0, hargs, rfl, rfl, h0, r'0⟩ := trodAll_cons hA
  obtain ⟨v1, vs1, d1, ds1, p1, q1, rfl, rfl, rfl, h1, r'1⟩ := trodAll_cons r'0
  obtain ⟨v2, vs2, d2, ds2, p2, q2, rfl, rfl, rfl, h2, r'2⟩ := trodAll_cons r'1
  obtain ⟨rfl, rfl, rfl⟩ := trodAll_nil r'2
  obtain rfl : args = #[v0, v1, v2] := by cases args; simp_all
  obtain ⟨rfl, rfl⟩ := trodVars_none hV
  obtain ⟨s0, hz⟩ := szd_cons hz
  obtain ⟨s1, hz⟩ := szd_cons hz
  obtain ⟨s2, hz⟩ := szd_cons hz
  obtain ⟨x0, r0, l0, b0⟩ := open_ints (hval 0 _ v0 rfl rfl) h0 s0
  obtain ⟨s_1a, x1a, s_1b, x1b, s_1c, x1c, g1a, g1b, g1c, r1, l1, b1⟩ := open_Slice (hval 1 _ v1 rfl rfl) h1 s1
  obtain ⟨x2, rfl, rfl, rfl, w2⟩ := open_int Try.underlying3 (hval 2 _ v2 rfl rfl) h2
  have b2 := bounds_i64 w2
  refine law_post [.inl (.ints .i64 x0), .inr [.b s_1a, .ints .u32 x1a, .b s_1b, .ints .u32 x1b, .b s_1c, .ints .u32 x1c, .b g1a, .b g1b, .b g1c], .inl (.i .i64 x2)] kids full (by rw [Try.params4]; decide +kernel) rfl rfl Try.underlying4 rfl hW' rfl ?_ (rev_ret x0 s_1a s_1b s_1c g1a g1b g1c x1a x1b x1c x2 l1 b1 b2)
  intro j y u hy hu
  match j with
  | 0 => cases hy; cases hu; exact r0
  | 1 => cases hy; cases hu; exact r1
  | 2 => cases hy; cases hu; exact Rd.i .i64 x2
  | _ + 3 => simp at hy

set_option maxRecDepth 100000 in
theorem slicingReversed_lifted (os : Os) (started : os.Started) (H : Type) (enc : TypeId × Value → H) :
    ReturnsInHanded {} Try.checked os 4 .any (Rows.slicingReversedSpec.pre6 enc Try.prog Try.f4 Rows.slicingReversedRow.domain false) (Rows.slicingReversedSpec.post enc Try.prog Try.f4 false true false false) := by
  refine returnsInHanded_of_change_sized (C := Try.checked) own_knob started (by kernel_rfl) Try.func4
    (ChangeSpec.witness6 false ⟨#[], #[.slice none 0 0, .agg #[.bool false, .slice none 0 0, .bool false, .slice none 0 0, .bool false, .slice none 0 0, .bool false, .bool false, .bool false], .int .i64 0], []⟩ 8 (by kernel_rfl) (by kernel_rfl) (by kernel_rfl) (by kernel_rfl)) ?_
  intro W base args ds gs before hval hW _ hz _
  exact slicingReversed_contract H enc W base args ds gs before hval hW hz

theorem slicingReversed_h1 : Rows.slicingReversedRow.wf (OpenSpec.ofChange Rows.slicingReversedSpec) = true := by kernel_rfl
theorem slicingReversed_h2 : laidOutB Try.pinned.checked.prog = true := by kernel_rfl
theorem slicingReversed_h3 : mapsRowed Try.pinned.checked.prog = true := by kernel_rfl
theorem slicingReversed_h4 : (Rows.slicingReversedRow.inPlace == Try.pinned.checked.prog.inPlace 4) = true := by kernel_rfl
theorem slicingReversed_h5 : (Rows.slicingReversedRow.unfollowed == Try.pinned.checked.prog.unfollowed 4) = true := by kernel_rfl
theorem slicingReversed_h6 : (Rows.slicingReversedRow.recurses == Try.pinned.checked.prog.recurses 4) = true := by kernel_rfl
theorem slicingReversed_h7 : (Rows.slicingReversedRow.named == Try.pinned.checked.prog.varsNamed 4) = true := by kernel_rfl
theorem slicingReversed_h8 : (Rows.slicingReversedRow.plainKeys == Try.pinned.checked.prog.plainKeys) = true := by kernel_rfl
theorem slicingReversed_and {a b : Bool} (ha : a = true) (hb : b = true) : (a && b) = true := by rw [ha, hb]; rfl
theorem slicingReversed_facts : joinedFacts Try.pinned.checked.prog 4 Try.f4 Rows.slicingReversedSpec Rows.slicingReversedRow = true := by
  unfold joinedFacts
  repeat' (with_reducible refine slicingReversed_and ?_ ?_)
  all_goals first
    | with_reducible exact slicingReversed_h1
    | with_reducible exact slicingReversed_h2
    | with_reducible exact slicingReversed_h3
    | with_reducible exact slicingReversed_h4
    | with_reducible exact slicingReversed_h5
    | with_reducible exact slicingReversed_h6
    | with_reducible exact slicingReversed_h7
    | with_reducible exact slicingReversed_h8
    | kernel_rfl

theorem slicingReversed_holds : Rows.SlicingReversedSaid :=
  OpenClaim.holds_of_wide 4 Try.f4 rfl rfl rfl rfl rfl rfl rfl ⟨rfl, rfl, rfl, rfl, rfl⟩ rfl rfl rfl rfl rfl (by kernel_rfl) Try.func4 slicingReversed_facts
    (of_decide_eq_true (by kernel_rfl)) (by unfold Func.isWrapper; first | (rw [if_pos (by decide +kernel)]; kernel_rfl) | (rw [if_neg (by decide +kernel)]; exact ⟨rfl, rfl⟩))
    (fun os started H enc _ => slicingReversed_lifted os started H enc)

end Go.Proofs.Ytgogdabniebplaa
