import Derived.Test.YtlefdhkjbbdijaaG21
import Derived.Test.YtlefdhkjbbdijaaG31
namespace Go.Proofs.Ytlefdhkjbbdijaa
set_option linter.unusedSimpArgs false
set_option linter.unusedVariables false
open Go.Abs Go.Proofs.NatL Go.ChangeShapes Go.WideShapes Go.ChangeAt Go.RowKit

theorem qfield_ret (s1 t1 s2 t2 s3 t3 : Bool) (x1 y1 x2 y2 x3 y3 : List Int) (h1 : x1.length ≤ 140737488355328 ∧ y1.length ≤ 140737488355328) (h2 : x2.length ≤ 140737488355328 ∧ y2.length ≤ 140737488355328) (h3 : x3.length ≤ 140737488355328 ∧ y3.length ≤ 140737488355328) (b1 : InB 4294967296 x1 ∧ InB 4294967296 y1) (b2 : InB 4294967296 x2 ∧ InB 4294967296 y2) (b3 : InB 4294967296 x3 ∧ InB 4294967296 y3) :
    Ret Try.prog 6 false [.inr [.b s1, .ints .u32 x1, .b t1, .ints .u32 y1], .inr [.b s2, .ints .u32 x2, .b t2, .ints .u32 y2], .inr [.b s3, .ints .u32 x3, .b t3, .ints .u32 y3]] (.c (.b true)) := by
  cases o1 : okQ s1 x1 t1 y1
  · exact qfield_bad _ _ _ _ _ _ _ _ _ _ _ _ h1 h2 h3 b1 b2 b3 (.inl o1)
  cases o2 : okQ s2 x2 t2 y2
  · exact qfield_bad _ _ _ _ _ _ _ _ _ _ _ _ h1 h2 h3 b1 b2 b3 (.inr (.inl ⟨o1, o2⟩))
  cases o3 : okQ s3 x3 t3 y3
  · exact qfield_bad _ _ _ _ _ _ _ _ _ _ _ _ h1 h2 h3 b1 b2 b3 (.inr (.inr ⟨o1, o2, o3⟩))
  obtain ⟨e1, r1⟩ := gQ_of o1 b1.1 b1.2
  obtain ⟨e2, r2⟩ := gQ_of o2 b2.1 b2.2
  obtain ⟨e3, r3⟩ := gQ_of o3 b3.1 b3.2
  rw [e1, e2, e3]
  exact qfield_ok _ _ _ _ _ _ r1 r2 r3

set_option maxRecDepth 100000 in
theorem rationalField_contract (H : Type) (enc : TypeId × Value → H) (W : World) (base : Nat) (args : Array Value) (ds gs : List (DataW H)) (before : List MemPlace)
    (hval : ∀ (j : Nat) t v, Try.f6.params[j]? = some t → args[j]? = some v → Value.okWide Try.prog W .any base t v)
    (hW : DataW.Whole enc Try.prog Try.f6.params.toList Rows.rationalFieldSpec.vars false W args.toList ds gs before)
    (hz : (DataW.weightsEach Try.prog (Try.f6.params.toList ++ Rows.rationalFieldSpec.plain.varTypes Try.prog) (ds ++ gs)).all (· ≤ reachBytes) = true) :
    Calls Try.prog 6 args W fun e W' => ∃ v, e = .returned v ∧ Rows.rationalFieldSpec.post enc Try.prog Try.f6 false true false false W args v W' := by
  have hW' := hW
  obtain ⟨p, q, hA0, hV, rfl, hfz, hnd⟩ := hW
  have hA : DataW.TrodAll enc Try.prog W 0 (fun _ => true) true Try.f6.params.toList args.toList ds p := hA0
  rw [Try.params6] at hA hval hz
  obtain ⟨v0, vs0, d0, ds0, p0, q0, hargs, rfl, rfl, h0, r'0⟩ := trodAll_cons hA
  obtain ⟨v1, vs1, d1, ds1, p1, q1, rfl, rfl, rfl, h1, r'1⟩ := trodAll_cons r'0
  obtain ⟨v2, vs2, d2, ds2, p2, q2, rfl, rfl, rfl, h2, r'2⟩ := trodAll_cons r'1
  obtain ⟨rfl, rfl, rfl⟩ := trodAll_nil r'2
  obtain rfl : args = #[v0, v1, v2] := by cases args; simp_all
  obtain ⟨rfl, rfl⟩ := trodVars_none hV
  obtain ⟨s0, hz⟩ := szd_cons hz
  obtain ⟨s1, hz⟩ := szd_cons hz
  obtain ⟨s2, hz⟩ := szd_cons hz
  obtain ⟨s_0a, x0a, s_0b, x0b, r0, l0, b0⟩ := open_Ratio (hval 0 _ v0 rfl rfl) h0 s0
  obtain ⟨s_1a, x1a, s_1b, x1b, r1, l1, b1⟩ := open_Ratio (hval 1 _ v1 rfl rfl) h1 s1
  obtain ⟨s_2a, x2a, s_2b, x2b, r2, l2, b2⟩ := open_Ratio (hval 2 _ v2 rfl rfl) h2 s2
  refine law_post [.inr [.b s_0a, .ints .u32 x0a, .b s_0b, .ints .u32 x0b], .inr [.b s_1a, .ints .u32 x1a, .b s_1b, .ints .u32 x1b], .inr [.b s_2a, .ints .u32 x2a, .b s_2b, .ints .u32 x2b]] kids full (by rw [Try.params6]; decide +kernel) rfl rfl Try.underlying4 rfl hW' rfl ?_ (qfield_ret s_0a s_0b s_1a s_1b s_2a s_2b x0a x0b x1a x1b x2a x2b l0 l1 l2 b0 b1 b2)
  intro j y u hy hu
  match j with
  | 0 => cases hy; cases hu; exact r0
  | 1 => cases hy; cases hu; exact r1
  | 2 => cases hy; cases hu; exact r2
  | _ + 3 => simp at hy

set_option maxRecDepth 100000 in
theorem rationalField_lifted (os : Os) (started : os.Started) (H : Type) (enc : TypeId × Value → H) :
    ReturnsInHanded {} Try.checked os 6 .any (Rows.rationalFieldSpec.pre6 enc Try.prog Try.f6 Rows.rationalFieldRow.domain false) (Rows.rationalFieldSpec.post enc Try.prog Try.f6 false true false false) := by
  refine returnsInHanded_of_change_sized (C := Try.checked) own_knob started (by kernel_rfl) Try.func6
    (ChangeSpec.witness6 false ⟨#[], #[.agg #[.bool false, .slice none 0 0, .bool false, .slice none 0 0], .agg #[.bool false, .slice none 0 0, .bool false, .slice none 0 0], .agg #[.bool false, .slice none 0 0, .bool false, .slice none 0 0]], []⟩ 8 (by kernel_rfl) (by kernel_rfl) (by kernel_rfl) (by kernel_rfl)) ?_
  intro W base args ds gs before hval hW _ hz _
  exact rationalField_contract H enc W base args ds gs before hval hW hz

theorem rationalField_h1 : Rows.rationalFieldRow.wf (OpenSpec.ofChange Rows.rationalFieldSpec) = true := by kernel_rfl
theorem rationalField_h2 : laidOutB Try.pinned.checked.prog = true := by kernel_rfl
theorem rationalField_h3 : mapsRowed Try.pinned.checked.prog = true := by kernel_rfl
theorem rationalField_h4 : (Rows.rationalFieldRow.inPlace == Try.pinned.checked.prog.inPlace 6) = true := by kernel_rfl
theorem rationalField_h5 : (Rows.rationalFieldRow.unfollowed == Try.pinned.checked.prog.unfollowed 6) = true := by kernel_rfl
theorem rationalField_h6 : (Rows.rationalFieldRow.recurses == Try.pinned.checked.prog.recurses 6) = true := by kernel_rfl
theorem rationalField_h7 : (Rows.rationalFieldRow.named == Try.pinned.checked.prog.varsNamed 6) = true := by kernel_rfl
theorem rationalField_h8 : (Rows.rationalFieldRow.plainKeys == Try.pinned.checked.prog.plainKeys) = true := by kernel_rfl
theorem rationalField_and {a b : Bool} (ha : a = true) (hb : b = true) : (a && b) = true := by rw [ha, hb]; rfl
theorem rationalField_facts : joinedFacts Try.pinned.checked.prog 6 Try.f6 Rows.rationalFieldSpec Rows.rationalFieldRow = true := by
  unfold joinedFacts
  repeat' (with_reducible refine rationalField_and ?_ ?_)
  all_goals first
    | with_reducible exact rationalField_h1
    | with_reducible exact rationalField_h2
    | with_reducible exact rationalField_h3
    | with_reducible exact rationalField_h4
    | with_reducible exact rationalField_h5
    | with_reducible exact rationalField_h6
    | with_reducible exact rationalField_h7
    | with_reducible exact rationalField_h8
    | kernel_rfl

theorem rationalField_holds : Rows.RationalFieldSaid :=
  OpenClaim.holds_of_wide 6 Try.f6 rfl rfl rfl rfl rfl rfl rfl ⟨rfl, rfl, rfl, rfl, rfl⟩ rfl rfl rfl rfl rfl (by kernel_rfl) Try.func6 rationalField_facts
    (of_decide_eq_true (by kernel_rfl)) (by unfold Func.isWrapper; first | (rw [if_pos (by decide +kernel)]; kernel_rfl) | (rw [if_neg (by decide +kernel)]; exact ⟨rfl, rfl⟩))
    (fun os started H enc _ => rationalField_lifted os started H enc)

end Go.Proofs.Ytlefdhkjbbdijaa
