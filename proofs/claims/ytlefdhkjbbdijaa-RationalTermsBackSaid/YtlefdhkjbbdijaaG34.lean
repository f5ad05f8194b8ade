import Derived.Test.YtlefdhkjbbdijaaG21
import Derived.Test.YtlefdhkjbbdijaaG33
namespace Go.Proofs.Ytlefdhkjbbdijaa
set_option linter.unusedSimpArgs false
set_option linter.unusedVariables false
open Go.Abs Go.Proofs.NatL Go.ChangeShapes Go.WideShapes Go.ChangeAt Go.RowKit

theorem qback_ret (s t : Bool) (xs ys : List Int) (h : xs.length ≤ 140737488355328 ∧ ys.length ≤ 140737488355328) (b : InB 4294967296 xs ∧ InB 4294967296 ys) :
    Ret Try.prog 7 false [.inr [.b s, .ints .u32 xs, .b t, .ints .u32 ys]] (.c (.b true)) := by
  cases o1 : okQ s xs t ys
  · exact qback_bad s t xs ys h.1 h.2 b.1 b.2 o1
  obtain ⟨e1, r1⟩ := gQ_of o1 b.1 b.2
  rw [e1]
  exact qback_ok _ _ r1

set_option maxRecDepth 100000 in
theorem rationalTermsBack_contract (H : Type) (enc : TypeId × Value → H) (W : World) (base : Nat) (args : Array Value) (ds gs : List (DataW H)) (before : List MemPlace)
    (hval : ∀ (j : Nat) t v, Try.f7.params[j]? = some t → args[j]? = some v → Value.okWide Try.prog W .any base t v)
    (hW : DataW.Whole enc Try.prog Try.f7.params.toList Rows.rationalTermsBackSpec.vars false W args.toList ds gs before)
    (hz : (DataW.weightsEach Try.prog (Try.f7.params.toList ++ Rows.rationalTermsBackSpec.plain.varTypes Try.prog) (ds ++ gs)).all (· ≤ reachBytes) = true) :
    Calls Try.prog 7 args W fun e W' => ∃ v, e = .returned v ∧ Rows.rationalTermsBackSpec.post enc Try.prog Try.f7 false true false false W args v W' := by
  have hW' := hW
  obtain ⟨p, q, hA0, hV, rfl, hfz, hnd⟩ := hW
  have hA : DataW.TrodAll enc Try.prog W 0 (fun _ => true) true Try.f7.params.toList args.toList ds p := hA0
  rw [Try.params7] at hA hval hz
  obtain ⟨v0, vs0, d0, ds0, p0, q0, hargs, rfl, rfl, h0, r'0⟩ := trodAll_cons hA
  obtain ⟨rfl, rfl, rfl⟩ := trodAll_nil r'0
  obtain rfl : args = #[v0] := by cases args; simp_all
  obtain ⟨rfl, rfl⟩ := trodVars_none hV
  obtain ⟨s0, hz⟩ := szd_cons hz
  obtain ⟨s_0a, x0a, s_0b, x0b, r0, l0, b0⟩ := open_Ratio (hval 0 _ v0 rfl rfl) h0 s0
  refine law_post [.inr [.b s_0a, .ints .u32 x0a, .b s_0b, .ints .u32 x0b]] kids full (by rw [Try.params7]; decide +kernel) rfl rfl Try.underlying4 rfl hW' rfl ?_ (qback_ret s_0a s_0b x0a x0b l0 b0)
  intro j y u hy hu
  match j with
  | 0 => cases hy; cases hu; exact r0
  | _ + 1 => simp at hy

set_option maxRecDepth 100000 in
theorem rationalTermsBack_lifted (os : Os) (started : os.Started) (H : Type) (enc : TypeId × Value → H) :
    ReturnsInHanded {} Try.checked os 7 .any (Rows.rationalTermsBackSpec.pre6 enc Try.prog Try.f7 Rows.rationalTermsBackRow.domain false) (Rows.rationalTermsBackSpec.post enc Try.prog Try.f7 false true false false) := by
  refine returnsInHanded_of_change_sized (C := Try.checked) own_knob started (by kernel_rfl) Try.func7
    (ChangeSpec.witness6 false ⟨#[], #[.agg #[.bool false, .slice none 0 0, .bool false, .slice none 0 0]], []⟩ 8 (by kernel_rfl) (by kernel_rfl) (by kernel_rfl) (by kernel_rfl)) ?_
  intro W base args ds gs before hval hW _ hz _
  exact rationalTermsBack_contract H enc W base args ds gs before hval hW hz

theorem rationalTermsBack_h1 : Rows.rationalTermsBackRow.wf (OpenSpec.ofChange Rows.rationalTermsBackSpec) = true := by kernel_rfl
theorem rationalTermsBack_h2 : laidOutB Try.pinned.checked.prog = true := by kernel_rfl
theorem rationalTermsBack_h3 : mapsRowed Try.pinned.checked.prog = true := by kernel_rfl
theorem rationalTermsBack_h4 : (Rows.rationalTermsBackRow.inPlace == Try.pinned.checked.prog.inPlace 7) = true := by kernel_rfl
theorem rationalTermsBack_h5 : (Rows.rationalTermsBackRow.unfollowed == Try.pinned.checked.prog.unfollowed 7) = true := by kernel_rfl
theorem rationalTermsBack_h6 : (Rows.rationalTermsBackRow.recurses == Try.pinned.checked.prog.recurses 7) = true := by kernel_rfl
theorem rationalTermsBack_h7 : (Rows.rationalTermsBackRow.named == Try.pinned.checked.prog.varsNamed 7) = true := by kernel_rfl
theorem rationalTermsBack_h8 : (Rows.rationalTermsBackRow.plainKeys == Try.pinned.checked.prog.plainKeys) = true := by kernel_rfl
theorem rationalTermsBack_and {a b : Bool} (ha : a = true) (hb : b = true) : (a && b) = true := by rw [ha, hb]; rfl
theorem rationalTermsBack_facts : joinedFacts Try.pinned.checked.prog 7 Try.f7 Rows.rationalTermsBackSpec Rows.rationalTermsBackRow = true := by
  unfold joinedFacts
  repeat' (with_reducible refine rationalTermsBack_and ?_ ?_)
  all_goals first
    | with_reducible exact rationalTermsBack_h1
    | with_reducible exact rationalTermsBack_h2
    | with_reducible exact rationalTermsBack_h3
    | with_reducible exact rationalTermsBack_h4
    | with_reducible exact rationalTermsBack_h5
    | with_reducible exact rationalTermsBack_h6
    | with_reducible exact rationalTermsBack_h7
    | with_reducible exact rationalTermsBack_h8
    | kernel_rfl

theorem rationalTermsBack_holds : Rows.RationalTermsBackSaid :=
  OpenClaim.holds_of_wide 7 Try.f7 rfl rfl rfl rfl rfl rfl rfl ⟨rfl, rfl, rfl, rfl, rfl⟩ rfl rfl rfl rfl rfl (by kernel_rfl) Try.func7 rationalTermsBack_facts
    (of_decide_eq_true (by kernel_rfl)) (by unfold Func.isWrapper; first | (rw [if_pos (by decide +kernel)]; kernel_rfl) | (rw [if_neg (by decide +kernel)]; exact ⟨rfl, rfl⟩))
    (fun os started H enc _ => rationalTermsBack_lifted os started H enc)

end Go.Proofs.Ytlefdhkjbbdijaa
