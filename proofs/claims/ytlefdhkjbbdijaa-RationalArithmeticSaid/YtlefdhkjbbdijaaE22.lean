import Derived.Test.YtlefdhkjbbdijaaE21
namespace Go.Proofs.Ytlefdhkjbbdijaa
set_option linter.unusedSimpArgs false
set_option linter.unusedVariables false
open Go.Abs Go.Proofs.NatL Go.ChangeShapes Go.WideShapes Go.ChangeAt Go.RowKit

theorem qarith_ret (s p t q : Bool) (xs zs ys ws : List Int) (h1 : xs.length ≤ 140737488355328 ∧ zs.length ≤ 140737488355328) (h2 : ys.length ≤ 140737488355328 ∧ ws.length ≤ 140737488355328) (b1 : InB 4294967296 xs ∧ InB 4294967296 zs) (b2 : InB 4294967296 ys ∧ InB 4294967296 ws) :
    Ret Try.prog 5 false [.inr [.b s, .ints .u32 xs, .b p, .ints .u32 zs], .inr [.b t, .ints .u32 ys, .b q, .ints .u32 ws]] (.c (.b true)) := by
  cases o1 : okQ s xs p zs
  · exact qarith_bad s p t q xs zs ys ws h1.1 h1.2 h2.1 h2.2 b1.1 b1.2 b2.1 b2.2 (.inl o1)
  cases o2 : okQ t ys q ws
  · exact qarith_bad s p t q xs zs ys ws h1.1 h1.2 h2.1 h2.2 b1.1 b1.2 b2.1 b2.2 (.inr ⟨o1, o2⟩)
  obtain ⟨e1, r1⟩ := gQ_of o1 b1.1 b1.2
  obtain ⟨e2, r2⟩ := gQ_of o2 b2.1 b2.2
  rw [e1, e2]
  exact qarith_ok _ _ _ _ r1 r2

set_option maxRecDepth 100000 in
theorem rationalArithmetic_contract (H : Type) (enc : TypeId × Value → H) (W : World) (base : Nat) (args : Array Value) (ds gs : List (DataW H)) (before : List MemPlace)
    (hval : ∀ (j : Nat) t v, Try.f5.params[j]? = some t → args[j]? = some v → Value.okWide Try.prog W .any base t v)
    (hW : DataW.Whole enc Try.prog Try.f5.params.toList Rows.rationalArithmeticSpec.vars false W args.toList ds gs before)
    (hz : (DataW.weightsEach Try.prog (Try.f5.params.toList ++ Rows.rationalArithmeticSpec.plain.varTypes Try.prog) (ds ++ gs)).all (· ≤ reachBytes) = true) :
    Calls Try.prog 5 args W fun e W' => ∃ v, e = .returned v ∧ Rows.rationalArithmeticSpec.post enc Try.prog Try.f5 false true false false W args v W' := by
  have hW' := hW
  obtain ⟨p, q, hA0, hV, rfl, hfz, hnd⟩ := hW
  have hA : DataW.TrodAll enc Try.prog W 0 (fun _ => true) true Try.f5.params.toList args.toList ds p := hA0
  rw [Try.params5] at hA hval hz
  obtain ⟨v0, vs0, d0, ds0, p0, q0, hargs, rfl, rfl, h0, r'0⟩ := trodAll_cons hA
  obtain ⟨v1, vs1, d1, ds1, p1, q1, rfl, rfl, rfl, h1, r'1⟩ := trodAll_cons r'0
  obtain ⟨rfl, rfl, rfl⟩ := trodAll_nil r'1
  obtain rfl : args = #[v0, v1] := by cases args; simp_all
  obtain ⟨rfl, rfl⟩ := trodVars_none hV
  obtain ⟨s0, hz⟩ := szd_cons hz
  obtain ⟨s1, hz⟩ := szd_cons hz
  obtain ⟨s_0a, x0a, s_0b, x0b, r0, l0, b0⟩ := open_Ratio (hval 0 _ v0 rfl rfl) h0 s0
  obtain ⟨s_1a, x1a, s_1b, x1b, r1, l1, b1⟩ := open_Ratio (hval 1 _ v1 rfl rfl) h1 s1
  refine law_post [.inr [.b s_0a, .ints .u32 x0a, .b s_0b, .ints .u32 x0b], .inr [.b s_1a, .ints .u32 x1a, .b s_1b, .ints .u32 x1b]] kids full (by rw [Try.params5]; decide +kernel) rfl rfl Try.underlying4 rfl hW' rfl ?_ (qarith_ret s_0a s_0b s_1a s_1b x0a x0b x1a x1b l0 l1 b0 b1)
  intro j y u hy hu
  match j with
  | 0 => cases hy; cases hu; exact r0
  | 1 => cases hy; cases hu; exact r1
  | _ + 2 => simp at hy

set_option maxRecDepth 100000 in
theorem rationalArithmetic_lifted (os : Os) (started : os.Started) (H : Type) (enc : TypeId × Value → H) :
    ReturnsInHanded {} Try.checked os 5 .any (Rows.rationalArithmeticSpec.pre6 enc Try.prog Try.f5 Rows.rationalArithmeticRow.domain false) (Rows.rationalArithmeticSpec.post enc Try.prog Try.f5 false true false false) := by
  refine returnsInHanded_of_change_sized (C := Try.checked) own_knob started (by kernel_rfl) Try.func5
    (ChangeSpec.witness6 false ⟨#[], #[.agg #[.bool false, .slice none 0 0, .bool false, .slice none 0 0], .agg #[.bool false, .slice none 0 0, .bool false, .slice none 0 0]], []⟩ 8 (by kernel_rfl) (by kernel_rfl) (by kernel_rfl) (by kernel_rfl)) ?_
  intro W base args ds gs before hval hW _ hz _
  exact rationalArithmetic_contract H enc W base args ds gs before hval hW hz

theorem rationalArithmetic_h1 : Rows.rationalArithmeticRow.wf (OpenSpec.ofChange Rows.rationalArithmeticSpec) = true := by kernel_rfl
theorem rationalArithmetic_h2 : laidOutB Try.pinned.checked.prog = true := by kernel_rfl
theorem rationalArithmetic_h3 : mapsRowed Try.pinned.checked.prog = true := by kernel_rfl
theorem rationalArithmetic_h4 : (Rows.rationalArithmeticRow.inPlace == Try.pinned.checked.prog.inPlace 5) = true := by kernel_rfl
theorem rationalArithmetic_h5 : (Rows.rationalArithmeticRow.unfollowed == Try.pinned.checked.prog.unfollowed 5) = true := by kernel_rfl
theorem rationalArithmetic_h6 : (Rows.rationalArithmeticRow.recurses == Try.pinned.checked.prog.recurses 5) = true := by kernel_rfl
theorem rationalArithmetic_h7 : (Rows.rationalArithmeticRow.named == Try.pinned.checked.prog.varsNamed 5) = true := by kernel_rfl
theorem rationalArithmetic_h8 : (Rows.rationalArithmeticRow.plainKeys == Try.pinned.checked.prog.plainKeys) = true := by kernel_rfl
theorem rationalArithmetic_and {a b : Bool} (ha : a = true) (hb : b = true) : (a && b) = true := by rw [ha, hb]; rfl
theorem rationalArithmetic_facts : joinedFacts Try.pinned.checked.prog 5 Try.f5 Rows.rationalArithmeticSpec Rows.rationalArithmeticRow = true := by
  unfold joinedFacts
  repeat' (with_reducible refine rationalArithmetic_and ?_ ?_)
  all_goals first
    | with_reducible exact rationalArithmetic_h1
    | with_reducible exact rationalArithmetic_h2
    | with_reducible exact rationalArithmetic_h3
    | with_reducible exact rationalArithmetic_h4
    | with_reducible exact rationalArithmetic_h5
    | with_reducible exact rationalArithmetic_h6
    | with_reducible exact rationalArithmetic_h7
    | with_reducible exact rationalArithmetic_h8
    | kernel_rfl

theorem rationalArithmetic_holds : Rows.RationalArithmeticSaid :=
  OpenClaim.holds_of_wide 5 Try.f5 rfl rfl rfl rfl rfl rfl rfl ⟨rfl, rfl, rfl, rfl, rfl⟩ rfl rfl rfl rfl rfl (by kernel_rfl) Try.func5 rationalArithmetic_facts
    (of_decide_eq_true (by kernel_rfl)) (by unfold Func.isWrapper; first | (rw [if_pos (by decide +kernel)]; kernel_rfl) | (rw [if_neg (by decide +kernel)]; exact ⟨rfl, rfl⟩))
    (fun os started H enc _ => rationalArithmetic_lifted os started H enc)

end Go.Proofs.Ytlefdhkjbbdijaa
