import Derived.Test.YtneecniebhhhlaaH37
import Derived.Test.YtneecniebhhhlaaH45
namespace Go.Proofs.Ytneecniebhhhlaa
set_option linter.unusedSimpArgs false
set_option linter.unusedVariables false
open Go.Abs Go.Proofs.NatL Go.ChangeShapes Go.WideShapes Go.ChangeAt Go.RowKit

theorem back_ret (s t d u : Bool) (xs ys zs us : List Int) (h : xs.length ≤ 140737488355328 ∧ ys.length ≤ 140737488355328 ∧ zs.length ≤ 140737488355328) (h4 : us.length ≤ 140737488355328) (b : InB 4294967296 xs ∧ InB 4294967296 ys ∧ InB 4294967296 zs) (b4 : InB 4294967296 us) :
    Ret Try.prog 16 false [.inr [.b s, .ints .u32 xs, .b t, .ints .u32 ys, .b d, .ints .u32 zs], .inr [.b u, .ints .u32 us]] (.c (.b true)) := by
  cases hv : vR s t d xs ys zs
  · exact back_bad s t d u xs ys zs us h.1 h.2.1 h.2.2 h4 b.1 b.2.1 b.2.2 b4 (.inl hv)
  · cases ho : okZ u us
    · exact back_bad s t d u xs ys zs us h.1 h.2.1 h.2.2 h4 b.1 b.2.1 b.2.2 b4 (.inr ⟨hv, ho⟩)
    · obtain ⟨n1, n2, n3, hr⟩ := vR_ok hv b.1 b.2.1 b.2.2
      obtain ⟨e1, e2, e3⟩ := okZ_eq ho b4
      rw [gG_nrm n1 n2 n3, gI_nrm (okZ_Nrm ho b4)]
      exact back_ok _ _ _ _ hr (by unfold FB; rw [← e2]; exact e3)

set_option maxRecDepth 100000 in
theorem rangesBack_contract (H : Type) (enc : TypeId × Value → H) (W : World) (base : Nat) (args : Array Value) (ds gs : List (DataW H)) (before : List MemPlace)
    (hval : ∀ (j : Nat) t v, Try.f16.params[j]? = some t → args[j]? = some v → Value.okWide Try.prog W .any base t v)
    (hW : DataW.Whole enc Try.prog Try.f16.params.toList Rows.rangesBackSpec.vars false W args.toList ds gs before)
    (hz : (DataW.weightsEach Try.prog (Try.f16.params.toList ++ Rows.rangesBackSpec.plain.varTypes Try.prog) (ds ++ gs)).all (· ≤ reachBytes) = true) :
    Calls Try.prog 16 args W fun e W' => ∃ v, e = .returned v ∧ Rows.rangesBackSpec.post enc Try.prog Try.f16 false true false false W args v W' := by
  have hW' := hW
  obtain ⟨p, q, hA0, hV, rfl, hfz, hnd⟩ := hW
  have hA : DataW.TrodAll enc Try.prog W 0 (fun _ => true) true Try.f16.params.toList args.toList ds p := hA0
  rw [Try.params16] at hA hval hz
  obtain ⟨v0, vs0, d0, ds0, p0, q0, hargs, rfl, rfl, h0, r'0⟩ := trodAll_cons hA
  obtain ⟨v1, vs1, d1, ds1, p1, q1, rfl, rfl, rfl, h1, r'1⟩ := trodAll_cons r'0
  obtain ⟨rfl, rfl, rfl⟩ := trodAll_nil r'1
  obtain rfl : args = #[v0, v1] := by cases args; simp_all
  obtain ⟨rfl, rfl⟩ := trodVars_none hV
  obtain ⟨s0, hz⟩ := szd_cons hz
  obtain ⟨s1, hz⟩ := szd_cons hz
  obtain ⟨s_0a, x0a, s_0b, x0b, s_0c, x0c, r0, l0, b0⟩ := open_Range (hval 0 _ v0 rfl rfl) h0 s0
  obtain ⟨s_1, x1, r1, l1, b1⟩ := open_Int (hval 1 _ v1 rfl rfl) h1 s1
  refine law_post [.inr [.b s_0a, .ints .u32 x0a, .b s_0b, .ints .u32 x0b, .b s_0c, .ints .u32 x0c], .inr [.b s_1, .ints .u32 x1]] kids full (by rw [Try.params16]; decide +kernel) rfl rfl Try.underlying4 rfl hW' rfl ?_ (back_ret s_0a s_0b s_0c s_1 x0a x0b x0c x1 l0 l1 b0 b1)
  intro j y u hy hu
  match j with
  | 0 => cases hy; cases hu; exact r0
  | 1 => cases hy; cases hu; exact r1
  | _ + 2 => simp at hy

set_option maxRecDepth 100000 in
theorem rangesBack_lifted (os : Os) (started : os.Started) (H : Type) (enc : TypeId × Value → H) :
    ReturnsInHanded {} Try.checked os 16 .any (Rows.rangesBackSpec.pre6 enc Try.prog Try.f16 Rows.rangesBackRow.domain false) (Rows.rangesBackSpec.post enc Try.prog Try.f16 false true false false) := by
  refine returnsInHanded_of_change_sized (C := Try.checked) own_knob started (by kernel_rfl) Try.func16
    (ChangeSpec.witness6 false ⟨#[], #[.agg #[.bool false, .slice none 0 0, .bool false, .slice none 0 0, .bool false, .slice none 0 0], .agg #[.bool false, .slice none 0 0]], []⟩ 8 (by kernel_rfl) (by kernel_rfl) (by kernel_rfl) (by kernel_rfl)) ?_
  intro W base args ds gs before hval hW _ hz _
  exact rangesBack_contract H enc W base args ds gs before hval hW hz

theorem rangesBack_h1 : Rows.rangesBackRow.wf (OpenSpec.ofChange Rows.rangesBackSpec) = true := by kernel_rfl
theorem rangesBack_h2 : laidOutB Try.pinned.checked.prog = true := by kernel_rfl
theorem rangesBack_h3 : mapsRowed Try.pinned.checked.prog = true := by kernel_rfl
theorem rangesBack_h4 : (Rows.rangesBackRow.inPlace == Try.pinned.checked.prog.inPlace 16) = true := by kernel_rfl
theorem rangesBack_h5 : (Rows.rangesBackRow.unfollowed == Try.pinned.checked.prog.unfollowed 16) = true := by kernel_rfl
theorem rangesBack_h6 : (Rows.rangesBackRow.recurses == Try.pinned.checked.prog.recurses 16) = true := by kernel_rfl
theorem rangesBack_h7 : (Rows.rangesBackRow.named == Try.pinned.checked.prog.varsNamed 16) = true := by kernel_rfl
theorem rangesBack_h8 : (Rows.rangesBackRow.plainKeys == Try.pinned.checked.prog.plainKeys) = true := by kernel_rfl
theorem rangesBack_and {a b : Bool} (ha : a = true) (hb : b = true) : (a && b) = true := by rw [ha, hb]; rfl
theorem rangesBack_facts : joinedFacts Try.pinned.checked.prog 16 Try.f16 Rows.rangesBackSpec Rows.rangesBackRow = true := by
  unfold joinedFacts
  repeat' (with_reducible refine rangesBack_and ?_ ?_)
  all_goals first
    | with_reducible exact rangesBack_h1
    | with_reducible exact rangesBack_h2
    | with_reducible exact rangesBack_h3
    | with_reducible exact rangesBack_h4
    | with_reducible exact rangesBack_h5
    | with_reducible exact rangesBack_h6
    | with_reducible exact rangesBack_h7
    | with_reducible exact rangesBack_h8
    | kernel_rfl

theorem rangesBack_holds : Rows.RangesBackSaid :=
  OpenClaim.holds_of_wide 16 Try.f16 rfl rfl rfl rfl rfl rfl rfl ⟨rfl, rfl, rfl, rfl, rfl⟩ rfl rfl rfl rfl rfl (by kernel_rfl) Try.func16 rangesBack_facts
    (of_decide_eq_true (by kernel_rfl)) (by unfold Func.isWrapper; first | (rw [if_pos (by decide +kernel)]; kernel_rfl) | (rw [if_neg (by decide +kernel)]; exact ⟨rfl, rfl⟩))
    (fun os started H enc _ => rangesBack_lifted os started H enc)

end Go.Proofs.Ytneecniebhhhlaa
