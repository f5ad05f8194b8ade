import Derived.Test.YtneecniebhhhlaaH36
import Derived.Test.YtneecniebhhhlaaH37
namespace Go.Proofs.Ytneecniebhhhlaa
set_option linter.unusedSimpArgs false
set_option linter.unusedVariables false
open Go.Abs Go.Proofs.NatL Go.ChangeShapes Go.WideShapes Go.ChangeAt Go.RowKit

theorem both_ret (s t d s' t' d' w : Bool) (xs ys zs xs' ys' zs' ws : List Int) (h : xs.length ≤ 140737488355328 ∧ ys.length ≤ 140737488355328 ∧ zs.length ≤ 140737488355328) (k : xs'.length ≤ 140737488355328 ∧ ys'.length ≤ 140737488355328 ∧ zs'.length ≤ 140737488355328) (h7 : ws.length ≤ 140737488355328) (b : InB 4294967296 xs ∧ InB 4294967296 ys ∧ InB 4294967296 zs) (c : InB 4294967296 xs' ∧ InB 4294967296 ys' ∧ InB 4294967296 zs') (b7 : InB 4294967296 ws) :
    Ret Try.prog 14 false [.inr [.b s, .ints .u32 xs, .b t, .ints .u32 ys, .b d, .ints .u32 zs], .inr [.b s', .ints .u32 xs', .b t', .ints .u32 ys', .b d', .ints .u32 zs'], .inr [.b w, .ints .u32 ws]] (.c (.b true)) := by
  cases hv : vR s t d xs ys zs
  · exact both_bad s t d s' t' d' w xs ys zs xs' ys' zs' ws h.1 h.2.1 h.2.2 k.1 k.2.1 k.2.2 b.1 b.2.1 b.2.2 c.1 c.2.1 c.2.2 h7 b7 (.inl hv)
  · cases hw : vR s' t' d' xs' ys' zs'
    · exact both_bad s t d s' t' d' w xs ys zs xs' ys' zs' ws h.1 h.2.1 h.2.2 k.1 k.2.1 k.2.2 b.1 b.2.1 b.2.2 c.1 c.2.1 c.2.2 h7 b7 (.inr ⟨hv, hw⟩)
    · obtain ⟨n1, n2, n3, hr⟩ := vR_ok hv b.1 b.2.1 b.2.2
      obtain ⟨m1, m2, m3, hs⟩ := vR_ok hw c.1 c.2.1 c.2.2
      rw [gG_nrm n1 n2 n3, gG_nrm m1 m2 m3]
      exact both_ok _ _ _ _ _ _ w ws hr hs h7 b7

set_option maxRecDepth 100000 in
theorem rangesBoth_contract (H : Type) (enc : TypeId × Value → H) (W : World) (base : Nat) (args : Array Value) (ds gs : List (DataW H)) (before : List MemPlace)
    (hval : ∀ (j : Nat) t v, Try.f14.params[j]? = some t → args[j]? = some v → Value.okWide Try.prog W .any base t v)
    (hW : DataW.Whole enc Try.prog Try.f14.params.toList Rows.rangesBothSpec.vars false W args.toList ds gs before)
    (hz : (DataW.weightsEach Try.prog (Try.f14.params.toList ++ Rows.rangesBothSpec.plain.varTypes Try.prog) (ds ++ gs)).all (· ≤ reachBytes) = true) :
    Calls Try.prog 14 args W fun e W' => ∃ v, e = .returned v ∧ Rows.rangesBothSpec.post enc Try.prog Try.f14 false true false false W args v W' := by
  have hW' := hW
  obtain ⟨p, q, hA0, hV, rfl, hfz, hnd⟩ := hW
  have hA : DataW.TrodAll enc Try.prog W 0 (fun _ => true) true Try.f14.params.toList args.toList ds p := hA0
  rw [Try.params14] at hA hval hz
  obtain ⟨v0, vs0, d0, ds0, p0, q0, hargs, rfl, rfl, h0, r'0⟩ := trodAll_cons hA
  obtain ⟨v1, vs1, d1, ds1, p1, q1, rfl, rfl, rfl, h1, r'1⟩ := trodAll_cons r'0
  obtain ⟨v2, vs2, d2, ds2, p2, q2, rfl, rfl, rfl, h2, r'2⟩ := trodAll_cons r'1
  obtain ⟨rfl, rfl, rfl⟩ := trodAll_nil r'2
  obtain rfl : args = #[v0, v1, v2] := by cases args; simp_all
  obtain ⟨rfl, rfl⟩ := trodVars_none hV
  obtain ⟨s0, hz⟩ := szd_cons hz
  obtain ⟨s1, hz⟩ := szd_cons hz
  obtain ⟨s2, hz⟩ := szd_cons hz
  obtain ⟨s_0a, x0a, s_0b, x0b, s_0c, x0c, r0, l0, b0⟩ := open_Range (hval 0 _ v0 rfl rfl) h0 s0
  obtain ⟨s_1a, x1a, s_1b, x1b, s_1c, x1c, r1, l1, b1⟩ := open_Range (hval 1 _ v1 rfl rfl) h1 s1
  obtain ⟨s_2, x2, r2, l2, b2⟩ := open_Int (hval 2 _ v2 rfl rfl) h2 s2
  refine law_post [.inr [.b s_0a, .ints .u32 x0a, .b s_0b, .ints .u32 x0b, .b s_0c, .ints .u32 x0c], .inr [.b s_1a, .ints .u32 x1a, .b s_1b, .ints .u32 x1b, .b s_1c, .ints .u32 x1c], .inr [.b s_2, .ints .u32 x2]] kids full (by rw [Try.params14]; decide +kernel) rfl rfl Try.underlying4 rfl hW' rfl ?_ (both_ret s_0a s_0b s_0c s_1a s_1b s_1c s_2 x0a x0b x0c x1a x1b x1c x2 l0 l1 l2 b0 b1 b2)
  intro j y u hy hu
  match j with
  | 0 => cases hy; cases hu; exact r0
  | 1 => cases hy; cases hu; exact r1
  | 2 => cases hy; cases hu; exact r2
  | _ + 3 => simp at hy

set_option maxRecDepth 100000 in
theorem rangesBoth_lifted (os : Os) (started : os.Started) (H : Type) (enc : TypeId × Value → H) :
    ReturnsInHanded {} Try.checked os 14 .any (Rows.rangesBothSpec.pre6 enc Try.prog Try.f14 Rows.rangesBothRow.domain false) (Rows.rangesBothSpec.post enc Try.prog Try.f14 false true false false) := by
  refine returnsInHanded_of_change_sized (C := Try.checked) own_knob started (by kernel_rfl) Try.func14
    (ChangeSpec.witness6 false ⟨#[], #[.agg #[.bool false, .slice none 0 0, .bool false, .slice none 0 0, .bool false, .slice none 0 0], .agg #[.bool false, .slice none 0 0, .bool false, .slice none 0 0, .bool false, .slice none 0 0], .agg #[.bool false, .slice none 0 0]], []⟩ 8 (by kernel_rfl) (by kernel_rfl) (by kernel_rfl) (by kernel_rfl)) ?_
  intro W base args ds gs before hval hW _ hz _
  exact rangesBoth_contract H enc W base args ds gs before hval hW hz

theorem rangesBoth_h1 : Rows.rangesBothRow.wf (OpenSpec.ofChange Rows.rangesBothSpec) = true := by kernel_rfl
theorem rangesBoth_h2 : laidOutB Try.pinned.checked.prog = true := by kernel_rfl
theorem rangesBoth_h3 : mapsRowed Try.pinned.checked.prog = true := by kernel_rfl
theorem rangesBoth_h4 : (Rows.rangesBothRow.inPlace == Try.pinned.checked.prog.inPlace 14) = true := by kernel_rfl
theorem rangesBoth_h5 : (Rows.rangesBothRow.unfollowed == Try.pinned.checked.prog.unfollowed 14) = true := by kernel_rfl
theorem rangesBoth_h6 : (Rows.rangesBothRow.recurses == Try.pinned.checked.prog.recurses 14) = true := by kernel_rfl
theorem rangesBoth_h7 : (Rows.rangesBothRow.named == Try.pinned.checked.prog.varsNamed 14) = true := by kernel_rfl
theorem rangesBoth_h8 : (Rows.rangesBothRow.plainKeys == Try.pinned.checked.prog.plainKeys) = true := by kernel_rfl
theorem rangesBoth_and {a b : Bool} (ha : a = true) (hb : b = true) : (a && b) = true := by rw [ha, hb]; rfl
theorem rangesBoth_facts : joinedFacts Try.pinned.checked.prog 14 Try.f14 Rows.rangesBothSpec Rows.rangesBothRow = true := by
  unfold joinedFacts
  repeat' (with_reducible refine rangesBoth_and ?_ ?_)
  all_goals first
    | with_reducible exact rangesBoth_h1
    | with_reducible exact rangesBoth_h2
    | with_reducible exact rangesBoth_h3
    | with_reducible exact rangesBoth_h4
    | with_reducible exact rangesBoth_h5
    | with_reducible exact rangesBoth_h6
    | with_reducible exact rangesBoth_h7
    | with_reducible exact rangesBoth_h8
    | kernel_rfl

theorem rangesBoth_holds : Rows.RangesBothSaid :=
  OpenClaim.holds_of_wide 14 Try.f14 rfl rfl rfl rfl rfl rfl rfl ⟨rfl, rfl, rfl, rfl, rfl⟩ rfl rfl rfl rfl rfl (by kernel_rfl) Try.func14 rangesBoth_facts
    (of_decide_eq_true (by kernel_rfl)) (by unfold Func.isWrapper; first | (rw [if_pos (by decide +kernel)]; kernel_rfl) | (rw [if_neg (by decide +kernel)]; exact ⟨rfl, rfl⟩))
    (fun os started H enc _ => rangesBoth_lifted os started H enc)

end Go.Proofs.Ytneecniebhhhlaa
