import Derived.Test.YtneecniebhhhlaaE34
import Derived.Test.YtneecniebhhhlaaE35
import Derived.Test.YtneecniebhhhlaaE36
namespace Go.Proofs.Ytneecniebhhhlaa
set_option linter.unusedSimpArgs false
set_option linter.unusedVariables false
open Go.Abs Go.Proofs.NatL Go.ChangeShapes Go.WideShapes Go.ChangeAt Go.RowKit

theorem elements_ret (s t d u w : Bool) (xs ys zs us ws : List Int) (m : Int) (h : xs.length ≤ 140737488355328 ∧ ys.length ≤ 140737488355328 ∧ zs.length ≤ 140737488355328) (h4 : us.length ≤ 140737488355328) (h5 : ws.length ≤ 140737488355328) (b : InB 4294967296 xs ∧ InB 4294967296 ys ∧ InB 4294967296 zs) (b4 : InB 4294967296 us) (b5 : InB 4294967296 ws) (hm : -9223372036854775808 ≤ m ∧ m ≤ 9223372036854775807) :
    Ret Try.prog 17 false [.inr [.b s, .ints .u32 xs, .b t, .ints .u32 ys, .b d, .ints .u32 zs], .inr [.b u, .ints .u32 us], .inr [.b w, .ints .u32 ws], .inl (.i .i64 m)] (.c (.b true)) := by
  cases hv : vR s t d xs ys zs
  · exact elements_bad s t d u w xs ys zs us ws m h.1 h.2.1 h.2.2 h4 h5 b.1 b.2.1 b.2.2 b4 b5 hv
  · obtain ⟨n1, n2, n3, hr⟩ := vR_ok hv b.1 b.2.1 b.2.2
    rw [gG_nrm n1 n2 n3]
    exact elements_ok _ _ _ u w us ws m hm hr h4 h5 b4 b5

set_option maxRecDepth 100000 in
theorem rangesElements_contract (H : Type) (enc : TypeId × Value → H) (W : World) (base : Nat) (args : Array Value) (ds gs : List (DataW H)) (before : List MemPlace)
    (hval : ∀ (j : Nat) t v, Try.f17.params[j]? = some t → args[j]? = some v → Value.okWide Try.prog W .any base t v)
    (hW : DataW.Whole enc Try.prog Try.f17.params.toList Rows.rangesElementsSpec.vars false W args.toList ds gs before)
    (hz : (DataW.weightsEach Try.prog (Try.f17.params.toList ++ Rows.rangesElementsSpec.plain.varTypes Try.prog) (ds ++ gs)).all (· ≤ reachBytes) = true) :
    Calls Try.prog 17 args W fun e W' => ∃ v, e = .returned v ∧ Rows.rangesElementsSpec.post enc Try.prog Try.f17 false true false false W args v W' := by
  have hW' := hW
  obtain ⟨p, q, hA0, hV, rfl, hfz, hnd⟩ := hW
  have hA : DataW.TrodAll enc Try.prog W 0 (fun _ => true) true Try.f17.params.toList args.toList ds p := hA0
  rw [Try.params17] at hA hval hz
  obtain ⟨v0, vs0, d0, ds0, p0, q0, hargs, rfl, rfl, h0, r'0⟩ := trodAll_cons hA
  obtain ⟨v1, vs1, d1, ds1, p1, q1, rfl, rfl, rfl, h1, r'1⟩ := trodAll_cons r'0
  obtain ⟨v2, vs2, d2, ds2, p2, q2, rfl, rfl, rfl, h2, r'2⟩ := trodAll_cons r'1
  obtain ⟨v3, vs3, d3, ds3, p3, q3, rfl, rfl, rfl, h3, r'3⟩ := trodAll_cons r'2
  obtain ⟨rfl, rfl, rfl⟩ := trodAll_nil r'3
  obtain rfl : args = #[v0, v1, v2, v3] := by cases args; simp_all
  obtain ⟨rfl, rfl⟩ := trodVars_none hV
  obtain ⟨s0, hz⟩ := szd_cons hz
  obtain ⟨s1, hz⟩ := szd_cons hz
  obtain ⟨s2, hz⟩ := szd_cons hz
  obtain ⟨s3, hz⟩ := szd_cons hz
  obtain ⟨s_0a, x0a, s_0b, x0b, s_0c, x0c, r0, l0, b0⟩ := open_Range (hval 0 _ v0 rfl rfl) h0 s0
  obtain ⟨s_1, x1, r1, l1, b1⟩ := open_Int (hval 1 _ v1 rfl rfl) h1 s1
  obtain ⟨s_2, x2, r2, l2, b2⟩ := open_Int (hval 2 _ v2 rfl rfl) h2 s2
  obtain ⟨x3, rfl, rfl, rfl, w3⟩ := open_int Try.underlying3 (hval 3 _ v3 rfl rfl) h3
  have b3 := bounds_i64 w3
  refine law_post [.inr [.b s_0a, .ints .u32 x0a, .b s_0b, .ints .u32 x0b, .b s_0c, .ints .u32 x0c], .inr [.b s_1, .ints .u32 x1], .inr [.b s_2, .ints .u32 x2], .inl (.i .i64 x3)] kids full (by rw [Try.params17]; decide +kernel) rfl rfl Try.underlying4 rfl hW' rfl ?_ (elements_ret s_0a s_0b s_0c s_1 s_2 x0a x0b x0c x1 x2 x3 l0 l1 l2 b0 b1 b2 b3)
  intro j y u hy hu
  match j with
  | 0 => cases hy; cases hu; exact r0
  | 1 => cases hy; cases hu; exact r1
  | 2 => cases hy; cases hu; exact r2
  | 3 => cases hy; cases hu; exact Rd.i .i64 x3
  | _ + 4 => simp at hy

set_option maxRecDepth 100000 in
theorem rangesElements_lifted (os : Os) (started : os.Started) (H : Type) (enc : TypeId × Value → H) :
    ReturnsInHanded {} Try.checked os 17 .any (Rows.rangesElementsSpec.pre6 enc Try.prog Try.f17 Rows.rangesElementsRow.domain false) (Rows.rangesElementsSpec.post enc Try.prog Try.f17 false true false false) := by
  refine returnsInHanded_of_change_sized (C := Try.checked) own_knob started (by kernel_rfl) Try.func17
    (ChangeSpec.witness6 false ⟨#[], #[.agg #[.bool false, .slice none 0 0, .bool false, .slice none 0 0, .bool false, .slice none 0 0], .agg #[.bool false, .slice none 0 0], .agg #[.bool false, .slice none 0 0], .int .i64 0], []⟩ 8 (by kernel_rfl) (by kernel_rfl) (by kernel_rfl) (by kernel_rfl)) ?_
  intro W base args ds gs before hval hW _ hz _
  exact rangesElements_contract H enc W base args ds gs before hval hW hz

theorem rangesElements_h1 : Rows.rangesElementsRow.wf (OpenSpec.ofChange Rows.rangesElementsSpec) = true := by kernel_rfl
theorem rangesElements_h2 : laidOutB Try.pinned.checked.prog = true := by kernel_rfl
theorem rangesElements_h3 : mapsRowed Try.pinned.checked.prog = true := by kernel_rfl
theorem rangesElements_h4 : (Rows.rangesElementsRow.inPlace == Try.pinned.checked.prog.inPlace 17) = true := by kernel_rfl
theorem rangesElements_h5 : (Rows.rangesElementsRow.unfollowed == Try.pinned.checked.prog.unfollowed 17) = true := by kernel_rfl
theorem rangesElements_h6 : (Rows.rangesElementsRow.recurses == Try.pinned.checked.prog.recurses 17) = true := by kernel_rfl
theorem rangesElements_h7 : (Rows.rangesElementsRow.named == Try.pinned.checked.prog.varsNamed 17) = true := by kernel_rfl
theorem rangesElements_h8 : (Rows.rangesElementsRow.plainKeys == Try.pinned.checked.prog.plainKeys) = true := by kernel_rfl
theorem rangesElements_and {a b : Bool} (ha : a = true) (hb : b = true) : (a && b) = true := by rw [ha, hb]; rfl
theorem rangesElements_facts : joinedFacts Try.pinned.checked.prog 17 Try.f17 Rows.rangesElementsSpec Rows.rangesElementsRow = true := by
  unfold joinedFacts
  repeat' (with_reducible refine rangesElements_and ?_ ?_)
  all_goals first
    | with_reducible exact rangesElements_h1
    | with_reducible exact rangesElements_h2
    | with_reducible exact rangesElements_h3
    | with_reducible exact rangesElements_h4
    | with_reducible exact rangesElements_h5
    | with_reducible exact rangesElements_h6
    | with_reducible exact rangesElements_h7
    | with_reducible exact rangesElements_h8
    | kernel_rfl

theorem rangesElements_holds : Rows.RangesElementsSaid :=
  OpenClaim.holds_of_wide 17 Try.f17 rfl rfl rfl rfl rfl rfl rfl ⟨rfl, rfl, rfl, rfl, rfl⟩ rfl rfl rfl rfl rfl (by kernel_rfl) Try.func17 rangesElements_facts
    (of_decide_eq_true (by kernel_rfl)) (by unfold Func.isWrapper; first | (rw [if_pos (by decide +kernel)]; kernel_rfl) | (rw [if_neg (by decide +kernel)]; exact ⟨rfl, rfl⟩))
    (fun os started H enc _ => rangesElements_lifted os started H enc)

end Go.Proofs.Ytneecniebhhhlaa
