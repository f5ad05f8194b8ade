import Derived.Deep.CondSized
import Derived.JoinedCond
import Derived.Test.YtlefdhkjbbdijaaH21
namespace Go.Proofs.Ytlefdhkjbbdijaa
set_option linter.unusedSimpArgs false
set_option linter.unusedVariables false
open Go.Abs Go.Proofs.NatL Go.ChangeShapes Go.WideShapes Go.ChangeAt Go.RowKit

theorem bulk_one {H : Type} (d : DataW H) : 1 ≤ Rows.uptoBulk d := by
  cases d with
  | lit l => cases l <;> simp [Rows.uptoBulk]
  | _ => simp [Rows.uptoBulk]
theorem bulk_len {H : Type} (l : List (DataW H)) : l.length ≤ Rows.uptoBulkAll l := by
  induction l with
  | nil => simp [Rows.uptoBulkAll]
  | cons x r ih =>
    have := bulk_one x
    simp only [Rows.uptoBulkAll, List.length_cons]
    omega
set_option maxRecDepth 100000 in
theorem open_intsK {H : Type} {enc : TypeId × Value → H} {W : World} {base : Nat} {v : Value} {d : DataW H} {p : List MemPlace} (hval : Value.okWide Try.prog W .any base 34 v) (h : DataW.Trod enc Try.prog W 0 (fun _ => true) true 34 v d p) (hs : Sized Try.prog 34 d) :
    ∃ xs : List Int, Rd W Top (.ints .i64 xs) v ∧ xs.length ≤ 140737488355328 ∧ (∀ x ∈ xs, -9223372036854775808 ≤ x ∧ x ≤ 9223372036854775807) ∧ xs.length ≤ Rows.uptoBulk d := by
  obtain ⟨fuel, hf⟩ := h
  obtain ⟨xs, u, hu, ho, hrd, hm, hw, hd⟩ := rd_ints Try.underlying34 Try.underlying3 cells_int hf
  obtain rfl := one_of Try.underlying34 rfl hval hu ho
  have hl := szd_slice (n := xs.length) Try.underlying34 hs (by
    rcases hd with ⟨h1, h2⟩ | h1
    · exact .inl ⟨h1, by rw [h2]; rfl⟩
    · exact .inr h1)
  rw [bytes_int] at hl
  refine ⟨xs, hrd, by simp only [reachBytes] at hl; omega, fun x hx => bounds_i64 (hw x hx), ?_⟩
  rcases hd with ⟨_, h2⟩ | ⟨ds, sp, h1, h2⟩
  · rw [h2]; simp
  · simp only at h1
    rw [h1]
    have := bulk_len ds
    simp only [Rows.uptoBulk]
    omega

set_option maxRecDepth 100000 in
theorem slicingTakes_contract (H : Type) (enc : TypeId × Value → H) (W : World) (base : Nat) (args : Array Value) (ds gs : List (DataW H)) (before : List MemPlace)
    (hval : ∀ (j : Nat) t v, Try.f9.params[j]? = some t → args[j]? = some v → Value.okWide Try.prog W .any base t v)
    (hW : DataW.Whole enc Try.prog Try.f9.params.toList Rows.slicingTakesSpec.vars false W args.toList ds gs before)
    (hz : (DataW.weightsEach Try.prog (Try.f9.params.toList ++ Rows.slicingTakesSpec.plain.varTypes Try.prog) (ds ++ gs)).all (· ≤ reachBytes) = true)
    (hk : Rows.uptoSmall H (ds ++ gs) = true) :
    Calls Try.prog 9 args W fun e W' => ∃ v, e = .returned v ∧ Rows.slicingTakesSpec.post enc Try.prog Try.f9 false true false false W args v W' := by
  have hW' := hW
  obtain ⟨p, q, hA0, hV, rfl, hfz, hnd⟩ := hW
  have hA : DataW.TrodAll enc Try.prog W 0 (fun _ => true) true Try.f9.params.toList args.toList ds p := hA0
  rw [Try.params9] at hA hval hz
  obtain ⟨v0, vs0, d0, ds0, p0, q0, hargs, rfl, rfl, h0, r'0⟩ := trodAll_cons hA
  obtain ⟨v1, vs1, d1, ds1, p1, q1, rfl, rfl, rfl, h1, r'1⟩ := trodAll_cons r'0
  obtain ⟨v2, vs2, d2, ds2, p2, q2, rfl, rfl, rfl, h2, r'2⟩ := trodAll_cons r'1
  obtain ⟨v3, vs3, d3, ds3, p3, q3, rfl, rfl, rfl, h3, r'3⟩ := trodAll_cons r'2
  obtain ⟨rfl, rfl, rfl⟩ := trodAll_nil r'3
  obtain rfl : args = #[v0, v1, v2, v3] := by cases args; simp_all
  obtain ⟨rfl, rfl⟩ := trodVars_none hV
  obtain ⟨s0, hz⟩ := szd_cons hz
  obtain ⟨s1, hz⟩ := szd_cons hz
  obtain ⟨s2, hz⟩ := szd_cons hz
  obtain ⟨s3, hz⟩ := szd_cons hz
  obtain ⟨x0, r0, l0, b0⟩ := open_ints (hval 0 _ v0 rfl rfl) h0 s0
  obtain ⟨s_1a, x1a, s_1b, x1b, s_1c, x1c, g1a, g1b, g1c, r1, l1, b1⟩ := open_Slice (hval 1 _ v1 rfl rfl) h1 s1
  obtain ⟨x2, r2, l2, b2, k2⟩ := open_intsK (hval 2 _ v2 rfl rfl) h2 s2
  obtain ⟨x3, rfl, rfl, rfl, w3⟩ := open_int Try.underlying3 (hval 3 _ v3 rfl rfl) h3
  have b3 := bounds_i64 w3
  have hb := of_decide_eq_true hk
  simp only [List.cons_append, List.nil_append, List.append_nil, Rows.uptoBulkAll] at hb
  refine law_post [.inl (.ints .i64 x0), .inr [.b s_1a, .ints .u32 x1a, .b s_1b, .ints .u32 x1b, .b s_1c, .ints .u32 x1c, .b g1a, .b g1b, .b g1c], .inl (.ints .i64 x2), .inl (.i .i64 x3)] kids full (by rw [Try.params9]; decide +kernel) rfl rfl Try.underlying4 rfl hW' rfl ?_ (takes_ret x0 x2 x3 s_1a s_1b s_1c g1a g1b g1c x1a x1b x1c (by omega) l1 b1 b3)
  intro j y u hy hu
  match j with
  | 0 => cases hy; cases hu; exact r0
  | 1 => cases hy; cases hu; exact r1
  | 2 => cases hy; cases hu; exact r2
  | 3 => cases hy; cases hu; exact Rd.i .i64 x3
  | _ + 4 => simp at hy

set_option maxRecDepth 100000 in
theorem slicingTakes_lifted (os : Os) (started : os.Started) (H : Type) (enc : TypeId × Value → H) (F : Stop.Interp) :
    ReturnsInHanded {} Try.checked os 9 .any ((Rows.OpenSpec.upto Rows.slicingTakesSpec).pre6 enc Try.prog Try.f9 Rows.slicingTakesUptoRow.domain false) (((Rows.OpenSpec.upto Rows.slicingTakesSpec).at F).post enc Try.prog Try.f9 false true false false) := by
  refine returnsInHanded_of_cond_sized (C := Try.checked) (s := Rows.OpenSpec.upto Rows.slicingTakesSpec) (k := Rows.uptoSmall) rfl own_knob started (by kernel_rfl) Try.func9
    (OpenSpec.witness (enc := enc) (C := Try.checked) (s := Rows.OpenSpec.upto Rows.slicingTakesSpec) (k := Rows.uptoSmall) rfl false ⟨#[], #[.slice none 0 0, .agg #[.bool false, .slice none 0 0, .bool false, .slice none 0 0, .bool false, .slice none 0 0, .bool false, .bool false, .bool false], .slice none 0 0, .int .i64 0], []⟩ 8 (by kernel_rfl) (by kernel_rfl) (by kernel_rfl)
      (x := ([.nil, .agg [.agg [.lit (.bool false), .nil], .agg [.lit (.bool false), .nil], .agg [.lit (.bool false), .nil], .lit (.bool false), .lit (.bool false), .lit (.bool false)], .nil, .lit (.int .i64 0)], [], [])) (by kernel_rfl) rfl (by kernel_rfl)) ?_
  intro W base args ds gs before hval hW _ hk hz _
  exact slicingTakes_contract H enc W base args ds gs before hval hW hz hk

theorem slicingTakes_h1 : Rows.slicingTakesUptoRow.wf (OpenSpec.ofChange Rows.slicingTakesSpec) = true := by kernel_rfl
theorem slicingTakes_h2 : laidOutB Try.pinned.checked.prog = true := by kernel_rfl
theorem slicingTakes_h3 : mapsRowed Try.pinned.checked.prog = true := by kernel_rfl
theorem slicingTakes_h4 : (Rows.slicingTakesUptoRow.inPlace == Try.pinned.checked.prog.inPlace 9) = true := by kernel_rfl
theorem slicingTakes_h5 : (Rows.slicingTakesUptoRow.unfollowed == Try.pinned.checked.prog.unfollowed 9) = true := by kernel_rfl
theorem slicingTakes_h6 : (Rows.slicingTakesUptoRow.recurses == Try.pinned.checked.prog.recurses 9) = true := by kernel_rfl
theorem slicingTakes_h7 : (Rows.slicingTakesUptoRow.named == Try.pinned.checked.prog.varsNamed 9) = true := by kernel_rfl
theorem slicingTakes_h8 : (Rows.slicingTakesUptoRow.plainKeys == Try.pinned.checked.prog.plainKeys) = true := by kernel_rfl
theorem slicingTakes_and {a b : Bool} (ha : a = true) (hb : b = true) : (a && b) = true := by rw [ha, hb]; rfl
theorem slicingTakes_facts : joinedFacts Try.pinned.checked.prog 9 Try.f9 (Rows.OpenSpec.upto Rows.slicingTakesSpec).bare Rows.slicingTakesUptoRow = true := by
  unfold joinedFacts
  repeat' (with_reducible refine slicingTakes_and ?_ ?_)
  all_goals first
    | with_reducible exact slicingTakes_h1
    | with_reducible exact slicingTakes_h2
    | with_reducible exact slicingTakes_h3
    | with_reducible exact slicingTakes_h4
    | with_reducible exact slicingTakes_h5
    | with_reducible exact slicingTakes_h6
    | with_reducible exact slicingTakes_h7
    | with_reducible exact slicingTakes_h8
    | kernel_rfl

theorem slicingTakes_holds : Rows.SlicingTakesUptoSaid :=
  OpenClaim.holds_of_cond 9 Try.f9 rfl rfl rfl rfl rfl rfl rfl ⟨rfl, rfl, rfl, rfl, rfl⟩ rfl rfl rfl rfl rfl (by kernel_rfl) Try.func9 slicingTakes_facts
    (of_decide_eq_true (by kernel_rfl)) (by unfold Func.isWrapper; first | (rw [if_pos (by decide +kernel)]; kernel_rfl) | (rw [if_neg (by decide +kernel)]; exact ⟨rfl, rfl⟩))
    (fun os started H enc _ F => slicingTakes_lifted os started H enc F)

end Go.Proofs.Ytlefdhkjbbdijaa
