/-
  The law NaturalArithmetic holds: whatever the two lists are, it returns true and leaves them as they are.
  No condition.
-/
import Derived.Test.YtggehgnmfjdkhaaW11
import Derived.Test.YtggehgnmfjdkhaaAbsU
namespace Go.Proofs.Ytggehgnmfjdkhaa
set_option linter.unusedSimpArgs false
set_option linter.unusedVariables false
open Go.Abs Go.Proofs.NatL Go.ChangeShapes Go.WideShapes Go.ChangeAt Go.RowKit

theorem own_knob : ownKnob Try.prog.godebug = none := by kernel_rfl
theorem kids : Kids Try.prog (· < Try.prog.types.size) := kids_rows (by kernel_rfl) (by kernel_rfl)
theorem full : ∀ t e, t < Try.prog.types.size → Try.prog.underlying t = some (.slice e) → 0 < Try.prog.cellsOf e := slices_full_of Try.prog (by kernel_rfl)
theorem cells_u32 : Try.prog.cellsOf 58 = 1 := by kernel_rfl
theorem bytes_u32 : Try.prog.bytesOf 58 = 4 := by kernel_rfl

theorem u32_in {xs : List Int} (h : ∀ n ∈ xs, (Lit.int .u32 n).wf = true) : InB 4294967296 xs := fun x hx => by
  have := bounds_u32 (h x hx)
  omega

/-- a slice of limbs, opened -/
theorem open_limbs {H : Type} {enc : TypeId × Value → H} {W : World} {base : Nat} {v : Value} {d : DataW H} {p : List MemPlace} (hval : Value.okWide Try.prog W .any base 22 v) (h : DataW.Trod enc Try.prog W 0 (fun _ => true) true 22 v d p) (hs : Sized Try.prog 22 d) :
    ∃ xs : List Int, Rd W Top (.ints .u32 xs) v ∧ xs.length ≤ 140737488355328 ∧ InB 4294967296 xs := by
  obtain ⟨fuel, hf⟩ := h
  obtain ⟨xs, u, hu, ho, hrd, hm, hw, hd⟩ := rd_ints Try.underlying22 Try.underlying58 cells_u32 hf
  obtain rfl := one_of Try.underlying22 rfl hval hu ho
  have hl := szd_slice (n := xs.length) Try.underlying22 hs (by
    rcases hd with ⟨h1, h2⟩ | h1
    · exact .inl ⟨h1, by rw [h2]; rfl⟩
    · exact .inr h1)
  rw [bytes_u32] at hl
  exact ⟨xs, hrd, by simp only [reachBytes] at hl; omega, u32_in hw⟩

theorem arith_contract (H : Type) (enc : TypeId × Value → H) (W : World) (base : Nat) (args : Array Value) (ds gs : List (DataW H)) (before : List MemPlace)
    (hval : ∀ (j : Nat) t v, Try.f5.params[j]? = some t → args[j]? = some v → Value.okWide Try.prog W .any base t v)
    (hW : DataW.Whole enc Try.prog Try.f5.params.toList Rows.naturalArithmeticSpec.vars false W args.toList ds gs before)
    (hz : (DataW.weightsEach Try.prog (Try.f5.params.toList ++ Rows.naturalArithmeticSpec.plain.varTypes Try.prog) (ds ++ gs)).all (· ≤ reachBytes) = true) :
    Calls Try.prog 5 args W fun e W' => ∃ v, e = .returned v ∧ Rows.naturalArithmeticSpec.post enc Try.prog Try.f5 false true false false W args v W' := by
  have hW' := hW
  obtain ⟨p, q, hA0, hV, rfl, hfz, hnd⟩ := hW
  have hA : DataW.TrodAll enc Try.prog W 0 (fun _ => true) true Try.f5.params.toList args.toList ds p := hA0
  rw [Try.params5] at hA hval hz
  obtain ⟨v0, vs0, d0, ds0, p0, q0, hargs, rfl, rfl, h0, r0⟩ := trodAll_cons hA
  obtain ⟨v1, vs1, d1, ds1, p1, q1, rfl, rfl, rfl, h1, r1⟩ := trodAll_cons r0
  obtain ⟨rfl, rfl, rfl⟩ := trodAll_nil r1
  obtain rfl : args = #[v0, v1] := by cases args; simp_all
  obtain ⟨rfl, rfl⟩ := trodVars_none hV
  obtain ⟨s0, hz⟩ := szd_cons hz
  obtain ⟨s1, hz⟩ := szd_cons hz
  obtain ⟨xs, rx, lx, bx⟩ := open_limbs (hval 0 _ v0 rfl rfl) h0 s0
  obtain ⟨ys, ry, ly, by'⟩ := open_limbs (hval 1 _ v1 rfl rfl) h1 s1
  refine law_post [.inl (.ints .u32 xs), .inl (.ints .u32 ys)] kids full (by rw [Try.params5]; decide +kernel) rfl rfl Try.underlying4 rfl hW' rfl ?_ (arith_ret xs ys lx ly bx by')
  intro j y u hy hu
  match j with
  | 0 => cases hy; cases hu; exact rx
  | 1 => cases hy; cases hu; exact ry
  | _ + 2 => simp at hy

set_option maxRecDepth 100000 in
theorem arith_lifted (os : Os) (started : os.Started) (H : Type) (enc : TypeId × Value → H) :
    ReturnsInHanded {} Try.checked os 5 .any (Rows.naturalArithmeticSpec.pre6 enc Try.prog Try.f5 Rows.naturalArithmeticRow.domain false) (Rows.naturalArithmeticSpec.post enc Try.prog Try.f5 false true false false) := by
  refine returnsInHanded_of_change_sized (C := Try.checked) own_knob started (by kernel_rfl) Try.func5
    (ChangeSpec.witness6 false ⟨#[], #[.slice none 0 0, .slice none 0 0], []⟩ 8 (by kernel_rfl) (by kernel_rfl) (by kernel_rfl) (by kernel_rfl)) ?_
  intro W base args ds gs before hval hW _ hz _
  exact arith_contract H enc W base args ds gs before hval hW hz

theorem arith_holds : Rows.NaturalArithmeticSaid :=
  OpenClaim.holds_of_wide 5 Try.f5 rfl rfl rfl rfl rfl rfl rfl ⟨rfl, rfl, rfl, rfl, rfl⟩ rfl rfl rfl rfl rfl (by kernel_rfl) Try.func5 (by kernel_rfl)
    (of_decide_eq_true (by kernel_rfl)) (by unfold Func.isWrapper; first | (rw [if_pos (by decide +kernel)]; kernel_rfl) | (rw [if_neg (by decide +kernel)]; exact ⟨rfl, rfl⟩))
    (fun os started H enc _ => arith_lifted os started H enc)

end Go.Proofs.Ytggehgnmfjdkhaa
