import Derived.Test.YtgogdabniebplaaTy
import Derived.Test.YtgogdabniebplaaL
import Derived.Test.YtgogdabniebplaaAbs3
namespace Go.Proofs.Ytgogdabniebplaa
set_option linter.unusedSimpArgs false
set_option linter.unusedVariables false
open Go.Abs Go.Proofs.NatL Go.ChangeShapes Go.WideShapes Go.ChangeAt Go.RowKit

theorem own_knob : ownKnob Try.prog.godebug = none := by kernel_rfl
theorem kids : Kids Try.prog (· < Try.prog.types.size) := kids_rows (by kernel_rfl) (by kernel_rfl)
theorem full : ∀ t e, t < Try.prog.types.size → Try.prog.underlying t = some (.slice e) → 0 < Try.prog.cellsOf e := slices_full_of Try.prog (by kernel_rfl)
theorem cells_u32 : Try.prog.cellsOf 116 = 1 := by kernel_rfl
theorem bytes_u32 : Try.prog.bytesOf 116 = 4 := by kernel_rfl

theorem u32_in {xs : List Int} (h : ∀ n ∈ xs, (Lit.int .u32 n).wf = true) : InB 4294967296 xs := fun x hx => by
  have := bounds_u32 (h x hx)
  omega

set_option maxRecDepth 100000 in
theorem open_limbs {H : Type} {enc : TypeId × Value → H} {W : World} {base : Nat} {v : Value} {d : DataW H} {p : List MemPlace} (hval : Value.okWide Try.prog W .any base 22 v) (h : DataW.Trod enc Try.prog W 0 (fun _ => true) true 22 v d p) (hs : Sized Try.prog 22 d) :
    ∃ xs : List Int, Rd W Top (.ints .u32 xs) v ∧ xs.length ≤ 140737488355328 ∧ InB 4294967296 xs := by
  obtain ⟨fuel, hf⟩ := h
  obtain ⟨xs, u, hu, ho, hrd, hm, hw, hd⟩ := rd_ints Try.underlying22 Try.underlying116 cells_u32 hf
  obtain rfl := one_of Try.underlying22 rfl hval hu ho
  have hl := szd_slice (n := xs.length) Try.underlying22 hs (by
    rcases hd with ⟨h1, h2⟩ | h1
    · exact .inl ⟨h1, by rw [h2]; rfl⟩
    · exact .inr h1)
  rw [bytes_u32] at hl
  exact ⟨xs, hrd, by simp only [reachBytes] at hl; omega, u32_in hw⟩

end Go.Proofs.Ytgogdabniebplaa
