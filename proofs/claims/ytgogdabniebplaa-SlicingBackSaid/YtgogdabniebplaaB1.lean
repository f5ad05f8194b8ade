import Derived.Test.YtgogdabniebplaaB0
namespace Go.Proofs.Ytgogdabniebplaa
set_option linter.unusedSimpArgs false
set_option linter.unusedVariables false
open Go.Abs Go.Proofs.NatL Go.ChangeShapes Go.WideShapes Go.ChangeAt Go.RowKit
theorem cells_int : Try.prog.cellsOf 3 = 1 := by kernel_rfl
theorem bytes_int : Try.prog.bytesOf 3 = 8 := by kernel_rfl
set_option maxRecDepth 100000 in
theorem open_ints {H : Type} {enc : TypeId × Value → H} {W : World} {base : Nat} {v : Value} {d : DataW H} {p : List MemPlace} (hval : Value.okWide Try.prog W .any base 39 v) (h : DataW.Trod enc Try.prog W 0 (fun _ => true) true 39 v d p) (hs : Sized Try.prog 39 d) :
    ∃ xs : List Int, Rd W Top (.ints .i64 xs) v ∧ xs.length ≤ 140737488355328 ∧ ∀ x ∈ xs, -9223372036854775808 ≤ x ∧ x ≤ 9223372036854775807 := by
  obtain ⟨fuel, hf⟩ := h
  obtain ⟨xs, u, hu, ho, hrd, hm, hw, hd⟩ := rd_ints Try.underlying39 Try.underlying3 cells_int hf
  obtain rfl := one_of Try.underlying39 rfl hval hu ho
  have hl := szd_slice (n := xs.length) Try.underlying39 hs (by
    rcases hd with ⟨h1, h2⟩ | h1
    · exact .inl ⟨h1, by rw [h2]; rfl⟩
    · exact .inr h1)
  rw [bytes_int] at hl
  exact ⟨xs, hrd, by simp only [reachBytes] at hl; omega, fun x hx => bounds_i64 (hw x hx)⟩

end Go.Proofs.Ytgogdabniebplaa
