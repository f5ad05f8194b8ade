import Derived.Test.YtgogdabniebplaaB0
import Derived.Test.YtgogdabniebplaaI1
namespace Go.Proofs.Ytgogdabniebplaa
set_option linter.unusedSimpArgs false
set_option linter.unusedVariables false
open Go.Abs Go.Proofs.NatL Go.ChangeShapes Go.WideShapes Go.ChangeAt Go.RowKit

theorem cells_bool : Try.prog.cellsOf 4 = 1 := by kernel_rfl
theorem cells_limbs : Try.prog.cellsOf 22 = 1 := by kernel_rfl

set_option maxRecDepth 100000 in
theorem open_Int {H : Type} {enc : TypeId × Value → H} {W : World} {base : Nat} {v : Value} {d : DataW H} {p : List MemPlace} (hval : Value.okWide Try.prog W .any base 24 v) (h : DataW.Trod enc Try.prog W 0 (fun _ => true) true 24 v d p) (hs : Sized Try.prog 24 d) :
    ∃ (s : Bool) (xs : List Int), RdS W Top (.inr [.b s, .ints .u32 xs]) v ∧ xs.length ≤ 140737488355328 ∧ InB 4294967296 xs := by
  obtain ⟨cs, rfl, hcs⟩ := okWide_struct Try.underlying24 hval
  obtain ⟨fuel, hf⟩ := h
  obtain ⟨y0, y1, n, hy, hl, h0, h1⟩ := trod_struct2 Try.underlying24 hf
  simp only [Value.cells] at h0 h1 hl
  rw [cells_bool] at h0
  rw [cells_limbs] at h1
  obtain ⟨s, e0, rfl⟩ := DataW.trod_bool Try.underlying4 h0
  obtain ⟨xs, u, e1, ho, hrd, hm, hw, hd⟩ := rd_ints Try.underlying22 Try.underlying116 cells_u32 h1
  cases hy
  obtain ⟨s0, hs'⟩ := szd_cons (szd_struct Try.underlying24 hs)
  obtain ⟨s1, -⟩ := szd_cons hs'
  have hl2 := szd_slice (n := xs.length) Try.underlying22 s1 (by
    rcases hd with ⟨h1, h2⟩ | h1
    · exact .inl ⟨h1, by rw [h2]; rfl⟩
    · exact .inr h1)
  rw [bytes_u32] at hl2
  have hcells : cs.toList = [.bool s, u] := by
    have hlen : cs.toList.length = 2 := by rw [Array.length_toList, hcs]; kernel_rfl
    match hq : cs.toList, hlen with
    | [a, b], _ =>
      rw [hq] at e0 e1
      simp at e0 e1
      rw [e0, e1]
  refine ⟨s, xs, ⟨cs, rfl, ?_⟩, by simp only [reachBytes] at hl2; omega, u32_in hw⟩
  rw [hcells]
  exact rdL_append (rdL_one (.b s)) (rdL_one hrd)

end Go.Proofs.Ytgogdabniebplaa
