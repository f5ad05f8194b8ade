import Derived.Test.YtneecniebhhhlaaH19
import Derived.Test.YtneecniebhhhlaaH3
import Derived.Test.YtneecniebhhhlaaH4
import Derived.Test.YtneecniebhhhlaaH5
namespace Go.Proofs.Ytneecniebhhhlaa
set_option linter.unusedSimpArgs false
set_option linter.unusedVariables false
open Go.Abs Go.Proofs.NatL Go.ChangeShapes Go.WideShapes Go.ChangeAt Go.RowKit

theorem own_knob : ownKnob Try.prog.godebug = none := by kernel_rfl
theorem kids : Kids Try.prog (· < Try.prog.types.size) := kids_rows (by kernel_rfl) (by kernel_rfl)
theorem full : ∀ t e, t < Try.prog.types.size → Try.prog.underlying t = some (.slice e) → 0 < Try.prog.cellsOf e := slices_full_of Try.prog (by kernel_rfl)
theorem cells_u32 : Try.prog.cellsOf 91 = 1 := by kernel_rfl
theorem bytes_u32 : Try.prog.bytesOf 91 = 4 := by kernel_rfl

theorem u32_in {xs : List Int} (h : ∀ n ∈ xs, (Lit.int .u32 n).wf = true) : InB 4294967296 xs := fun x hx => by
  have := bounds_u32 (h x hx)
  omega

end Go.Proofs.Ytneecniebhhhlaa

namespace Go.Proofs.Ytneecniebhhhlaa
set_option linter.unusedSimpArgs false
set_option linter.unusedVariables false
open Go.Abs Go.Proofs.NatL Go.ChangeShapes Go.WideShapes Go.ChangeAt Go.RowKit

theorem cells_bool : Try.prog.cellsOf 4 = 1 := by kernel_rfl
theorem cells_limbs : Try.prog.cellsOf 22 = 1 := by kernel_rfl

set_option maxRecDepth 100000 in
theorem open_Int {H : Type} {enc : TypeId × Value → H} {W : World} {base : Nat} {v : Value} {d : DataW H} {p : List MemPlace} (hval : Value.okWide Try.prog W .any base 24 v) (h : DataW.Trod enc Try.prog W 0 (fun _ => true) true 24 v d p) (hs : Sized Try.prog 24 d) :
    ∃ (s : Bool) (xs : List Int), RdS W Top (.inr [.b s, .ints .u32 xs]) v ∧ xs.length ≤ 140737488355328 ∧ InB 4294967296 xs := by
  obtain ⟨cs, rfl, hcs⟩ := okWide_struct Try.underlying24 hval
  obtain ⟨fuel, hf⟩ := h
  obtain ⟨y0, y1, n, hy, hl, h0, h1⟩ := trod_struct2 Try.underlying24 hf
  simp only [Value.cells] at h0 h1 hl
  rw [cells_bool] at h0
  rw [cells_limbs] at h1
  obtain ⟨s, e0, rfl⟩ := DataW.trod_bool Try.underlying4 h0
  obtain ⟨xs, u, e1, ho, hrd, hm, hw, hd⟩ := rd_ints Try.underlying22 Try.underlying91 cells_u32 h1
  cases hy
  obtain ⟨s0, hs'⟩ := szd_cons (szd_struct Try.underlying24 hs)
  obtain ⟨s1, -⟩ := szd_cons hs'
  have hl2 := szd_slice (n := xs.length) Try.underlying22 s1 (by
    rcases hd with ⟨h1, h2⟩ | h1
    · exact .inl ⟨h1, by rw [h2]; rfl⟩
    · exact .inr h1)
  rw [bytes_u32] at hl2
  have hcells : cs.toList = [.bool s, u] := by
    have hlen : cs.toList.length = 2 := by rw [Array.length_toList, hcs]; kernel_rfl
    match hq : cs.toList, hlen with
    | [a, b], _ =>
      rw [hq] at e0 e1
      simp at e0 e1
      rw [e0, e1]
  refine ⟨s, xs, ⟨cs, rfl, ?_⟩, by simp only [reachBytes] at hl2; omega, u32_in hw⟩
  rw [hcells]
  exact rdL_append (rdL_one (.b s)) (rdL_one hrd)

end Go.Proofs.Ytneecniebhhhlaa

namespace Go.Proofs.Ytneecniebhhhlaa
set_option linter.unusedSimpArgs false
set_option linter.unusedVariables false
open Go.Abs Go.Proofs.NatL Go.ChangeShapes Go.WideShapes Go.ChangeAt Go.RowKit

set_option maxRecDepth 100000 in
theorem int_cells {H : Type} {enc : TypeId × Value → H} {W : World} {fuel : Nat} {cs : List Value} {x : DataW H × List MemPlace} (h : DataW.trod enc Try.prog W 0 (fun _ => true) true fuel 24 cs = some x) (hs : Sized Try.prog 24 x.1) :
    ∃ (s : Bool) (xs : List Int), RdL W Top [.b s, .ints .u32 xs] cs ∧ xs.length ≤ 140737488355328 ∧ InB 4294967296 xs := by
  obtain ⟨y0, y1, n, rfl, hl, h0, h1⟩ := trod_struct2 Try.underlying24 h
  simp only at h0 h1 hl
  rw [cells_bool] at h0
  rw [cells_limbs] at h1
  obtain ⟨s, e0, rfl⟩ := DataW.trod_bool Try.underlying4 h0
  obtain ⟨xs, u, e1, ho, hrd, hm, hw, hd⟩ := rd_ints Try.underlying22 Try.underlying91 cells_u32 h1
  obtain ⟨s0, hs'⟩ := szd_cons (szd_struct Try.underlying24 hs)
  obtain ⟨s1, -⟩ := szd_cons hs'
  have hl2 := szd_slice (n := xs.length) Try.underlying22 s1 (by
    rcases hd with ⟨h1, h2⟩ | h1
    · exact .inl ⟨h1, by rw [h2]; rfl⟩
    · exact .inr h1)
  rw [bytes_u32] at hl2
  have hcells : cs = [.bool s, u] := by
    have hlen : cs.length = 2 := by rw [hl]; kernel_rfl
    match cs, hlen with
    | [a, b], _ =>
      simp at e0 e1
      rw [e0, e1]
  refine ⟨s, xs, ?_, by simp only [reachBytes] at hl2; omega, u32_in hw⟩
  rw [hcells]
  exact rdL_append (rdL_one (.b s)) (rdL_one hrd)

theorem cells_Int : Try.prog.cellsOf 24 = 2 := by kernel_rfl
set_option maxRecDepth 100000 in
theorem open_Range {H : Type} {enc : TypeId × Value → H} {W : World} {base : Nat} {v : Value} {d : DataW H} {p : List MemPlace} (hval : Value.okWide Try.prog W .any base 96 v) (h : DataW.Trod enc Try.prog W 0 (fun _ => true) true 96 v d p) (hs : Sized Try.prog 96 d) :
    ∃ (s0 : Bool) (xs0 : List Int) (s1 : Bool) (xs1 : List Int) (s2 : Bool) (xs2 : List Int), RdS W Top (.inr [.b s0, .ints .u32 xs0, .b s1, .ints .u32 xs1, .b s2, .ints .u32 xs2]) v ∧
      (xs0.length ≤ 140737488355328 ∧ xs1.length ≤ 140737488355328 ∧ xs2.length ≤ 140737488355328) ∧ (InB 4294967296 xs0 ∧ InB 4294967296 xs1 ∧ InB 4294967296 xs2) := by
  obtain ⟨cs, rfl, hcs⟩ := okWide_struct Try.underlying96 hval
  obtain ⟨fuel, hf⟩ := h
  obtain ⟨ys, n, _, hy, hl, hlen, hfs⟩ := DataW.trod_struct Try.underlying96 hf
  cases hy
  match ys, hlen with
  | [y0, y1, y2], _ =>
  have f0 : DataW.trod enc Try.prog W 0 (fun _ => true) true n 24 ((cs.toList.drop 0).take (Try.prog.cellsOf 24)) = some y0 := hfs 0 _ rfl
  rw [cells_Int] at f0
  have f1 : DataW.trod enc Try.prog W 0 (fun _ => true) true n 24 ((cs.toList.drop 2).take (Try.prog.cellsOf 24)) = some y1 := hfs 1 _ rfl
  rw [cells_Int] at f1
  have f2 : DataW.trod enc Try.prog W 0 (fun _ => true) true n 24 ((cs.toList.drop 4).take (Try.prog.cellsOf 24)) = some y2 := hfs 2 _ rfl
  rw [cells_Int] at f2
  have hl : cs.toList.length = Try.prog.cellsOf 96 := hl
  obtain ⟨z0, hs⟩ := szd_cons (szd_struct Try.underlying96 hs)
  obtain ⟨z1, hs⟩ := szd_cons hs
  obtain ⟨z2, hs⟩ := szd_cons hs
  obtain ⟨s0, xs0, r0, l0, b0⟩ := int_cells f0 z0
  obtain ⟨s1, xs1, r1, l1, b1⟩ := int_cells f1 z1
  obtain ⟨s2, xs2, r2, l2, b2⟩ := int_cells f2 z2
  refine ⟨s0, xs0, s1, xs1, s2, xs2, ⟨cs, rfl, ?_⟩, ⟨l0, l1, l2⟩, ⟨b0, b1, b2⟩⟩
  have hlen : cs.toList.length = 6 := by rw [hl]; kernel_rfl
  match hq : cs.toList, hlen with
  | [a0, a1, a2, a3, a4, a5], _ =>
  rw [hq] at r0 r1 r2
  simp only [List.drop_zero, List.drop_succ_cons, List.take_succ_cons, List.take_zero, List.cons.injEq, and_true] at r0 r1 r2
  exact rdL_append r0 (rdL_append r1 r2)

end Go.Proofs.Ytneecniebhhhlaa
