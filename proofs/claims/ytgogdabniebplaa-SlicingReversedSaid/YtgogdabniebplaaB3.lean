import Derived.Test.YtgogdabniebplaaB2
namespace Go.Proofs.Ytgogdabniebplaa
set_option linter.unusedSimpArgs false
set_option linter.unusedVariables false
open Go.Abs Go.Proofs.NatL Go.ChangeShapes Go.WideShapes Go.ChangeAt Go.RowKit

set_option maxRecDepth 100000 in
theorem open_str {H : Type} {enc : TypeId × Value → H} {W : World} {base : Nat} {v : Value} {d : DataW H} {p : List MemPlace} (hval : Value.okWide Try.prog W .any base 9 v) (h : DataW.Trod enc Try.prog W 0 (fun _ => true) true 9 v d p) :
    ∃ s : ByteArray, v = .string s ∧ s.size ≤ maxLen := by
  obtain ⟨fuel, hf⟩ := h
  obtain ⟨s, hc, _, hm⟩ := DataW.trod_string Try.underlying9 hf
  exact ⟨s, one_of Try.underlying9 rfl hval hc rfl, hm⟩

set_option maxRecDepth 100000 in
theorem int_cells {H : Type} {enc : TypeId × Value → H} {W : World} {fuel : Nat} {cs : List Value} {x : DataW H × List MemPlace} (h : DataW.trod enc Try.prog W 0 (fun _ => true) true fuel 24 cs = some x) (hs : Sized Try.prog 24 x.1) :
    ∃ (s : Bool) (xs : List Int), RdL W Top [.b s, .ints .u32 xs] cs ∧ xs.length ≤ 140737488355328 ∧ InB 4294967296 xs := by
  obtain ⟨y0, y1, n, rfl, hl, h0, h1⟩ := trod_struct2 Try.underlying24 h
  simp only at h0 h1 hl
  rw [cells_bool] at h0
  rw [cells_limbs] at h1
  obtain ⟨s, e0, rfl⟩ := DataW.trod_bool Try.underlying4 h0
  obtain ⟨xs, u, e1, ho, hrd, hm, hw, hd⟩ := rd_ints Try.underlying22 Try.underlying116 cells_u32 h1
  obtain ⟨s0, hs'⟩ := szd_cons (szd_struct Try.underlying24 hs)
  obtain ⟨s1, -⟩ := szd_cons hs'
  have hl2 := szd_slice (n := xs.length) Try.underlying22 s1 (by
    rcases hd with ⟨h1, h2⟩ | h1
    · exact .inl ⟨h1, by rw [h2]; rfl⟩
    · exact .inr h1)
  rw [bytes_u32] at hl2
  have hcells : cs = [.bool s, u] := by
    have hlen : cs.length = 2 := by rw [hl]; kernel_rfl
    match cs, hlen with
    | [a, b], _ =>
      simp at e0 e1
      rw [e0, e1]
  refine ⟨s, xs, ?_, by simp only [reachBytes] at hl2; omega, u32_in hw⟩
  rw [hcells]
  exact rdL_append (rdL_one (.b s)) (rdL_one hrd)

theorem cells_Int : Try.prog.cellsOf 24 = 2 := by kernel_rfl
set_option maxRecDepth 100000 in
theorem open_Slice {H : Type} {enc : TypeId × Value → H} {W : World} {base : Nat} {v : Value} {d : DataW H} {p : List MemPlace} (hval : Value.okWide Try.prog W .any base 26 v) (h : DataW.Trod enc Try.prog W 0 (fun _ => true) true 26 v d p) (hs : Sized Try.prog 26 d) :
    ∃ (s0 : Bool) (xs0 : List Int) (s1 : Bool) (xs1 : List Int) (s2 : Bool) (xs2 : List Int) (g0 g1 g2 : Bool), RdS W Top (.inr [.b s0, .ints .u32 xs0, .b s1, .ints .u32 xs1, .b s2, .ints .u32 xs2, .b g0, .b g1, .b g2]) v ∧
      (xs0.length ≤ 140737488355328 ∧ xs1.length ≤ 140737488355328 ∧ xs2.length ≤ 140737488355328) ∧ (InB 4294967296 xs0 ∧ InB 4294967296 xs1 ∧ InB 4294967296 xs2) := by
  obtain ⟨cs, rfl, hcs⟩ := okWide_struct Try.underlying26 hval
  obtain ⟨fuel, hf⟩ := h
  obtain ⟨ys, n, _, hy, hl, hlen, hfs⟩ := DataW.trod_struct Try.underlying26 hf
  cases hy
  match ys, hlen with
  | [y0, y1, y2, y3, y4, y5], _ =>
  have f0 : DataW.trod enc Try.prog W 0 (fun _ => true) true n 24 ((cs.toList.drop 0).take (Try.prog.cellsOf 24)) = some y0 := hfs 0 _ rfl
  rw [cells_Int] at f0
  have f1 : DataW.trod enc Try.prog W 0 (fun _ => true) true n 24 ((cs.toList.drop 2).take (Try.prog.cellsOf 24)) = some y1 := hfs 1 _ rfl
  rw [cells_Int] at f1
  have f2 : DataW.trod enc Try.prog W 0 (fun _ => true) true n 24 ((cs.toList.drop 4).take (Try.prog.cellsOf 24)) = some y2 := hfs 2 _ rfl
  rw [cells_Int] at f2
  have f3 : DataW.trod enc Try.prog W 0 (fun _ => true) true n 4 ((cs.toList.drop 6).take (Try.prog.cellsOf 4)) = some y3 := hfs 3 _ rfl
  rw [cells_bool] at f3
  have f4 : DataW.trod enc Try.prog W 0 (fun _ => true) true n 4 ((cs.toList.drop 7).take (Try.prog.cellsOf 4)) = some y4 := hfs 4 _ rfl
  rw [cells_bool] at f4
  have f5 : DataW.trod enc Try.prog W 0 (fun _ => true) true n 4 ((cs.toList.drop 8).take (Try.prog.cellsOf 4)) = some y5 := hfs 5 _ rfl
  rw [cells_bool] at f5
  have hl : cs.toList.length = Try.prog.cellsOf 26 := hl
  obtain ⟨z0, hs⟩ := szd_cons (szd_struct Try.underlying26 hs)
  obtain ⟨z1, hs⟩ := szd_cons hs
  obtain ⟨z2, hs⟩ := szd_cons hs
  obtain ⟨s0, xs0, r0, l0, b0⟩ := int_cells f0 z0
  obtain ⟨s1, xs1, r1, l1, b1⟩ := int_cells f1 z1
  obtain ⟨s2, xs2, r2, l2, b2⟩ := int_cells f2 z2
  obtain ⟨g0, e3, _⟩ := DataW.trod_bool Try.underlying4 f3
  obtain ⟨g1, e4, _⟩ := DataW.trod_bool Try.underlying4 f4
  obtain ⟨g2, e5, _⟩ := DataW.trod_bool Try.underlying4 f5
  refine ⟨s0, xs0, s1, xs1, s2, xs2, g0, g1, g2, ⟨cs, rfl, ?_⟩, ⟨l0, l1, l2⟩, ⟨b0, b1, b2⟩⟩
  have hlen : cs.toList.length = 9 := by rw [hl]; kernel_rfl
  match hq : cs.toList, hlen with
  | [a0, a1, a2, a3, a4, a5, a6, a7, a8], _ =>
  rw [hq] at r0 r1 r2 e3 e4 e5
  simp only [List.drop_zero, List.drop_succ_cons, List.take_succ_cons, List.take_zero, List.cons.injEq, and_true] at r0 r1 r2 e3 e4 e5
  subst e3; subst e4; subst e5
  exact rdL_append r0 (rdL_append r1 (rdL_append r2 (rdL_append (rdL_one (.b g0)) (rdL_append (rdL_one (.b g1)) (rdL_one (.b g2))))))
set_option maxRecDepth 100000 in
theorem open_Range {H : Type} {enc : TypeId × Value → H} {W : World} {base : Nat} {v : Value} {d : DataW H} {p : List MemPlace} (hval : Value.okWide Try.prog W .any base 53 v) (h : DataW.Trod enc Try.prog W 0 (fun _ => true) true 53 v d p) (hs : Sized Try.prog 53 d) :
    ∃ (s0 : Bool) (xs0 : List Int) (s1 : Bool) (xs1 : List Int) (s2 : Bool) (xs2 : List Int), RdS W Top (.inr [.b s0, .ints .u32 xs0, .b s1, .ints .u32 xs1, .b s2, .ints .u32 xs2]) v ∧
      (xs0.length ≤ 140737488355328 ∧ xs1.length ≤ 140737488355328 ∧ xs2.length ≤ 140737488355328) ∧ (InB 4294967296 xs0 ∧ InB 4294967296 xs1 ∧ InB 4294967296 xs2) := by
  obtain ⟨cs, rfl, hcs⟩ := okWide_struct Try.underlying53 hval
  obtain ⟨fuel, hf⟩ := h
  obtain ⟨ys, n, _, hy, hl, hlen, hfs⟩ := DataW.trod_struct Try.underlying53 hf
  cases hy
  match ys, hlen with
  | [y0, y1, y2], _ =>
  have f0 : DataW.trod enc Try.prog W 0 (fun _ => true) true n 24 ((cs.toList.drop 0).take (Try.prog.cellsOf 24)) = some y0 := hfs 0 _ rfl
  rw [cells_Int] at f0
  have f1 : DataW.trod enc Try.prog W 0 (fun _ => true) true n 24 ((cs.toList.drop 2).take (Try.prog.cellsOf 24)) = some y1 := hfs 1 _ rfl
  rw [cells_Int] at f1
  have f2 : DataW.trod enc Try.prog W 0 (fun _ => true) true n 24 ((cs.toList.drop 4).take (Try.prog.cellsOf 24)) = some y2 := hfs 2 _ rfl
  rw [cells_Int] at f2
  have hl : cs.toList.length = Try.prog.cellsOf 53 := hl
  obtain ⟨z0, hs⟩ := szd_cons (szd_struct Try.underlying53 hs)
  obtain ⟨z1, hs⟩ := szd_cons hs
  obtain ⟨z2, hs⟩ := szd_cons hs
  obtain ⟨s0, xs0, r0, l0, b0⟩ := int_cells f0 z0
  obtain ⟨s1, xs1, r1, l1, b1⟩ := int_cells f1 z1
  obtain ⟨s2, xs2, r2, l2, b2⟩ := int_cells f2 z2
  refine ⟨s0, xs0, s1, xs1, s2, xs2, ⟨cs, rfl, ?_⟩, ⟨l0, l1, l2⟩, ⟨b0, b1, b2⟩⟩
  have hlen : cs.toList.length = 6 := by rw [hl]; kernel_rfl
  match hq : cs.toList, hlen with
  | [a0, a1, a2, a3, a4, a5], _ =>
  rw [hq] at r0 r1 r2
  simp only [List.drop_zero, List.drop_succ_cons, List.take_succ_cons, List.take_zero, List.cons.injEq, and_true] at r0 r1 r2
  exact rdL_append r0 (rdL_append r1 r2)

end Go.Proofs.Ytgogdabniebplaa
