/- The law IntegerArithmetic: its walk. -/
import Derived.Test.YthfgapbcdhajiaaK1
import Derived.Test.YthfgapbcdhajiaaP3
namespace Go.Proofs.Ythfgapbcdhajiaa
set_option linter.unusedSimpArgs false
set_option linter.unusedVariables false
open Go.Abs Go.Proofs.NatL

theorem len65 {a : Int} (h : (dg 4294967296 a.natAbs).length ≤ 128) : (dg 65536 a.natAbs).length ≤ 256 := (dg_half' a.natAbs 128).2 h

def ka : Cfg := listT [(13, countsCT), (32, yieldsCT), (14, icheckCT), (28, intOfCT), (18, noIntCT), (34, iminusCT), (33, (rI2CT 1048576 addF)), (35, (rI2CT 1048576 mulF)), (30, (iF2CT (fun _ _ => True) (fun a b => rCl (a + b)))), (16, (iF2CT (fun _ _ => True) (fun a b => rCl (a - b)))), (31, (iF2CT (fun _ _ => True) (fun a b => rCl (a * b))))] [27]
theorem ka_ok : TblOk Try.prog ka := listE_ok (by simp only [List.mem_singleton, forall_eq]; exact flt) ⟨⟨kd2, kd2_ok, rfl⟩, ⟨kd2, kd2_ok, rfl⟩, ⟨kd2, kd2_ok, rfl⟩, ⟨kd2, kd2_ok, rfl⟩, ⟨kd2, kd2_ok, rfl⟩, ⟨kd2, kd2_ok, rfl⟩, ⟨kd2, kd2_ok, rfl⟩, ⟨kd2, kd2_ok, rfl⟩, ⟨ku6, ku6_ok, rfl⟩, ⟨ku6, ku6_ok, rfl⟩, ⟨ku6, ku6_ok, rfl⟩, trivial⟩
attribute [go_sem] ka
set_option maxRecDepth 100000 in
set_option maxHeartbeats 3200000 in
theorem iarith_good (a b : Int) (la : (dg 4294967296 a.natAbs).length ≤ 128) (lb : (dg 4294967296 b.natAbs).length ≤ 128) :
    Ret Try.prog 5 false [.inr (gI a), .inr (gI b)] (.c (.b true)) := by
  have la2 := len65 la
  have lb2 := len65 lb
  have l1 := zadd_len (by omega) la2 lb2
  have l2 := zsub_len (by omega) la2 lb2
  have l3 := zmul_len (by omega) la2 lb2
  have l4 := zneg_len lb2
  (refine q_w Try.func5 rfl (Nat.le_of_ble_eq_true rfl) (fun F => ?_); simp only [q_z, q_y, Try.ntmps5, Try.results5])
  repeat' (first|(with_reducible first|apply q_a|apply q_b|apply q_c|apply q_d|apply q_e|apply q_f|apply q_g|apply q_h|apply q_i|apply q_j|apply q_k|apply q_m|apply q_n|apply q_o|apply q_p|refine q_l (by decide) ?_)|((with_reducible first|refine q_q ka_ok fun K hK=>?_|refine q_r ka_ok q_D (by kernel_rfl) fun K hK=>?_);(simp (maxSteps:=2000000) only [go_sem,↓reduceIte,reduceCtorEq,Nat.reduceLeDiff,Nat.reduceLT,Nat.reduceBEq,Nat.reduceAdd,la, lb, ← Int.sub_eq_add_neg]);(repeat1' (with_reducible first|apply And.intro|(intro _;try first|contradiction|(exfalso;omega))|(refine hK _ ?_;clear hK K)))<;>(try (clear hK K;first|omega|assumption|((simp (disch:=omega) only [q_H,q_I]);omega))))|((with_reducible refine q_s (by simp only [go_sem,↓reduceIte,reduceCtorEq,Nat.reduceBEq];rfl) ?_);(with_reducible first|apply q_J|apply q_K|refine q_L ?_ ?_|refine q_M ?_ ?_|refine q_N ?_ ?_|refine q_O ?_ ?_)<;>(try with_reducible (intro _;try first|contradiction|(exfalso;omega))))|with_reducible refine q_t (by simp only [go_sem,↓reduceIte,reduceCtorEq,Nat.reduceBEq,q_u,resO,q_v];rfl) ?_)
  all_goals first | contradiction | omega | exact q_A rfl | exact q_A (by simp [resAV, q_y]) | skip

def kab : Cfg := listT [(13, countsCT), (14, icheckCT), (18, noIntCT), (30, (iB2CT [] [.inr [.b false, .ints .u32 []]])), (16, (iB2CT [] [.inr [.b false, .ints .u32 []]])), (31, (iB2CT [] [.inr [.b false, .ints .u32 []]]))] [27]
theorem kab_ok : TblOk Try.prog kab := listE_ok (by simp only [List.mem_singleton, forall_eq]; exact flt) ⟨⟨kd2, kd2_ok, rfl⟩, ⟨kd2, kd2_ok, rfl⟩, ⟨kd2, kd2_ok, rfl⟩, ⟨kb6, kb6_ok, rfl⟩, ⟨kb6, kb6_ok, rfl⟩, ⟨kb6, kb6_ok, rfl⟩, trivial⟩
attribute [go_sem] kab
set_option maxRecDepth 100000 in
set_option maxHeartbeats 3200000 in
theorem iarith_bad (s t : Bool) (xs ys : List Int) (lx : xs.length ≤ 140737488355328) (ly : ys.length ≤ 140737488355328) (h : okZ s xs = false ∨ okZ s xs = true ∧ okZ t ys = false) :
    Ret Try.prog 5 false [.inr [.b s, .ints .u32 xs], .inr [.b t, .ints .u32 ys]] (.c (.b true)) := by
  rcases h with h1 | ⟨h1, h2⟩
  · (refine q_w Try.func5 rfl (Nat.le_of_ble_eq_true rfl) (fun F => ?_); simp only [q_z, q_y, Try.ntmps5, Try.results5])
    repeat' (first|(with_reducible first|apply q_a|apply q_b|apply q_c|apply q_d|apply q_e|apply q_f|apply q_g|apply q_h|apply q_i|apply q_j|apply q_k|apply q_m|apply q_n|apply q_o|apply q_p|refine q_l (by decide) ?_)|((with_reducible first|refine q_q kab_ok fun K hK=>?_|refine q_r kab_ok q_D (by kernel_rfl) fun K hK=>?_);(simp (maxSteps:=2000000) only [go_sem,↓reduceIte,reduceCtorEq,Nat.reduceLeDiff,Nat.reduceLT,Nat.reduceBEq,Nat.reduceAdd,h1]);(repeat1' (with_reducible first|apply And.intro|(intro _;try first|contradiction|(exfalso;omega))|(refine hK _ ?_;clear hK K)))<;>(try (clear hK K;first|omega|assumption|((simp (disch:=omega) only [q_H,q_I]);omega))))|((with_reducible refine q_s (by simp only [go_sem,↓reduceIte,reduceCtorEq,Nat.reduceBEq];rfl) ?_);(with_reducible first|apply q_J|apply q_K|refine q_L ?_ ?_|refine q_M ?_ ?_|refine q_N ?_ ?_|refine q_O ?_ ?_)<;>(try with_reducible (intro _;try first|contradiction|(exfalso;omega))))|with_reducible refine q_t (by simp only [go_sem,↓reduceIte,reduceCtorEq,Nat.reduceBEq,q_u,resO,q_v];rfl) ?_)
    all_goals first | contradiction | omega | exact q_A rfl | exact q_A (by simp [resAV, q_y]) | skip
  · (refine q_w Try.func5 rfl (Nat.le_of_ble_eq_true rfl) (fun F => ?_); simp only [q_z, q_y, Try.ntmps5, Try.results5])
    repeat' (first|(with_reducible first|apply q_a|apply q_b|apply q_c|apply q_d|apply q_e|apply q_f|apply q_g|apply q_h|apply q_i|apply q_j|apply q_k|apply q_m|apply q_n|apply q_o|apply q_p|refine q_l (by decide) ?_)|((with_reducible first|refine q_q kab_ok fun K hK=>?_|refine q_r kab_ok q_D (by kernel_rfl) fun K hK=>?_);(simp (maxSteps:=2000000) only [go_sem,↓reduceIte,reduceCtorEq,Nat.reduceLeDiff,Nat.reduceLT,Nat.reduceBEq,Nat.reduceAdd,h1, h2]);(repeat1' (with_reducible first|apply And.intro|(intro _;try first|contradiction|(exfalso;omega))|(refine hK _ ?_;clear hK K)))<;>(try (clear hK K;first|omega|assumption|((simp (disch:=omega) only [q_H,q_I]);omega))))|((with_reducible refine q_s (by simp only [go_sem,↓reduceIte,reduceCtorEq,Nat.reduceBEq];rfl) ?_);(with_reducible first|apply q_J|apply q_K|refine q_L ?_ ?_|refine q_M ?_ ?_|refine q_N ?_ ?_|refine q_O ?_ ?_)<;>(try with_reducible (intro _;try first|contradiction|(exfalso;omega))))|with_reducible refine q_t (by simp only [go_sem,↓reduceIte,reduceCtorEq,Nat.reduceBEq,q_u,resO,q_v];rfl) ?_)
    all_goals first | contradiction | omega | exact q_A rfl | exact q_A (by simp [resAV, q_y]) | skip

theorem iarith_ret (s t : Bool) (xs ys : List Int) (lx : xs.length ≤ 140737488355328) (ly : ys.length ≤ 140737488355328) (bx : InB 4294967296 xs) (by_ : InB 4294967296 ys) :
    Ret Try.prog 5 false [.inr [.b s, .ints .u32 xs], .inr [.b t, .ints .u32 ys]] (.c (.b true)) := by
  cases h1 : okZ s xs
  · exact iarith_bad s t xs ys lx ly (.inl h1)
  · cases h2 : okZ t ys
    · exact iarith_bad s t xs ys lx ly (.inr ⟨h1, h2⟩)
    · exact iF2_ret (p := fun _ _ => True) (f := fun _ _ => .c (.b true)) (fun a b _ la lb => iarith_good a b la lb) ⟨h1, bx, h2, by_, trivial⟩

end Go.Proofs.Ythfgapbcdhajiaa
