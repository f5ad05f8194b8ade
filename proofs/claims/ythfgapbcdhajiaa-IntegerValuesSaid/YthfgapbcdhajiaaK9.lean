/- The law IntegerValues: its walk. -/
import Derived.Test.YthfgapbcdhajiaaK5
import Derived.Test.YthfgapbcdhajiaaK2
namespace Go.Proofs.Ythfgapbcdhajiaa
set_option linter.unusedSimpArgs false
set_option linter.unusedVariables false
open Go.Abs Go.Proofs.NatL

/-! ### values -/
def kvt : Cfg := listT [(13, countsCT), (32, yieldsCT), (24, atCT), (14, icheckCT), (23, ivalidCT), (28, intOfCT), (18, noIntCT), (20, sameIntCT), (21, numberCT), (48, onesCT), (34, iminusCT), (47, (rI2CT 4194304 ordF)), (41, ivalidCT), (42, iOfCT), (40, (tot2 gdCmp [.inl (.i .i64 0)])), (43, (tot1 gdSmall [.inl (.i .i64 0)])), (44, (tot1 gdBits [.inl (.i .i64 0)])), (45, (tot1 gdNeg [z0])), (46, (tot1 gdAbs [z0]))] [27]
theorem kvt_ok : TblOk Try.prog kvt := listE_ok (by simp only [List.mem_singleton, forall_eq]; exact flt) ⟨⟨ky9, ky9_ok, rfl⟩, ⟨ky9, ky9_ok, rfl⟩, ⟨ky9, ky9_ok, rfl⟩, ⟨ky9, ky9_ok, rfl⟩, ⟨ky9, ky9_ok, rfl⟩, ⟨ky9, ky9_ok, rfl⟩, ⟨ky9, ky9_ok, rfl⟩, ⟨ky9, ky9_ok, rfl⟩, ⟨ky9, ky9_ok, rfl⟩, ⟨ky9, ky9_ok, rfl⟩, ⟨ky9, ky9_ok, rfl⟩, ⟨ky9, ky9_ok, rfl⟩, ⟨it2, it2_ok, rfl⟩, ⟨iu1, iu1_ok, rfl⟩, ⟨ky9, ky9_ok, rfl⟩, ⟨ky9, ky9_ok, rfl⟩, ⟨ky9, ky9_ok, rfl⟩, ⟨ky9, ky9_ok, rfl⟩, ⟨ky9, ky9_ok, rfl⟩, trivial⟩
attribute [go_sem] kvt
theorem cmpZ_ge (a c : Int) : 0 ≤ cmpZ a c ↔ c ≤ a := by unfold cmpZ; repeat' split <;> omega
theorem cmpZ_le (a c : Int) : cmpZ a c ≤ 0 ↔ a ≤ c := by unfold cmpZ; repeat' split <;> omega
theorem len65_int (n : Int) (h : -9223372036854775808 ≤ n ∧ n ≤ 9223372036854775807) : (dg 65536 n.natAbs).length ≤ 4 := dg_len_le (by omega) _ 4 (by rw [show (65536 : Nat) ^ 4 = 18446744073709551616 from rfl]; omega)
theorem len32_int (n : Int) (h : -9223372036854775808 ≤ n ∧ n ≤ 9223372036854775807) : (dg 4294967296 n.natAbs).length ≤ 2 := dg_len_le (by omega) _ 2 (by rw [show (4294967296 : Nat) ^ 2 = 18446744073709551616 from rfl]; omega)
set_option maxRecDepth 100000 in
set_option maxHeartbeats 6400000 in
theorem vals_bad (s t : Bool) (xs ys : List Int) (n : Int) (lx : xs.length ≤ 140737488355328) (ly : ys.length ≤ 140737488355328) (bx : InB 4294967296 xs) (by_ : InB 4294967296 ys) (hn : -9223372036854775808 ≤ n ∧ n ≤ 9223372036854775807) (h1 : okZ s xs = false) :
    Ret Try.prog 7 false [.inr [.b s, .ints .u32 xs], .inr [.b t, .ints .u32 ys], .inl (.i .i64 n)] (.c (.b true)) := by
  have hsv : sv 4294967296 false [] = 0 := sv0 _ _
  have n1 := len65_int n hn
  have n2 := len32_int n hn
  (refine q_w Try.func7 rfl (Nat.le_of_ble_eq_true rfl) (fun F => ?_); simp only [q_z, q_y, Try.ntmps7, Try.results7])
  repeat' (first|(with_reducible first|apply q_a|apply q_b|apply q_c|apply q_d|apply q_e|apply q_f|apply q_g|apply q_h|apply q_i|apply q_j|apply q_k|apply q_m|apply q_n|apply q_o|apply q_p|refine q_l (by decide) ?_)|((with_reducible first|refine q_q kvt_ok fun K hK=>?_|refine q_r kvt_ok q_D (by kernel_rfl) fun K hK=>?_);(simp (maxSteps:=2000000) only [go_sem,↓reduceIte,reduceCtorEq,Nat.reduceLeDiff,Nat.reduceLT,Nat.reduceBEq,Nat.reduceAdd,h1, hsv, decide_true, decide_false]);(repeat1' (with_reducible first|apply And.intro|(intro _;try first|contradiction|(exfalso;omega))|(refine hK _ ?_;clear hK K)))<;>(try (clear hK K;first|omega|assumption|((simp (disch:=omega) only [q_H,q_I]);omega))))|((with_reducible refine q_s (by simp only [go_sem,↓reduceIte,reduceCtorEq,Nat.reduceBEq];rfl) ?_);(with_reducible first|apply q_J|apply q_K|refine q_L ?_ ?_|refine q_M ?_ ?_|refine q_N ?_ ?_|refine q_O ?_ ?_)<;>(try with_reducible (intro _;try first|contradiction|(exfalso;omega))))|with_reducible refine q_t (by simp only [go_sem,↓reduceIte,reduceCtorEq,Nat.reduceBEq,q_u,resO,q_v];rfl) ?_)
  all_goals first | contradiction | omega | exact q_A rfl | exact q_A (by simp [resAV, q_y]) | skip
set_option maxRecDepth 100000 in
set_option maxHeartbeats 6400000 in
theorem vals_good (a : Int) (t : Bool) (ys : List Int) (n : Int) (la : (dg 4294967296 a.natAbs).length ≤ 128) (ly : ys.length ≤ 140737488355328) (by_ : InB 4294967296 ys) (hn : -9223372036854775808 ≤ n ∧ n ≤ 9223372036854775807) :
    Ret Try.prog 7 false [.inr (gI a), .inr [.b t, .ints .u32 ys], .inl (.i .i64 n)] (.c (.b true)) := by
  have la2 := len65 la
  have hsv : sv 4294967296 false [] = 0 := sv0 _ _
  have n1 := len65_int n hn
  have n2 := len32_int n hn
  have m1 := len65_int (-9223372036854775808) (by omega)
  have m2 := len65_int 9223372036854775807 (by omega)
  have g1 := cmpZ_ge a (-9223372036854775808)
  have g2 := cmpZ_le a 9223372036854775807
  have ln := zneg_len la
  have ln2 := zneg_len la2
  have lab : (dg 4294967296 ((a.natAbs : Int)).natAbs).length ≤ 128 := la
  have lab2 : (dg 65536 ((a.natAbs : Int)).natAbs).length ≤ 256 := la2
  obtain ⟨c1, c2, c3⟩ := cl_fit ln
  obtain ⟨d1, d2, d3⟩ := cl_fit lab
  have hab : ∀ x : Nat, sg false x = (x : Int) := fun x => rfl
  have h65 : sv 65536 false (dg 65536 a.natAbs) = (a.natAbs : Int) := sv_d (by omega) false _
  by_cases hsm : -9223372036854775808 ≤ a ∧ a ≤ 9223372036854775807
  · obtain ⟨e1, e2, e3⟩ := sm_fit hsm
    cases h2 : okZ t ys
    · (refine q_w Try.func7 rfl (Nat.le_of_ble_eq_true rfl) (fun F => ?_); simp only [q_z, q_y, Try.ntmps7, Try.results7])
      repeat' (first|(with_reducible first|apply q_a|apply q_b|apply q_c|apply q_d|apply q_e|apply q_f|apply q_g|apply q_h|apply q_i|apply q_j|apply q_k|apply q_m|apply q_n|apply q_o|apply q_p|refine q_l (by decide) ?_)|((with_reducible first|refine q_q kvt_ok fun K hK=>?_|refine q_r kvt_ok q_D (by kernel_rfl) fun K hK=>?_);(simp (maxSteps:=2000000) only [go_sem,↓reduceIte,reduceCtorEq,Nat.reduceLeDiff,Nat.reduceLT,Nat.reduceBEq,Nat.reduceAdd,la, h2, bs_bl, hsv, c1, c2, c3, d1, d2, d3, e1, e2, e3, hab, h65, decide_true, decide_false]);(repeat1' (with_reducible first|apply And.intro|(intro _;try first|contradiction|(exfalso;omega))|(refine hK _ ?_;clear hK K)))<;>(try (clear hK K;first|omega|assumption|((simp (disch:=omega) only [q_H,q_I]);omega))))|((with_reducible refine q_s (by simp only [go_sem,↓reduceIte,reduceCtorEq,Nat.reduceBEq];rfl) ?_);(with_reducible first|apply q_J|apply q_K|refine q_L ?_ ?_|refine q_M ?_ ?_|refine q_N ?_ ?_|refine q_O ?_ ?_)<;>(try with_reducible (intro _;try first|contradiction|(exfalso;omega))))|with_reducible refine q_t (by simp only [go_sem,↓reduceIte,reduceCtorEq,Nat.reduceBEq,q_u,resO,q_v];rfl) ?_)
      all_goals first | contradiction | omega | exact q_A rfl | exact q_A (by simp [resAV, q_y]) | skip
    · rw [(gI_of' h2 by_).1]
      have lb := (gI_of' h2 by_).2
      generalize sv 4294967296 t ys = b at *
      have lb2 := len65 lb
      (refine q_w Try.func7 rfl (Nat.le_of_ble_eq_true rfl) (fun F => ?_); simp only [q_z, q_y, Try.ntmps7, Try.results7])
      repeat' (first|(with_reducible first|apply q_a|apply q_b|apply q_c|apply q_d|apply q_e|apply q_f|apply q_g|apply q_h|apply q_i|apply q_j|apply q_k|apply q_m|apply q_n|apply q_o|apply q_p|refine q_l (by decide) ?_)|((with_reducible first|refine q_q kvt_ok fun K hK=>?_|refine q_r kvt_ok q_D (by kernel_rfl) fun K hK=>?_);(simp (maxSteps:=2000000) only [go_sem,↓reduceIte,reduceCtorEq,Nat.reduceLeDiff,Nat.reduceLT,Nat.reduceBEq,Nat.reduceAdd,la, lb, bs_bl, hsv, c1, c2, c3, d1, d2, d3, e1, e2, e3, hab, h65, decide_true, decide_false]);(repeat1' (with_reducible first|apply And.intro|(intro _;try first|contradiction|(exfalso;omega))|(refine hK _ ?_;clear hK K)))<;>(try (clear hK K;first|omega|assumption|((simp (disch:=omega) only [q_H,q_I]);omega))))|((with_reducible refine q_s (by simp only [go_sem,↓reduceIte,reduceCtorEq,Nat.reduceBEq];rfl) ?_);(with_reducible first|apply q_J|apply q_K|refine q_L ?_ ?_|refine q_M ?_ ?_|refine q_N ?_ ?_|refine q_O ?_ ?_)<;>(try with_reducible (intro _;try first|contradiction|(exfalso;omega))))|with_reducible refine q_t (by simp only [go_sem,↓reduceIte,reduceCtorEq,Nat.reduceBEq,q_u,resO,q_v];rfl) ?_)
      all_goals first | contradiction | omega | exact q_A rfl | exact q_A (by simp [resAV, q_y]) | skip
  · obtain ⟨e1, e2, e3⟩ := sm_big hsm
    cases h2 : okZ t ys
    · (refine q_w Try.func7 rfl (Nat.le_of_ble_eq_true rfl) (fun F => ?_); simp only [q_z, q_y, Try.ntmps7, Try.results7])
      repeat' (first|(with_reducible first|apply q_a|apply q_b|apply q_c|apply q_d|apply q_e|apply q_f|apply q_g|apply q_h|apply q_i|apply q_j|apply q_k|apply q_m|apply q_n|apply q_o|apply q_p|refine q_l (by decide) ?_)|((with_reducible first|refine q_q kvt_ok fun K hK=>?_|refine q_r kvt_ok q_D (by kernel_rfl) fun K hK=>?_);(simp (maxSteps:=2000000) only [go_sem,↓reduceIte,reduceCtorEq,Nat.reduceLeDiff,Nat.reduceLT,Nat.reduceBEq,Nat.reduceAdd,la, h2, bs_bl, hsv, c1, c2, c3, d1, d2, d3, e1, e2, e3, hab, h65, decide_true, decide_false]);(repeat1' (with_reducible first|apply And.intro|(intro _;try first|contradiction|(exfalso;omega))|(refine hK _ ?_;clear hK K)))<;>(try (clear hK K;first|omega|assumption|((simp (disch:=omega) only [q_H,q_I]);omega))))|((with_reducible refine q_s (by simp only [go_sem,↓reduceIte,reduceCtorEq,Nat.reduceBEq];rfl) ?_);(with_reducible first|apply q_J|apply q_K|refine q_L ?_ ?_|refine q_M ?_ ?_|refine q_N ?_ ?_|refine q_O ?_ ?_)<;>(try with_reducible (intro _;try first|contradiction|(exfalso;omega))))|with_reducible refine q_t (by simp only [go_sem,↓reduceIte,reduceCtorEq,Nat.reduceBEq,q_u,resO,q_v];rfl) ?_)
      all_goals first | contradiction | omega | exact q_A rfl | exact q_A (by simp [resAV, q_y]) | skip
    · rw [(gI_of' h2 by_).1]
      have lb := (gI_of' h2 by_).2
      generalize sv 4294967296 t ys = b at *
      have lb2 := len65 lb
      (refine q_w Try.func7 rfl (Nat.le_of_ble_eq_true rfl) (fun F => ?_); simp only [q_z, q_y, Try.ntmps7, Try.results7])
      repeat' (first|(with_reducible first|apply q_a|apply q_b|apply q_c|apply q_d|apply q_e|apply q_f|apply q_g|apply q_h|apply q_i|apply q_j|apply q_k|apply q_m|apply q_n|apply q_o|apply q_p|refine q_l (by decide) ?_)|((with_reducible first|refine q_q kvt_ok fun K hK=>?_|refine q_r kvt_ok q_D (by kernel_rfl) fun K hK=>?_);(simp (maxSteps:=2000000) only [go_sem,↓reduceIte,reduceCtorEq,Nat.reduceLeDiff,Nat.reduceLT,Nat.reduceBEq,Nat.reduceAdd,la, lb, bs_bl, hsv, c1, c2, c3, d1, d2, d3, e1, e2, e3, hab, h65, decide_true, decide_false]);(repeat1' (with_reducible first|apply And.intro|(intro _;try first|contradiction|(exfalso;omega))|(refine hK _ ?_;clear hK K)))<;>(try (clear hK K;first|omega|assumption|((simp (disch:=omega) only [q_H,q_I]);omega))))|((with_reducible refine q_s (by simp only [go_sem,↓reduceIte,reduceCtorEq,Nat.reduceBEq];rfl) ?_);(with_reducible first|apply q_J|apply q_K|refine q_L ?_ ?_|refine q_M ?_ ?_|refine q_N ?_ ?_|refine q_O ?_ ?_)<;>(try with_reducible (intro _;try first|contradiction|(exfalso;omega))))|with_reducible refine q_t (by simp only [go_sem,↓reduceIte,reduceCtorEq,Nat.reduceBEq,q_u,resO,q_v];rfl) ?_)
      all_goals first | contradiction | omega | exact q_A rfl | exact q_A (by simp [resAV, q_y]) | skip
theorem vals_ret (s t : Bool) (xs ys : List Int) (n : Int) (lx : xs.length ≤ 140737488355328) (ly : ys.length ≤ 140737488355328) (bx : InB 4294967296 xs) (by_ : InB 4294967296 ys) (hn : -9223372036854775808 ≤ n ∧ n ≤ 9223372036854775807) :
    Ret Try.prog 7 false [.inr [.b s, .ints .u32 xs], .inr [.b t, .ints .u32 ys], .inl (.i .i64 n)] (.c (.b true)) := by
  cases h1 : okZ s xs
  · exact vals_bad s t xs ys n lx ly bx by_ hn h1
  · rw [(gI_of' h1 bx).1]
    exact vals_good _ t ys n (gI_of' h1 bx).2 ly by_ hn

end Go.Proofs.Ythfgapbcdhajiaa
