/- The laws IntegerPowers and IntegerPowersMultiply: their walks. -/
import Derived.Test.YthfgapbcdhajiaaK5
import Derived.Test.YthfgapbcdhajiaaK2
import Derived.Test.YthfgapbcdhajiaaJ7
namespace Go.Proofs.Ythfgapbcdhajiaa
set_option linter.unusedSimpArgs false
set_option linter.unusedVariables false
open Go.Abs Go.Proofs.NatL

def kpm : Cfg := listT [(13, countsCT), (14, icheckCT), (18, noIntCT), (17, sameIntsCT), (42, iOfCT), (31, (tot2 gdMul [z0])), (19, (tot2 gdDiv [z0, z0])), (49, (totN gdPow [z0])), (50, pmCT)] [27]
theorem kpm_ok : TblOk Try.prog kpm := listE_ok (by simp only [List.mem_singleton, forall_eq]; exact flt) ⟨⟨ky9, ky9_ok, rfl⟩, ⟨ky9, ky9_ok, rfl⟩, ⟨ky9, ky9_ok, rfl⟩, ⟨ky9, ky9_ok, rfl⟩, ⟨iu1, iu1_ok, rfl⟩, ⟨ky9, ky9_ok, rfl⟩, ⟨ky9, ky9_ok, rfl⟩, ⟨ky9, ky9_ok, rfl⟩, ⟨ky9, ky9_ok, rfl⟩, trivial⟩
attribute [go_sem] kpm
def kpt : Cfg := listT [(13, countsCT), (14, icheckCT), (18, noIntCT)] [27]
theorem kpt_ok : TblOk Try.prog kpt := listT_ok (big := kd2) kd2_ok ⟨rfl, rfl, rfl, trivial⟩
attribute [go_sem] kpt
theorem len_int (n : Int) (h : -9223372036854775808 ≤ n ∧ n ≤ 9223372036854775807) : (dg 4294967296 n.natAbs).length ≤ 2 := dg_len_le (by omega) _ 2 (by rw [show (4294967296 : Nat) ^ 2 = 18446744073709551616 from rfl]; omega)
set_option maxRecDepth 100000 in
set_option maxHeartbeats 6400000 in
theorem pmul_good (a m : Int) (n k : Nat) (la : (dg 4294967296 a.natAbs).length ≤ 128) (hm : 0 < m) (lm : (dg 4294967296 m.natAbs).length ≤ 60) (hn : n ≤ 5000) (hk : k ≤ 5000) :
    Ret Try.prog 11 false [.inr (gI a), .inl (.i .i64 (n : Int)), .inl (.i .i64 (k : Int)), .inr (gI m)] (.c (.b true)) := by
  have lm' := len_of lm 128 (by omega)
  have ln := len_of (len_int n (by omega)) 128 (by omega)
  have lk := len_of (len_int k (by omega)) 128 (by omega)
  have hnk : (n : Int) + (k : Int) = ((n + k : Nat) : Int) := by omega
  have lnk := len_of (len_int ((n + k : Nat) : Int) (by omega)) 128 (by omega)
  have hm0 : (m = 0) = False := eq_false (by omega)
  have hml : (m < 0) = False := eq_false (by omega)
  have pos : ∀ e : Nat, (0 ≤ pm a e m ∧ pm a e m < m) := fun e => pm_nonneg hm e
  have lp : ∀ e : Nat, (dg 4294967296 (pm a e m).natAbs).length ≤ 60 := fun e => Nat.le_trans (dg_len_mono (by omega) (by have := pos e; omega)) lm
  have x1 := len_of (lp n) 128 (by omega)
  have y1 := len_of (lp k) 128 (by omega)
  have z1 := len_of (lp (n + k)) 128 (by omega)
  obtain ⟨c1, c2, c3⟩ := cl_mul (lp n) (lp k) (by omega)
  have lx := len_of (zmul_len (by omega) (lp n) (lp k)) 128 (by omega)
  have hpm : (pm a n m * pm a k m).fmod m = pm a (n + k) m := by rw [pm_add]; exact Int.fmod_eq_emod_of_nonneg _ (by omega)
  have lfd := fdiv_abs (a := pm a n m * pm a k m) (show m ≠ 0 by omega)
  have lq := Nat.le_trans (dg_len_mono (B := 4294967296) (by omega) lfd.1) lx
  have hadd : a ^ n * a ^ k = a ^ (n + k) := (Int.pow_add a n k).symm
  have ea : ∀ e : Nat, pm a ((e : Int)).natAbs m = pm a e m := fun e => rfl
  have clp := cl_len 128 (a ^ n)
  have clq := cl_len 128 (a ^ k)
  have clr := cl_len 128 (a ^ (n + k))
  by_cases hp : (dg 4294967296 (a ^ n).natAbs).length ≤ 128
  · obtain ⟨p1, p2, p3⟩ := cl_fit hp
    by_cases hq : (dg 4294967296 (a ^ k).natAbs).length ≤ 128
    · obtain ⟨q1, q2, q3⟩ := cl_fit hq
      (refine q_w Try.func11 rfl (Nat.le_of_ble_eq_true rfl) (fun F => ?_); simp only [q_z, q_y, Try.ntmps11, Try.results11])
      repeat' (first|(with_reducible first|apply q_a|apply q_b|apply q_c|apply q_d|apply q_e|apply q_f|apply q_g|apply q_h|apply q_i|apply q_j|apply q_k|apply q_m|apply q_n|apply q_o|apply q_p|refine q_l (by decide) ?_)|((with_reducible first|refine q_q kpm_ok fun K hK=>?_|refine q_r kpm_ok q_D (by kernel_rfl) fun K hK=>?_);(simp (maxSteps:=2000000) only [go_sem,↓reduceIte,reduceCtorEq,Nat.reduceLeDiff,Nat.reduceLT,Nat.reduceBEq,Nat.reduceAdd,la, lm', hnk, ln, lk, lnk, x1, y1, z1, c1, c2, c3, lx, hpm, lq, hadd, p1, p2, p3, q1, q2, q3, hp, hq, ea, decide_true, decide_false, Int.toNat_natCast]);(repeat1' (with_reducible first|apply And.intro|(intro _;try first|contradiction|(exfalso;omega))|(refine hK _ ?_;clear hK K)))<;>(try (clear hK K;first|omega|assumption|((simp (disch:=omega) only [q_H,q_I]);omega))))|((with_reducible refine q_s (by simp only [go_sem,↓reduceIte,reduceCtorEq,Nat.reduceBEq];rfl) ?_);(with_reducible first|apply q_J|apply q_K|refine q_L ?_ ?_|refine q_M ?_ ?_|refine q_N ?_ ?_|refine q_O ?_ ?_)<;>(try with_reducible (intro _;try first|contradiction|(exfalso;omega))))|with_reducible refine q_t (by simp only [go_sem,↓reduceIte,reduceCtorEq,Nat.reduceBEq,q_u,resO,q_v];rfl) ?_)
      all_goals first | contradiction | omega | exact q_A rfl | exact q_A (by simp [resAV, q_y]) | skip
    · obtain ⟨q1, q2, q3⟩ := cl_big hq
      obtain ⟨r1, r2, r3⟩ := cl_big (fun h => hq (pow_len (a := a) (k := k) (n := n + k) (by omega) (by omega) h))
      (refine q_w Try.func11 rfl (Nat.le_of_ble_eq_true rfl) (fun F => ?_); simp only [q_z, q_y, Try.ntmps11, Try.results11])
      repeat' (first|(with_reducible first|apply q_a|apply q_b|apply q_c|apply q_d|apply q_e|apply q_f|apply q_g|apply q_h|apply q_i|apply q_j|apply q_k|apply q_m|apply q_n|apply q_o|apply q_p|refine q_l (by decide) ?_)|((with_reducible first|refine q_q kpm_ok fun K hK=>?_|refine q_r kpm_ok q_D (by kernel_rfl) fun K hK=>?_);(simp (maxSteps:=2000000) only [go_sem,↓reduceIte,reduceCtorEq,Nat.reduceLeDiff,Nat.reduceLT,Nat.reduceBEq,Nat.reduceAdd,la, lm', hnk, ln, lk, lnk, x1, y1, z1, c1, c2, c3, lx, hpm, lq, p1, p2, p3, q1, q2, q3, r1, r2, r3, hp, ea, decide_true, decide_false, Int.toNat_natCast]);(repeat1' (with_reducible first|apply And.intro|(intro _;try first|contradiction|(exfalso;omega))|(refine hK _ ?_;clear hK K)))<;>(try (clear hK K;first|omega|assumption|((simp (disch:=omega) only [q_H,q_I]);omega))))|((with_reducible refine q_s (by simp only [go_sem,↓reduceIte,reduceCtorEq,Nat.reduceBEq];rfl) ?_);(with_reducible first|apply q_J|apply q_K|refine q_L ?_ ?_|refine q_M ?_ ?_|refine q_N ?_ ?_|refine q_O ?_ ?_)<;>(try with_reducible (intro _;try first|contradiction|(exfalso;omega))))|with_reducible refine q_t (by simp only [go_sem,↓reduceIte,reduceCtorEq,Nat.reduceBEq,q_u,resO,q_v];rfl) ?_)
      all_goals first | contradiction | omega | exact q_A rfl | exact q_A (by simp [resAV, q_y]) | skip
  · obtain ⟨p1, p2, p3⟩ := cl_big hp
    obtain ⟨r1, r2, r3⟩ := cl_big (fun h => hp (pow_len (a := a) (k := n) (n := n + k) (by omega) (by omega) h))
    (refine q_w Try.func11 rfl (Nat.le_of_ble_eq_true rfl) (fun F => ?_); simp only [q_z, q_y, Try.ntmps11, Try.results11])
    repeat' (first|(with_reducible first|apply q_a|apply q_b|apply q_c|apply q_d|apply q_e|apply q_f|apply q_g|apply q_h|apply q_i|apply q_j|apply q_k|apply q_m|apply q_n|apply q_o|apply q_p|refine q_l (by decide) ?_)|((with_reducible first|refine q_q kpm_ok fun K hK=>?_|refine q_r kpm_ok q_D (by kernel_rfl) fun K hK=>?_);(simp (maxSteps:=2000000) only [go_sem,↓reduceIte,reduceCtorEq,Nat.reduceLeDiff,Nat.reduceLT,Nat.reduceBEq,Nat.reduceAdd,la, lm', hnk, ln, lk, lnk, x1, y1, z1, c1, c2, c3, lx, hpm, lq, p1, p2, p3, r1, r2, r3, ea, decide_true, decide_false, Int.toNat_natCast]);(repeat1' (with_reducible first|apply And.intro|(intro _;try first|contradiction|(exfalso;omega))|(refine hK _ ?_;clear hK K)))<;>(try (clear hK K;first|omega|assumption|((simp (disch:=omega) only [q_H,q_I]);omega))))|((with_reducible refine q_s (by simp only [go_sem,↓reduceIte,reduceCtorEq,Nat.reduceBEq];rfl) ?_);(with_reducible first|apply q_J|apply q_K|refine q_L ?_ ?_|refine q_M ?_ ?_|refine q_N ?_ ?_|refine q_O ?_ ?_)<;>(try with_reducible (intro _;try first|contradiction|(exfalso;omega))))|with_reducible refine q_t (by simp only [go_sem,↓reduceIte,reduceCtorEq,Nat.reduceBEq,q_u,resO,q_v];rfl) ?_)
    all_goals first | contradiction | omega | exact q_A rfl | exact q_A (by simp [resAV, q_y]) | skip
def kpt2 : Cfg := listT [(13, countsCT), (14, icheckCT)] [27]
theorem kpt2_ok : TblOk Try.prog kpt2 := listT_ok (big := kd2) kd2_ok ⟨rfl, rfl, trivial⟩
attribute [go_sem] kpt2
set_option maxRecDepth 100000 in
set_option maxHeartbeats 3200000 in
theorem pmul_triv0 (s t : Bool) (xs ys : List Int) (n k : Int) (lx : xs.length ≤ 140737488355328) (ly : ys.length ≤ 140737488355328) (h : ¬ (okZ s xs = true ∧ okZ t ys = true)) :
    Ret Try.prog 11 false [.inr [.b s, .ints .u32 xs], .inl (.i .i64 n), .inl (.i .i64 k), .inr [.b t, .ints .u32 ys]] (.c (.b true)) := by
  cases h1 : okZ s xs
  · (refine q_w Try.func11 rfl (Nat.le_of_ble_eq_true rfl) (fun F => ?_); simp only [q_z, q_y, Try.ntmps11, Try.results11])
    repeat' (first|(with_reducible first|apply q_a|apply q_b|apply q_c|apply q_d|apply q_e|apply q_f|apply q_g|apply q_h|apply q_i|apply q_j|apply q_k|apply q_m|apply q_n|apply q_o|apply q_p|refine q_l (by decide) ?_)|((with_reducible first|refine q_q kpt2_ok fun K hK=>?_|refine q_r kpt2_ok q_D (by kernel_rfl) fun K hK=>?_);(simp (maxSteps:=2000000) only [go_sem,↓reduceIte,reduceCtorEq,Nat.reduceLeDiff,Nat.reduceLT,Nat.reduceBEq,Nat.reduceAdd,h1]);(repeat1' (with_reducible first|apply And.intro|(intro _;try first|contradiction|(exfalso;omega))|(refine hK _ ?_;clear hK K)))<;>(try (clear hK K;first|omega|assumption|((simp (disch:=omega) only [q_H,q_I]);omega))))|((with_reducible refine q_s (by simp only [go_sem,↓reduceIte,reduceCtorEq,Nat.reduceBEq];rfl) ?_);(with_reducible first|apply q_J|apply q_K|refine q_L ?_ ?_|refine q_M ?_ ?_|refine q_N ?_ ?_|refine q_O ?_ ?_)<;>(try with_reducible (intro _;try first|contradiction|(exfalso;omega))))|with_reducible refine q_t (by simp only [go_sem,↓reduceIte,reduceCtorEq,Nat.reduceBEq,q_u,resO,q_v];rfl) ?_)
    all_goals exact q_A rfl
  cases h2 : okZ t ys
  · (refine q_w Try.func11 rfl (Nat.le_of_ble_eq_true rfl) (fun F => ?_); simp only [q_z, q_y, Try.ntmps11, Try.results11])
    repeat' (first|(with_reducible first|apply q_a|apply q_b|apply q_c|apply q_d|apply q_e|apply q_f|apply q_g|apply q_h|apply q_i|apply q_j|apply q_k|apply q_m|apply q_n|apply q_o|apply q_p|refine q_l (by decide) ?_)|((with_reducible first|refine q_q kpt2_ok fun K hK=>?_|refine q_r kpt2_ok q_D (by kernel_rfl) fun K hK=>?_);(simp (maxSteps:=2000000) only [go_sem,↓reduceIte,reduceCtorEq,Nat.reduceLeDiff,Nat.reduceLT,Nat.reduceBEq,Nat.reduceAdd,h1, h2]);(repeat1' (with_reducible first|apply And.intro|(intro _;try first|contradiction|(exfalso;omega))|(refine hK _ ?_;clear hK K)))<;>(try (clear hK K;first|omega|assumption|((simp (disch:=omega) only [q_H,q_I]);omega))))|((with_reducible refine q_s (by simp only [go_sem,↓reduceIte,reduceCtorEq,Nat.reduceBEq];rfl) ?_);(with_reducible first|apply q_J|apply q_K|refine q_L ?_ ?_|refine q_M ?_ ?_|refine q_N ?_ ?_|refine q_O ?_ ?_)<;>(try with_reducible (intro _;try first|contradiction|(exfalso;omega))))|with_reducible refine q_t (by simp only [go_sem,↓reduceIte,reduceCtorEq,Nat.reduceBEq,q_u,resO,q_v];rfl) ?_)
    all_goals exact q_A rfl
  exact absurd ⟨h1, h2⟩ h
set_option maxRecDepth 100000 in
set_option maxHeartbeats 3200000 in
theorem pmul_triv (a m n k : Int) (la : (dg 4294967296 a.natAbs).length ≤ 128) (lm : (dg 4294967296 m.natAbs).length ≤ 128) (hn : -9223372036854775808 ≤ n ∧ n ≤ 9223372036854775807) (hk : -9223372036854775808 ≤ k ∧ k ≤ 9223372036854775807)
    (h : ¬ (0 < m ∧ (dg 4294967296 m.natAbs).length ≤ 60 ∧ 0 ≤ n ∧ n ≤ 5000 ∧ 0 ≤ k ∧ k ≤ 5000)) :
    Ret Try.prog 11 false [.inr (gI a), .inl (.i .i64 n), .inl (.i .i64 k), .inr (gI m)] (.c (.b true)) := by
  by_cases h1 : m < 0
  · have h1' : decide (m < 0) = true := decide_eq_true h1
    (refine q_w Try.func11 rfl (Nat.le_of_ble_eq_true rfl) (fun F => ?_); simp only [q_z, q_y, Try.ntmps11, Try.results11])
    repeat' (first|(with_reducible first|apply q_a|apply q_b|apply q_c|apply q_d|apply q_e|apply q_f|apply q_g|apply q_h|apply q_i|apply q_j|apply q_k|apply q_m|apply q_n|apply q_o|apply q_p|refine q_l (by decide) ?_)|((with_reducible first|refine q_q kpt_ok fun K hK=>?_|refine q_r kpt_ok q_D (by kernel_rfl) fun K hK=>?_);(simp (maxSteps:=2000000) only [go_sem,↓reduceIte,reduceCtorEq,Nat.reduceLeDiff,Nat.reduceLT,Nat.reduceBEq,Nat.reduceAdd,la, lm, h1', decide_true, decide_false]);(repeat1' (with_reducible first|apply And.intro|(intro _;try first|contradiction|(exfalso;omega))|(refine hK _ ?_;clear hK K)))<;>(try (clear hK K;first|omega|assumption|((simp (disch:=omega) only [q_H,q_I]);omega))))|((with_reducible refine q_s (by simp only [go_sem,↓reduceIte,reduceCtorEq,Nat.reduceBEq];rfl) ?_);(with_reducible first|apply q_J|apply q_K|refine q_L ?_ ?_|refine q_M ?_ ?_|refine q_N ?_ ?_|refine q_O ?_ ?_)<;>(try with_reducible (intro _;try first|contradiction|(exfalso;omega))))|with_reducible refine q_t (by simp only [go_sem,↓reduceIte,reduceCtorEq,Nat.reduceBEq,q_u,resO,q_v];rfl) ?_)
    all_goals first | contradiction | omega | exact q_A rfl | skip
  by_cases h2 : m = 0
  · have h2' : (m = 0) = True := eq_true h2
    (refine q_w Try.func11 rfl (Nat.le_of_ble_eq_true rfl) (fun F => ?_); simp only [q_z, q_y, Try.ntmps11, Try.results11])
    repeat' (first|(with_reducible first|apply q_a|apply q_b|apply q_c|apply q_d|apply q_e|apply q_f|apply q_g|apply q_h|apply q_i|apply q_j|apply q_k|apply q_m|apply q_n|apply q_o|apply q_p|refine q_l (by decide) ?_)|((with_reducible first|refine q_q kpt_ok fun K hK=>?_|refine q_r kpt_ok q_D (by kernel_rfl) fun K hK=>?_);(simp (maxSteps:=2000000) only [go_sem,↓reduceIte,reduceCtorEq,Nat.reduceLeDiff,Nat.reduceLT,Nat.reduceBEq,Nat.reduceAdd,la, lm, h2', decide_true, decide_false]);(repeat1' (with_reducible first|apply And.intro|(intro _;try first|contradiction|(exfalso;omega))|(refine hK _ ?_;clear hK K)))<;>(try (clear hK K;first|omega|assumption|((simp (disch:=omega) only [q_H,q_I]);omega))))|((with_reducible refine q_s (by simp only [go_sem,↓reduceIte,reduceCtorEq,Nat.reduceBEq];rfl) ?_);(with_reducible first|apply q_J|apply q_K|refine q_L ?_ ?_|refine q_M ?_ ?_|refine q_N ?_ ?_|refine q_O ?_ ?_)<;>(try with_reducible (intro _;try first|contradiction|(exfalso;omega))))|with_reducible refine q_t (by simp only [go_sem,↓reduceIte,reduceCtorEq,Nat.reduceBEq,q_u,resO,q_v];rfl) ?_)
    all_goals first | contradiction | omega | exact q_A rfl | skip
  have h3 : ¬ ((dg 4294967296 m.natAbs).length ≤ 60 ∧ 0 ≤ n ∧ n ≤ 5000 ∧ 0 ≤ k ∧ k ≤ 5000) := fun hh => h ⟨by omega, hh⟩
  have h2' : (m = 0) = False := eq_false h2
  (refine q_w Try.func11 rfl (Nat.le_of_ble_eq_true rfl) (fun F => ?_); simp only [q_z, q_y, Try.ntmps11, Try.results11])
  repeat' (first|(with_reducible first|apply q_a|apply q_b|apply q_c|apply q_d|apply q_e|apply q_f|apply q_g|apply q_h|apply q_i|apply q_j|apply q_k|apply q_m|apply q_n|apply q_o|apply q_p|refine q_l (by decide) ?_)|((with_reducible first|refine q_q kpt_ok fun K hK=>?_|refine q_r kpt_ok q_D (by kernel_rfl) fun K hK=>?_);(simp (maxSteps:=2000000) only [go_sem,↓reduceIte,reduceCtorEq,Nat.reduceLeDiff,Nat.reduceLT,Nat.reduceBEq,Nat.reduceAdd,la, lm, h2', decide_true, decide_false]);(repeat1' (with_reducible first|apply And.intro|(intro _;try first|contradiction|(exfalso;omega))|(refine hK _ ?_;clear hK K)))<;>(try (clear hK K;first|omega|assumption|((simp (disch:=omega) only [q_H,q_I]);omega))))|((with_reducible refine q_s (by simp only [go_sem,↓reduceIte,reduceCtorEq,Nat.reduceBEq];rfl) ?_);(with_reducible first|apply q_J|apply q_K|refine q_L ?_ ?_|refine q_M ?_ ?_|refine q_N ?_ ?_|refine q_O ?_ ?_)<;>(try with_reducible (intro _;try first|contradiction|(exfalso;omega))))|with_reducible refine q_t (by simp only [go_sem,↓reduceIte,reduceCtorEq,Nat.reduceBEq,q_u,resO,q_v];rfl) ?_)
  all_goals first | contradiction | omega | exact q_A rfl | skip
theorem pmul_ret (s t : Bool) (xs ys : List Int) (n k : Int) (lx : xs.length ≤ 140737488355328) (ly : ys.length ≤ 140737488355328) (bx : InB 4294967296 xs) (by_ : InB 4294967296 ys) (hn : -9223372036854775808 ≤ n ∧ n ≤ 9223372036854775807) (hk : -9223372036854775808 ≤ k ∧ k ≤ 9223372036854775807) :
    Ret Try.prog 11 false [.inr [.b s, .ints .u32 xs], .inl (.i .i64 n), .inl (.i .i64 k), .inr [.b t, .ints .u32 ys]] (.c (.b true)) := by
  by_cases h : okZ s xs = true ∧ okZ t ys = true
  · obtain ⟨h1, h2⟩ := h
    obtain ⟨e1, l1⟩ := gI_of' h1 bx
    obtain ⟨e2, l2⟩ := gI_of' h2 by_
    rw [e1, e2]
    by_cases g : 0 < sv 4294967296 t ys ∧ (dg 4294967296 (sv 4294967296 t ys).natAbs).length ≤ 60 ∧ 0 ≤ n ∧ n ≤ 5000 ∧ 0 ≤ k ∧ k ≤ 5000
    · obtain ⟨g1, g2, g3, g4, g5, g6⟩ := g
      have := pmul_good (sv 4294967296 s xs) (sv 4294967296 t ys) n.toNat k.toNat l1 g1 g2 (by omega) (by omega)
      rwa [Int.toNat_of_nonneg g3, Int.toNat_of_nonneg g5] at this
    · exact pmul_triv _ _ n k l1 l2 hn hk g
  · exact pmul_triv0 s t xs ys n k lx ly h
end Go.Proofs.Ythfgapbcdhajiaa
