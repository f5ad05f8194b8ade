/- The laws IntegerRing, IntegerDivisors, IntegerBitSums: their walks. -/
import Derived.Test.YthfgapbcdhajiaaK5
import Derived.Test.YthfgapbcdhajiaaK2
namespace Go.Proofs.Ythfgapbcdhajiaa
set_option linter.unusedSimpArgs false
set_option linter.unusedVariables false
open Go.Abs Go.Proofs.NatL

def kr : Cfg := listT [(13, countsCT), (14, icheckCT), (18, noIntCT), (17, sameIntsCT), (42, iOfCT), (30, (tot2 gdAdd [z0])), (16, (tot2 gdSub [z0])), (31, (tot2 gdMul [z0])), (19, (tot2 gdDiv [z0, z0])), (40, (tot2 gdCmp [.inl (.i .i64 0)])), (46, (tot1 gdAbs [z0]))] [27]
theorem kr_ok : TblOk Try.prog kr := listE_ok (by simp only [List.mem_singleton, forall_eq]; exact flt) ⟨⟨ky9, ky9_ok, rfl⟩, ⟨ky9, ky9_ok, rfl⟩, ⟨ky9, ky9_ok, rfl⟩, ⟨ky9, ky9_ok, rfl⟩, ⟨iu1, iu1_ok, rfl⟩, ⟨ky9, ky9_ok, rfl⟩, ⟨ky9, ky9_ok, rfl⟩, ⟨ky9, ky9_ok, rfl⟩, ⟨ky9, ky9_ok, rfl⟩, ⟨ky9, ky9_ok, rfl⟩, ⟨ky9, ky9_ok, rfl⟩, trivial⟩
attribute [go_sem] kr
set_option maxRecDepth 100000 in
set_option maxHeartbeats 6400000 in
theorem iring_good (a b c : Int) (la : (dg 4294967296 a.natAbs).length ≤ 60) (lb : (dg 4294967296 b.natAbs).length ≤ 60) (lc : (dg 4294967296 c.natAbs).length ≤ 60) :
    Ret Try.prog 8 false [.inr (gI a), .inr (gI b), .inr (gI c)] (.c (.b true)) := by
  have la' := len_of la 128 (by omega)
  have lb' := len_of lb 128 (by omega)
  have lc' := len_of lc 128 (by omega)
  obtain ⟨s1, s2, s3⟩ := cl_add la lb (by omega)
  have ls := zadd_len (by omega) la lb
  have ls' := len_of ls 128 (by omega)
  obtain ⟨p1, p2, p3⟩ := cl_mul ls lc (by omega)
  have lp := len_of (zmul_len (by omega) ls lc) 128 (by omega)
  obtain ⟨x1, x2, x3⟩ := cl_mul la lc (by omega)
  have lx := zmul_len (by omega) la lc
  have lx' := len_of lx 128 (by omega)
  obtain ⟨y1, y2, y3⟩ := cl_mul lb lc (by omega)
  have ly := zmul_len (by omega) lb lc
  have ly' := len_of ly 128 (by omega)
  obtain ⟨q1, q2, q3⟩ := cl_add lx ly (by omega)
  obtain ⟨d1, d2, d3⟩ := cl_sub ls (len_of lb 61 (by omega)) (by omega)
  have hd : a + b - b = a := by omega
  rw [hd] at d1 d2 d3
  have hdist : a * c + b * c = (a + b) * c := (Int.add_mul a b c).symm
  by_cases hb : b = 0
  · have hb' : (b = 0) = True := eq_true hb
    (refine q_w Try.func8 rfl (Nat.le_of_ble_eq_true rfl) (fun F => ?_); simp only [q_z, q_y, Try.ntmps8, Try.results8])
    repeat' (first|(with_reducible first|apply q_a|apply q_b|apply q_c|apply q_d|apply q_e|apply q_f|apply q_g|apply q_h|apply q_i|apply q_j|apply q_k|apply q_m|apply q_n|apply q_o|apply q_p|refine q_l (by decide) ?_)|((with_reducible first|refine q_q kr_ok fun K hK=>?_|refine q_r kr_ok q_D (by kernel_rfl) fun K hK=>?_);(simp (maxSteps:=2000000) only [go_sem,↓reduceIte,reduceCtorEq,Nat.reduceLeDiff,Nat.reduceLT,Nat.reduceBEq,Nat.reduceAdd,la', lb', lc', ls', lx', ly', s1, s2, s3, p1, p2, p3, x1, x2, x3, y1, y2, y3, q1, q2, q3, d1, d2, d3, hd, hdist, hb', decide_true, decide_false]);(repeat1' (with_reducible first|apply And.intro|(intro _;try first|contradiction|(exfalso;omega))|(refine hK _ ?_;clear hK K)))<;>(try (clear hK K;first|omega|assumption|((simp (disch:=omega) only [q_H,q_I]);omega))))|((with_reducible refine q_s (by simp only [go_sem,↓reduceIte,reduceCtorEq,Nat.reduceBEq];rfl) ?_);(with_reducible first|apply q_J|apply q_K|refine q_L ?_ ?_|refine q_M ?_ ?_|refine q_N ?_ ?_|refine q_O ?_ ?_)<;>(try with_reducible (intro _;try first|contradiction|(exfalso;omega))))|with_reducible refine q_t (by simp only [go_sem,↓reduceIte,reduceCtorEq,Nat.reduceBEq,q_u,resO,q_v];rfl) ?_)
    all_goals first | contradiction | omega | exact q_A rfl | exact q_A (by simp [resAV, q_y]) | skip
  · have hb' : (b = 0) = False := eq_false hb
    obtain ⟨v1, v2⟩ := fdiv_abs (a := a) hb
    have lq := Nat.le_trans (dg_len_mono (B := 4294967296) (by omega) v1) la
    have lr := Nat.le_trans (dg_len_mono (B := 4294967296) (by omega) v2) lb
    have lq' := len_of lq 128 (by omega)
    have lr' := len_of lr 128 (by omega)
    have hqr : a.fdiv b * b + a.fmod b = a := by rw [Int.mul_comm, Int.add_comm]; exact Int.fmod_add_mul_fdiv a b
    obtain ⟨m1, m2, m3⟩ := cl_mul lq lb (by omega)
    have lm' := len_of (zmul_len (by omega) lq lb) 128 (by omega)
    obtain ⟨a1, a2, a3⟩ := cl_fit (k := 128) la'
    have l0 : (dg 4294967296 (Int.natAbs 0)).length ≤ 128 := by decide
    have lab : (dg 4294967296 ((b.natAbs : Int)).natAbs).length ≤ 128 := lb'
    have lar : (dg 4294967296 (((a.fmod b).natAbs : Int)).natAbs).length ≤ 128 := lr'
    have hlt : (a.fmod b).natAbs < b.natAbs ∧ (0 < b → 0 ≤ a.fmod b) ∧ (b < 0 → a.fmod b ≤ 0) := by
      obtain ⟨x, hx, hx2⟩ := fmod_sign (a := a) hb
      rcases Int.lt_or_gt_of_ne hb with h | h
      · rw [decide_eq_true h, sgt] at hx2; omega
      · rw [decide_eq_false (by omega), sgf] at hx2; omega
    have hc1 : cmpZ ((a.fmod b).natAbs : Int) (b.natAbs : Int) = -1 := by unfold cmpZ; rw [if_pos (by omega)]
    have hc0 : cmpZ 0 (a.fmod b) = 0 ∨ (cmpZ 0 (a.fmod b) = -1 ∧ ¬ b < 0) ∨ (cmpZ 0 (a.fmod b) = 1 ∧ b < 0) := by
      generalize a.fmod b = r at *
      unfold cmpZ
      rcases Int.lt_trichotomy r 0 with h | h | h
      · rw [if_neg (by omega), if_neg (by omega)]; omega
      · subst h; simp
      · rw [if_pos h]; omega
    rcases hc0 with hc0 | ⟨hc0, hbn⟩ | ⟨hc0, hbn⟩
    all_goals
      (refine q_w Try.func8 rfl (Nat.le_of_ble_eq_true rfl) (fun F => ?_); simp only [q_z, q_y, Try.ntmps8, Try.results8])
      repeat' (first|(with_reducible first|apply q_a|apply q_b|apply q_c|apply q_d|apply q_e|apply q_f|apply q_g|apply q_h|apply q_i|apply q_j|apply q_k|apply q_m|apply q_n|apply q_o|apply q_p|refine q_l (by decide) ?_)|((with_reducible first|refine q_q kr_ok fun K hK=>?_|refine q_r kr_ok q_D (by kernel_rfl) fun K hK=>?_);(simp (maxSteps:=2000000) only [go_sem,↓reduceIte,reduceCtorEq,Nat.reduceLeDiff,Nat.reduceLT,Nat.reduceBEq,Nat.reduceAdd,la', lb', lc', ls', lx', ly', s1, s2, s3, p1, p2, p3, x1, x2, x3, y1, y2, y3, q1, q2, q3, d1, d2, d3, hd, hdist, hb', lq', lr', m1, m2, m3, lm', hqr, a1, a2, a3, l0, lab, lar, hc1, hc0, decide_true, decide_false]);(repeat1' (with_reducible first|apply And.intro|(intro _;try first|contradiction|(exfalso;omega))|(refine hK _ ?_;clear hK K)))<;>(try (clear hK K;first|omega|assumption|((simp (disch:=omega) only [q_H,q_I]);omega))))|((with_reducible refine q_s (by simp only [go_sem,↓reduceIte,reduceCtorEq,Nat.reduceBEq];rfl) ?_);(with_reducible first|apply q_J|apply q_K|refine q_L ?_ ?_|refine q_M ?_ ?_|refine q_N ?_ ?_|refine q_O ?_ ?_)<;>(try with_reducible (intro _;try first|contradiction|(exfalso;omega))))|with_reducible refine q_t (by simp only [go_sem,↓reduceIte,reduceCtorEq,Nat.reduceBEq,q_u,resO,q_v];rfl) ?_)
    all_goals first | contradiction | omega | exact q_A rfl | exact q_A (by simp [resAV, q_y, hbn]) | skip
def ktv : Cfg := listT [(13, countsCT), (14, icheckCT)] [27]
theorem ktv_ok : TblOk Try.prog ktv := listT_ok (big := kd2) kd2_ok ⟨rfl, rfl, trivial⟩
attribute [go_sem] ktv
set_option maxHeartbeats 1600000 in
theorem iring_triv (s t u : Bool) (xs ys zs : List Int) (lx : xs.length ≤ 140737488355328) (ly : ys.length ≤ 140737488355328) (lz : zs.length ≤ 140737488355328) (h : ¬ (okZ s xs = true ∧ okZ t ys = true ∧ okZ u zs = true ∧ xs.length ≤ 60 ∧ ys.length ≤ 60 ∧ zs.length ≤ 60)) :
    Ret Try.prog 8 false [.inr [.b s, .ints .u32 xs], .inr [.b t, .ints .u32 ys], .inr [.b u, .ints .u32 zs]] (.c (.b true)) := by
  cases h1 : okZ s xs
  · (refine q_w Try.func8 rfl (Nat.le_of_ble_eq_true rfl) (fun F => ?_); simp only [q_z, q_y, Try.ntmps8, Try.results8])
    repeat' (first|(with_reducible first|apply q_a|apply q_b|apply q_c|apply q_d|apply q_e|apply q_f|apply q_g|apply q_h|apply q_i|apply q_j|apply q_k|apply q_m|apply q_n|apply q_o|apply q_p|refine q_l (by decide) ?_)|((with_reducible first|refine q_q ktv_ok fun K hK=>?_|refine q_r ktv_ok q_D (by kernel_rfl) fun K hK=>?_);(simp (maxSteps:=2000000) only [go_sem,↓reduceIte,reduceCtorEq,Nat.reduceLeDiff,Nat.reduceLT,Nat.reduceBEq,Nat.reduceAdd,h1]);(repeat1' (with_reducible first|apply And.intro|(intro _;try first|contradiction|(exfalso;omega))|(refine hK _ ?_;clear hK K)))<;>(try (clear hK K;first|omega|assumption|((simp (disch:=omega) only [q_H,q_I]);omega))))|((with_reducible refine q_s (by simp only [go_sem,↓reduceIte,reduceCtorEq,Nat.reduceBEq];rfl) ?_);(with_reducible first|apply q_J|apply q_K|refine q_L ?_ ?_|refine q_M ?_ ?_|refine q_N ?_ ?_|refine q_O ?_ ?_)<;>(try with_reducible (intro _;try first|contradiction|(exfalso;omega))))|with_reducible refine q_t (by simp only [go_sem,↓reduceIte,reduceCtorEq,Nat.reduceBEq,q_u,resO,q_v];rfl) ?_)
    all_goals exact q_A rfl
  cases h2 : okZ t ys
  · (refine q_w Try.func8 rfl (Nat.le_of_ble_eq_true rfl) (fun F => ?_); simp only [q_z, q_y, Try.ntmps8, Try.results8])
    repeat' (first|(with_reducible first|apply q_a|apply q_b|apply q_c|apply q_d|apply q_e|apply q_f|apply q_g|apply q_h|apply q_i|apply q_j|apply q_k|apply q_m|apply q_n|apply q_o|apply q_p|refine q_l (by decide) ?_)|((with_reducible first|refine q_q ktv_ok fun K hK=>?_|refine q_r ktv_ok q_D (by kernel_rfl) fun K hK=>?_);(simp (maxSteps:=2000000) only [go_sem,↓reduceIte,reduceCtorEq,Nat.reduceLeDiff,Nat.reduceLT,Nat.reduceBEq,Nat.reduceAdd,h1, h2]);(repeat1' (with_reducible first|apply And.intro|(intro _;try first|contradiction|(exfalso;omega))|(refine hK _ ?_;clear hK K)))<;>(try (clear hK K;first|omega|assumption|((simp (disch:=omega) only [q_H,q_I]);omega))))|((with_reducible refine q_s (by simp only [go_sem,↓reduceIte,reduceCtorEq,Nat.reduceBEq];rfl) ?_);(with_reducible first|apply q_J|apply q_K|refine q_L ?_ ?_|refine q_M ?_ ?_|refine q_N ?_ ?_|refine q_O ?_ ?_)<;>(try with_reducible (intro _;try first|contradiction|(exfalso;omega))))|with_reducible refine q_t (by simp only [go_sem,↓reduceIte,reduceCtorEq,Nat.reduceBEq,q_u,resO,q_v];rfl) ?_)
    all_goals exact q_A rfl
  cases h3 : okZ u zs
  · (refine q_w Try.func8 rfl (Nat.le_of_ble_eq_true rfl) (fun F => ?_); simp only [q_z, q_y, Try.ntmps8, Try.results8])
    repeat' (first|(with_reducible first|apply q_a|apply q_b|apply q_c|apply q_d|apply q_e|apply q_f|apply q_g|apply q_h|apply q_i|apply q_j|apply q_k|apply q_m|apply q_n|apply q_o|apply q_p|refine q_l (by decide) ?_)|((with_reducible first|refine q_q ktv_ok fun K hK=>?_|refine q_r ktv_ok q_D (by kernel_rfl) fun K hK=>?_);(simp (maxSteps:=2000000) only [go_sem,↓reduceIte,reduceCtorEq,Nat.reduceLeDiff,Nat.reduceLT,Nat.reduceBEq,Nat.reduceAdd,h1, h2, h3]);(repeat1' (with_reducible first|apply And.intro|(intro _;try first|contradiction|(exfalso;omega))|(refine hK _ ?_;clear hK K)))<;>(try (clear hK K;first|omega|assumption|((simp (disch:=omega) only [q_H,q_I]);omega))))|((with_reducible refine q_s (by simp only [go_sem,↓reduceIte,reduceCtorEq,Nat.reduceBEq];rfl) ?_);(with_reducible first|apply q_J|apply q_K|refine q_L ?_ ?_|refine q_M ?_ ?_|refine q_N ?_ ?_|refine q_O ?_ ?_)<;>(try with_reducible (intro _;try first|contradiction|(exfalso;omega))))|with_reducible refine q_t (by simp only [go_sem,↓reduceIte,reduceCtorEq,Nat.reduceBEq,q_u,resO,q_v];rfl) ?_)
    all_goals exact q_A rfl
  have h4 : ¬ (xs.length ≤ 60 ∧ ys.length ≤ 60 ∧ zs.length ≤ 60) := fun hh => h ⟨h1, h2, h3, hh⟩
  (refine q_w Try.func8 rfl (Nat.le_of_ble_eq_true rfl) (fun F => ?_); simp only [q_z, q_y, Try.ntmps8, Try.results8])
  repeat' (first|(with_reducible first|apply q_a|apply q_b|apply q_c|apply q_d|apply q_e|apply q_f|apply q_g|apply q_h|apply q_i|apply q_j|apply q_k|apply q_m|apply q_n|apply q_o|apply q_p|refine q_l (by decide) ?_)|((with_reducible first|refine q_q ktv_ok fun K hK=>?_|refine q_r ktv_ok q_D (by kernel_rfl) fun K hK=>?_);(simp (maxSteps:=2000000) only [go_sem,↓reduceIte,reduceCtorEq,Nat.reduceLeDiff,Nat.reduceLT,Nat.reduceBEq,Nat.reduceAdd,h1, h2, h3]);(repeat1' (with_reducible first|apply And.intro|(intro _;try first|contradiction|(exfalso;omega))|(refine hK _ ?_;clear hK K)))<;>(try (clear hK K;first|omega|assumption|((simp (disch:=omega) only [q_H,q_I]);omega))))|((with_reducible refine q_s (by simp only [go_sem,↓reduceIte,reduceCtorEq,Nat.reduceBEq];rfl) ?_);(with_reducible first|apply q_J|apply q_K|refine q_L ?_ ?_|refine q_M ?_ ?_|refine q_N ?_ ?_|refine q_O ?_ ?_)<;>(try with_reducible (intro _;try first|contradiction|(exfalso;omega))))|with_reducible refine q_t (by simp only [go_sem,↓reduceIte,reduceCtorEq,Nat.reduceBEq,q_u,resO,q_v];rfl) ?_)
  all_goals exact q_A rfl
theorem iring_ret (s t u : Bool) (xs ys zs : List Int) (lx : xs.length ≤ 140737488355328) (ly : ys.length ≤ 140737488355328) (lz : zs.length ≤ 140737488355328) (bx : InB 4294967296 xs) (by_ : InB 4294967296 ys) (bz : InB 4294967296 zs) :
    Ret Try.prog 8 false [.inr [.b s, .ints .u32 xs], .inr [.b t, .ints .u32 ys], .inr [.b u, .ints .u32 zs]] (.c (.b true)) := by
  by_cases h : okZ s xs = true ∧ okZ t ys = true ∧ okZ u zs = true ∧ xs.length ≤ 60 ∧ ys.length ≤ 60 ∧ zs.length ≤ 60
  · obtain ⟨h1, h2, h3, h4, h5, h6⟩ := h
    obtain ⟨-, a2, -⟩ := okZ_eq h1 bx
    obtain ⟨-, b2, -⟩ := okZ_eq h2 by_
    obtain ⟨-, c2, -⟩ := okZ_eq h3 bz
    rw [(gI_of' h1 bx).1, (gI_of' h2 by_).1, (gI_of' h3 bz).1]
    exact iring_good _ _ _ (by rw [← a2]; exact h4) (by rw [← b2]; exact h5) (by rw [← c2]; exact h6)
  · exact iring_triv s t u xs ys zs lx ly lz h

/-! ### divisors -/
def kdv : Cfg := listT [(13, countsCT), (14, icheckCT), (18, noIntCT), (17, sameIntsCT), (20, sameIntCT), (21, numberCT), (16, (tot2 gdSub [z0])), (19, (tot2 gdDiv [z0, z0])), (15, (tot2 gdGcd [z0]))] [27]
theorem kdv_ok : TblOk Try.prog kdv := listE_ok (by simp only [List.mem_singleton, forall_eq]; exact flt) ⟨⟨ky9, ky9_ok, rfl⟩, ⟨ky9, ky9_ok, rfl⟩, ⟨ky9, ky9_ok, rfl⟩, ⟨ky9, ky9_ok, rfl⟩, ⟨ky9, ky9_ok, rfl⟩, ⟨ky9, ky9_ok, rfl⟩, ⟨ky9, ky9_ok, rfl⟩, ⟨ky9, ky9_ok, rfl⟩, ⟨ky9, ky9_ok, rfl⟩, trivial⟩
attribute [go_sem] kdv
set_option maxRecDepth 100000 in
set_option maxHeartbeats 6400000 in
theorem idvs_good (a b : Int) (la : (dg 4294967296 a.natAbs).length ≤ 60) (lb : (dg 4294967296 b.natAbs).length ≤ 60) :
    Ret Try.prog 3 false [.inr (gI a), .inr (gI b)] (.c (.b true)) := by
  have la' := len_of la 128 (by omega)
  have lb' := len_of lb 128 (by omega)
  obtain ⟨d1, d2, d3⟩ := cl_sub la lb (by omega)
  have ld := len_of (zsub_len (by omega) la lb) 128 (by omega)
  obtain ⟨g, hg⟩ : ∃ g : Nat, g = Nat.gcd a.natAbs b.natAbs := ⟨_, rfl⟩
  have lg : (dg 4294967296 ((g : Int)).natAbs).length ≤ 61 := by
    rw [hg]; exact Nat.le_trans (dg_len_mono (B := 4294967296) (by omega) (gcd_le_add a.natAbs b.natAbs)) (add_len (by omega) la lb)
  have lg' := len_of lg 128 (by omega)
  have hge : Nat.gcd (a - b).natAbs b.natAbs = g := by
    rw [hg]; exact Int.gcd_sub_self_left b a
  have hnn : ((g : Int) < 0) = False := eq_false (by omega)
  by_cases h0 : g = 0
  · have hz := (Nat.gcd_eq_zero_iff.1 (hg ▸ h0) : a.natAbs = 0 ∧ b.natAbs = 0)
    have ha : (a = 0) = True := eq_true (by omega)
    have hb : (b = 0) = True := eq_true (by omega)
    have hg0 : ((g : Int) = 0) = True := eq_true (by omega)
    (refine q_w Try.func3 rfl (Nat.le_of_ble_eq_true rfl) (fun F => ?_); simp only [q_z, q_y, Try.ntmps3, Try.results3])
    repeat' (first|(with_reducible first|apply q_a|apply q_b|apply q_c|apply q_d|apply q_e|apply q_f|apply q_g|apply q_h|apply q_i|apply q_j|apply q_k|apply q_m|apply q_n|apply q_o|apply q_p|refine q_l (by decide) ?_)|((with_reducible first|refine q_q kdv_ok fun K hK=>?_|refine q_r kdv_ok q_D (by kernel_rfl) fun K hK=>?_);(simp (maxSteps:=2000000) only [go_sem,↓reduceIte,reduceCtorEq,Nat.reduceLeDiff,Nat.reduceLT,Nat.reduceBEq,Nat.reduceAdd,la', lb', d1, d2, d3, ld, hge, ← hg, lg', ha, hb, hg0, decide_true, decide_false]);(repeat1' (with_reducible first|apply And.intro|(intro _;try first|contradiction|(exfalso;omega))|(refine hK _ ?_;clear hK K)))<;>(try (clear hK K;first|omega|assumption|((simp (disch:=omega) only [q_H,q_I]);omega))))|((with_reducible refine q_s (by simp only [go_sem,↓reduceIte,reduceCtorEq,Nat.reduceBEq];rfl) ?_);(with_reducible first|apply q_J|apply q_K|refine q_L ?_ ?_|refine q_M ?_ ?_|refine q_N ?_ ?_|refine q_O ?_ ?_)<;>(try with_reducible (intro _;try first|contradiction|(exfalso;omega))))|with_reducible refine q_t (by simp only [go_sem,↓reduceIte,reduceCtorEq,Nat.reduceBEq,q_u,resO,q_v];rfl) ?_)
    all_goals first | contradiction | omega | exact q_A rfl | exact q_A (by simp [resAV, q_y]) | skip
  · have hg0 : ((g : Int) = 0) = False := eq_false (by omega)
    have hga : g ∣ a.natAbs := hg ▸ Nat.gcd_dvd_left _ _
    have hgb : g ∣ b.natAbs := hg ▸ Nat.gcd_dvd_right _ _
    obtain ⟨p, hp⟩ : (g : Int) ∣ a := Int.ofNat_dvd_left.2 hga
    obtain ⟨q, hq⟩ : (g : Int) ∣ b := Int.ofNat_dvd_left.2 hgb
    have p1 : a.fdiv g = p := by rw [hp]; exact Int.mul_fdiv_cancel_left _ (by omega)
    have p2 : a.fmod g = 0 := by rw [hp]; exact Int.mul_fmod_right _ _
    have q1 : b.fdiv g = q := by rw [hq]; exact Int.mul_fdiv_cancel_left _ (by omega)
    have q2 : b.fmod g = 0 := by rw [hq]; exact Int.mul_fmod_right _ _
    have hgi : ((g : Int)) ≠ 0 := by omega
    have lp := Nat.le_trans (dg_len_mono (B := 4294967296) (by omega) (fdiv_abs (a := a) hgi).1) la'
    have lq := Nat.le_trans (dg_len_mono (B := 4294967296) (by omega) (fdiv_abs (a := b) hgi).1) lb'
    rw [p1] at lp
    rw [q1] at lq
    have hone : Nat.gcd p.natAbs q.natAbs = 1 := by
      have e1 : a.natAbs = g * p.natAbs := by rw [hp, Int.natAbs_mul]; rfl
      have e2 : b.natAbs = g * q.natAbs := by rw [hq, Int.natAbs_mul]; rfl
      rw [e1, e2, Nat.gcd_mul_left] at hg
      have : g * 1 = g * Nat.gcd p.natAbs q.natAbs := by omega
      exact (Nat.eq_of_mul_eq_mul_left (by omega) this).symm
    have l1 : (dg 4294967296 (((1 : Nat) : Int)).natAbs).length ≤ 128 := by decide
    have l0 : (dg 4294967296 (Int.natAbs 0)).length ≤ 128 := by decide
    have l65 : (dg 65536 (Int.natAbs 1)).length ≤ 128 := by decide
    (refine q_w Try.func3 rfl (Nat.le_of_ble_eq_true rfl) (fun F => ?_); simp only [q_z, q_y, Try.ntmps3, Try.results3])
    repeat' (first|(with_reducible first|apply q_a|apply q_b|apply q_c|apply q_d|apply q_e|apply q_f|apply q_g|apply q_h|apply q_i|apply q_j|apply q_k|apply q_m|apply q_n|apply q_o|apply q_p|refine q_l (by decide) ?_)|((with_reducible first|refine q_q kdv_ok fun K hK=>?_|refine q_r kdv_ok q_D (by kernel_rfl) fun K hK=>?_);(simp (maxSteps:=2000000) only [go_sem,↓reduceIte,reduceCtorEq,Nat.reduceLeDiff,Nat.reduceLT,Nat.reduceBEq,Nat.reduceAdd,la', lb', d1, d2, d3, ld, hge, ← hg, lg', hg0, p1, p2, q1, q2, lp, lq, hone, l1, l0, l65, decide_true, decide_false]);(repeat1' (with_reducible first|apply And.intro|(intro _;try first|contradiction|(exfalso;omega))|(refine hK _ ?_;clear hK K)))<;>(try (clear hK K;first|omega|assumption|((simp (disch:=omega) only [q_H,q_I]);omega))))|((with_reducible refine q_s (by simp only [go_sem,↓reduceIte,reduceCtorEq,Nat.reduceBEq];rfl) ?_);(with_reducible first|apply q_J|apply q_K|refine q_L ?_ ?_|refine q_M ?_ ?_|refine q_N ?_ ?_|refine q_O ?_ ?_)<;>(try with_reducible (intro _;try first|contradiction|(exfalso;omega))))|with_reducible refine q_t (by simp only [go_sem,↓reduceIte,reduceCtorEq,Nat.reduceBEq,q_u,resO,q_v];rfl) ?_)
    all_goals first | contradiction | omega | exact q_A rfl | exact q_A (by simp [resAV, q_y]) | skip
set_option maxHeartbeats 1600000 in
theorem idvs_triv (s t : Bool) (xs ys : List Int) (lx : xs.length ≤ 140737488355328) (ly : ys.length ≤ 140737488355328) (h : ¬ (okZ s xs = true ∧ okZ t ys = true ∧ xs.length ≤ 60 ∧ ys.length ≤ 60)) :
    Ret Try.prog 3 false [.inr [.b s, .ints .u32 xs], .inr [.b t, .ints .u32 ys]] (.c (.b true)) := by
  cases h1 : okZ s xs
  · (refine q_w Try.func3 rfl (Nat.le_of_ble_eq_true rfl) (fun F => ?_); simp only [q_z, q_y, Try.ntmps3, Try.results3])
    repeat' (first|(with_reducible first|apply q_a|apply q_b|apply q_c|apply q_d|apply q_e|apply q_f|apply q_g|apply q_h|apply q_i|apply q_j|apply q_k|apply q_m|apply q_n|apply q_o|apply q_p|refine q_l (by decide) ?_)|((with_reducible first|refine q_q ktv_ok fun K hK=>?_|refine q_r ktv_ok q_D (by kernel_rfl) fun K hK=>?_);(simp (maxSteps:=2000000) only [go_sem,↓reduceIte,reduceCtorEq,Nat.reduceLeDiff,Nat.reduceLT,Nat.reduceBEq,Nat.reduceAdd,h1]);(repeat1' (with_reducible first|apply And.intro|(intro _;try first|contradiction|(exfalso;omega))|(refine hK _ ?_;clear hK K)))<;>(try (clear hK K;first|omega|assumption|((simp (disch:=omega) only [q_H,q_I]);omega))))|((with_reducible refine q_s (by simp only [go_sem,↓reduceIte,reduceCtorEq,Nat.reduceBEq];rfl) ?_);(with_reducible first|apply q_J|apply q_K|refine q_L ?_ ?_|refine q_M ?_ ?_|refine q_N ?_ ?_|refine q_O ?_ ?_)<;>(try with_reducible (intro _;try first|contradiction|(exfalso;omega))))|with_reducible refine q_t (by simp only [go_sem,↓reduceIte,reduceCtorEq,Nat.reduceBEq,q_u,resO,q_v];rfl) ?_)
    all_goals exact q_A rfl
  cases h2 : okZ t ys
  · (refine q_w Try.func3 rfl (Nat.le_of_ble_eq_true rfl) (fun F => ?_); simp only [q_z, q_y, Try.ntmps3, Try.results3])
    repeat' (first|(with_reducible first|apply q_a|apply q_b|apply q_c|apply q_d|apply q_e|apply q_f|apply q_g|apply q_h|apply q_i|apply q_j|apply q_k|apply q_m|apply q_n|apply q_o|apply q_p|refine q_l (by decide) ?_)|((with_reducible first|refine q_q ktv_ok fun K hK=>?_|refine q_r ktv_ok q_D (by kernel_rfl) fun K hK=>?_);(simp (maxSteps:=2000000) only [go_sem,↓reduceIte,reduceCtorEq,Nat.reduceLeDiff,Nat.reduceLT,Nat.reduceBEq,Nat.reduceAdd,h1, h2]);(repeat1' (with_reducible first|apply And.intro|(intro _;try first|contradiction|(exfalso;omega))|(refine hK _ ?_;clear hK K)))<;>(try (clear hK K;first|omega|assumption|((simp (disch:=omega) only [q_H,q_I]);omega))))|((with_reducible refine q_s (by simp only [go_sem,↓reduceIte,reduceCtorEq,Nat.reduceBEq];rfl) ?_);(with_reducible first|apply q_J|apply q_K|refine q_L ?_ ?_|refine q_M ?_ ?_|refine q_N ?_ ?_|refine q_O ?_ ?_)<;>(try with_reducible (intro _;try first|contradiction|(exfalso;omega))))|with_reducible refine q_t (by simp only [go_sem,↓reduceIte,reduceCtorEq,Nat.reduceBEq,q_u,resO,q_v];rfl) ?_)
    all_goals exact q_A rfl
  have h4 : ¬ (xs.length ≤ 60 ∧ ys.length ≤ 60) := fun hh => h ⟨h1, h2, hh⟩
  (refine q_w Try.func3 rfl (Nat.le_of_ble_eq_true rfl) (fun F => ?_); simp only [q_z, q_y, Try.ntmps3, Try.results3])
  repeat' (first|(with_reducible first|apply q_a|apply q_b|apply q_c|apply q_d|apply q_e|apply q_f|apply q_g|apply q_h|apply q_i|apply q_j|apply q_k|apply q_m|apply q_n|apply q_o|apply q_p|refine q_l (by decide) ?_)|((with_reducible first|refine q_q ktv_ok fun K hK=>?_|refine q_r ktv_ok q_D (by kernel_rfl) fun K hK=>?_);(simp (maxSteps:=2000000) only [go_sem,↓reduceIte,reduceCtorEq,Nat.reduceLeDiff,Nat.reduceLT,Nat.reduceBEq,Nat.reduceAdd,h1, h2]);(repeat1' (with_reducible first|apply And.intro|(intro _;try first|contradiction|(exfalso;omega))|(refine hK _ ?_;clear hK K)))<;>(try (clear hK K;first|omega|assumption|((simp (disch:=omega) only [q_H,q_I]);omega))))|((with_reducible refine q_s (by simp only [go_sem,↓reduceIte,reduceCtorEq,Nat.reduceBEq];rfl) ?_);(with_reducible first|apply q_J|apply q_K|refine q_L ?_ ?_|refine q_M ?_ ?_|refine q_N ?_ ?_|refine q_O ?_ ?_)<;>(try with_reducible (intro _;try first|contradiction|(exfalso;omega))))|with_reducible refine q_t (by simp only [go_sem,↓reduceIte,reduceCtorEq,Nat.reduceBEq,q_u,resO,q_v];rfl) ?_)
  all_goals exact q_A rfl
set_option maxHeartbeats 1600000 in
theorem ibsm_triv (s t : Bool) (xs ys : List Int) (lx : xs.length ≤ 140737488355328) (ly : ys.length ≤ 140737488355328) (h : ¬ (okZ s xs = true ∧ okZ t ys = true ∧ xs.length ≤ 120 ∧ ys.length ≤ 120)) :
    Ret Try.prog 12 false [.inr [.b s, .ints .u32 xs], .inr [.b t, .ints .u32 ys]] (.c (.b true)) := by
  cases h1 : okZ s xs
  · (refine q_w Try.func12 rfl (Nat.le_of_ble_eq_true rfl) (fun F => ?_); simp only [q_z, q_y, Try.ntmps12, Try.results12])
    repeat' (first|(with_reducible first|apply q_a|apply q_b|apply q_c|apply q_d|apply q_e|apply q_f|apply q_g|apply q_h|apply q_i|apply q_j|apply q_k|apply q_m|apply q_n|apply q_o|apply q_p|refine q_l (by decide) ?_)|((with_reducible first|refine q_q ktv_ok fun K hK=>?_|refine q_r ktv_ok q_D (by kernel_rfl) fun K hK=>?_);(simp (maxSteps:=2000000) only [go_sem,↓reduceIte,reduceCtorEq,Nat.reduceLeDiff,Nat.reduceLT,Nat.reduceBEq,Nat.reduceAdd,h1]);(repeat1' (with_reducible first|apply And.intro|(intro _;try first|contradiction|(exfalso;omega))|(refine hK _ ?_;clear hK K)))<;>(try (clear hK K;first|omega|assumption|((simp (disch:=omega) only [q_H,q_I]);omega))))|((with_reducible refine q_s (by simp only [go_sem,↓reduceIte,reduceCtorEq,Nat.reduceBEq];rfl) ?_);(with_reducible first|apply q_J|apply q_K|refine q_L ?_ ?_|refine q_M ?_ ?_|refine q_N ?_ ?_|refine q_O ?_ ?_)<;>(try with_reducible (intro _;try first|contradiction|(exfalso;omega))))|with_reducible refine q_t (by simp only [go_sem,↓reduceIte,reduceCtorEq,Nat.reduceBEq,q_u,resO,q_v];rfl) ?_)
    all_goals exact q_A rfl
  cases h2 : okZ t ys
  · (refine q_w Try.func12 rfl (Nat.le_of_ble_eq_true rfl) (fun F => ?_); simp only [q_z, q_y, Try.ntmps12, Try.results12])
    repeat' (first|(with_reducible first|apply q_a|apply q_b|apply q_c|apply q_d|apply q_e|apply q_f|apply q_g|apply q_h|apply q_i|apply q_j|apply q_k|apply q_m|apply q_n|apply q_o|apply q_p|refine q_l (by decide) ?_)|((with_reducible first|refine q_q ktv_ok fun K hK=>?_|refine q_r ktv_ok q_D (by kernel_rfl) fun K hK=>?_);(simp (maxSteps:=2000000) only [go_sem,↓reduceIte,reduceCtorEq,Nat.reduceLeDiff,Nat.reduceLT,Nat.reduceBEq,Nat.reduceAdd,h1, h2]);(repeat1' (with_reducible first|apply And.intro|(intro _;try first|contradiction|(exfalso;omega))|(refine hK _ ?_;clear hK K)))<;>(try (clear hK K;first|omega|assumption|((simp (disch:=omega) only [q_H,q_I]);omega))))|((with_reducible refine q_s (by simp only [go_sem,↓reduceIte,reduceCtorEq,Nat.reduceBEq];rfl) ?_);(with_reducible first|apply q_J|apply q_K|refine q_L ?_ ?_|refine q_M ?_ ?_|refine q_N ?_ ?_|refine q_O ?_ ?_)<;>(try with_reducible (intro _;try first|contradiction|(exfalso;omega))))|with_reducible refine q_t (by simp only [go_sem,↓reduceIte,reduceCtorEq,Nat.reduceBEq,q_u,resO,q_v];rfl) ?_)
    all_goals exact q_A rfl
  have h4 : ¬ (xs.length ≤ 120 ∧ ys.length ≤ 120) := fun hh => h ⟨h1, h2, hh⟩
  (refine q_w Try.func12 rfl (Nat.le_of_ble_eq_true rfl) (fun F => ?_); simp only [q_z, q_y, Try.ntmps12, Try.results12])
  repeat' (first|(with_reducible first|apply q_a|apply q_b|apply q_c|apply q_d|apply q_e|apply q_f|apply q_g|apply q_h|apply q_i|apply q_j|apply q_k|apply q_m|apply q_n|apply q_o|apply q_p|refine q_l (by decide) ?_)|((with_reducible first|refine q_q ktv_ok fun K hK=>?_|refine q_r ktv_ok q_D (by kernel_rfl) fun K hK=>?_);(simp (maxSteps:=2000000) only [go_sem,↓reduceIte,reduceCtorEq,Nat.reduceLeDiff,Nat.reduceLT,Nat.reduceBEq,Nat.reduceAdd,h1, h2]);(repeat1' (with_reducible first|apply And.intro|(intro _;try first|contradiction|(exfalso;omega))|(refine hK _ ?_;clear hK K)))<;>(try (clear hK K;first|omega|assumption|((simp (disch:=omega) only [q_H,q_I]);omega))))|((with_reducible refine q_s (by simp only [go_sem,↓reduceIte,reduceCtorEq,Nat.reduceBEq];rfl) ?_);(with_reducible first|apply q_J|apply q_K|refine q_L ?_ ?_|refine q_M ?_ ?_|refine q_N ?_ ?_|refine q_O ?_ ?_)<;>(try with_reducible (intro _;try first|contradiction|(exfalso;omega))))|with_reducible refine q_t (by simp only [go_sem,↓reduceIte,reduceCtorEq,Nat.reduceBEq,q_u,resO,q_v];rfl) ?_)
  all_goals exact q_A rfl
/-! ### bits of sums -/
def kbs : Cfg := listT [(13, countsCT), (14, icheckCT), (17, sameIntsCT), (30, (tot2 gdAdd [z0])), (54, (tot2 gdAnd [z0])), (55, (tot2 gdOr [z0])), (56, (tot2 gdXor [z0])), (57, (tot1 gdNot [z0])), (58, (totN gdShift [z0]))] [27]
theorem kbs_ok : TblOk Try.prog kbs := listE_ok (by simp only [List.mem_singleton, forall_eq]; exact flt) ⟨⟨ky9, ky9_ok, rfl⟩, ⟨ky9, ky9_ok, rfl⟩, ⟨ky9, ky9_ok, rfl⟩, ⟨ky9, ky9_ok, rfl⟩, ⟨ky9, ky9_ok, rfl⟩, ⟨ky9, ky9_ok, rfl⟩, ⟨ky9, ky9_ok, rfl⟩, ⟨ky9, ky9_ok, rfl⟩, ⟨ky9, ky9_ok, rfl⟩, trivial⟩
attribute [go_sem] kbs
set_option maxRecDepth 100000 in
set_option maxHeartbeats 6400000 in
theorem ibsm_good (a b : Int) (la : (dg 4294967296 a.natAbs).length ≤ 120) (lb : (dg 4294967296 b.natAbs).length ≤ 120) :
    Ret Try.prog 12 false [.inr (gI a), .inr (gI b)] (.c (.b true)) := by
  have la' := len_of la 128 (by omega)
  have lb' := len_of lb 128 (by omega)
  have fa := fitK_len la
  have fb := fitK_len lb
  have x1 := len_fit (zop_fit xorOp fa fb)
  have y1 := len_fit (zop_fit andOp fa fb)
  have o1 := len_fit (zop_fit orOp fa fb)
  have n1 := len_fit (zop_fit andOp (fitK_not fa) (fitK_not fb))
  have na := len_fit (fitK_not fa)
  have nb := len_fit (fitK_not fb)
  have hs := zop_sum a b
  have hn := zop_not a b
  have ex : zXor a b = zop (fun x y => x ^^^ y) a b := rfl
  have ea : zAnd a b = zop (fun x y => x &&& y) a b := rfl
  have eo : zOr a b = zop (fun x y => x ||| y) a b := rfl
  have en : zAnd (-a - 1) (-b - 1) = zop (fun x y => x &&& y) (-a - 1) (-b - 1) := rfl
  rw [← ex] at x1 hs
  rw [← ea] at y1 hs
  rw [← eo] at o1 hn
  rw [← en] at n1 hn
  have hsh : shZ (zAnd a b) 1 = 2 * zAnd a b := by unfold shZ; rw [if_neg (by omega), show (2 ^ (Int.toNat 1) : Nat) = 2 from rfl]; omega
  have l2 : (dg 4294967296 (2 * zAnd a b).natAbs).length ≤ 122 := by
    rw [Int.two_mul]; exact zadd_len (by omega) y1 y1
  have ls := zadd_len (by omega) la lb
  obtain ⟨c1, c2, c3⟩ := cl_fit (len_of x1 128 (by omega))
  obtain ⟨c4, c5, c6⟩ := cl_fit (len_of y1 128 (by omega))
  obtain ⟨c7, c8, c9⟩ := cl_fit (len_of l2 128 (by omega))
  obtain ⟨b1, b2, b3⟩ := cl_fit (len_of ls 128 (by omega))
  obtain ⟨a1, a2, a3⟩ := cl_fit (len_of na 128 (by omega))
  obtain ⟨a4, a5, a6⟩ := cl_fit (len_of nb 128 (by omega))
  obtain ⟨a7, a8, a9⟩ := cl_fit (len_of n1 128 (by omega))
  obtain ⟨b4, b5, b6⟩ := cl_fit (len_of o1 128 (by omega))
  have m1 := len_of x1 128 (by omega)
  have m2 := len_of y1 128 (by omega)
  have m3 := len_of l2 128 (by omega)
  have m4 := len_of na 128 (by omega)
  have m5 := len_of nb 128 (by omega)
  have m6 := len_of n1 128 (by omega)
  have m7 := len_of o1 128 (by omega)
  have m8 := len_of ls 128 (by omega)
  (refine q_w Try.func12 rfl (Nat.le_of_ble_eq_true rfl) (fun F => ?_); simp only [q_z, q_y, Try.ntmps12, Try.results12])
  repeat' (first|(with_reducible first|apply q_a|apply q_b|apply q_c|apply q_d|apply q_e|apply q_f|apply q_g|apply q_h|apply q_i|apply q_j|apply q_k|apply q_m|apply q_n|apply q_o|apply q_p|refine q_l (by decide) ?_)|((with_reducible first|refine q_q kbs_ok fun K hK=>?_|refine q_r kbs_ok q_D (by kernel_rfl) fun K hK=>?_);(simp (maxSteps:=2000000) only [go_sem,↓reduceIte,reduceCtorEq,Nat.reduceLeDiff,Nat.reduceLT,Nat.reduceBEq,Nat.reduceAdd,la', lb', c1, c2, c3, c4, c5, c6, c7, c8, c9, b1, b2, b3, a1, a2, a3, a4, a5, a6, a7, a8, a9, b4, b5, b6, m1, m2, m3, m4, m5, m6, m7, m8, hsh, hs, hn, decide_true, decide_false]);(repeat1' (with_reducible first|apply And.intro|(intro _;try first|contradiction|(exfalso;omega))|(refine hK _ ?_;clear hK K)))<;>(try (clear hK K;first|omega|assumption|((simp (disch:=omega) only [q_H,q_I]);omega))))|((with_reducible refine q_s (by simp only [go_sem,↓reduceIte,reduceCtorEq,Nat.reduceBEq];rfl) ?_);(with_reducible first|apply q_J|apply q_K|refine q_L ?_ ?_|refine q_M ?_ ?_|refine q_N ?_ ?_|refine q_O ?_ ?_)<;>(try with_reducible (intro _;try first|contradiction|(exfalso;omega))))|with_reducible refine q_t (by simp only [go_sem,↓reduceIte,reduceCtorEq,Nat.reduceBEq,q_u,resO,q_v];rfl) ?_)
  all_goals first | contradiction | omega | exact q_A rfl | exact q_A (by simp [resAV, q_y]) | skip
theorem idvs_ret (s t : Bool) (xs ys : List Int) (lx : xs.length ≤ 140737488355328) (ly : ys.length ≤ 140737488355328) (bx : InB 4294967296 xs) (by_ : InB 4294967296 ys) :
    Ret Try.prog 3 false [.inr [.b s, .ints .u32 xs], .inr [.b t, .ints .u32 ys]] (.c (.b true)) := by
  by_cases h : okZ s xs = true ∧ okZ t ys = true ∧ xs.length ≤ 60 ∧ ys.length ≤ 60
  · obtain ⟨h1, h2, h4, h5⟩ := h
    obtain ⟨-, a2, -⟩ := okZ_eq h1 bx
    obtain ⟨-, b2, -⟩ := okZ_eq h2 by_
    rw [(gI_of' h1 bx).1, (gI_of' h2 by_).1]
    exact idvs_good _ _ (by rw [← a2]; exact h4) (by rw [← b2]; exact h5)
  · exact idvs_triv s t xs ys lx ly h
theorem ibsm_ret (s t : Bool) (xs ys : List Int) (lx : xs.length ≤ 140737488355328) (ly : ys.length ≤ 140737488355328) (bx : InB 4294967296 xs) (by_ : InB 4294967296 ys) :
    Ret Try.prog 12 false [.inr [.b s, .ints .u32 xs], .inr [.b t, .ints .u32 ys]] (.c (.b true)) := by
  by_cases h : okZ s xs = true ∧ okZ t ys = true ∧ xs.length ≤ 120 ∧ ys.length ≤ 120
  · obtain ⟨h1, h2, h4, h5⟩ := h
    obtain ⟨-, a2, -⟩ := okZ_eq h1 bx
    obtain ⟨-, b2, -⟩ := okZ_eq h2 by_
    rw [(gI_of' h1 bx).1, (gI_of' h2 by_).1]
    exact ibsm_good _ _ (by rw [← a2]; exact h4) (by rw [← b2]; exact h5)
  · exact ibsm_triv s t xs ys lx ly h
end Go.Proofs.Ythfgapbcdhajiaa
