import Derived.Test.YtlefdhkjbbdijaaG16
namespace Go.Proofs.NatL
set_option linter.unusedSimpArgs false
set_option linter.unusedVariables false
theorem RT_parts {z : Int} {d : Nat} (h : RT z d) : 0 < d ∧ (dg 4294967296 z.natAbs).length ≤ 128 ∧ (dg 4294967296 d).length ≤ 128 := ⟨h.1, h.2.2.1, h.2.2.2⟩
theorem sg_mul3 (x y : Int) : sg (decide (x < 0) != decide (y < 0)) (x.natAbs * y.natAbs) = x * y := by rw [sg_mul, sg_self, sg_self]
def tn (y : Int) (d : Nat) : Int := sg (decide (y < 0)) d
theorem sg_tn (x y : Int) (d : Nat) : sg (decide (x < 0) != decide (y < 0)) (x.natAbs * d) = x * tn y d := by rw [sg_mul, sg_self]; rfl
theorem sg_tn1 (x y : Int) : sg (decide (x < 0) != decide (y < 0)) x.natAbs = x * tn y 1 := by rw [← sg_tn, Nat.mul_one]
theorem cmpQ_nn {x y : Int} {c d : Nat} (hd : 0 < d) (hx : x < 0) (hy : y < 0) : 0 - cmp3 (x.natAbs * d) (y.natAbs * c) = cmpZ (x * d) (y * c) := by
  rw [cmp3_Z]
  have e1 : x * (d : Int) = -((x.natAbs * d : Nat) : Int) := by rw [Int.natCast_mul, ← Int.neg_mul]; congr 1; omega
  have e2 : y * (c : Int) = -((y.natAbs * c : Nat) : Int) := by rw [Int.natCast_mul, ← Int.neg_mul]; congr 1; omega
  rw [e1, e2]
  unfold cmpZ
  (repeat' split) <;> omega
theorem cmpQ_pp {x y : Int} {c d : Nat} (hx : ¬ x < 0) (hy : ¬ y < 0) : cmp3 (x.natAbs * d) (y.natAbs * c) = cmpZ (x * d) (y * c) := by
  rw [cmp3_Z, Int.natCast_mul, Int.natCast_mul]
  congr 2 <;> omega
theorem cmpQ_np {x y : Int} {c d : Nat} (hd : 0 < d) (hx : x < 0) (hy : ¬ y < 0) : cmpZ (x * d) (y * c) = -1 := by
  have h1 : x * (d : Int) < 0 := Int.mul_neg_of_neg_of_pos hx (by omega)
  have h2 : 0 ≤ y * (c : Int) := Int.mul_nonneg (by omega) (by omega)
  unfold cmpZ; rw [if_pos (by omega)]
theorem cmpQ_pn {x y : Int} {c d : Nat} (hc : 0 < c) (hx : ¬ x < 0) (hy : y < 0) : cmpZ (x * d) (y * c) = 1 := by
  have h1 : y * (c : Int) < 0 := Int.mul_neg_of_neg_of_pos hy (by omega)
  have h2 : 0 ≤ x * (d : Int) := Int.mul_nonneg (by omega) (by omega)
  unfold cmpZ; rw [if_neg (by omega), if_neg (by omega)]
theorem cmp3_bd (a b : Nat) : -1 ≤ cmp3 a b ∧ cmp3 a b ≤ 1 := by unfold cmp3; (repeat' split) <;> omega
end Go.Proofs.NatL
namespace Go.Proofs.Ytlefdhkjbbdijaa
set_option linter.unusedSimpArgs false
set_option linter.unusedVariables false
open Go.Abs Go.Proofs.NatL

abbrev zQ : C ⊕ List C := .inr [.b false, .ints .u32 [], .b false, .ints .u32 []]
abbrev fltQ (c i : Int) : C ⊕ List C := .inr [.i .i64 c, .i .i64 i]
def qb5 : Cfg := listT [(63, atCT), (71, qcheckCT), (81, qplusCT), (83, reducedCT), (82, (natCT tr2 rMulN)), (74, (natCT tr2 rCmpN)), (64, ivalidCT)] [30]
theorem qb5_ok : TblOk Try.prog qb5 := listE_ok (by simp only [List.mem_singleton, forall_eq]; exact flt) ⟨⟨qt2, qt2_ok, rfl⟩, ⟨qt3, qt3_ok, rfl⟩, ⟨qt5, qt5_ok, rfl⟩, ⟨qt4, qt4_ok, rfl⟩, ⟨qn6, qn6_ok, rfl⟩, ⟨qn6, qn6_ok, rfl⟩, ⟨it5, it5_ok, rfl⟩, trivial⟩
attribute [go_sem] qb5
set_option maxHeartbeats 1600000 in
theorem qAdd_ok (x y : Int) (c d : Nat) (hx : RT x c) (hy : RT y d) : Ret Try.prog 34 false [.inr (gQ x c), .inr (gQ y d)] (rQ (x * d + y * c) (c * d)) := by
  have o1 := okQ_g hx
  have o2 := okQ_g hy
  obtain ⟨hc, lx, lc⟩ := RT_parts hx
  obtain ⟨hd, ly, ld⟩ := RT_parts hy
  have l1 := mul_len (B := 4294967296) (by omega) lx ly
  have l3 := mul_len (B := 4294967296) (by omega) lc ld
  have hcd := Nat.mul_pos hc hd
  have m1 := sg_mul3 x y
  clear hx hy
  (refine q_H Try.func34 (fun F => ?_); simp only [q_z,q_y,Try.ntmps34,Try.results34])
  repeat' (first|(with_reducible first|apply q_a|apply q_b|apply q_c|apply q_d|apply q_e|apply q_f|apply q_g|apply q_h|apply q_i|apply q_j|apply q_k|apply q_m|apply q_n|apply q_o|apply q_p|refine q_l ?_)|((with_reducible first|refine q_q qb5_ok fun K hK=>?_|refine q_r qb5_ok fun K hK=>?_);simp (maxSteps:=2000000) only [go_sem,↓reduceIte,reduceCtorEq,Nat.reduceLeDiff,Nat.reduceLT,Nat.reduceBEq,Nat.reduceAdd,o1, o2, sv32, sv32d, V32, m1, sg_self];(repeat1' with_reducible first|apply And.intro|(intro _;try exact q_v)|(refine hK _ ?_;clear hK K))<;>(try (clear hK K;exact q_u)))|(with_reducible refine q_s ?_;(first|apply q_J|apply q_K|apply q_L|apply q_M|apply q_N|apply q_O)<;>try (intro _;try exact q_v))|with_reducible refine q_t ?_)
  all_goals first | omega | exact q_A rfl | skip
set_option maxHeartbeats 1600000 in
theorem qSub_ok (x y : Int) (c d : Nat) (hx : RT x c) (hy : RT y d) : Ret Try.prog 35 false [.inr (gQ x c), .inr (gQ y d)] (rQ (x * d - y * c) (c * d)) := by
  have o1 := okQ_g hx
  have o2 := okQ_g hy
  obtain ⟨hc, lx, lc⟩ := RT_parts hx
  obtain ⟨hd, ly, ld⟩ := RT_parts hy
  have l1 := mul_len (B := 4294967296) (by omega) lx ly
  have l3 := mul_len (B := 4294967296) (by omega) lc ld
  have hcd := Nat.mul_pos hc hd
  have m1 := sg_mul3 x y
  clear hx hy
  (refine q_H Try.func35 (fun F => ?_); simp only [q_z,q_y,Try.ntmps35,Try.results35])
  repeat' (first|(with_reducible first|apply q_a|apply q_b|apply q_c|apply q_d|apply q_e|apply q_f|apply q_g|apply q_h|apply q_i|apply q_j|apply q_k|apply q_m|apply q_n|apply q_o|apply q_p|refine q_l ?_)|((with_reducible first|refine q_q qb5_ok fun K hK=>?_|refine q_r qb5_ok fun K hK=>?_);simp (maxSteps:=2000000) only [go_sem,↓reduceIte,reduceCtorEq,Nat.reduceLeDiff,Nat.reduceLT,Nat.reduceBEq,Nat.reduceAdd,o1, o2, sv32, sv32d, V32, m1, sg_self];(repeat1' with_reducible first|apply And.intro|(intro _;try exact q_v)|(refine hK _ ?_;clear hK K))<;>(try (clear hK K;exact q_u)))|(with_reducible refine q_s ?_;(first|apply q_J|apply q_K|apply q_L|apply q_M|apply q_N|apply q_O)<;>try (intro _;try exact q_v))|with_reducible refine q_t ?_)
  all_goals first | omega | exact q_A rfl | skip
set_option maxHeartbeats 1600000 in
theorem qMul_ok (x y : Int) (c d : Nat) (hx : RT x c) (hy : RT y d) : Ret Try.prog 36 false [.inr (gQ x c), .inr (gQ y d)] (rQ (x * y) (c * d)) := by
  have o1 := okQ_g hx
  have o2 := okQ_g hy
  obtain ⟨hc, lx, lc⟩ := RT_parts hx
  obtain ⟨hd, ly, ld⟩ := RT_parts hy
  have l1 := mul_len (B := 4294967296) (by omega) lx ly
  have l3 := mul_len (B := 4294967296) (by omega) lc ld
  have hcd := Nat.mul_pos hc hd
  have m1 := sg_mul3 x y
  clear hx hy
  (refine q_H Try.func36 (fun F => ?_); simp only [q_z,q_y,Try.ntmps36,Try.results36])
  repeat' (first|(with_reducible first|apply q_a|apply q_b|apply q_c|apply q_d|apply q_e|apply q_f|apply q_g|apply q_h|apply q_i|apply q_j|apply q_k|apply q_m|apply q_n|apply q_o|apply q_p|refine q_l ?_)|((with_reducible first|refine q_q qb5_ok fun K hK=>?_|refine q_r qb5_ok fun K hK=>?_);simp (maxSteps:=2000000) only [go_sem,↓reduceIte,reduceCtorEq,Nat.reduceLeDiff,Nat.reduceLT,Nat.reduceBEq,Nat.reduceAdd,o1, o2, sv32, sv32d, V32, m1, sg_self];(repeat1' with_reducible first|apply And.intro|(intro _;try exact q_v)|(refine hK _ ?_;clear hK K))<;>(try (clear hK K;exact q_u)))|(with_reducible refine q_s ?_;(first|apply q_J|apply q_K|apply q_L|apply q_M|apply q_N|apply q_O)<;>try (intro _;try exact q_v))|with_reducible refine q_t ?_)
  all_goals first | omega | exact q_A rfl | skip
set_option maxHeartbeats 1600000 in
theorem qDiv_ok (x y : Int) (c d : Nat) (hx : RT x c) (hy : RT y d) (h0 : y ≠ 0) : Ret Try.prog 37 false [.inr (gQ x c), .inr (gQ y d)] (rQ (x * tn y d) (c * y.natAbs)) := by
  have o1 := okQ_g hx
  have o2 := okQ_g hy
  obtain ⟨hc, lx, lc⟩ := RT_parts hx
  obtain ⟨hd, ly, ld⟩ := RT_parts hy
  have l1 := mul_len (B := 4294967296) (by omega) lx ld
  have l3 := mul_len (B := 4294967296) (by omega) lc ly
  have hcd := Nat.mul_pos hc (show 0 < y.natAbs by omega)
  have hp := (dg_len_pos 4294967296 y.natAbs (by omega)).2 (by omega)
  have m1 := sg_tn x y d
  clear hx hy
  (refine q_H Try.func37 (fun F => ?_); simp only [q_z,q_y,Try.ntmps37,Try.results37])
  repeat' (first|(with_reducible first|apply q_a|apply q_b|apply q_c|apply q_d|apply q_e|apply q_f|apply q_g|apply q_h|apply q_i|apply q_j|apply q_k|apply q_m|apply q_n|apply q_o|apply q_p|refine q_l ?_)|((with_reducible first|refine q_q qb5_ok fun K hK=>?_|refine q_r qb5_ok fun K hK=>?_);simp (maxSteps:=2000000) only [go_sem,↓reduceIte,reduceCtorEq,Nat.reduceLeDiff,Nat.reduceLT,Nat.reduceBEq,Nat.reduceAdd,o1, o2, sv32, sv32d, V32, m1];(repeat1' with_reducible first|apply And.intro|(intro _;try exact q_v)|(refine hK _ ?_;clear hK K))<;>(try (clear hK K;exact q_u)))|(with_reducible refine q_s ?_;(first|apply q_J|apply q_K|apply q_L|apply q_M|apply q_N|apply q_O)<;>try (intro _;try exact q_v))|with_reducible refine q_t ?_)
  all_goals first | omega | exact q_A rfl | skip
set_option maxHeartbeats 1600000 in
theorem qDiv_zero (x : Int) (c d : Nat) (hx : RT x c) (hy : RT 0 d) : Ret Try.prog 37 false [.inr (gQ x c), .inr (gQ 0 d)] (.t [zQ, fltQ 22 (-2)]) := by
  have o1 := okQ_g hx
  have o2 := okQ_g hy
  obtain ⟨hc, lx, lc⟩ := RT_parts hx
  obtain ⟨hd, ly, ld⟩ := RT_parts hy
  have e0 : (dg 4294967296 (0 : Int).natAbs) = [] := dg_zeroA _
  clear hx hy
  simp only [gQ, e0] at o2 ⊢
  (refine q_H Try.func37 (fun F => ?_); simp only [q_z,q_y,Try.ntmps37,Try.results37])
  repeat' (first|(with_reducible first|apply q_a|apply q_b|apply q_c|apply q_d|apply q_e|apply q_f|apply q_g|apply q_h|apply q_i|apply q_j|apply q_k|apply q_m|apply q_n|apply q_o|apply q_p|refine q_l ?_)|((with_reducible first|refine q_q qb5_ok fun K hK=>?_|refine q_r qb5_ok fun K hK=>?_);simp (maxSteps:=2000000) only [go_sem,↓reduceIte,reduceCtorEq,Nat.reduceLeDiff,Nat.reduceLT,Nat.reduceBEq,Nat.reduceAdd,o1, o2, sv32, sv32d, V32];(repeat1' with_reducible first|apply And.intro|(intro _;try exact q_v)|(refine hK _ ?_;clear hK K))<;>(try (clear hK K;exact q_u)))|(with_reducible refine q_s ?_;(first|apply q_J|apply q_K|apply q_L|apply q_M|apply q_N|apply q_O)<;>try (intro _;try exact q_v))|with_reducible refine q_t ?_)
  all_goals first | omega | exact q_B [nQ] rfl rfl | skip
set_option maxHeartbeats 1600000 in
theorem qCmp_ok (x y : Int) (c d : Nat) (hx : RT x c) (hy : RT y d) : Ret Try.prog 38 false [.inr (gQ x c), .inr (gQ y d)] (.t [.inl (.i .i64 (cmpZ (x * d) (y * c))), fltQ 0 0]) := by
  have o1 := okQ_g hx
  have o2 := okQ_g hy
  obtain ⟨hc, lx, lc⟩ := RT_parts hx
  obtain ⟨hd, ly, ld⟩ := RT_parts hy
  have l1 := mul_len (B := 4294967296) (by omega) lx ld
  have l3 := mul_len (B := 4294967296) (by omega) ly lc
  have bd := cmp3_bd (x.natAbs * d) (y.natAbs * c)
  clear hx hy
  by_cases h1 : x < 0
  · by_cases h2 : y < 0
    · have e := cmpQ_nn (c := c) hd h1 h2
      simp only [gQ, decide_eq_true h1, decide_eq_true h2] at o1 o2 ⊢
      (refine q_H Try.func38 (fun F => ?_); simp only [q_z,q_y,Try.ntmps38,Try.results38])
      repeat' (first|(with_reducible first|apply q_a|apply q_b|apply q_c|apply q_d|apply q_e|apply q_f|apply q_g|apply q_h|apply q_i|apply q_j|apply q_k|apply q_m|apply q_n|apply q_o|apply q_p|refine q_l ?_)|((with_reducible first|refine q_q qb5_ok fun K hK=>?_|refine q_r qb5_ok fun K hK=>?_);simp (maxSteps:=2000000) only [go_sem,↓reduceIte,reduceCtorEq,Nat.reduceLeDiff,Nat.reduceLT,Nat.reduceBEq,Nat.reduceAdd,o1, o2, sv32, V32, e];(repeat1' with_reducible first|apply And.intro|(intro _;try exact q_v)|(refine hK _ ?_;clear hK K))<;>(try (clear hK K;exact q_u)))|(with_reducible refine q_s ?_;(first|apply q_J|apply q_K|apply q_L|apply q_M|apply q_N|apply q_O)<;>try (intro _;try exact q_v))|with_reducible refine q_t ?_)
      all_goals first | omega | exact q_A rfl | skip
    · rw [cmpQ_np hd h1 h2]
      simp only [gQ, decide_eq_true h1, decide_eq_false h2] at o1 o2 ⊢
      (refine q_H Try.func38 (fun F => ?_); simp only [q_z,q_y,Try.ntmps38,Try.results38])
      repeat' (first|(with_reducible first|apply q_a|apply q_b|apply q_c|apply q_d|apply q_e|apply q_f|apply q_g|apply q_h|apply q_i|apply q_j|apply q_k|apply q_m|apply q_n|apply q_o|apply q_p|refine q_l ?_)|((with_reducible first|refine q_q qb5_ok fun K hK=>?_|refine q_r qb5_ok fun K hK=>?_);simp (maxSteps:=2000000) only [go_sem,↓reduceIte,reduceCtorEq,Nat.reduceLeDiff,Nat.reduceLT,Nat.reduceBEq,Nat.reduceAdd,o1, o2, sv32, V32];(repeat1' with_reducible first|apply And.intro|(intro _;try exact q_v)|(refine hK _ ?_;clear hK K))<;>(try (clear hK K;exact q_u)))|(with_reducible refine q_s ?_;(first|apply q_J|apply q_K|apply q_L|apply q_M|apply q_N|apply q_O)<;>try (intro _;try exact q_v))|with_reducible refine q_t ?_)
      all_goals first | omega | exact q_A rfl | skip
  · by_cases h2 : y < 0
    · rw [cmpQ_pn hc h1 h2]
      simp only [gQ, decide_eq_false h1, decide_eq_true h2] at o1 o2 ⊢
      (refine q_H Try.func38 (fun F => ?_); simp only [q_z,q_y,Try.ntmps38,Try.results38])
      repeat' (first|(with_reducible first|apply q_a|apply q_b|apply q_c|apply q_d|apply q_e|apply q_f|apply q_g|apply q_h|apply q_i|apply q_j|apply q_k|apply q_m|apply q_n|apply q_o|apply q_p|refine q_l ?_)|((with_reducible first|refine q_q qb5_ok fun K hK=>?_|refine q_r qb5_ok fun K hK=>?_);simp (maxSteps:=2000000) only [go_sem,↓reduceIte,reduceCtorEq,Nat.reduceLeDiff,Nat.reduceLT,Nat.reduceBEq,Nat.reduceAdd,o1, o2, sv32, V32];(repeat1' with_reducible first|apply And.intro|(intro _;try exact q_v)|(refine hK _ ?_;clear hK K))<;>(try (clear hK K;exact q_u)))|(with_reducible refine q_s ?_;(first|apply q_J|apply q_K|apply q_L|apply q_M|apply q_N|apply q_O)<;>try (intro _;try exact q_v))|with_reducible refine q_t ?_)
      all_goals first | omega | exact q_A rfl | skip
    · have e := cmpQ_pp (c := c) (d := d) h1 h2
      simp only [gQ, decide_eq_false h1, decide_eq_false h2] at o1 o2 ⊢
      (refine q_H Try.func38 (fun F => ?_); simp only [q_z,q_y,Try.ntmps38,Try.results38])
      repeat' (first|(with_reducible first|apply q_a|apply q_b|apply q_c|apply q_d|apply q_e|apply q_f|apply q_g|apply q_h|apply q_i|apply q_j|apply q_k|apply q_m|apply q_n|apply q_o|apply q_p|refine q_l ?_)|((with_reducible first|refine q_q qb5_ok fun K hK=>?_|refine q_r qb5_ok fun K hK=>?_);simp (maxSteps:=2000000) only [go_sem,↓reduceIte,reduceCtorEq,Nat.reduceLeDiff,Nat.reduceLT,Nat.reduceBEq,Nat.reduceAdd,o1, o2, sv32, V32, e];(repeat1' with_reducible first|apply And.intro|(intro _;try exact q_v)|(refine hK _ ?_;clear hK K))<;>(try (clear hK K;exact q_u)))|(with_reducible refine q_s ?_;(first|apply q_J|apply q_K|apply q_L|apply q_M|apply q_N|apply q_O)<;>try (intro _;try exact q_v))|with_reducible refine q_t ?_)
      all_goals first | omega | exact q_A rfl | skip
set_option maxHeartbeats 1600000 in
theorem qAdd_bad (s p t q : Bool) (xs zs ys ws : List Int) (h1 : xs.length ≤ 140737488355328) (h2 : zs.length ≤ 140737488355328) (h3 : ys.length ≤ 140737488355328) (h4 : ws.length ≤ 140737488355328) (b1 : InB 4294967296 xs) (b2 : InB 4294967296 zs) (b3 : InB 4294967296 ys) (b4 : InB 4294967296 ws)
    (h : okQ s xs p zs = false ∨ okQ s xs p zs = true ∧ okQ t ys q ws = false) :
    Ret Try.prog 34 false [.inr [.b s, .ints .u32 xs, .b p, .ints .u32 zs], .inr [.b t, .ints .u32 ys, .b q, .ints .u32 ws]] (.t [zQ, fltQ 6 (if okQ s xs p zs then -2 else -1)]) := by
  rcases h with h | ⟨h, h'⟩
  · simp only [h, Bool.false_eq_true, if_false]
    (refine q_H Try.func34 (fun F => ?_); simp only [q_z,q_y,Try.ntmps34,Try.results34])
    repeat' (first|(with_reducible first|apply q_a|apply q_b|apply q_c|apply q_d|apply q_e|apply q_f|apply q_g|apply q_h|apply q_i|apply q_j|apply q_k|apply q_m|apply q_n|apply q_o|apply q_p|refine q_l ?_)|((with_reducible first|refine q_q qb5_ok fun K hK=>?_|refine q_r qb5_ok fun K hK=>?_);simp (maxSteps:=2000000) only [go_sem,↓reduceIte,reduceCtorEq,Nat.reduceLeDiff,Nat.reduceLT,Nat.reduceBEq,Nat.reduceAdd,h];(repeat1' with_reducible first|apply And.intro|(intro _;try exact q_v)|(refine hK _ ?_;clear hK K))<;>(try (clear hK K;exact q_u)))|(with_reducible refine q_s ?_;(first|apply q_J|apply q_K|apply q_L|apply q_M|apply q_N|apply q_O)<;>try (intro _;try exact q_v))|with_reducible refine q_t ?_)
    all_goals first | omega | assumption | exact q_B [nQ] rfl rfl | skip
  · simp only [h, if_true]
    (refine q_H Try.func34 (fun F => ?_); simp only [q_z,q_y,Try.ntmps34,Try.results34])
    repeat' (first|(with_reducible first|apply q_a|apply q_b|apply q_c|apply q_d|apply q_e|apply q_f|apply q_g|apply q_h|apply q_i|apply q_j|apply q_k|apply q_m|apply q_n|apply q_o|apply q_p|refine q_l ?_)|((with_reducible first|refine q_q qb5_ok fun K hK=>?_|refine q_r qb5_ok fun K hK=>?_);simp (maxSteps:=2000000) only [go_sem,↓reduceIte,reduceCtorEq,Nat.reduceLeDiff,Nat.reduceLT,Nat.reduceBEq,Nat.reduceAdd,h, h'];(repeat1' with_reducible first|apply And.intro|(intro _;try exact q_v)|(refine hK _ ?_;clear hK K))<;>(try (clear hK K;exact q_u)))|(with_reducible refine q_s ?_;(first|apply q_J|apply q_K|apply q_L|apply q_M|apply q_N|apply q_O)<;>try (intro _;try exact q_v))|with_reducible refine q_t ?_)
    all_goals first | omega | assumption | exact q_B [nQ] rfl rfl | skip
set_option maxHeartbeats 1600000 in
theorem qSub_bad (s p t q : Bool) (xs zs ys ws : List Int) (h1 : xs.length ≤ 140737488355328) (h2 : zs.length ≤ 140737488355328) (h3 : ys.length ≤ 140737488355328) (h4 : ws.length ≤ 140737488355328) (b1 : InB 4294967296 xs) (b2 : InB 4294967296 zs) (b3 : InB 4294967296 ys) (b4 : InB 4294967296 ws)
    (h : okQ s xs p zs = false ∨ okQ s xs p zs = true ∧ okQ t ys q ws = false) :
    Ret Try.prog 35 false [.inr [.b s, .ints .u32 xs, .b p, .ints .u32 zs], .inr [.b t, .ints .u32 ys, .b q, .ints .u32 ws]] (.t [zQ, fltQ 6 (if okQ s xs p zs then -2 else -1)]) := by
  rcases h with h | ⟨h, h'⟩
  · simp only [h, Bool.false_eq_true, if_false]
    (refine q_H Try.func35 (fun F => ?_); simp only [q_z,q_y,Try.ntmps35,Try.results35])
    repeat' (first|(with_reducible first|apply q_a|apply q_b|apply q_c|apply q_d|apply q_e|apply q_f|apply q_g|apply q_h|apply q_i|apply q_j|apply q_k|apply q_m|apply q_n|apply q_o|apply q_p|refine q_l ?_)|((with_reducible first|refine q_q qb5_ok fun K hK=>?_|refine q_r qb5_ok fun K hK=>?_);simp (maxSteps:=2000000) only [go_sem,↓reduceIte,reduceCtorEq,Nat.reduceLeDiff,Nat.reduceLT,Nat.reduceBEq,Nat.reduceAdd,h];(repeat1' with_reducible first|apply And.intro|(intro _;try exact q_v)|(refine hK _ ?_;clear hK K))<;>(try (clear hK K;exact q_u)))|(with_reducible refine q_s ?_;(first|apply q_J|apply q_K|apply q_L|apply q_M|apply q_N|apply q_O)<;>try (intro _;try exact q_v))|with_reducible refine q_t ?_)
    all_goals first | omega | assumption | exact q_B [nQ] rfl rfl | skip
  · simp only [h, if_true]
    (refine q_H Try.func35 (fun F => ?_); simp only [q_z,q_y,Try.ntmps35,Try.results35])
    repeat' (first|(with_reducible first|apply q_a|apply q_b|apply q_c|apply q_d|apply q_e|apply q_f|apply q_g|apply q_h|apply q_i|apply q_j|apply q_k|apply q_m|apply q_n|apply q_o|apply q_p|refine q_l ?_)|((with_reducible first|refine q_q qb5_ok fun K hK=>?_|refine q_r qb5_ok fun K hK=>?_);simp (maxSteps:=2000000) only [go_sem,↓reduceIte,reduceCtorEq,Nat.reduceLeDiff,Nat.reduceLT,Nat.reduceBEq,Nat.reduceAdd,h, h'];(repeat1' with_reducible first|apply And.intro|(intro _;try exact q_v)|(refine hK _ ?_;clear hK K))<;>(try (clear hK K;exact q_u)))|(with_reducible refine q_s ?_;(first|apply q_J|apply q_K|apply q_L|apply q_M|apply q_N|apply q_O)<;>try (intro _;try exact q_v))|with_reducible refine q_t ?_)
    all_goals first | omega | assumption | exact q_B [nQ] rfl rfl | skip
set_option maxHeartbeats 1600000 in
theorem qMul_bad (s p t q : Bool) (xs zs ys ws : List Int) (h1 : xs.length ≤ 140737488355328) (h2 : zs.length ≤ 140737488355328) (h3 : ys.length ≤ 140737488355328) (h4 : ws.length ≤ 140737488355328) (b1 : InB 4294967296 xs) (b2 : InB 4294967296 zs) (b3 : InB 4294967296 ys) (b4 : InB 4294967296 ws)
    (h : okQ s xs p zs = false ∨ okQ s xs p zs = true ∧ okQ t ys q ws = false) :
    Ret Try.prog 36 false [.inr [.b s, .ints .u32 xs, .b p, .ints .u32 zs], .inr [.b t, .ints .u32 ys, .b q, .ints .u32 ws]] (.t [zQ, fltQ 6 (if okQ s xs p zs then -2 else -1)]) := by
  rcases h with h | ⟨h, h'⟩
  · simp only [h, Bool.false_eq_true, if_false]
    (refine q_H Try.func36 (fun F => ?_); simp only [q_z,q_y,Try.ntmps36,Try.results36])
    repeat' (first|(with_reducible first|apply q_a|apply q_b|apply q_c|apply q_d|apply q_e|apply q_f|apply q_g|apply q_h|apply q_i|apply q_j|apply q_k|apply q_m|apply q_n|apply q_o|apply q_p|refine q_l ?_)|((with_reducible first|refine q_q qb5_ok fun K hK=>?_|refine q_r qb5_ok fun K hK=>?_);simp (maxSteps:=2000000) only [go_sem,↓reduceIte,reduceCtorEq,Nat.reduceLeDiff,Nat.reduceLT,Nat.reduceBEq,Nat.reduceAdd,h];(repeat1' with_reducible first|apply And.intro|(intro _;try exact q_v)|(refine hK _ ?_;clear hK K))<;>(try (clear hK K;exact q_u)))|(with_reducible refine q_s ?_;(first|apply q_J|apply q_K|apply q_L|apply q_M|apply q_N|apply q_O)<;>try (intro _;try exact q_v))|with_reducible refine q_t ?_)
    all_goals first | omega | assumption | exact q_B [nQ] rfl rfl | skip
  · simp only [h, if_true]
    (refine q_H Try.func36 (fun F => ?_); simp only [q_z,q_y,Try.ntmps36,Try.results36])
    repeat' (first|(with_reducible first|apply q_a|apply q_b|apply q_c|apply q_d|apply q_e|apply q_f|apply q_g|apply q_h|apply q_i|apply q_j|apply q_k|apply q_m|apply q_n|apply q_o|apply q_p|refine q_l ?_)|((with_reducible first|refine q_q qb5_ok fun K hK=>?_|refine q_r qb5_ok fun K hK=>?_);simp (maxSteps:=2000000) only [go_sem,↓reduceIte,reduceCtorEq,Nat.reduceLeDiff,Nat.reduceLT,Nat.reduceBEq,Nat.reduceAdd,h, h'];(repeat1' with_reducible first|apply And.intro|(intro _;try exact q_v)|(refine hK _ ?_;clear hK K))<;>(try (clear hK K;exact q_u)))|(with_reducible refine q_s ?_;(first|apply q_J|apply q_K|apply q_L|apply q_M|apply q_N|apply q_O)<;>try (intro _;try exact q_v))|with_reducible refine q_t ?_)
    all_goals first | omega | assumption | exact q_B [nQ] rfl rfl | skip
set_option maxHeartbeats 1600000 in
theorem qDiv_bad (s p t q : Bool) (xs zs ys ws : List Int) (h1 : xs.length ≤ 140737488355328) (h2 : zs.length ≤ 140737488355328) (h3 : ys.length ≤ 140737488355328) (h4 : ws.length ≤ 140737488355328) (b1 : InB 4294967296 xs) (b2 : InB 4294967296 zs) (b3 : InB 4294967296 ys) (b4 : InB 4294967296 ws)
    (h : okQ s xs p zs = false ∨ okQ s xs p zs = true ∧ okQ t ys q ws = false) :
    Ret Try.prog 37 false [.inr [.b s, .ints .u32 xs, .b p, .ints .u32 zs], .inr [.b t, .ints .u32 ys, .b q, .ints .u32 ws]] (.t [zQ, fltQ 6 (if okQ s xs p zs then -2 else -1)]) := by
  rcases h with h | ⟨h, h'⟩
  · simp only [h, Bool.false_eq_true, if_false]
    (refine q_H Try.func37 (fun F => ?_); simp only [q_z,q_y,Try.ntmps37,Try.results37])
    repeat' (first|(with_reducible first|apply q_a|apply q_b|apply q_c|apply q_d|apply q_e|apply q_f|apply q_g|apply q_h|apply q_i|apply q_j|apply q_k|apply q_m|apply q_n|apply q_o|apply q_p|refine q_l ?_)|((with_reducible first|refine q_q qb5_ok fun K hK=>?_|refine q_r qb5_ok fun K hK=>?_);simp (maxSteps:=2000000) only [go_sem,↓reduceIte,reduceCtorEq,Nat.reduceLeDiff,Nat.reduceLT,Nat.reduceBEq,Nat.reduceAdd,h];(repeat1' with_reducible first|apply And.intro|(intro _;try exact q_v)|(refine hK _ ?_;clear hK K))<;>(try (clear hK K;exact q_u)))|(with_reducible refine q_s ?_;(first|apply q_J|apply q_K|apply q_L|apply q_M|apply q_N|apply q_O)<;>try (intro _;try exact q_v))|with_reducible refine q_t ?_)
    all_goals first | omega | assumption | exact q_B [nQ] rfl rfl | skip
  · simp only [h, if_true]
    (refine q_H Try.func37 (fun F => ?_); simp only [q_z,q_y,Try.ntmps37,Try.results37])
    repeat' (first|(with_reducible first|apply q_a|apply q_b|apply q_c|apply q_d|apply q_e|apply q_f|apply q_g|apply q_h|apply q_i|apply q_j|apply q_k|apply q_m|apply q_n|apply q_o|apply q_p|refine q_l ?_)|((with_reducible first|refine q_q qb5_ok fun K hK=>?_|refine q_r qb5_ok fun K hK=>?_);simp (maxSteps:=2000000) only [go_sem,↓reduceIte,reduceCtorEq,Nat.reduceLeDiff,Nat.reduceLT,Nat.reduceBEq,Nat.reduceAdd,h, h'];(repeat1' with_reducible first|apply And.intro|(intro _;try exact q_v)|(refine hK _ ?_;clear hK K))<;>(try (clear hK K;exact q_u)))|(with_reducible refine q_s ?_;(first|apply q_J|apply q_K|apply q_L|apply q_M|apply q_N|apply q_O)<;>try (intro _;try exact q_v))|with_reducible refine q_t ?_)
    all_goals first | omega | assumption | exact q_B [nQ] rfl rfl | skip
set_option maxHeartbeats 1600000 in
theorem qCmp_bad (s p t q : Bool) (xs zs ys ws : List Int) (h1 : xs.length ≤ 140737488355328) (h2 : zs.length ≤ 140737488355328) (h3 : ys.length ≤ 140737488355328) (h4 : ws.length ≤ 140737488355328) (b1 : InB 4294967296 xs) (b2 : InB 4294967296 zs) (b3 : InB 4294967296 ys) (b4 : InB 4294967296 ws)
    (h : okQ s xs p zs = false ∨ okQ s xs p zs = true ∧ okQ t ys q ws = false) :
    Ret Try.prog 38 false [.inr [.b s, .ints .u32 xs, .b p, .ints .u32 zs], .inr [.b t, .ints .u32 ys, .b q, .ints .u32 ws]] (.t [.inl (.i .i64 0), fltQ 6 (if okQ s xs p zs then -2 else -1)]) := by
  rcases h with h | ⟨h, h'⟩
  · simp only [h, Bool.false_eq_true, if_false]
    (refine q_H Try.func38 (fun F => ?_); simp only [q_z,q_y,Try.ntmps38,Try.results38])
    repeat' (first|(with_reducible first|apply q_a|apply q_b|apply q_c|apply q_d|apply q_e|apply q_f|apply q_g|apply q_h|apply q_i|apply q_j|apply q_k|apply q_m|apply q_n|apply q_o|apply q_p|refine q_l ?_)|((with_reducible first|refine q_q qb5_ok fun K hK=>?_|refine q_r qb5_ok fun K hK=>?_);simp (maxSteps:=2000000) only [go_sem,↓reduceIte,reduceCtorEq,Nat.reduceLeDiff,Nat.reduceLT,Nat.reduceBEq,Nat.reduceAdd,h];(repeat1' with_reducible first|apply And.intro|(intro _;try exact q_v)|(refine hK _ ?_;clear hK K))<;>(try (clear hK K;exact q_u)))|(with_reducible refine q_s ?_;(first|apply q_J|apply q_K|apply q_L|apply q_M|apply q_N|apply q_O)<;>try (intro _;try exact q_v))|with_reducible refine q_t ?_)
    all_goals first | omega | assumption | exact q_B [.inl none] rfl rfl | skip
  · simp only [h, if_true]
    (refine q_H Try.func38 (fun F => ?_); simp only [q_z,q_y,Try.ntmps38,Try.results38])
    repeat' (first|(with_reducible first|apply q_a|apply q_b|apply q_c|apply q_d|apply q_e|apply q_f|apply q_g|apply q_h|apply q_i|apply q_j|apply q_k|apply q_m|apply q_n|apply q_o|apply q_p|refine q_l ?_)|((with_reducible first|refine q_q qb5_ok fun K hK=>?_|refine q_r qb5_ok fun K hK=>?_);simp (maxSteps:=2000000) only [go_sem,↓reduceIte,reduceCtorEq,Nat.reduceLeDiff,Nat.reduceLT,Nat.reduceBEq,Nat.reduceAdd,h, h'];(repeat1' with_reducible first|apply And.intro|(intro _;try exact q_v)|(refine hK _ ?_;clear hK K))<;>(try (clear hK K;exact q_u)))|(with_reducible refine q_s ?_;(first|apply q_J|apply q_K|apply q_L|apply q_M|apply q_N|apply q_O)<;>try (intro _;try exact q_v))|with_reducible refine q_t ?_)
    all_goals first | omega | assumption | exact q_B [.inl none] rfl rfl | skip

set_option maxHeartbeats 1600000 in
theorem qMake_ok (a b : Int) (la : (dg 4294967296 a.natAbs).length ≤ 128) (lb : (dg 4294967296 b.natAbs).length ≤ 128) (h0 : b ≠ 0) :
    Ret Try.prog 43 false [.inr (gI a), .inr (gI b)] (rQ (a * tn b 1) b.natAbs) := by
  have oa := (okZ_g a).trans (decide_eq_true la)
  have ob := (okZ_g b).trans (decide_eq_true lb)
  have hp := (dg_len_pos 4294967296 b.natAbs (by omega)).2 (by omega)
  have m1 := sg_tn1 a b
  (refine q_H Try.func43 (fun F => ?_); simp only [q_z,q_y,Try.ntmps43,Try.results43])
  repeat' (first|(with_reducible first|apply q_a|apply q_b|apply q_c|apply q_d|apply q_e|apply q_f|apply q_g|apply q_h|apply q_i|apply q_j|apply q_k|apply q_m|apply q_n|apply q_o|apply q_p|refine q_l ?_)|((with_reducible first|refine q_q qb5_ok fun K hK=>?_|refine q_r qb5_ok fun K hK=>?_);simp (maxSteps:=2000000) only [go_sem,↓reduceIte,reduceCtorEq,Nat.reduceLeDiff,Nat.reduceLT,Nat.reduceBEq,Nat.reduceAdd,oa, ob, sv32, sv32d, V32, m1];(repeat1' with_reducible first|apply And.intro|(intro _;try exact q_v)|(refine hK _ ?_;clear hK K))<;>(try (clear hK K;exact q_u)))|(with_reducible refine q_s ?_;(first|apply q_J|apply q_K|apply q_L|apply q_M|apply q_N|apply q_O)<;>try (intro _;try exact q_v))|with_reducible refine q_t ?_)
  all_goals first | omega | exact q_A rfl | skip
set_option maxHeartbeats 1600000 in
theorem qMake_zero (a : Int) (la : (dg 4294967296 a.natAbs).length ≤ 128) :
    Ret Try.prog 43 false [.inr (gI a), .inr (gI 0)] (.t [zQ, fltQ 22 (-2)]) := by
  have oa := (okZ_g a).trans (decide_eq_true la)
  have ob := (okZ_g 0).trans (decide_eq_true (by decide))
  have e0 : (dg 4294967296 (0 : Int).natAbs) = [] := dg_zeroA _
  simp only [gI, e0] at ob ⊢
  (refine q_H Try.func43 (fun F => ?_); simp only [q_z,q_y,Try.ntmps43,Try.results43])
  repeat' (first|(with_reducible first|apply q_a|apply q_b|apply q_c|apply q_d|apply q_e|apply q_f|apply q_g|apply q_h|apply q_i|apply q_j|apply q_k|apply q_m|apply q_n|apply q_o|apply q_p|refine q_l ?_)|((with_reducible first|refine q_q qb5_ok fun K hK=>?_|refine q_r qb5_ok fun K hK=>?_);simp (maxSteps:=2000000) only [go_sem,↓reduceIte,reduceCtorEq,Nat.reduceLeDiff,Nat.reduceLT,Nat.reduceBEq,Nat.reduceAdd,oa, ob, sv32, sv32d, V32];(repeat1' with_reducible first|apply And.intro|(intro _;try exact q_v)|(refine hK _ ?_;clear hK K))<;>(try (clear hK K;exact q_u)))|(with_reducible refine q_s ?_;(first|apply q_J|apply q_K|apply q_L|apply q_M|apply q_N|apply q_O)<;>try (intro _;try exact q_v))|with_reducible refine q_t ?_)
  all_goals first | omega | exact q_B [nQ] rfl rfl | skip
set_option maxHeartbeats 1600000 in
theorem qMake_bad (s t : Bool) (xs ys : List Int) (h1 : xs.length ≤ 140737488355328) (h2 : ys.length ≤ 140737488355328) (h : okZ s xs = false ∨ okZ s xs = true ∧ okZ t ys = false) :
    Ret Try.prog 43 false [.inr [.b s, .ints .u32 xs], .inr [.b t, .ints .u32 ys]] (.t [zQ, fltQ 6 (if okZ s xs then -2 else -1)]) := by
  rcases h with h | ⟨h, h'⟩
  · simp only [h, Bool.false_eq_true, if_false]
    (refine q_H Try.func43 (fun F => ?_); simp only [q_z,q_y,Try.ntmps43,Try.results43])
    repeat' (first|(with_reducible first|apply q_a|apply q_b|apply q_c|apply q_d|apply q_e|apply q_f|apply q_g|apply q_h|apply q_i|apply q_j|apply q_k|apply q_m|apply q_n|apply q_o|apply q_p|refine q_l ?_)|((with_reducible first|refine q_q qb5_ok fun K hK=>?_|refine q_r qb5_ok fun K hK=>?_);simp (maxSteps:=2000000) only [go_sem,↓reduceIte,reduceCtorEq,Nat.reduceLeDiff,Nat.reduceLT,Nat.reduceBEq,Nat.reduceAdd,h];(repeat1' with_reducible first|apply And.intro|(intro _;try exact q_v)|(refine hK _ ?_;clear hK K))<;>(try (clear hK K;exact q_u)))|(with_reducible refine q_s ?_;(first|apply q_J|apply q_K|apply q_L|apply q_M|apply q_N|apply q_O)<;>try (intro _;try exact q_v))|with_reducible refine q_t ?_)
    all_goals first | omega | exact q_B [nQ] rfl rfl | skip
  · simp only [h, if_true]
    (refine q_H Try.func43 (fun F => ?_); simp only [q_z,q_y,Try.ntmps43,Try.results43])
    repeat' (first|(with_reducible first|apply q_a|apply q_b|apply q_c|apply q_d|apply q_e|apply q_f|apply q_g|apply q_h|apply q_i|apply q_j|apply q_k|apply q_m|apply q_n|apply q_o|apply q_p|refine q_l ?_)|((with_reducible first|refine q_q qb5_ok fun K hK=>?_|refine q_r qb5_ok fun K hK=>?_);simp (maxSteps:=2000000) only [go_sem,↓reduceIte,reduceCtorEq,Nat.reduceLeDiff,Nat.reduceLT,Nat.reduceBEq,Nat.reduceAdd,h, h'];(repeat1' with_reducible first|apply And.intro|(intro _;try exact q_v)|(refine hK _ ?_;clear hK K))<;>(try (clear hK K;exact q_u)))|(with_reducible refine q_s ?_;(first|apply q_J|apply q_K|apply q_L|apply q_M|apply q_N|apply q_O)<;>try (intro _;try exact q_v))|with_reducible refine q_t ?_)
    all_goals first | omega | exact q_B [nQ] rfl rfl | skip

def qtot2 (good : Int → Nat → Int → Nat → (AV → Prop) → Prop) (bad : List (C ⊕ List C)) : CT := mkCT [nQ, nQ] false fun l K => match l with
  | [.inr [.b s, .ints .u32 xs, .b p, .ints .u32 zs], .inr [.b t, .ints .u32 ys, .b q, .ints .u32 ws]] =>
      (xs.length ≤ 140737488355328 ∧ zs.length ≤ 140737488355328 ∧ ys.length ≤ 140737488355328 ∧ ws.length ≤ 140737488355328 ∧ InB 4294967296 xs ∧ InB 4294967296 zs ∧ InB 4294967296 ys ∧ InB 4294967296 ws) ∧
      (if okQ s xs p zs = true then (if okQ t ys q ws = true then good (sv 4294967296 s xs) (V 4294967296 zs) (sv 4294967296 t ys) (V 4294967296 ws) K else K (.t (bad ++ [fltQ 6 (-2)]))) else K (.t (bad ++ [fltQ 6 (-1)])))
  | _ => False
theorem gQ_of {s t : Bool} {xs ys : List Int} (h1 : okQ s xs t ys = true) (b1 : InB 4294967296 xs) (b2 : InB 4294967296 ys) : [.b s, .ints .u32 xs, .b t, .ints .u32 ys] = gQ (sv 4294967296 s xs) (V 4294967296 ys) ∧ RT (sv 4294967296 s xs) (V 4294967296 ys) := by
  obtain ⟨z, d, e1, e2, e3, e4, e5, e6, h⟩ := okQ_eq h1 b1 b2
  rw [e1, e2]
  refine ⟨?_, h⟩
  rw [gQ, ← e3, ← e4, ← e6, e5]
theorem qtot2_tr {F : FuncId} {good : Int → Nat → Int → Nat → (AV → Prop) → Prop} {bad : List (C ⊕ List C)} (hg : ∀ (x y : Int) (c d : Nat), RT x c → RT y d → ∀ K, good x c y d K → ∃ r, Ret Try.prog F false [.inr (gQ x c), .inr (gQ y d)] r ∧ K r)
    (hb : ∀ (s p t q : Bool) (xs zs ys ws : List Int), xs.length ≤ 140737488355328 → zs.length ≤ 140737488355328 → ys.length ≤ 140737488355328 → ws.length ≤ 140737488355328 → InB 4294967296 xs → InB 4294967296 zs → InB 4294967296 ys → InB 4294967296 ws → (okQ s xs p zs = false ∨ okQ s xs p zs = true ∧ okQ t ys q ws = false) → Ret Try.prog F false [.inr [.b s, .ints .u32 xs, .b p, .ints .u32 zs], .inr [.b t, .ints .u32 ys, .b q, .ints .u32 ws]] (.t (bad ++ [fltQ 6 (if okQ s xs p zs then -2 else -1)])))
    (l : List (C ⊕ List C)) (K : AV → Prop) (hk : match l with
      | [.inr [.b s, .ints .u32 xs, .b p, .ints .u32 zs], .inr [.b t, .ints .u32 ys, .b q, .ints .u32 ws]] =>
        (xs.length ≤ 140737488355328 ∧ zs.length ≤ 140737488355328 ∧ ys.length ≤ 140737488355328 ∧ ws.length ≤ 140737488355328 ∧ InB 4294967296 xs ∧ InB 4294967296 zs ∧ InB 4294967296 ys ∧ InB 4294967296 ws) ∧
        (if okQ s xs p zs = true then (if okQ t ys q ws = true then good (sv 4294967296 s xs) (V 4294967296 zs) (sv 4294967296 t ys) (V 4294967296 ws) K else K (.t (bad ++ [fltQ 6 (-2)]))) else K (.t (bad ++ [fltQ 6 (-1)])))
      | _ => False) : ∃ r, Ret Try.prog F false l r ∧ K r := by
  split at hk
  · rename_i s xs p zs t ys q ws
    obtain ⟨⟨h1, h2, h3, h4, b1, b2, b3, b4⟩, h⟩ := hk
    split at h
    · rename_i o1
      split at h
      · rename_i o2
        obtain ⟨e1, r1⟩ := gQ_of o1 b1 b2
        obtain ⟨e2, r2⟩ := gQ_of o2 b3 b4
        rw [e1, e2]
        exact hg _ _ _ _ r1 r2 K h
      · rename_i o2
        have := hb s p t q xs zs ys ws h1 h2 h3 h4 b1 b2 b3 b4 (.inr ⟨o1, by simpa using o2⟩)
        rw [if_pos o1] at this
        exact ⟨_, this, h⟩
    · rename_i o1
      have := hb s p t q xs zs ys ws h1 h2 h3 h4 b1 b2 b3 b4 (.inl (by simpa using o1))
      rw [if_neg o1] at this
      exact ⟨_, this, h⟩
  · exact hk.elim
def qgAdd (x : Int) (c : Nat) (y : Int) (d : Nat) (K : AV → Prop) : Prop := K (rQ (x * d + y * c) (c * d))
def qgSub (x : Int) (c : Nat) (y : Int) (d : Nat) (K : AV → Prop) : Prop := K (rQ (x * d - y * c) (c * d))
def qgMul (x : Int) (c : Nat) (y : Int) (d : Nat) (K : AV → Prop) : Prop := K (rQ (x * y) (c * d))
def qgDiv (x : Int) (c : Nat) (y : Int) (d : Nat) (K : AV → Prop) : Prop := (y = 0 → K (.t [zQ, fltQ 22 (-2)])) ∧ (¬ y = 0 → K (rQ (x * tn y d) (c * y.natAbs)))
def qgCmp (x : Int) (c : Nat) (y : Int) (d : Nat) (K : AV → Prop) : Prop := K (.t [.inl (.i .i64 (cmpZ (x * d) (y * c))), fltQ 0 0])
def qt6 : Cfg := addT 34 (qtot2 qgAdd [zQ]) qt5
theorem qt6_ok : TblOk Try.prog qt6 := q_I qt5_ok Try.func34 fun l K h =>
  qtot2_tr (good := qgAdd) (bad := [zQ]) (fun x y c d hx hy K h => ⟨_, qAdd_ok x y c d hx hy, h⟩) (fun s p t q xs zs ys ws h1 h2 h3 h4 b1 b2 b3 b4 h => qAdd_bad s p t q xs zs ys ws h1 h2 h3 h4 b1 b2 b3 b4 h) l K h
def qt7 : Cfg := addT 35 (qtot2 qgSub [zQ]) qt6
theorem qt7_ok : TblOk Try.prog qt7 := q_I qt6_ok Try.func35 fun l K h =>
  qtot2_tr (good := qgSub) (bad := [zQ]) (fun x y c d hx hy K h => ⟨_, qSub_ok x y c d hx hy, h⟩) (fun s p t q xs zs ys ws h1 h2 h3 h4 b1 b2 b3 b4 h => qSub_bad s p t q xs zs ys ws h1 h2 h3 h4 b1 b2 b3 b4 h) l K h
def qt8 : Cfg := addT 36 (qtot2 qgMul [zQ]) qt7
theorem qt8_ok : TblOk Try.prog qt8 := q_I qt7_ok Try.func36 fun l K h =>
  qtot2_tr (good := qgMul) (bad := [zQ]) (fun x y c d hx hy K h => ⟨_, qMul_ok x y c d hx hy, h⟩) (fun s p t q xs zs ys ws h1 h2 h3 h4 b1 b2 b3 b4 h => qMul_bad s p t q xs zs ys ws h1 h2 h3 h4 b1 b2 b3 b4 h) l K h
def qt9 : Cfg := addT 38 (qtot2 qgCmp [.inl (.i .i64 0)]) qt8
theorem qt9_ok : TblOk Try.prog qt9 := q_I qt8_ok Try.func38 fun l K h =>
  qtot2_tr (good := qgCmp) (bad := [.inl (.i .i64 0)]) (fun x y c d hx hy K h => ⟨_, qCmp_ok x y c d hx hy, h⟩) (fun s p t q xs zs ys ws h1 h2 h3 h4 b1 b2 b3 b4 h => qCmp_bad s p t q xs zs ys ws h1 h2 h3 h4 b1 b2 b3 b4 h) l K h
def qt10 : Cfg := addT 37 (qtot2 qgDiv [zQ]) qt9
theorem qt10_ok : TblOk Try.prog qt10 := q_I qt9_ok Try.func37 fun l K h =>
  qtot2_tr (good := qgDiv) (bad := [zQ]) (fun x y c d hx hy K h => by
    by_cases hy0 : y = 0
    · subst hy0; exact ⟨_, qDiv_zero x c d hx hy, h.1 rfl⟩
    · exact ⟨_, qDiv_ok x y c d hx hy hy0, h.2 hy0⟩) (fun s p t q xs zs ys ws h1 h2 h3 h4 b1 b2 b3 b4 h => qDiv_bad s p t q xs zs ys ws h1 h2 h3 h4 b1 b2 b3 b4 h) l K h
def qgMake (a b : Int) (K : AV → Prop) : Prop := (b = 0 → K (.t [zQ, fltQ 22 (-2)])) ∧ (¬ b = 0 → K (rQ (a * tn b 1) b.natAbs))
def qmakeCT : CT := mkCT [nP, nP] false fun l K => match l with
  | [.inr [.b s, .ints .u32 xs], .inr [.b t, .ints .u32 ys]] => (xs.length ≤ 140737488355328 ∧ ys.length ≤ 140737488355328 ∧ InB 4294967296 xs ∧ InB 4294967296 ys) ∧
      (if okZ s xs = true then (if okZ t ys = true then qgMake (sv 4294967296 s xs) (sv 4294967296 t ys) K else K (.t [zQ, fltQ 6 (-2)])) else K (.t [zQ, fltQ 6 (-1)]))
  | _ => False
theorem gI_ofQ {s : Bool} {xs : List Int} (h1 : okZ s xs = true) (h2 : InB 4294967296 xs) : [.b s, .ints .u32 xs] = gI (sv 4294967296 s xs) ∧ (dg 4294967296 (sv 4294967296 s xs).natAbs).length ≤ 128 := by
  obtain ⟨a1, a2, a3⟩ := okZ_eq h1 h2
  exact ⟨by rw [gI, ← a1, ← a2], by rw [← a2]; exact a3⟩
def qt11 : Cfg := addT 43 qmakeCT qt10
theorem qt11_ok : TblOk Try.prog qt11 := q_I qt10_ok Try.func43 fun l K h => by
  split at h
  · rename_i s xs t ys
    obtain ⟨⟨h1, h2, h3, h4⟩, h⟩ := h
    split at h
    · rename_i o1
      split at h
      · rename_i o2
        obtain ⟨e1, l1⟩ := gI_ofQ o1 h3
        obtain ⟨e2, l2⟩ := gI_ofQ o2 h4
        rw [e1, e2]
        generalize sv 4294967296 s xs = a at *
        generalize sv 4294967296 t ys = b at *
        by_cases hb : b = 0
        · subst hb; exact ⟨_, qMake_zero a l1, h.1 rfl⟩
        · exact ⟨_, qMake_ok a b l1 l2 hb, h.2 hb⟩
      · rename_i o2
        have := qMake_bad s t xs ys h1 h2 (.inr ⟨o1, by simpa using o2⟩)
        rw [if_pos o1] at this
        exact ⟨_, this, h⟩
    · rename_i o1
      have := qMake_bad s t xs ys h1 h2 (.inl (by simpa using o1))
      rw [if_neg o1] at this
      exact ⟨_, this, h⟩
  · exact h.elim
attribute [go_sem] qtot2 qgAdd qgSub qgMul qgDiv qgCmp qgMake qmakeCT zQ fltQ
end Go.Proofs.Ytlefdhkjbbdijaa
