import Derived.Test.YtlflfhcfljiciaaGreatE15
import Derived.Test.YtlflfhcfljiciaaGreatE3
namespace Go.Proofs.NatL
set_option linter.unusedSimpArgs false
set_option linter.unusedVariables false
theorem RT_parts {z : Int} {d : Nat} (h : RT z d) : 0 < d ∧ (dg 4294967296 z.natAbs).length ≤ 128 ∧ (dg 4294967296 d).length ≤ 128 := ⟨h.1, h.2.2.1, h.2.2.2⟩
def tn (y : Int) (d : Nat) : Int := sg (decide (y < 0)) d
theorem sg_tn (x y : Int) (d : Nat) : sg (decide (x < 0) != decide (y < 0)) (x.natAbs * d) = x * tn y d := by rw [sg_mul, sg_self]; rfl
theorem sg_tn1 (x y : Int) : sg (decide (x < 0) != decide (y < 0)) x.natAbs = x * tn y 1 := by rw [← sg_tn, Nat.mul_one]
theorem cmpQ_nn {x y : Int} {c d : Nat} (hd : 0 < d) (hx : x < 0) (hy : y < 0) : 0 - cmp3 (x.natAbs * d) (y.natAbs * c) = cmpZ (x * d) (y * c) := by
  rw [cmp3_Z]
  have e1 : x * (d : Int) = -((x.natAbs * d : Nat) : Int) := by rw [Int.natCast_mul, ← Int.neg_mul]; congr 1; omega
  have e2 : y * (c : Int) = -((y.natAbs * c : Nat) : Int) := by rw [Int.natCast_mul, ← Int.neg_mul]; congr 1; omega
  rw [e1, e2]
  unfold cmpZ
  (repeat' split) <;> omega
theorem cmpQ_pp {x y : Int} {c d : Nat} (hx : ¬ x < 0) (hy : ¬ y < 0) : cmp3 (x.natAbs * d) (y.natAbs * c) = cmpZ (x * d) (y * c) := by
  rw [cmp3_Z, Int.natCast_mul, Int.natCast_mul]
  congr 2 <;> omega
theorem cmpQ_np {x y : Int} {c d : Nat} (hd : 0 < d) (hx : x < 0) (hy : ¬ y < 0) : cmpZ (x * d) (y * c) = -1 := by
  have h1 : x * (d : Int) < 0 := Int.mul_neg_of_neg_of_pos hx (by omega)
  have h2 : 0 ≤ y * (c : Int) := Int.mul_nonneg (by omega) (by omega)
  unfold cmpZ; rw [if_pos (by omega)]
theorem cmpQ_pn {x y : Int} {c d : Nat} (hc : 0 < c) (hx : ¬ x < 0) (hy : y < 0) : cmpZ (x * d) (y * c) = 1 := by
  have h1 : y * (c : Int) < 0 := Int.mul_neg_of_neg_of_pos hy (by omega)
  have h2 : 0 ≤ x * (d : Int) := Int.mul_nonneg (by omega) (by omega)
  unfold cmpZ; rw [if_neg (by omega), if_neg (by omega)]
theorem cmp3_bd (a b : Nat) : -1 ≤ cmp3 a b ∧ cmp3 a b ≤ 1 := by unfold cmp3; (repeat' split) <;> omega
end Go.Proofs.NatL
namespace Go.Proofs.YtlflfhcfljiciaaGreat
set_option linter.unusedSimpArgs false
set_option linter.unusedVariables false
open Go.Abs Go.Proofs.NatL

abbrev zQ : C ⊕ List C := .inr [.b false, .ints .u32 [], .b false, .ints .u32 []]
abbrev fltQ (c i : Int) : C ⊕ List C := .inr [.i .i64 c, .i .i64 i]
def qb5 : Cfg := listT [(22, atCT), (20, qcheckCT), (51, reducedCT), (88, (natCT tr2 rMulN)), (74, (natCT tr2 rCmpN)), (49, ivalidCT)] [28]
theorem qb5_ok : TblOk Tryz.prog qb5 := listE_ok (by simp only [List.mem_singleton, forall_eq]; exact flt) ⟨⟨qt2, qt2_ok, rfl⟩, ⟨qt3, qt3_ok, rfl⟩, ⟨qt4, qt4_ok, rfl⟩, ⟨qn6, qn6_ok, rfl⟩, ⟨qn6, qn6_ok, rfl⟩, ⟨it5, it5_ok, rfl⟩, trivial⟩
attribute [go_sem] qb5
set_option maxHeartbeats 1600000 in
theorem qCmp_ok (x y : Int) (c d : Nat) (hx : RT x c) (hy : RT y d) : Ret Tryz.prog 93 false [.inr (gQ x c), .inr (gQ y d)] (.t [.inl (.i .i64 (cmpZ (x * d) (y * c))), fltQ 0 0]) := by
  have o1 := okQ_g hx
  have o2 := okQ_g hy
  obtain ⟨hc, lx, lc⟩ := RT_parts hx
  obtain ⟨hd, ly, ld⟩ := RT_parts hy
  have l1 := mul_len (B := 4294967296) (by omega) lx ld
  have l3 := mul_len (B := 4294967296) (by omega) ly lc
  have bd := cmp3_bd (x.natAbs * d) (y.natAbs * c)
  clear hx hy
  by_cases h1 : x < 0
  · by_cases h2 : y < 0
    · have e := cmpQ_nn (c := c) hd h1 h2
      simp only [gQ, decide_eq_true h1, decide_eq_true h2] at o1 o2 ⊢
      (refine q_H Tryz.func93 (fun F => ?_); simp only [q_z,q_y,Tryz.ntmps93,Tryz.results93])
      repeat' (first|(with_reducible first|apply q_a|apply q_b|apply q_c|apply q_d|apply q_e|apply q_f|apply q_g|apply q_h|apply q_i|apply q_j|apply q_k|apply q_m|apply q_n|apply q_o|apply q_p|refine q_l ?_)|((with_reducible first|refine q_q qb5_ok fun K hK=>?_|refine q_r qb5_ok fun K hK=>?_);simp (maxSteps:=2000000) only [go_sem,↓reduceIte,reduceCtorEq,Nat.reduceLeDiff,Nat.reduceLT,Nat.reduceBEq,Nat.reduceAdd,o1, o2, sv32, V32, e];(repeat1' with_reducible first|apply And.intro|(intro _;try exact q_v)|(refine hK _ ?_;clear hK K))<;>(try (clear hK K;exact q_u)))|(with_reducible refine q_s ?_;(first|apply q_J|apply q_K|apply q_L|apply q_M|apply q_N|apply q_O)<;>try (intro _;try exact q_v))|with_reducible refine q_t ?_)
      all_goals first | omega | exact q_A rfl | skip
    · rw [cmpQ_np hd h1 h2]
      simp only [gQ, decide_eq_true h1, decide_eq_false h2] at o1 o2 ⊢
      (refine q_H Tryz.func93 (fun F => ?_); simp only [q_z,q_y,Tryz.ntmps93,Tryz.results93])
      repeat' (first|(with_reducible first|apply q_a|apply q_b|apply q_c|apply q_d|apply q_e|apply q_f|apply q_g|apply q_h|apply q_i|apply q_j|apply q_k|apply q_m|apply q_n|apply q_o|apply q_p|refine q_l ?_)|((with_reducible first|refine q_q qb5_ok fun K hK=>?_|refine q_r qb5_ok fun K hK=>?_);simp (maxSteps:=2000000) only [go_sem,↓reduceIte,reduceCtorEq,Nat.reduceLeDiff,Nat.reduceLT,Nat.reduceBEq,Nat.reduceAdd,o1, o2, sv32, V32];(repeat1' with_reducible first|apply And.intro|(intro _;try exact q_v)|(refine hK _ ?_;clear hK K))<;>(try (clear hK K;exact q_u)))|(with_reducible refine q_s ?_;(first|apply q_J|apply q_K|apply q_L|apply q_M|apply q_N|apply q_O)<;>try (intro _;try exact q_v))|with_reducible refine q_t ?_)
      all_goals first | omega | exact q_A rfl | skip
  · by_cases h2 : y < 0
    · rw [cmpQ_pn hc h1 h2]
      simp only [gQ, decide_eq_false h1, decide_eq_true h2] at o1 o2 ⊢
      (refine q_H Tryz.func93 (fun F => ?_); simp only [q_z,q_y,Tryz.ntmps93,Tryz.results93])
      repeat' (first|(with_reducible first|apply q_a|apply q_b|apply q_c|apply q_d|apply q_e|apply q_f|apply q_g|apply q_h|apply q_i|apply q_j|apply q_k|apply q_m|apply q_n|apply q_o|apply q_p|refine q_l ?_)|((with_reducible first|refine q_q qb5_ok fun K hK=>?_|refine q_r qb5_ok fun K hK=>?_);simp (maxSteps:=2000000) only [go_sem,↓reduceIte,reduceCtorEq,Nat.reduceLeDiff,Nat.reduceLT,Nat.reduceBEq,Nat.reduceAdd,o1, o2, sv32, V32];(repeat1' with_reducible first|apply And.intro|(intro _;try exact q_v)|(refine hK _ ?_;clear hK K))<;>(try (clear hK K;exact q_u)))|(with_reducible refine q_s ?_;(first|apply q_J|apply q_K|apply q_L|apply q_M|apply q_N|apply q_O)<;>try (intro _;try exact q_v))|with_reducible refine q_t ?_)
      all_goals first | omega | exact q_A rfl | skip
    · have e := cmpQ_pp (c := c) (d := d) h1 h2
      simp only [gQ, decide_eq_false h1, decide_eq_false h2] at o1 o2 ⊢
      (refine q_H Tryz.func93 (fun F => ?_); simp only [q_z,q_y,Tryz.ntmps93,Tryz.results93])
      repeat' (first|(with_reducible first|apply q_a|apply q_b|apply q_c|apply q_d|apply q_e|apply q_f|apply q_g|apply q_h|apply q_i|apply q_j|apply q_k|apply q_m|apply q_n|apply q_o|apply q_p|refine q_l ?_)|((with_reducible first|refine q_q qb5_ok fun K hK=>?_|refine q_r qb5_ok fun K hK=>?_);simp (maxSteps:=2000000) only [go_sem,↓reduceIte,reduceCtorEq,Nat.reduceLeDiff,Nat.reduceLT,Nat.reduceBEq,Nat.reduceAdd,o1, o2, sv32, V32, e];(repeat1' with_reducible first|apply And.intro|(intro _;try exact q_v)|(refine hK _ ?_;clear hK K))<;>(try (clear hK K;exact q_u)))|(with_reducible refine q_s ?_;(first|apply q_J|apply q_K|apply q_L|apply q_M|apply q_N|apply q_O)<;>try (intro _;try exact q_v))|with_reducible refine q_t ?_)
      all_goals first | omega | exact q_A rfl | skip
set_option maxHeartbeats 1600000 in
theorem qCmp_bad (s p t q : Bool) (xs zs ys ws : List Int) (h1 : xs.length ≤ 140737488355328) (h2 : zs.length ≤ 140737488355328) (h3 : ys.length ≤ 140737488355328) (h4 : ws.length ≤ 140737488355328) (b1 : InB 4294967296 xs) (b2 : InB 4294967296 zs) (b3 : InB 4294967296 ys) (b4 : InB 4294967296 ws)
    (h : okQ s xs p zs = false ∨ okQ s xs p zs = true ∧ okQ t ys q ws = false) :
    Ret Tryz.prog 93 false [.inr [.b s, .ints .u32 xs, .b p, .ints .u32 zs], .inr [.b t, .ints .u32 ys, .b q, .ints .u32 ws]] (.t [.inl (.i .i64 0), fltQ 6 (if okQ s xs p zs then -2 else -1)]) := by
  rcases h with h | ⟨h, h'⟩
  · simp only [h, Bool.false_eq_true, if_false]
    (refine q_H Tryz.func93 (fun F => ?_); simp only [q_z,q_y,Tryz.ntmps93,Tryz.results93])
    repeat' (first|(with_reducible first|apply q_a|apply q_b|apply q_c|apply q_d|apply q_e|apply q_f|apply q_g|apply q_h|apply q_i|apply q_j|apply q_k|apply q_m|apply q_n|apply q_o|apply q_p|refine q_l ?_)|((with_reducible first|refine q_q qb5_ok fun K hK=>?_|refine q_r qb5_ok fun K hK=>?_);simp (maxSteps:=2000000) only [go_sem,↓reduceIte,reduceCtorEq,Nat.reduceLeDiff,Nat.reduceLT,Nat.reduceBEq,Nat.reduceAdd,h];(repeat1' with_reducible first|apply And.intro|(intro _;try exact q_v)|(refine hK _ ?_;clear hK K))<;>(try (clear hK K;exact q_u)))|(with_reducible refine q_s ?_;(first|apply q_J|apply q_K|apply q_L|apply q_M|apply q_N|apply q_O)<;>try (intro _;try exact q_v))|with_reducible refine q_t ?_)
    all_goals first | omega | assumption | exact q_B [.inl none] rfl rfl | skip
  · simp only [h, if_true]
    (refine q_H Tryz.func93 (fun F => ?_); simp only [q_z,q_y,Tryz.ntmps93,Tryz.results93])
    repeat' (first|(with_reducible first|apply q_a|apply q_b|apply q_c|apply q_d|apply q_e|apply q_f|apply q_g|apply q_h|apply q_i|apply q_j|apply q_k|apply q_m|apply q_n|apply q_o|apply q_p|refine q_l ?_)|((with_reducible first|refine q_q qb5_ok fun K hK=>?_|refine q_r qb5_ok fun K hK=>?_);simp (maxSteps:=2000000) only [go_sem,↓reduceIte,reduceCtorEq,Nat.reduceLeDiff,Nat.reduceLT,Nat.reduceBEq,Nat.reduceAdd,h, h'];(repeat1' with_reducible first|apply And.intro|(intro _;try exact q_v)|(refine hK _ ?_;clear hK K))<;>(try (clear hK K;exact q_u)))|(with_reducible refine q_s ?_;(first|apply q_J|apply q_K|apply q_L|apply q_M|apply q_N|apply q_O)<;>try (intro _;try exact q_v))|with_reducible refine q_t ?_)
    all_goals first | omega | assumption | exact q_B [.inl none] rfl rfl | skip

set_option maxHeartbeats 1600000 in
theorem qMake_ok (a b : Int) (la : (dg 4294967296 a.natAbs).length ≤ 128) (lb : (dg 4294967296 b.natAbs).length ≤ 128) (h0 : b ≠ 0) :
    Ret Tryz.prog 26 false [.inr (gI a), .inr (gI b)] (rQ (a * tn b 1) b.natAbs) := by
  have oa := (okZ_g a).trans (decide_eq_true la)
  have ob := (okZ_g b).trans (decide_eq_true lb)
  have hp := (dg_len_pos 4294967296 b.natAbs (by omega)).2 (by omega)
  have m1 := sg_tn1 a b
  (refine q_H Tryz.func26 (fun F => ?_); simp only [q_z,q_y,Tryz.ntmps26,Tryz.results26])
  repeat' (first|(with_reducible first|apply q_a|apply q_b|apply q_c|apply q_d|apply q_e|apply q_f|apply q_g|apply q_h|apply q_i|apply q_j|apply q_k|apply q_m|apply q_n|apply q_o|apply q_p|refine q_l ?_)|((with_reducible first|refine q_q qb5_ok fun K hK=>?_|refine q_r qb5_ok fun K hK=>?_);simp (maxSteps:=2000000) only [go_sem,↓reduceIte,reduceCtorEq,Nat.reduceLeDiff,Nat.reduceLT,Nat.reduceBEq,Nat.reduceAdd,oa, ob, sv32, sv32d, V32, m1];(repeat1' with_reducible first|apply And.intro|(intro _;try exact q_v)|(refine hK _ ?_;clear hK K))<;>(try (clear hK K;exact q_u)))|(with_reducible refine q_s ?_;(first|apply q_J|apply q_K|apply q_L|apply q_M|apply q_N|apply q_O)<;>try (intro _;try exact q_v))|with_reducible refine q_t ?_)
  all_goals first | omega | exact q_A rfl | skip
set_option maxHeartbeats 1600000 in
theorem qMake_zero (a : Int) (la : (dg 4294967296 a.natAbs).length ≤ 128) :
    Ret Tryz.prog 26 false [.inr (gI a), .inr (gI 0)] (.t [zQ, fltQ 22 (-2)]) := by
  have oa := (okZ_g a).trans (decide_eq_true la)
  have ob := (okZ_g 0).trans (decide_eq_true (by decide))
  have e0 : (dg 4294967296 (0 : Int).natAbs) = [] := dg_zeroA _
  simp only [gI, e0] at ob ⊢
  (refine q_H Tryz.func26 (fun F => ?_); simp only [q_z,q_y,Tryz.ntmps26,Tryz.results26])
  repeat' (first|(with_reducible first|apply q_a|apply q_b|apply q_c|apply q_d|apply q_e|apply q_f|apply q_g|apply q_h|apply q_i|apply q_j|apply q_k|apply q_m|apply q_n|apply q_o|apply q_p|refine q_l ?_)|((with_reducible first|refine q_q qb5_ok fun K hK=>?_|refine q_r qb5_ok fun K hK=>?_);simp (maxSteps:=2000000) only [go_sem,↓reduceIte,reduceCtorEq,Nat.reduceLeDiff,Nat.reduceLT,Nat.reduceBEq,Nat.reduceAdd,oa, ob, sv32, sv32d, V32];(repeat1' with_reducible first|apply And.intro|(intro _;try exact q_v)|(refine hK _ ?_;clear hK K))<;>(try (clear hK K;exact q_u)))|(with_reducible refine q_s ?_;(first|apply q_J|apply q_K|apply q_L|apply q_M|apply q_N|apply q_O)<;>try (intro _;try exact q_v))|with_reducible refine q_t ?_)
  all_goals first | omega | exact q_B [nQ] rfl rfl | skip
set_option maxHeartbeats 1600000 in
theorem qMake_bad (s t : Bool) (xs ys : List Int) (h1 : xs.length ≤ 140737488355328) (h2 : ys.length ≤ 140737488355328) (h : okZ s xs = false ∨ okZ s xs = true ∧ okZ t ys = false) :
    Ret Tryz.prog 26 false [.inr [.b s, .ints .u32 xs], .inr [.b t, .ints .u32 ys]] (.t [zQ, fltQ 6 (if okZ s xs then -2 else -1)]) := by
  rcases h with h | ⟨h, h'⟩
  · simp only [h, Bool.false_eq_true, if_false]
    (refine q_H Tryz.func26 (fun F => ?_); simp only [q_z,q_y,Tryz.ntmps26,Tryz.results26])
    repeat' (first|(with_reducible first|apply q_a|apply q_b|apply q_c|apply q_d|apply q_e|apply q_f|apply q_g|apply q_h|apply q_i|apply q_j|apply q_k|apply q_m|apply q_n|apply q_o|apply q_p|refine q_l ?_)|((with_reducible first|refine q_q qb5_ok fun K hK=>?_|refine q_r qb5_ok fun K hK=>?_);simp (maxSteps:=2000000) only [go_sem,↓reduceIte,reduceCtorEq,Nat.reduceLeDiff,Nat.reduceLT,Nat.reduceBEq,Nat.reduceAdd,h];(repeat1' with_reducible first|apply And.intro|(intro _;try exact q_v)|(refine hK _ ?_;clear hK K))<;>(try (clear hK K;exact q_u)))|(with_reducible refine q_s ?_;(first|apply q_J|apply q_K|apply q_L|apply q_M|apply q_N|apply q_O)<;>try (intro _;try exact q_v))|with_reducible refine q_t ?_)
    all_goals first | omega | exact q_B [nQ] rfl rfl | skip
  · simp only [h, if_true]
    (refine q_H Tryz.func26 (fun F => ?_); simp only [q_z,q_y,Tryz.ntmps26,Tryz.results26])
    repeat' (first|(with_reducible first|apply q_a|apply q_b|apply q_c|apply q_d|apply q_e|apply q_f|apply q_g|apply q_h|apply q_i|apply q_j|apply q_k|apply q_m|apply q_n|apply q_o|apply q_p|refine q_l ?_)|((with_reducible first|refine q_q qb5_ok fun K hK=>?_|refine q_r qb5_ok fun K hK=>?_);simp (maxSteps:=2000000) only [go_sem,↓reduceIte,reduceCtorEq,Nat.reduceLeDiff,Nat.reduceLT,Nat.reduceBEq,Nat.reduceAdd,h, h'];(repeat1' with_reducible first|apply And.intro|(intro _;try exact q_v)|(refine hK _ ?_;clear hK K))<;>(try (clear hK K;exact q_u)))|(with_reducible refine q_s ?_;(first|apply q_J|apply q_K|apply q_L|apply q_M|apply q_N|apply q_O)<;>try (intro _;try exact q_v))|with_reducible refine q_t ?_)
    all_goals first | omega | exact q_B [nQ] rfl rfl | skip

def qtot2 (good : Int → Nat → Int → Nat → (AV → Prop) → Prop) (bad : List (C ⊕ List C)) : CT := mkCT [nQ, nQ] false fun l K => match l with
  | [.inr [.b s, .ints .u32 xs, .b p, .ints .u32 zs], .inr [.b t, .ints .u32 ys, .b q, .ints .u32 ws]] =>
      (xs.length ≤ 140737488355328 ∧ zs.length ≤ 140737488355328 ∧ ys.length ≤ 140737488355328 ∧ ws.length ≤ 140737488355328 ∧ InB 4294967296 xs ∧ InB 4294967296 zs ∧ InB 4294967296 ys ∧ InB 4294967296 ws) ∧
      (if okQ s xs p zs = true then (if okQ t ys q ws = true then good (sv 4294967296 s xs) (V 4294967296 zs) (sv 4294967296 t ys) (V 4294967296 ws) K else K (.t (bad ++ [fltQ 6 (-2)]))) else K (.t (bad ++ [fltQ 6 (-1)])))
  | _ => False
theorem gQ_of {s t : Bool} {xs ys : List Int} (h1 : okQ s xs t ys = true) (b1 : InB 4294967296 xs) (b2 : InB 4294967296 ys) : [.b s, .ints .u32 xs, .b t, .ints .u32 ys] = gQ (sv 4294967296 s xs) (V 4294967296 ys) ∧ RT (sv 4294967296 s xs) (V 4294967296 ys) := by
  obtain ⟨z, d, e1, e2, e3, e4, e5, e6, h⟩ := okQ_eq h1 b1 b2
  rw [e1, e2]
  refine ⟨?_, h⟩
  rw [gQ, ← e3, ← e4, ← e6, e5]
theorem qtot2_tr {F : FuncId} {good : Int → Nat → Int → Nat → (AV → Prop) → Prop} {bad : List (C ⊕ List C)} (hg : ∀ (x y : Int) (c d : Nat), RT x c → RT y d → ∀ K, good x c y d K → ∃ r, Ret Tryz.prog F false [.inr (gQ x c), .inr (gQ y d)] r ∧ K r)
    (hb : ∀ (s p t q : Bool) (xs zs ys ws : List Int), xs.length ≤ 140737488355328 → zs.length ≤ 140737488355328 → ys.length ≤ 140737488355328 → ws.length ≤ 140737488355328 → InB 4294967296 xs → InB 4294967296 zs → InB 4294967296 ys → InB 4294967296 ws → (okQ s xs p zs = false ∨ okQ s xs p zs = true ∧ okQ t ys q ws = false) → Ret Tryz.prog F false [.inr [.b s, .ints .u32 xs, .b p, .ints .u32 zs], .inr [.b t, .ints .u32 ys, .b q, .ints .u32 ws]] (.t (bad ++ [fltQ 6 (if okQ s xs p zs then -2 else -1)])))
    (l : List (C ⊕ List C)) (K : AV → Prop) (hk : match l with
      | [.inr [.b s, .ints .u32 xs, .b p, .ints .u32 zs], .inr [.b t, .ints .u32 ys, .b q, .ints .u32 ws]] =>
        (xs.length ≤ 140737488355328 ∧ zs.length ≤ 140737488355328 ∧ ys.length ≤ 140737488355328 ∧ ws.length ≤ 140737488355328 ∧ InB 4294967296 xs ∧ InB 4294967296 zs ∧ InB 4294967296 ys ∧ InB 4294967296 ws) ∧
        (if okQ s xs p zs = true then (if okQ t ys q ws = true then good (sv 4294967296 s xs) (V 4294967296 zs) (sv 4294967296 t ys) (V 4294967296 ws) K else K (.t (bad ++ [fltQ 6 (-2)]))) else K (.t (bad ++ [fltQ 6 (-1)])))
      | _ => False) : ∃ r, Ret Tryz.prog F false l r ∧ K r := by
  split at hk
  · rename_i s xs p zs t ys q ws
    obtain ⟨⟨h1, h2, h3, h4, b1, b2, b3, b4⟩, h⟩ := hk
    split at h
    · rename_i o1
      split at h
      · rename_i o2
        obtain ⟨e1, r1⟩ := gQ_of o1 b1 b2
        obtain ⟨e2, r2⟩ := gQ_of o2 b3 b4
        rw [e1, e2]
        exact hg _ _ _ _ r1 r2 K h
      · rename_i o2
        have := hb s p t q xs zs ys ws h1 h2 h3 h4 b1 b2 b3 b4 (.inr ⟨o1, by simpa using o2⟩)
        rw [if_pos o1] at this
        exact ⟨_, this, h⟩
    · rename_i o1
      have := hb s p t q xs zs ys ws h1 h2 h3 h4 b1 b2 b3 b4 (.inl (by simpa using o1))
      rw [if_neg o1] at this
      exact ⟨_, this, h⟩
  · exact hk.elim
def qgAdd (x : Int) (c : Nat) (y : Int) (d : Nat) (K : AV → Prop) : Prop := K (rQ (x * d + y * c) (c * d))
def qgSub (x : Int) (c : Nat) (y : Int) (d : Nat) (K : AV → Prop) : Prop := K (rQ (x * d - y * c) (c * d))
def qgMul (x : Int) (c : Nat) (y : Int) (d : Nat) (K : AV → Prop) : Prop := K (rQ (x * y) (c * d))
def qgDiv (x : Int) (c : Nat) (y : Int) (d : Nat) (K : AV → Prop) : Prop := (y = 0 → K (.t [zQ, fltQ 22 (-2)])) ∧ (¬ y = 0 → K (rQ (x * tn y d) (c * y.natAbs)))
def qgCmp (x : Int) (c : Nat) (y : Int) (d : Nat) (K : AV → Prop) : Prop := K (.t [.inl (.i .i64 (cmpZ (x * d) (y * c))), fltQ 0 0])
def qt6 : Cfg := qt5
theorem qt6_ok : TblOk Tryz.prog qt6 := qt5_ok
def qt7 : Cfg := qt6
theorem qt7_ok : TblOk Tryz.prog qt7 := qt6_ok
def qt8 : Cfg := qt7
theorem qt8_ok : TblOk Tryz.prog qt8 := qt7_ok
def qt9 : Cfg := addT 93 (qtot2 qgCmp [.inl (.i .i64 0)]) qt8
theorem qt9_ok : TblOk Tryz.prog qt9 := q_I qt8_ok Tryz.func93 fun l K h =>
  qtot2_tr (good := qgCmp) (bad := [.inl (.i .i64 0)]) (fun x y c d hx hy K h => ⟨_, qCmp_ok x y c d hx hy, h⟩) (fun s p t q xs zs ys ws h1 h2 h3 h4 b1 b2 b3 b4 h => qCmp_bad s p t q xs zs ys ws h1 h2 h3 h4 b1 b2 b3 b4 h) l K h
def qt10 : Cfg := qt9
theorem qt10_ok : TblOk Tryz.prog qt10 := qt9_ok
def qgMake (a b : Int) (K : AV → Prop) : Prop := (b = 0 → K (.t [zQ, fltQ 22 (-2)])) ∧ (¬ b = 0 → K (rQ (a * tn b 1) b.natAbs))
def qmakeCT : CT := mkCT [nP, nP] false fun l K => match l with
  | [.inr [.b s, .ints .u32 xs], .inr [.b t, .ints .u32 ys]] => (xs.length ≤ 140737488355328 ∧ ys.length ≤ 140737488355328 ∧ InB 4294967296 xs ∧ InB 4294967296 ys) ∧
      (if okZ s xs = true then (if okZ t ys = true then qgMake (sv 4294967296 s xs) (sv 4294967296 t ys) K else K (.t [zQ, fltQ 6 (-2)])) else K (.t [zQ, fltQ 6 (-1)]))
  | _ => False
theorem gI_ofQ {s : Bool} {xs : List Int} (h1 : okZ s xs = true) (h2 : InB 4294967296 xs) : [.b s, .ints .u32 xs] = gI (sv 4294967296 s xs) ∧ (dg 4294967296 (sv 4294967296 s xs).natAbs).length ≤ 128 := by
  obtain ⟨a1, a2, a3⟩ := okZ_eq h1 h2
  exact ⟨by rw [gI, ← a1, ← a2], by rw [← a2]; exact a3⟩
def qt11 : Cfg := addT 26 qmakeCT qt10
theorem qt11_ok : TblOk Tryz.prog qt11 := q_I qt10_ok Tryz.func26 fun l K h => by
  split at h
  · rename_i s xs t ys
    obtain ⟨⟨h1, h2, h3, h4⟩, h⟩ := h
    split at h
    · rename_i o1
      split at h
      · rename_i o2
        obtain ⟨e1, l1⟩ := gI_ofQ o1 h3
        obtain ⟨e2, l2⟩ := gI_ofQ o2 h4
        rw [e1, e2]
        generalize sv 4294967296 s xs = a at *
        generalize sv 4294967296 t ys = b at *
        by_cases hb : b = 0
        · subst hb; exact ⟨_, qMake_zero a l1, h.1 rfl⟩
        · exact ⟨_, qMake_ok a b l1 l2 hb, h.2 hb⟩
      · rename_i o2
        have := qMake_bad s t xs ys h1 h2 (.inr ⟨o1, by simpa using o2⟩)
        rw [if_pos o1] at this
        exact ⟨_, this, h⟩
    · rename_i o1
      have := qMake_bad s t xs ys h1 h2 (.inl (by simpa using o1))
      rw [if_neg o1] at this
      exact ⟨_, this, h⟩
  · exact h.elim
attribute [go_sem] qtot2 qgAdd qgSub qgMul qgDiv qgCmp qgMake qmakeCT zQ fltQ
end Go.Proofs.YtlflfhcfljiciaaGreat

namespace Go.Proofs.NatL
set_option linter.unusedSimpArgs false
set_option linter.unusedVariables false
theorem Int.lt_or_ge' (a b : Int) : a < b ∨ b ≤ a := by omega
def dl (X : Int) (D : Nat) (s : Int) (t : Nat) : Nat := (X * t - s * D).natAbs
def Best (X : Int) (D m : Nat) (s : Int) (t : Nat) : Prop := (0 < t ∧ t ≤ m ∧ Nat.gcd s.natAbs t = 1) ∧
  ∀ (s' : Int) (t' : Nat), 0 < t' → t' ≤ m → Nat.gcd s'.natAbs t' = 1 →
    dl X D s t * t' < dl X D s' t' * t ∨ (dl X D s t * t' = dl X D s' t' * t ∧ (t < t' ∨ (t = t' ∧ s ≤ s')))
theorem best_unique {X : Int} {D m : Nat} {s s' : Int} {t t' : Nat} (h : Best X D m s t) (h' : Best X D m s' t') : s = s' ∧ t = t' := by
  have a := h.2 s' t' h'.1.1 h'.1.2.1 h'.1.2.2
  have b := h'.2 s t h.1.1 h.1.2.1 h.1.2.2
  omega
theorem farey {a c s : Int} {b d t m : Nat} (hdet : c * b - a * d = 1) (hm : m < b + d) (ht : t ≤ m) : s * b ≤ a * t ∨ c * t ≤ s * d := by
  rcases Int.lt_or_ge' (a * t) (s * b) with h | h
  · rcases Int.lt_or_ge' (s * d) (c * t) with h' | h'
    · exfalso
      have e : (t : Int) = (c * t - s * d) * b + (s * b - a * t) * d := by
        have : (c * t - s * d) * b + (s * b - a * t) * d = (c * b - a * d) * t := by
          simp only [Int.sub_mul]
          have e1 : c * t * (b : Int) = c * b * t := by ac_rfl
          have e2 : s * d * (b : Int) = s * b * d := by ac_rfl
          have e3 : a * t * (d : Int) = a * d * t := by ac_rfl
          rw [e1, e2, e3]; omega
        rw [this, hdet, Int.one_mul]
      have h1 : (b : Int) ≤ (c * t - s * d) * b := by
        have := Int.mul_le_mul_of_nonneg_right (show (1 : Int) ≤ c * t - s * d by omega) (Int.natCast_nonneg b)
        omega
      have h2 : (d : Int) ≤ (s * b - a * t) * d := by
        have := Int.mul_le_mul_of_nonneg_right (show (1 : Int) ≤ s * b - a * t by omega) (Int.natCast_nonneg d)
        omega
      omega
    · exact .inr h'
  · exact .inl h
theorem dl_low {X s : Int} {D t : Nat} (h : s * D ≤ X * t) : (dl X D s t : Int) = X * t - s * D := by unfold dl; omega
theorem mul_le_c {a b c : Int} (h : a ≤ b) (hc : 0 ≤ c) : a * c ≤ b * c := Int.mul_le_mul_of_nonneg_right h hc
theorem far_low {X a s : Int} {D b t : Nat} (hb : 0 < b) (ha : a * D ≤ X * b) (h : s * b ≤ a * t) : s * D ≤ X * t ∧ dl X D a b * t ≤ dl X D s t * b ∧ (dl X D a b * t = dl X D s t * b → 0 < D → s * b = a * t) := by
  have h1 : s * D ≤ X * t := by
    have e1 := mul_le_c h (Int.natCast_nonneg D)
    have e2 := mul_le_c ha (Int.natCast_nonneg t)
    have e3 : s * D * b ≤ X * t * b := by
      have r1 : s * (b : Int) * D = s * D * b := by ac_rfl
      have r2 : a * (t : Int) * D = a * D * t := by ac_rfl
      have r3 : X * (b : Int) * t = X * t * b := by ac_rfl
      rw [r1, r2] at e1
      rw [r3] at e2
      omega
    exact Int.le_of_mul_le_mul_right e3 (by omega)
  have k1 := dl_low ha
  have k2 := dl_low h1
  have e : (dl X D s t : Int) * b - dl X D a b * t = (a * t - s * b) * D := by
    rw [k1, k2]
    simp only [Int.sub_mul]
    have r1 : X * (t : Int) * b = X * b * t := by ac_rfl
    have r2 : s * (D : Int) * b = s * b * D := by ac_rfl
    have r3 : a * (D : Int) * t = a * t * D := by ac_rfl
    rw [r1, r2, r3]; omega
  refine ⟨h1, ?_, fun he hD => ?_⟩
  · have : 0 ≤ (a * t - s * b) * (D : Int) := Int.mul_nonneg (by omega) (by omega)
    have h2 : ((dl X D a b * t : Nat) : Int) ≤ ((dl X D s t * b : Nat) : Int) := by rw [Int.natCast_mul, Int.natCast_mul]; omega
    omega
  · have h2 : ((dl X D a b * t : Nat) : Int) = ((dl X D s t * b : Nat) : Int) := by rw [he]
    rw [Int.natCast_mul, Int.natCast_mul] at h2
    have h3 : (a * t - s * b) * (D : Int) = 0 := by omega
    rcases Int.mul_eq_zero.1 h3 with h4 | h4 <;> omega
theorem dl_neg (X : Int) (D : Nat) (s : Int) (t : Nat) : dl (-X) D (-s) t = dl X D s t := by
  unfold dl
  rw [Int.neg_mul, Int.neg_mul]; omega
theorem far_up {X c s : Int} {D d t : Nat} (hd : 0 < d) (hc : X * d ≤ c * D) (h : c * t ≤ s * d) : X * t ≤ s * D ∧ dl X D c d * t ≤ dl X D s t * d ∧ (dl X D c d * t = dl X D s t * d → 0 < D → s * d = c * t) := by
  have := far_low (X := -X) (a := -c) (s := -s) (D := D) (b := d) (t := t) hd (by rw [Int.neg_mul, Int.neg_mul]; omega) (by rw [Int.neg_mul, Int.neg_mul]; omega)
  rw [dl_neg, dl_neg, Int.neg_mul, Int.neg_mul, Int.neg_mul, Int.neg_mul] at this
  refine ⟨by omega, this.2.1, fun h1 h2 => ?_⟩
  have := this.2.2 h1 h2
  omega
theorem cop_det {a c : Int} {b d : Nat} (h : c * b - a * d = 1) : Nat.gcd a.natAbs b = 1 ∧ Nat.gcd c.natAbs d = 1 := by
  refine ⟨?_, ?_⟩
  · have h1 : ((Nat.gcd a.natAbs b : Nat) : Int) ∣ 1 := by
      rw [← h]
      refine Int.dvd_sub ?_ ?_
      · exact Int.dvd_trans (Int.natCast_dvd_natCast.2 (Nat.gcd_dvd_right _ _)) (Int.dvd_mul_left ..)
      · exact Int.dvd_trans (Int.ofNat_dvd_left.2 (Nat.gcd_dvd_left _ _)) (Int.dvd_mul_right ..)
    have := Int.natCast_dvd_natCast (m := Nat.gcd a.natAbs b) (n := 1)
    exact Nat.dvd_one.1 (this.1 h1)
  · have h1 : ((Nat.gcd c.natAbs d : Nat) : Int) ∣ 1 := by
      rw [← h]
      refine Int.dvd_sub ?_ ?_
      · exact Int.dvd_trans (Int.ofNat_dvd_left.2 (Nat.gcd_dvd_left _ _)) (Int.dvd_mul_right ..)
      · exact Int.dvd_trans (Int.natCast_dvd_natCast.2 (Nat.gcd_dvd_right _ _)) (Int.dvd_mul_left ..)
    exact Nat.dvd_one.1 (Int.natCast_dvd_natCast.1 h1)
theorem low_eq {a s : Int} {b t : Nat} (hb : 0 < b) (ht : 0 < t) (h1 : Nat.gcd a.natAbs b = 1) (h2 : Nat.gcd s.natAbs t = 1) (h : s * b = a * t) : s = a ∧ t = b := by
  have ha := congrArg Int.natAbs h
  rw [Int.natAbs_mul, Int.natAbs_mul, Int.natAbs_natCast, Int.natAbs_natCast] at ha
  have d1 : b ∣ t := by
    have : b ∣ a.natAbs * t := ⟨s.natAbs, by rw [← ha, Nat.mul_comm]⟩
    exact Nat.Coprime.dvd_of_dvd_mul_left (Nat.Coprime.symm h1) this
  have d2 : t ∣ b := by
    have : t ∣ s.natAbs * b := ⟨a.natAbs, by rw [ha, Nat.mul_comm]⟩
    exact Nat.Coprime.dvd_of_dvd_mul_left (Nat.Coprime.symm h2) this
  have e : t = b := Nat.dvd_antisymm d2 d1
  subst e
  exact ⟨Int.eq_of_mul_eq_mul_right (by omega) h, rfl⟩
def lowB (X : Int) (D : Nat) (a : Int) (b : Nat) (c : Int) (d : Nat) : Prop := dl X D a b * d < dl X D c d * b ∨ (dl X D a b * d = dl X D c d * b ∧ b ≤ d)
theorem trans_lt {ea ec es b d t : Nat} (ht : 0 < t) (h1 : ea * d < ec * b) (h2 : ec * t ≤ es * d) : ea * t < es * b := by
  have e1 : ea * d * t < ec * b * t := Nat.mul_lt_mul_of_pos_right h1 ht
  have e2 : ec * t * b ≤ es * d * b := Nat.mul_le_mul_right _ h2
  have r1 : ea * d * t = ea * t * d := by ac_rfl
  have r2 : ec * b * t = ec * t * b := by ac_rfl
  have r3 : es * d * b = es * b * d := by ac_rfl
  rw [r1, r2] at e1
  rw [r3] at e2
  have e3 : ea * t * d < es * b * d := Nat.lt_of_lt_of_le e1 e2
  exact Nat.lt_of_mul_lt_mul_right e3
theorem trans_le {ea ec es b d t : Nat} (hd : 0 < d) (h1 : ea * d ≤ ec * b) (h2 : ec * t ≤ es * d) : ea * t ≤ es * b := by
  have e1 : ea * d * t ≤ ec * b * t := Nat.mul_le_mul_right _ h1
  have e2 : ec * t * b ≤ es * d * b := Nat.mul_le_mul_right _ h2
  have r1 : ea * d * t = ea * t * d := by ac_rfl
  have r2 : ec * b * t = ec * t * b := by ac_rfl
  have r3 : es * d * b = es * b * d := by ac_rfl
  rw [r1, r2] at e1
  rw [r3] at e2
  have e3 : ea * t * d ≤ es * b * d := Nat.le_trans e1 e2
  exact Nat.le_of_mul_le_mul_right e3 hd
theorem best_low {X a c : Int} {D m b d : Nat} (hD : 0 < D) (hb : 0 < b) (hd : 0 < d) (hdet : c * b - a * d = 1) (hm : m < b + d) (hbm : b ≤ m) (hl : a * D ≤ X * b) (hu : X * d ≤ c * D) (h : lowB X D a b c d) : Best X D m a b := by
  obtain ⟨ca, cc⟩ := cop_det hdet
  refine ⟨⟨hb, hbm, ca⟩, fun s t ht htm hg => ?_⟩
  rcases farey (s := s) hdet hm htm with k | k
  · obtain ⟨_, k2, k3⟩ := far_low hb hl k
    rcases Nat.lt_or_ge (dl X D a b * t) (dl X D s t * b) with q | q
    · exact .inl q
    · have e := k3 (by omega) hD
      obtain ⟨rfl, rfl⟩ := low_eq hb ht ca hg e
      exact .inr ⟨by omega, .inr ⟨rfl, by omega⟩⟩
  · obtain ⟨_, k2, k3⟩ := far_up hd hu k
    rcases h with h | ⟨h, hbd⟩
    · exact .inl (trans_lt ht h k2)
    · have k4 := trans_le hd (Nat.le_of_eq h) k2
      rcases Nat.lt_or_ge (dl X D a b * t) (dl X D s t * b) with q | q
      · exact .inl q
      · have q : dl X D a b * t = dl X D s t * b := by omega
        -- then s / t is c / d
        have k5 : dl X D c d * t = dl X D s t * d := by
          have e1 : dl X D c d * t * b = dl X D s t * d * b := by
            have r1 : dl X D c d * t * b = (dl X D c d * b) * t := by ac_rfl
            have r2 : dl X D s t * d * b = (dl X D s t * b) * d := by ac_rfl
            rw [r1, ← h, r2, ← q]; ac_rfl
          exact Nat.eq_of_mul_eq_mul_right hb e1
        have e := k3 k5 hD
        obtain ⟨rfl, rfl⟩ := low_eq hd ht cc hg e
        refine .inr ⟨q, ?_⟩
        rcases Nat.lt_or_ge b t with z | z
        · exact .inl z
        · have hbt : b = t := by omega
          refine .inr ⟨hbt, ?_⟩
          subst hbt
          have : (s - a) * (b : Int) = 1 := by rw [Int.sub_mul]; exact hdet
          rcases Int.lt_or_ge' (s - a) 0 with w | w
          · have := Int.mul_neg_of_neg_of_pos w (show (0 : Int) < b by omega); omega
          · omega
theorem best_up {X a c : Int} {D m b d : Nat} (hD : 0 < D) (hb : 0 < b) (hd : 0 < d) (hdet : c * b - a * d = 1) (hm : m < b + d) (hdm : d ≤ m) (hl : a * D ≤ X * b) (hu : X * d ≤ c * D) (h : ¬ lowB X D a b c d) : Best X D m c d := by
  obtain ⟨ca, cc⟩ := cop_det hdet
  have h1 : dl X D c d * b < dl X D a b * d ∨ (dl X D c d * b = dl X D a b * d ∧ d < b) := by
    unfold lowB at h; omega
  refine ⟨⟨hd, hdm, cc⟩, fun s t ht htm hg => ?_⟩
  rcases farey (s := s) hdet hm htm with k | k
  · obtain ⟨_, k2, k3⟩ := far_low hb hl k
    rcases h1 with h | ⟨h, hbd⟩
    · exact .inl (trans_lt ht h k2)
    · have k4 := trans_le hb (Nat.le_of_eq h) k2
      rcases Nat.lt_or_ge (dl X D c d * t) (dl X D s t * d) with q | q
      · exact .inl q
      · have q : dl X D c d * t = dl X D s t * d := by omega
        have k5 : dl X D a b * t = dl X D s t * b := by
          have e1 : dl X D a b * t * d = dl X D s t * b * d := by
            have r1 : dl X D a b * t * d = (dl X D a b * d) * t := by ac_rfl
            have r2 : dl X D s t * b * d = (dl X D s t * d) * b := by ac_rfl
            rw [r1, ← h, r2, ← q]; ac_rfl
          exact Nat.eq_of_mul_eq_mul_right hd e1
        have e := k3 k5 hD
        obtain ⟨rfl, rfl⟩ := low_eq hb ht ca hg e
        exact .inr ⟨q, .inl hbd⟩
  · obtain ⟨_, k2, k3⟩ := far_up hd hu k
    rcases Nat.lt_or_ge (dl X D c d * t) (dl X D s t * d) with q | q
    · exact .inl q
    · have e := k3 (by omega) hD
      obtain ⟨rfl, rfl⟩ := low_eq hd ht cc hg e
      exact .inr ⟨by omega, .inr ⟨rfl, by omega⟩⟩
end Go.Proofs.NatL

namespace Go.Abs
set_option linter.unusedSimpArgs false
set_option linter.unusedVariables false
open Go.RowKit
variable {P : Program}

def swp : List (Nat × Nat) → Nat → Nat
  | [], i => i
  | (a, b) :: l, i => if i == a then b else if i == b then a else swp l i
def swFresh (x : Nat) : List (Nat × Nat) → Bool
  | [] => true
  | (a, b) :: l => !(a == x) && !(b == x) && swFresh x l
def swOk : List (Nat × Nat) → Bool
  | [] => true
  | (a, b) :: l => !(a == b) && swFresh a l && swFresh b l && swOk l
def swLt (n : Nat) : List (Nat × Nat) → Bool
  | [] => true
  | (a, b) :: l => decide (a < n) && decide (b < n) && swLt n l
theorem swp_fresh {x i : Nat} : ∀ {l : List (Nat × Nat)}, swFresh x l = true → i ≠ x → swp l i ≠ x
  | [], _, h => h
  | (a, b) :: l, hf, h => by
    simp only [swFresh, Bool.and_eq_true, Bool.not_eq_true', beq_eq_false_iff_ne] at hf
    unfold swp
    split
    · exact hf.1.2
    · split
      · exact hf.1.1
      · exact swp_fresh hf.2 h
theorem swp_swp : ∀ {l : List (Nat × Nat)}, swOk l = true → ∀ i, swp l (swp l i) = i
  | [], _, i => rfl
  | (a, b) :: l, h, i => by
    simp only [swOk, Bool.and_eq_true, Bool.not_eq_true', beq_eq_false_iff_ne] at h
    obtain ⟨⟨⟨h1, h2⟩, h3⟩, h4⟩ := h
    by_cases ha : i = a
    · subst ha
      have e : swp ((i, b) :: l) i = b := by simp [swp]
      rw [e]
      have hb : (b == i) = false := by simp; omega
      simp [swp, hb]
    · by_cases hb : i = b
      · subst hb
        have hia : (i == a) = false := by simp; omega
        have e : swp ((a, i) :: l) i = a := by simp [swp, hia]
        rw [e]; simp [swp]
      · have e : swp ((a, b) :: l) i = swp l i := by simp [swp, ha, hb]
        rw [e]
        have n1 := swp_fresh h2 ha
        have n2 := swp_fresh h3 hb
        have e2 : swp ((a, b) :: l) (swp l i) = swp l (swp l i) := by simp [swp, n1, n2]
        rw [e2]
        exact swp_swp h4 i
theorem swp_lt {n : Nat} : ∀ {l : List (Nat × Nat)}, swLt n l = true → ∀ i, n ≤ i → swp l i = i
  | [], _, i, _ => rfl
  | (a, b) :: l, h, i, hi => by
    simp only [swLt, Bool.and_eq_true, decide_eq_true_eq] at h
    have h1 : (i == a) = false := by simp; omega
    have h2 : (i == b) = false := by simp; omega
    simp only [swp, h1, h2, Bool.false_eq_true, if_false]
    exact swp_lt h.2 i hi

def swT (f : Nat → Nat) : TE → TE
  | .s x => .s x
  | .own id ver => .own (f id) ver
  | .bx id off => .bx (f id) off
  | .mp id => .mp (f id)
def swA (f : Nat → Nat) : AV → AV
  | .c x => .c x
  | .g x => .g x
  | .t x => .t x
  | .bx id off => .bx (f id) off
  | .mp id => .mp (f id)
  | .own id ver => .own (f id) ver
  | .fn g caps => .fn g (caps.map (swT f))
  | .tt l => .tt (l.map (swT f))
  | .mc con => .mc con
  | .oel id ver i off => .oel (f id) ver i off
  | .win id ver lo len => .win (f id) ver lo len
  | .bw k lo len => .bw k lo len
  | .bel k i off => .bel k i off
  | .el xs => .el xs
  | .anc id b => .anc (f id) b
  | .u => .u
def swH (f : Nat → Nat) (H : Hp) : Hp := ⟨H.box.map fun p => (f p.1, p.2.map (swA f)), H.buf.map fun p => (f p.1, id p.2), H.bor⟩
def swM (f : Nat → Nat) (m : Mp) : Mp := ⟨fun i => m.bx (f i), fun i => m.bf (f i)⟩
def swSt (f : Nat → Nat) (st : St) : St := ⟨st.n, st.sl.map fun p => (p.1, swA f p.2), swH f st.H, st.nx⟩
section
variable {f : Nat → Nat} {F : Fr} {H : Hp} {m : Mp} {w : World}
theorem sw_own (hf : ∀ i, f (f i) = i) (b : Nat) : Own (swM f m) b ↔ Own m b := by
  unfold Own swM
  constructor
  · rintro (⟨i, h⟩ | ⟨i, v, h, h2⟩)
    · exact .inl ⟨_, h⟩
    · exact .inr ⟨_, v, h, h2⟩
  · rintro (⟨i, h⟩ | ⟨i, v, h, h2⟩)
    · exact .inl ⟨f i, by simpa only [hf] using h⟩
    · exact .inr ⟨f i, v, by simpa only [hf] using h, h2⟩
theorem sw_S (hf : ∀ i, f (f i) = i) : F.S (swM f m) = F.S m := by
  funext b
  unfold Fr.S
  rw [propext (sw_own hf b)]
theorem sw_inj (hf : ∀ i, f (f i) = i) : ∀ i j, f i = f j → i = j := fun i j h => by rw [← hf i, h, hf j]
theorem sw_buf (hf : ∀ i, f (f i) = i) (i : Nat) : look (swH f H).buf (f i) = look H.buf i := by
  rw [swH]
  have := look_mapk f (fun B : Buf => id B) (sw_inj hf) H.buf i
  rw [this]
  cases look H.buf i <;> rfl
theorem sw_box (hf : ∀ i, f (f i) = i) (i : Nat) : look (swH f H).box (f i) = (look H.box i).map (·.map (swA f)) := by
  rw [swH]
  exact look_mapk f (fun cs : List AV => cs.map (swA f)) (sw_inj hf) H.box i
theorem sw_bxm (hf : ∀ i, f (f i) = i) (i : Nat) : (swM f m).bx (f i) = m.bx i := by simp only [swM, hf]
theorem sw_bfm (hf : ∀ i, f (f i) = i) (i : Nat) : (swM f m).bf (f i) = m.bf i := by simp only [swM, hf]
theorem sw_repT (hf : ∀ i, f (f i) = i) {x : TE} {v : Value} (h : RepT F H m w x v) : RepT F (swH f H) (swM f m) w (swT f x) v := by
  cases x with
  | s x => simp only [RepT, swT, sw_S hf] at h ⊢; exact h
  | own id ver => simp only [RepT, swT, sw_buf hf, sw_bfm hf] at h ⊢; exact h
  | bx id off => simp only [RepT, swT, sw_bxm hf] at h ⊢; exact h
  | mp id => simp only [RepT, swT, sw_bxm hf] at h ⊢; exact h
theorem sw_get {l : List TE} {j : Nat} {y : TE} (h : (l.map (swT f))[j]? = some y) : ∃ x, l[j]? = some x ∧ y = swT f x := by
  rw [List.getElem?_map] at h
  cases hl : l[j]? with
  | none => rw [hl] at h; cases h
  | some x => rw [hl] at h; cases h; exact ⟨x, rfl, rfl⟩
theorem sw_rep (hf : ∀ i, f (f i) = i) {x : AV} {v : Value} (h : RepA F H m w x v) : RepA F (swH f H) (swM f m) w (swA f x) v := by
  cases x with
  | c x => simp only [RepA, swA, sw_S hf] at h ⊢; exact h
  | g x => simp only [RepA, swA, sw_S hf] at h ⊢; exact h
  | t x => simp only [RepA, swA, sw_S hf] at h ⊢; exact h
  | bx id off => simp only [RepA, swA, sw_bxm hf] at h ⊢; exact h
  | mp id => simp only [RepA, swA, sw_bxm hf] at h ⊢; exact h
  | own id ver => simp only [RepA, swA, sw_buf hf, sw_bfm hf] at h ⊢; exact h
  | oel id ver i off => simp only [RepA, swA, sw_buf hf, sw_bfm hf] at h ⊢; exact h
  | win id ver lo len => simp only [RepA, swA, sw_buf hf, sw_bfm hf] at h ⊢; exact h
  | bw k lo len => simp only [RepA, swA] at h ⊢; exact h
  | bel k i off => simp only [RepA, swA] at h ⊢; exact h
  | el xs => simp only [RepA, swA, sw_S hf] at h ⊢; exact h
  | anc id b => simp only [RepA, swA, sw_bxm hf] at h ⊢; exact h
  | mc con => exact h
  | u => trivial
  | fn g caps =>
    obtain ⟨vs, h1, h2, h3⟩ := h
    refine ⟨vs, h1, by rw [h2, List.length_map], fun j y u hy hu => ?_⟩
    obtain ⟨x, hx, rfl⟩ := sw_get hy
    exact sw_repT hf (h3 j x u hx hu)
  | tt l =>
    obtain ⟨vs, h1, h2, h3⟩ := h
    refine ⟨vs, h1, by rw [h2, List.length_map], fun j y u hy hu => ?_⟩
    obtain ⟨x, hx, rfl⟩ := sw_get hy
    exact sw_repT hf (h3 j x u hx hu)
theorem sw_boxIs (hf : ∀ i, f (f i) = i) {b : Nat} {cs : List AV} (h : BoxIs F H m w b cs) : BoxIs F (swH f H) (swM f m) w b (cs.map (swA f)) := by
  cases hm : isM cs with
  | true =>
    obtain ⟨con, rfl⟩ := isM_some hm
    obtain ⟨es, ck, h1, h2⟩ := h
    exact ⟨es, ck, h1, by rw [sw_S hf]; exact h2⟩
  | false =>
    obtain ⟨arr, e, h1, h2, h3⟩ := h.cells hm
    refine BoxIs.of h1 (by rw [h2, List.length_map]) fun j x u hx hu => ?_
    rw [List.getElem?_map] at hx
    cases hl : cs[j]? with
    | none => rw [hl] at hx; cases hx
    | some y =>
      rw [hl] at hx; cases hx
      exact ⟨(h3 j y u hl hu).1, sw_rep hf (h3 j y u hl hu).2⟩
theorem sw_hrep (hf : ∀ i, f (f i) = i) (h : HRep F H m w) : HRep F (swH f H) (swM f m) w where
  os := h.os
  tape := h.tape
  output := h.output
  size := h.size
  block := h.block
  fresh := fun b hb => h.fresh b ((sw_own hf b).1 hb)
  gB := h.gB
  brB := h.brB
  bri := h.bri
  ibb := fun i j b h1 h2 => sw_inj hf i j (h.ibb _ _ b h1 h2)
  ibf := fun i j b v h1 h2 => h.ibf _ _ b v h1 h2
  iff := fun i j b u v h1 h2 h3 h4 => sw_inj hf i j (h.iff _ _ b u v h1 h2 h3 h4)
  box := fun i b hb => by
    obtain ⟨cs, h1, h2⟩ := h.box _ b hb
    refine ⟨cs.map (swA f), ?_, sw_boxIs hf h2⟩
    have := sw_box (H := H) hf (f i)
    rw [hf] at this
    rw [this, h1]; rfl
  buf := fun i v hv => by
    obtain ⟨B, rs, xs, h1, h2⟩ := h.buf _ v hv
    refine ⟨B, rs, xs, ?_, ?_⟩
    · have := sw_buf (H := H) hf (f i)
      rw [hf] at this
      rw [this]; exact h1
    · rw [sw_S hf]; exact h2
  bor := fun k v hv => by
    obtain ⟨B, rs, xs, h1, h2⟩ := h.bor k v hv
    exact ⟨B, rs, xs, h1, by rw [sw_S hf]; exact h2⟩
theorem sw_look (l : List (Nat × AV)) (t : Nat) : look (l.map fun p => (p.1, swA f p.2)) t = (look l t).map (swA f) := look_map (swA f) l t
end
theorem fit_sw {l : List (Nat × Nat)} {st st' : St} (ho : swOk l = true) (hl : swLt st.nx l = true) (h : Fit (swSt (swp l) st) st') : Fit st st' := by
  intro F m a w hs
  have hf := swp_swp ho
  refine h F (swM (swp l) m) a w ⟨hs.d, hs.sz, sw_hrep hf hs.h, fun i hi => ?_, fun t => ?_⟩
  · have e := swp_lt hl i hi
    simp only [swM, e]
    exact hs.fr i hi
  · have e : (swSt (swp l) st).get t = swA (swp l) (st.get t) := by
      simp only [St.get, swSt, sw_look]
      cases look st.sl t <;> rfl
    rw [e]
    exact sw_rep hf (hs.sl t)
def RoundW {ι : Type} (l : List (Nat × Nat)) (inv : ι → St) (μ : ι → Nat) (i : ι) (Q : Exit → St → Prop) : Exit → St → Prop
  | .normal, st => ∃ j, (swLt st.nx l = true ∧ FitP (swSt (swp l) st) (inv j)) ∧ μ j < μ i
  | e, st => Q e st
theorem loop_sw {F : Fr} {Q : Exit → St → Prop} {st : St} {c : Code} {ι : Type} (l : List (Nat × Nat)) (inv : ι → St) (μ : ι → Nat) (i0 : ι) (h0 : FitP st (inv i0)) (hr : ∀ i, AWp P F c (RoundW l inv μ i Q) (inv i)) (ho : swOk l = true := by rfl) : AWp P F (.loop c) Q st :=
  awp_loop inv μ i0 (fit_of h0) fun i => awp_mono (hr i) fun e st' h => by
    cases e with
    | normal => obtain ⟨j, ⟨h1, h2⟩, h3⟩ := h; exact ⟨j, fit_sw ho h1 (fit_of h2), h3⟩
    | _ => exact h
theorem roundw_n {ι : Type} {l : List (Nat × Nat)} {inv : ι → St} {μ : ι → Nat} {i : ι} {Q : Exit → St → Prop} {st : St} (j : ι) (h : FitP (swSt (swp l) st) (inv j)) (hm : μ j < μ i) (hl : swLt st.nx l = true := by rfl) : RoundW l inv μ i Q .normal st := ⟨j, ⟨hl, h⟩, hm⟩
theorem roundw_ret {ι : Type} {l : List (Nat × Nat)} {inv : ι → St} {μ : ι → Nat} {i : ι} {Q : Exit → St → Prop} {st : St} (h : Q .ret st) : RoundW l inv μ i Q .ret st := h
theorem fz_makeFunc {cf : Cfg} {st : St} {fn : Fn} {a b : Array Operand} : fzFor cf st (.makeFunc fn a b) = st := rfl
attribute [go_sem] fz_makeFunc swp swA swT swH swSt id
end Go.Abs
