import Derived.Test.YtlefdhkjbbdijaaG21
import Derived.Test.YtlefdhkjbbdijaaG22
import Derived.Test.YtlefdhkjbbdijaaG23
namespace Go.Proofs.Ytlefdhkjbbdijaa
set_option linter.unusedSimpArgs false
set_option linter.unusedVariables false
open Go.Abs Go.Proofs.NatL

theorem po_bad {s t : Bool} {xs ys : List Int} (n : Int) (h : okQ s xs t ys = false) : poN s xs t ys n = 0 ∧ poD s xs t ys n = 0 ∧ poC s xs t ys n = 6 ∧ poI s xs t ys n = -1 := by simp [poN, poD, poC, poI, h]
theorem po_range {s t : Bool} {xs ys : List Int} {n : Int} (h : okQ s xs t ys = true) (hn : n < -10000 ∨ 10000 < n) : poN s xs t ys n = 0 ∧ poD s xs t ys n = 0 ∧ poC s xs t ys n = 4 ∧ poI s xs t ys n = -2 := by simp [poN, poD, poC, poI, h, hn]
theorem po_zero {s t : Bool} {xs ys : List Int} {n : Int} (h : okQ s xs t ys = true) (hn : ¬ (n < -10000 ∨ 10000 < n)) (h0 : n < 0 ∧ sv 4294967296 s xs = 0) : poN s xs t ys n = 0 ∧ poD s xs t ys n = 0 ∧ poC s xs t ys n = 22 ∧ poI s xs t ys n = -1 := by simp [poN, poD, poC, poI, h, hn, h0]
theorem po_good {s t : Bool} {xs ys : List Int} {n : Int} (h : okQ s xs t ys = true) (hn : ¬ (n < -10000 ∨ 10000 < n)) (h0 : ¬ (n < 0 ∧ sv 4294967296 s xs = 0)) :
    poN s xs t ys n = fN (pwB (sv 4294967296 s xs) (V 4294967296 ys) n) (pwE (sv 4294967296 s xs) (V 4294967296 ys) n) ∧ poD s xs t ys n = fD (pwB (sv 4294967296 s xs) (V 4294967296 ys) n) (pwE (sv 4294967296 s xs) (V 4294967296 ys) n) ∧
    poC s xs t ys n = fC (pwB (sv 4294967296 s xs) (V 4294967296 ys) n) (pwE (sv 4294967296 s xs) (V 4294967296 ys) n) ∧ poI s xs t ys n = fI (pwB (sv 4294967296 s xs) (V 4294967296 ys) n) (pwE (sv 4294967296 s xs) (V 4294967296 ys) n) := by
  unfold poN poD poC poI
  rw [if_pos ⟨h, hn, h0⟩, if_pos ⟨h, hn, h0⟩, if_pos h, if_pos h, if_neg hn, if_neg h0, if_neg hn, if_neg h0]
  exact ⟨rfl, rfl, rfl, rfl⟩
def qv2 : Cfg := listT [(43, qmakeCT), (45, qpowCT), (10, partsCT), (46, icheckCT), (24, noIntCT), (32, atCT), (40, givesCT), (47, intOfCT), (48, ofCT), (49, (qT 60000 dpos lowF)), (23, qcheckCT), (14, ratioOfCT), (33, tTurnedCT), (50, raisedCT)] [30]
theorem qv2_ok : TblOk Try.prog qv2 := listE_ok (by simp only [List.mem_singleton, forall_eq]; exact flt) ⟨⟨qt11, qt11_ok, rfl⟩, ⟨qp2, qp2_ok, rfl⟩, ⟨qt20, qt20_ok, rfl⟩, ⟨jt15, jt15_ok, rfl⟩, ⟨jt15, jt15_ok, rfl⟩, ⟨jt15, jt15_ok, rfl⟩, ⟨rq16, rq16_ok, rfl⟩, ⟨jt15, jt15_ok, rfl⟩, ⟨jt15, jt15_ok, rfl⟩, ⟨rq3, rq3_ok, rfl⟩, ⟨rq15, rq15_ok, rfl⟩, ⟨rq2, rq2_ok, rfl⟩, ⟨rq9, rq9_ok, rfl⟩, ⟨jt16, jt16_ok, rfl⟩, trivial⟩
attribute [go_sem] qv2
set_option maxRecDepth 100000 in
set_option maxHeartbeats 12800000 in
theorem qmakes_ret (s t u v : Bool) (xs ys zs ws : List Int) (n : Int) (h1 : xs.length ≤ 140737488355328) (h2 : ys.length ≤ 140737488355328) (h3 : zs.length ≤ 140737488355328 ∧ ws.length ≤ 140737488355328) (b1 : InB 4294967296 xs) (b2 : InB 4294967296 ys) (b3 : InB 4294967296 zs ∧ InB 4294967296 ws) (hn : -9223372036854775808 ≤ n ∧ n ≤ 9223372036854775807) :
    Ret Try.prog 8 false [.inr [.b s, .ints .u32 xs], .inr [.b t, .ints .u32 ys], .inr [.b u, .ints .u32 zs, .b v, .ints .u32 ws], .inl (.i .i64 n)] (.c (.b true)) := by
  obtain ⟨h3, h4⟩ := h3
  obtain ⟨b3, b4⟩ := b3
  have k1 : dg 4294967296 (0 : Int).natAbs = [] := dg_zeroA _
  have k2 : dg 4294967296 0 = [] := rfl
  (refine q_H Try.func8 (fun F => ?_); simp only [q_z,q_y,Try.ntmps8,Try.results8])
  refine seq_cut7 (ι := Int × Int) (fun p => ⟨149, [(3, .c (.i .i64 n)), (6, .bx 2 0), (8, .c (.b false)), (11, .bx 5 0), (12, .bx 6 0), (13, .bx 7 0)],
    ⟨[(7, [.c (.i .i64 p.1), .c (.i .i64 p.2)]), (6, [.c (.i .i64 (poC u zs v ws n)), .c (.i .i64 (poI u zs v ws n))]), (5, [.c (.b (decide (poN u zs v ws n < 0))), .c (.ints .u32 (dg 4294967296 (poN u zs v ws n).natAbs)), .c (.b false), .c (.ints .u32 (dg 4294967296 (poD u zs v ws n)))]), (2, [.c (.b u), .c (.ints .u32 zs), .c (.b v), .c (.ints .u32 ws)])], [], []⟩, 9⟩) (fun Y hY => ?_) ?_
  · cases o1 : okZ s xs
    · repeat' (first|(with_reducible first|apply q_a|apply q_b|apply q_c|apply q_d|apply q_e|apply q_f|apply q_g|apply q_h|apply q_i|apply q_j|apply q_k|apply q_m|apply q_n|apply q_o|apply q_p|refine q_l ?_)|((with_reducible first|refine q_q qv2_ok fun K hK=>?_|refine q_r qv2_ok fun K hK=>?_);simp (maxSteps:=2000000) only [go_sem,↓reduceIte,reduceCtorEq,Nat.reduceLeDiff,Nat.reduceLT,Nat.reduceBEq,Nat.reduceAdd,o1];(repeat1' with_reducible first|apply And.intro|(intro _;try exact q_v)|(refine hK _ ?_;clear hK K))<;>(try (clear hK K;exact q_u)))|(with_reducible refine q_s ?_;(first|apply q_J|apply q_K|apply q_L|apply q_M|apply q_N|apply q_O)<;>try (intro _;try exact q_v))|with_reducible refine q_t ?_)
      all_goals first | omega | assumption | exact cut_fit hY (6, -1) q_D | skip
    cases o2 : okZ t ys
    · repeat' (first|(with_reducible first|apply q_a|apply q_b|apply q_c|apply q_d|apply q_e|apply q_f|apply q_g|apply q_h|apply q_i|apply q_j|apply q_k|apply q_m|apply q_n|apply q_o|apply q_p|refine q_l ?_)|((with_reducible first|refine q_q qv2_ok fun K hK=>?_|refine q_r qv2_ok fun K hK=>?_);simp (maxSteps:=2000000) only [go_sem,↓reduceIte,reduceCtorEq,Nat.reduceLeDiff,Nat.reduceLT,Nat.reduceBEq,Nat.reduceAdd,o1, o2];(repeat1' with_reducible first|apply And.intro|(intro _;try exact q_v)|(refine hK _ ?_;clear hK K))<;>(try (clear hK K;exact q_u)))|(with_reducible refine q_s ?_;(first|apply q_J|apply q_K|apply q_L|apply q_M|apply q_N|apply q_O)<;>try (intro _;try exact q_v))|with_reducible refine q_t ?_)
      all_goals first | omega | assumption | exact cut_fit hY (6, -2) q_D | skip
    obtain ⟨e1, f1, l1⟩ := gI_ofQ' o1 b1
    obtain ⟨e2, f2, l2⟩ := gI_ofQ' o2 b2
    generalize sv 4294967296 s xs = a at *
    generalize sv 4294967296 t ys = b at *
    subst e1 f1 e2 f2
    have m1 := sg_tn1 a b
    have z1 := Nrm_g b
    have la : (dg 65536 a.natAbs).length ≤ 256 := (dg_half' _ 128).2 l1
    have lb : (dg 65536 b.natAbs).length ≤ 256 := (dg_half' _ 128).2 l2
    by_cases h0 : b = 0
    · repeat' (first|(with_reducible first|apply q_a|apply q_b|apply q_c|apply q_d|apply q_e|apply q_f|apply q_g|apply q_h|apply q_i|apply q_j|apply q_k|apply q_m|apply q_n|apply q_o|apply q_p|refine q_l ?_)|((with_reducible first|refine q_q qv2_ok fun K hK=>?_|refine q_r qv2_ok fun K hK=>?_);simp (maxSteps:=2000000) only [go_sem,↓reduceIte,reduceCtorEq,Nat.reduceLeDiff,Nat.reduceLT,Nat.reduceBEq,Nat.reduceAdd,o1, o2, sv32, z1];(repeat1' with_reducible first|apply And.intro|(intro _;try exact q_v)|(refine hK _ ?_;clear hK K))<;>(try (clear hK K;exact q_u)))|(with_reducible refine q_s ?_;(first|apply q_J|apply q_K|apply q_L|apply q_M|apply q_N|apply q_O)<;>try (intro _;try exact q_v))|with_reducible refine q_t ?_)
      all_goals first | omega | assumption | exact cut_fit hY (22, -2) q_D | skip
    · have g1 := fN_len (rdN (a * tn b 1) b.natAbs) (rdD (a * tn b 1) b.natAbs)
      have g2 := fD_len (rdN (a * tn b 1) b.natAbs) (rdD (a * tn b 1) b.natAbs)
      repeat' (first|(with_reducible first|apply q_a|apply q_b|apply q_c|apply q_d|apply q_e|apply q_f|apply q_g|apply q_h|apply q_i|apply q_j|apply q_k|apply q_m|apply q_n|apply q_o|apply q_p|refine q_l ?_)|((with_reducible first|refine q_q qv2_ok fun K hK=>?_|refine q_r qv2_ok fun K hK=>?_);simp (maxSteps:=2000000) only [go_sem,↓reduceIte,reduceCtorEq,Nat.reduceLeDiff,Nat.reduceLT,Nat.reduceBEq,Nat.reduceAdd,o1, o2, sv32, V32, V65, sv65, sv65d, svz65, m1, Nrm_g, Nrm_n, sv32n];(repeat1' with_reducible first|apply And.intro|(intro _;try exact q_v)|(refine hK _ ?_;clear hK K))<;>(try (clear hK K;exact q_u)))|(with_reducible refine q_s ?_;(first|apply q_J|apply q_K|apply q_L|apply q_M|apply q_N|apply q_O)<;>try (intro _;try exact q_v))|with_reducible refine q_t ?_)
      all_goals first | omega | assumption | exact cut_fit hY (0, 0) q_D | skip
  · rintro ⟨wc, wi⟩
    simp only
    cases o1 : okQ u zs v ws
    · obtain ⟨p1, p2, p3, p4⟩ := po_bad n o1
      rw [p1, p2, p3, p4]
      repeat' (first|(with_reducible first|apply q_a|apply q_b|apply q_c|apply q_d|apply q_e|apply q_f|apply q_g|apply q_h|apply q_i|apply q_j|apply q_k|apply q_m|apply q_n|apply q_o|apply q_p|refine q_l ?_)|((with_reducible first|refine q_q qv2_ok fun K hK=>?_|refine q_r qv2_ok fun K hK=>?_);simp (maxSteps:=2000000) only [go_sem,↓reduceIte,reduceCtorEq,Nat.reduceLeDiff,Nat.reduceLT,Nat.reduceBEq,Nat.reduceAdd,o1, k1, k2];(repeat1' with_reducible first|apply And.intro|(intro _;try exact q_v)|(refine hK _ ?_;clear hK K))<;>(try (clear hK K;exact q_u)))|(with_reducible refine q_s ?_;(first|apply q_J|apply q_K|apply q_L|apply q_M|apply q_N|apply q_O)<;>try (intro _;try exact q_v))|with_reducible refine q_t ?_)
      all_goals first | omega | assumption | exact q_A rfl | skip
    obtain ⟨z, d, e1, e2, e3, e4, e5, e6, hx⟩ := okQ_eq o1 b3 b4
    obtain ⟨hd, lz, ld⟩ := RT_parts hx
    obtain ⟨mz, md⟩ := RT_len65 hx
    by_cases c1 : n < -10000 ∨ 10000 < n
    · obtain ⟨p1, p2, p3, p4⟩ := po_range o1 c1
      rw [p1, p2, p3, p4]
      repeat' (first|(with_reducible first|apply q_a|apply q_b|apply q_c|apply q_d|apply q_e|apply q_f|apply q_g|apply q_h|apply q_i|apply q_j|apply q_k|apply q_m|apply q_n|apply q_o|apply q_p|refine q_l ?_)|((with_reducible first|refine q_q qv2_ok fun K hK=>?_|refine q_r qv2_ok fun K hK=>?_);simp (maxSteps:=2000000) only [go_sem,↓reduceIte,reduceCtorEq,Nat.reduceLeDiff,Nat.reduceLT,Nat.reduceBEq,Nat.reduceAdd,o1, k1, k2];(repeat1' with_reducible first|apply And.intro|(intro _;try exact q_v)|(refine hK _ ?_;clear hK K))<;>(try (clear hK K;exact q_u)))|(with_reducible refine q_s ?_;(first|apply q_J|apply q_K|apply q_L|apply q_M|apply q_N|apply q_O)<;>try (intro _;try exact q_v))|with_reducible refine q_t ?_)
      all_goals first | omega | assumption | exact q_A rfl | skip
    have z1 := Nrm_g z
    by_cases c2 : n < 0 ∧ sv 4294967296 u zs = 0
    · obtain ⟨p1, p2, p3, p4⟩ := po_zero o1 c1 c2
      rw [p1, p2, p3, p4]
      obtain ⟨c2, c3⟩ := c2
      rw [e1] at c3
      subst e3 e4 e5 e6
      repeat' (first|(with_reducible first|apply q_a|apply q_b|apply q_c|apply q_d|apply q_e|apply q_f|apply q_g|apply q_h|apply q_i|apply q_j|apply q_k|apply q_m|apply q_n|apply q_o|apply q_p|refine q_l ?_)|((with_reducible first|refine q_q qv2_ok fun K hK=>?_|refine q_r qv2_ok fun K hK=>?_);simp (maxSteps:=2000000) only [go_sem,↓reduceIte,reduceCtorEq,Nat.reduceLeDiff,Nat.reduceLT,Nat.reduceBEq,Nat.reduceAdd,o1, k1, k2, sv32, z1];(repeat1' with_reducible first|apply And.intro|(intro _;try exact q_v)|(refine hK _ ?_;clear hK K))<;>(try (clear hK K;exact q_u)))|(with_reducible refine q_s ?_;(first|apply q_J|apply q_K|apply q_L|apply q_M|apply q_N|apply q_O)<;>try (intro _;try exact q_v))|with_reducible refine q_t ?_)
      all_goals first | omega | assumption | exact q_A rfl | skip
    obtain ⟨p1, p2, p3, p4⟩ := po_good o1 c1 c2
    rw [p1, p2, p3, p4]
    rw [e1] at c2
    rw [e1, e2]
    subst e3 e4 e5 e6
    have q1 : (0 - n).toNat = n.natAbs ∨ 0 ≤ n := by omega
    unfold pwB pwE
    by_cases c3 : n < 0
    · have hz : z ≠ 0 := fun h => c2 ⟨c3, h⟩
      have q2 : (0 - n).toNat = n.natAbs := by omega
      have q3 : (-n).toNat = n.natAbs := by omega
      have hza : 0 < z.natAbs := by omega
      rw [if_pos c3, if_pos c3]
      generalize n.natAbs = k at *
      have w1 : ((z.natAbs : Int) ^ k).natAbs = z.natAbs ^ k := by rw [abs_pow, Int.natAbs_natCast]
      have w2 : decide ((z.natAbs : Int) ^ k < 0) = false := decide_eq_false (by have : 0 ≤ (z.natAbs : Int) ^ k := Int.pow_nonneg (by omega); omega)
      have w3 := sgf z.natAbs
      have g1 := fN_len (sg (decide (z < 0)) d ^ k) (z.natAbs ^ k)
      have g2 := fD_len (sg (decide (z < 0)) d ^ k) (z.natAbs ^ k)
      by_cases a1 : (dg 4294967296 (sg (decide (z < 0)) d ^ k).natAbs).length ≤ 128
      · by_cases a2 : (dg 4294967296 (z.natAbs ^ k)).length ≤ 128
        · have a2' : (dg 4294967296 ((z.natAbs : Int) ^ k).natAbs).length ≤ 128 := by rw [w1]; exact a2
          have x1 := (cl_fit a1).1
          have x2 := (cl_fit a2').1
          have x3 := decide_eq_true a1
          have x4 := decide_eq_true a2
          repeat' (first|(with_reducible first|apply q_a|apply q_b|apply q_c|apply q_d|apply q_e|apply q_f|apply q_g|apply q_h|apply q_i|apply q_j|apply q_k|apply q_m|apply q_n|apply q_o|apply q_p|refine q_l ?_)|((with_reducible first|refine q_q qv2_ok fun K hK=>?_|refine q_r qv2_ok fun K hK=>?_);simp (maxSteps:=2000000) only [go_sem,↓reduceIte,reduceCtorEq,Nat.reduceLeDiff,Nat.reduceLT,Nat.reduceBEq,Nat.reduceAdd,o1, sv32, V32, sv65, sv65d, V65, svz65, z1, q2, q3, w1, w2, w3, x1, x2, x3, x4, Nrm_g, Nrm_n, sv32n];(repeat1' with_reducible first|apply And.intro|(intro _;try exact q_v)|(refine hK _ ?_;clear hK K))<;>(try (clear hK K;exact q_u)))|(with_reducible refine q_s ?_;(first|apply q_J|apply q_K|apply q_L|apply q_M|apply q_N|apply q_O)<;>try (intro _;try exact q_v))|with_reducible refine q_t ?_)
          all_goals first | omega | assumption | exact q_A rfl | skip
        · have x3 := decide_eq_true a1
          have x4 := decide_eq_false a2
          obtain ⟨y1, y2, y3, y4⟩ := f_big (z := sg (decide (z < 0)) d ^ k) (d := z.natAbs ^ k) (fun h => a2 h.2)
          rw [y1, y2, y3, y4]
          repeat' (first|(with_reducible first|apply q_a|apply q_b|apply q_c|apply q_d|apply q_e|apply q_f|apply q_g|apply q_h|apply q_i|apply q_j|apply q_k|apply q_m|apply q_n|apply q_o|apply q_p|refine q_l ?_)|((with_reducible first|refine q_q qv2_ok fun K hK=>?_|refine q_r qv2_ok fun K hK=>?_);simp (maxSteps:=2000000) only [go_sem,↓reduceIte,reduceCtorEq,Nat.reduceLeDiff,Nat.reduceLT,Nat.reduceBEq,Nat.reduceAdd,o1, k1, k2, sv32, V32, sv65, sv65d, V65, svz65, z1, q2, q3, w1, w2, w3, x3, x4, Nrm_g, Nrm_n, sv32n];(repeat1' with_reducible first|apply And.intro|(intro _;try exact q_v)|(refine hK _ ?_;clear hK K))<;>(try (clear hK K;exact q_u)))|(with_reducible refine q_s ?_;(first|apply q_J|apply q_K|apply q_L|apply q_M|apply q_N|apply q_O)<;>try (intro _;try exact q_v))|with_reducible refine q_t ?_)
          all_goals first | omega | assumption | exact q_A rfl | skip
      · have x3 := decide_eq_false a1
        obtain ⟨y1, y2, y3, y4⟩ := f_big (z := sg (decide (z < 0)) d ^ k) (d := z.natAbs ^ k) (fun h => a1 h.1)
        rw [y1, y2, y3, y4]
        repeat' (first|(with_reducible first|apply q_a|apply q_b|apply q_c|apply q_d|apply q_e|apply q_f|apply q_g|apply q_h|apply q_i|apply q_j|apply q_k|apply q_m|apply q_n|apply q_o|apply q_p|refine q_l ?_)|((with_reducible first|refine q_q qv2_ok fun K hK=>?_|refine q_r qv2_ok fun K hK=>?_);simp (maxSteps:=2000000) only [go_sem,↓reduceIte,reduceCtorEq,Nat.reduceLeDiff,Nat.reduceLT,Nat.reduceBEq,Nat.reduceAdd,o1, k1, k2, sv32, V32, sv65, sv65d, V65, svz65, z1, q2, q3, w1, w2, w3, x3, Nrm_g, Nrm_n, sv32n];(repeat1' with_reducible first|apply And.intro|(intro _;try exact q_v)|(refine hK _ ?_;clear hK K))<;>(try (clear hK K;exact q_u)))|(with_reducible refine q_s ?_;(first|apply q_J|apply q_K|apply q_L|apply q_M|apply q_N|apply q_O)<;>try (intro _;try exact q_v))|with_reducible refine q_t ?_)
        all_goals first | omega | assumption | exact q_A rfl | skip
    · have q2 : n.toNat = n.natAbs := by omega
      rw [if_neg c3, if_neg c3]
      generalize n.natAbs = k at *
      have w1 : ((d : Int) ^ k).natAbs = d ^ k := by rw [abs_pow, Int.natAbs_natCast]
      have w2 : decide ((d : Int) ^ k < 0) = false := decide_eq_false (by have : 0 ≤ (d : Int) ^ k := Int.pow_nonneg (by omega); omega)
      have g1 := fN_len (z ^ k) (d ^ k)
      have g2 := fD_len (z ^ k) (d ^ k)
      by_cases a1 : (dg 4294967296 (z ^ k).natAbs).length ≤ 128
      · by_cases a2 : (dg 4294967296 (d ^ k)).length ≤ 128
        · have a2' : (dg 4294967296 ((d : Int) ^ k).natAbs).length ≤ 128 := by rw [w1]; exact a2
          have x1 := (cl_fit a1).1
          have x2 := (cl_fit a2').1
          have x3 := decide_eq_true a1
          have x4 := decide_eq_true a2
          repeat' (first|(with_reducible first|apply q_a|apply q_b|apply q_c|apply q_d|apply q_e|apply q_f|apply q_g|apply q_h|apply q_i|apply q_j|apply q_k|apply q_m|apply q_n|apply q_o|apply q_p|refine q_l ?_)|((with_reducible first|refine q_q qv2_ok fun K hK=>?_|refine q_r qv2_ok fun K hK=>?_);simp (maxSteps:=2000000) only [go_sem,↓reduceIte,reduceCtorEq,Nat.reduceLeDiff,Nat.reduceLT,Nat.reduceBEq,Nat.reduceAdd,o1, sv32, V32, sv65, sv65n, V65, svz65, z1, q2, w1, w2, x1, x2, x3, x4, Nrm_g, Nrm_n, sv32n];(repeat1' with_reducible first|apply And.intro|(intro _;try exact q_v)|(refine hK _ ?_;clear hK K))<;>(try (clear hK K;exact q_u)))|(with_reducible refine q_s ?_;(first|apply q_J|apply q_K|apply q_L|apply q_M|apply q_N|apply q_O)<;>try (intro _;try exact q_v))|with_reducible refine q_t ?_)
          all_goals first | omega | assumption | exact q_A rfl | skip
        · have x3 := decide_eq_true a1
          have x4 := decide_eq_false a2
          obtain ⟨y1, y2, y3, y4⟩ := f_big (z := z ^ k) (d := d ^ k) (fun h => a2 h.2)
          rw [y1, y2, y3, y4]
          repeat' (first|(with_reducible first|apply q_a|apply q_b|apply q_c|apply q_d|apply q_e|apply q_f|apply q_g|apply q_h|apply q_i|apply q_j|apply q_k|apply q_m|apply q_n|apply q_o|apply q_p|refine q_l ?_)|((with_reducible first|refine q_q qv2_ok fun K hK=>?_|refine q_r qv2_ok fun K hK=>?_);simp (maxSteps:=2000000) only [go_sem,↓reduceIte,reduceCtorEq,Nat.reduceLeDiff,Nat.reduceLT,Nat.reduceBEq,Nat.reduceAdd,o1, k1, k2, sv32, V32, sv65, sv65n, V65, svz65, z1, q2, w1, w2, x3, x4, Nrm_g, Nrm_n, sv32n];(repeat1' with_reducible first|apply And.intro|(intro _;try exact q_v)|(refine hK _ ?_;clear hK K))<;>(try (clear hK K;exact q_u)))|(with_reducible refine q_s ?_;(first|apply q_J|apply q_K|apply q_L|apply q_M|apply q_N|apply q_O)<;>try (intro _;try exact q_v))|with_reducible refine q_t ?_)
          all_goals first | omega | assumption | exact q_A rfl | skip
      · have x3 := decide_eq_false a1
        obtain ⟨y1, y2, y3, y4⟩ := f_big (z := z ^ k) (d := d ^ k) (fun h => a1 h.1)
        rw [y1, y2, y3, y4]
        repeat' (first|(with_reducible first|apply q_a|apply q_b|apply q_c|apply q_d|apply q_e|apply q_f|apply q_g|apply q_h|apply q_i|apply q_j|apply q_k|apply q_m|apply q_n|apply q_o|apply q_p|refine q_l ?_)|((with_reducible first|refine q_q qv2_ok fun K hK=>?_|refine q_r qv2_ok fun K hK=>?_);simp (maxSteps:=2000000) only [go_sem,↓reduceIte,reduceCtorEq,Nat.reduceLeDiff,Nat.reduceLT,Nat.reduceBEq,Nat.reduceAdd,o1, k1, k2, sv32, V32, sv65, sv65n, V65, svz65, z1, q2, w1, w2, x3, Nrm_g, Nrm_n, sv32n];(repeat1' with_reducible first|apply And.intro|(intro _;try exact q_v)|(refine hK _ ?_;clear hK K))<;>(try (clear hK K;exact q_u)))|(with_reducible refine q_s ?_;(first|apply q_J|apply q_K|apply q_L|apply q_M|apply q_N|apply q_O)<;>try (intro _;try exact q_v))|with_reducible refine q_t ?_)
        all_goals first | omega | assumption | exact q_A rfl | skip
end Go.Proofs.Ytlefdhkjbbdijaa
