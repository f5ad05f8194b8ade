import Derived.Test.YtneecniebhhhlaaE28
import Derived.Test.YtneecniebhhhlaaE32
import Derived.Test.YtneecniebhhhlaaE34
namespace Go.Proofs.Ytneecniebhhhlaa
set_option linter.unusedSimpArgs false
set_option linter.unusedVariables false
open Go.Abs Go.Proofs.NatL

attribute [go_sem] n8
def rlf : Cfg := listT [(78, spansCT), (88, (rTot gdLength (.t [.inr [.b false, .ints .u32 []], .inr [.i .i64 6, .i .i64 (-1)]]))), (89, (rTotI gdAt)), (84, (rTotI gdIndex)), (90, valuesCT), (91, validRCT), (77, rangeOkCT), (23, atCT), (38, noIntCT), (39, sameIntCT), (24, ivalidCT), (43, intOfCT), (72, plusDCT), (58, (rI2CT 4194304 ordF)), (53, numberCT), (81, rangeOfCT), (92, elem65CT), (93, has65CT)] [28]
theorem rlf_ok : TblOk Try.prog rlf := listE_ok (by simp only [List.mem_singleton, forall_eq]; exact flt) ⟨⟨rz8, rz8_ok, rfl⟩, ⟨re1, re1_ok, rfl⟩, ⟨re2, re2_ok, rfl⟩, ⟨re3, re3_ok, rfl⟩, ⟨re4, re4_ok, rfl⟩, ⟨rc7, rc7_ok, rfl⟩, ⟨rj1, rj1_ok, rfl⟩, ⟨jt12, jt12_ok, rfl⟩, ⟨jt12, jt12_ok, rfl⟩, ⟨jt12, jt12_ok, rfl⟩, ⟨jt12, jt12_ok, rfl⟩, ⟨jt12, jt12_ok, rfl⟩, ⟨rj3, rj3_ok, rfl⟩, ⟨jt12, jt12_ok, rfl⟩, ⟨jt12, jt12_ok, rfl⟩, ⟨rj4, rj4_ok, rfl⟩, ⟨rj5, rj5_ok, rfl⟩, ⟨rj6, rj6_ok, rfl⟩, trivial⟩
attribute [go_sem] rlf
theorem elL_get (S D : Int) (m k : Nat) (h : k < m) : (elL S D m).getD k [] = gI (S + D * (k : Int)) := by
  simp [elL, List.getD_eq_getElem?_getD, h]
theorem has8_t {S T D v : Int} (h : hasR S T D v) : has8 S D (rLen S T D) v = true := decide_eq_true h
theorem has8_f {S T D v : Int} (h : ¬ hasR S T D v) : has8 S D (rLen S T D) v = false := decide_eq_false h
theorem len256 {z : Int} (h : FB z) : (dg 65536 z.natAbs).length ≤ 256 := (dg_half' z.natAbs 128).2 h
theorem sgz_lt {z : Int} {c : Bool} (h : sgz z c = true) (hp : z ≠ 0) : z < 0 := by
  unfold sgz at h
  rw [if_neg hp] at h
  exact of_decide_eq_true h
theorem cz_self (a : Int) : cmpZ a a = 0 := by unfold cmpZ; simp
theorem seq_cut3 {F : Fr} {Q : Exit → St → Prop} {st : St} {a b c Y : Code} {ι : Type} (mid : ι → St) (h1 : ∀ Y', (∀ i, AWp Try.prog F Y' Q (mid i)) → AWp Try.prog F (.seq a (.seq b (.seq c Y'))) Q st) (h2 : ∀ i, AWp Try.prog F Y Q (mid i)) : AWp Try.prog F (.seq a (.seq b (.seq c Y))) Q st := h1 Y h2
theorem seq_cut4 {F : Fr} {Q : Exit → St → Prop} {st : St} {a b c d Y : Code} {ι : Type} (mid : ι → St) (h1 : ∀ Y', (∀ i, AWp Try.prog F Y' Q (mid i)) → AWp Try.prog F (.seq a (.seq b (.seq c (.seq d Y')))) Q st) (h2 : ∀ i, AWp Try.prog F Y Q (mid i)) : AWp Try.prog F (.seq a (.seq b (.seq c (.seq d Y)))) Q st := h1 Y h2
theorem awp_fit {F : Fr} {Q : Exit → St → Prop} {st : St} {Y : Code} {ι : Type} {mid : ι → St} (hY : ∀ i, AWp Try.prog F Y Q (mid i)) (i : ι) (h : FitP st (mid i)) : AWp Try.prog F Y Q st := awp_told (mid i) h (hY i)
def PA (S D n : Int) (u : Bool) (us : List Int) (p : Bool × List Int × Int × Int) : Prop :=
  (okZ u us = false ∧ p = (false, [], 6, -2)) ∨
  (okZ u us = true ∧ (0 ≤ ixZ (sv 4294967296 u us) n ∧ ixZ (sv 4294967296 u us) n < n) ∧ p = (decide (S + D * ixZ (sv 4294967296 u us) n < 0), dg 4294967296 (S + D * ixZ (sv 4294967296 u us) n).natAbs, 0, 0)) ∨
  (okZ u us = true ∧ ¬ (0 ≤ ixZ (sv 4294967296 u us) n ∧ ixZ (sv 4294967296 u us) n < n) ∧ p = (false, [], 4, -2))
def PI (S T D : Int) (w : Bool) (ws : List Int) (p : Bool × List Int × Int × Int) : Prop :=
  (okZ w ws = false ∧ p = (false, [], 6, -2)) ∨
  (okZ w ws = true ∧ hasR S T D (sv 4294967296 w ws) ∧ p = (decide ((sv 4294967296 w ws - S).fdiv D < 0), dg 4294967296 ((sv 4294967296 w ws - S).fdiv D).natAbs, 0, 0)) ∨
  (okZ w ws = true ∧ ¬ hasR S T D (sv 4294967296 w ws) ∧ p = (false, [], 12, -2))
def PV (S D n m : Int) (p : List (List C) × Int × Int) : Prop :=
  ((0 ≤ m ∧ m ≤ 4000) ∧ p = (elL S D (atM n m), 0, 0)) ∨ ((m < 0 ∨ 4000 < m) ∧ p = ([], 4, -2))
set_option maxRecDepth 100000 in
set_option maxHeartbeats 25600000 in
theorem elements_ok (S T D : Int) (u w : Bool) (us ws : List Int) (m : Int) (hm : -9223372036854775808 ≤ m ∧ m ≤ 9223372036854775807) (h : RV S T D) (l4 : us.length ≤ 140737488355328) (l5 : ws.length ≤ 140737488355328) (b4 : InB 4294967296 us) (b5 : InB 4294967296 ws) :
    Ret Try.prog 17 false [.inr (gG S T D), .inr [.b u, .ints .u32 us], .inr [.b w, .ints .u32 ws], .inl (.i .i64 m)] (.c (.b true)) := by
  have hvr := (vR_g S T D).2 h
  obtain ⟨f1, f2, f3⟩ := rv_fb h
  have l1 := lb_of f1
  have l2 := lb_of f2
  have l3 := lb_of f3
  obtain ⟨n1, n2⟩ := len_fb h
  have elem := fun k h0 h1 => elem_fb (k := k) h h0 h1
  have hrv := h
  obtain ⟨w0, w1, w2, w3⟩ := h
  generalize hN : rLen S T D = n at *
  have m1 := Nat.le_trans (FB_len n1) (show 128 ≤ 16777216 by omega)
  have g1 := len256 f1
  have g2 := len256 f3
  have g5 := len256 n1
  simp only [gG, gI]
  (refine q_H Try.func17 (fun F => ?_); simp only [q_z,q_y,Try.ntmps17,Try.results17])
  refine seq_cut3 (ι := { p : Bool × List Int × Int × Int // PA S D n u us p }) (fun p => ⟨261, [(3, .c (.i .i64 m)), (4, .bx 0 0), (5, .bx 1 0), (6, .bx 2 0), (9, .bx 3 0), (10, .bx 4 0), (11, .bx 5 0), (12, .bx 6 0)], ⟨[(6, [.c (.i .i64 p.1.2.2.1), .c (.i .i64 p.1.2.2.2)]), (5, [.c (.b p.1.1), .c (.ints .u32 p.1.2.1)]), (4, [.c (.i .i64 0), .c (.i .i64 0)]), (3, [.c (.b (decide (n < 0))), .c (.ints .u32 (dg 4294967296 (n).natAbs))]), (2, [.c (.b w), .c (.ints .u32 ws)]), (1, [.c (.b u), .c (.ints .u32 us)]), (0, [.c (.b (decide (S < 0))), .c (.ints .u32 (dg 4294967296 (S).natAbs)), .c (.b (decide (T < 0))), .c (.ints .u32 (dg 4294967296 (T).natAbs)), .c (.b (decide (D < 0))), .c (.ints .u32 (dg 4294967296 (D).natAbs))])], [], []⟩, 7⟩) (fun Y hY => ?_) ?_
  · repeat' (first|(with_reducible first|apply q_a|apply q_b|apply q_c|apply q_d|apply q_e|apply q_f|apply q_g|apply q_h|apply q_i|apply q_j|apply q_k|apply q_m|apply q_n|apply q_o|apply q_p|refine q_l ?_)|((with_reducible first|refine q_q rlf_ok fun K hK=>?_|refine q_r rlf_ok fun K hK=>?_);simp (maxSteps:=2000000) only [go_sem,↓reduceIte,reduceCtorEq,Nat.reduceLeDiff,Nat.reduceLT,Nat.reduceBEq,Nat.reduceAdd,hvr, hN];(repeat1' with_reducible first|apply And.intro|(intro _;try exact q_v)|(refine hK _ ?_;clear hK K))<;>(try (clear hK K;exact q_u)))|(with_reducible refine q_s ?_;(first|apply q_J|apply q_K|apply q_L|apply q_M|apply q_N|apply q_O)<;>try (intro _;try exact q_v))|with_reducible refine q_t ?_)
    all_goals first
      | contradiction
      | omega
      | exact awp_fit hY ⟨(false, [], 6, -2), .inl ⟨‹_›, rfl⟩⟩ q_D
      | exact awp_fit hY ⟨(false, [], 4, -2), .inr (.inr ⟨‹_›, ‹_›, rfl⟩)⟩ q_D
      | exact awp_fit hY ⟨(_, _, 0, 0), .inr (.inl ⟨‹_›, ‹_›, rfl⟩)⟩ q_D
      | skip
  rintro ⟨pA, hA⟩
  refine seq_join (ι := { p : Bool × List Int × Int × Int // PI S T D w ws p }) (fun p => ⟨261, [(3, .c (.i .i64 m)), (4, .bx 0 0), (5, .bx 1 0), (6, .bx 2 0), (9, .bx 3 0), (10, .bx 4 0), (11, .bx 5 0), (12, .bx 6 0), (13, .bx 7 0), (14, .bx 8 0)], ⟨[(8, [.c (.i .i64 p.1.2.2.1), .c (.i .i64 p.1.2.2.2)]), (7, [.c (.b p.1.1), .c (.ints .u32 p.1.2.1)]), (6, [.c (.i .i64 pA.2.2.1), .c (.i .i64 pA.2.2.2)]), (5, [.c (.b pA.1), .c (.ints .u32 pA.2.1)]), (4, [.c (.i .i64 0), .c (.i .i64 0)]), (3, [.c (.b (decide (n < 0))), .c (.ints .u32 (dg 4294967296 (n).natAbs))]), (2, [.c (.b w), .c (.ints .u32 ws)]), (1, [.c (.b u), .c (.ints .u32 us)]), (0, [.c (.b (decide (S < 0))), .c (.ints .u32 (dg 4294967296 (S).natAbs)), .c (.b (decide (T < 0))), .c (.ints .u32 (dg 4294967296 (T).natAbs)), .c (.b (decide (D < 0))), .c (.ints .u32 (dg 4294967296 (D).natAbs))])], [], []⟩, 9⟩) ?_ ?_
  · repeat' (first|(with_reducible first|apply q_a|apply q_b|apply q_c|apply q_d|apply q_e|apply q_f|apply q_g|apply q_h|apply q_i|apply q_j|apply q_k|apply q_m|apply q_n|apply q_o|apply q_p|refine q_l ?_)|((with_reducible first|refine q_q rlf_ok fun K hK=>?_|refine q_r rlf_ok fun K hK=>?_);simp (maxSteps:=2000000) only [go_sem,↓reduceIte,reduceCtorEq,Nat.reduceLeDiff,Nat.reduceLT,Nat.reduceBEq,Nat.reduceAdd,hvr, hN];(repeat1' with_reducible first|apply And.intro|(intro _;try exact q_v)|(refine hK _ ?_;clear hK K))<;>(try (clear hK K;exact q_u)))|(with_reducible refine q_s ?_;(first|apply q_J|apply q_K|apply q_L|apply q_M|apply q_N|apply q_O)<;>try (intro _;try exact q_v))|with_reducible refine q_t ?_)
    all_goals first
      | contradiction
      | omega
      | exact join_n ⟨(false, [], 6, -2), .inl ⟨‹_›, rfl⟩⟩ q_D
      | exact join_n ⟨(false, [], 12, -2), .inr (.inr ⟨‹_›, ‹_›, rfl⟩)⟩ q_D
      | exact join_n ⟨(_, _, 0, 0), .inr (.inl ⟨‹_›, ‹_›, rfl⟩)⟩ q_D
      | skip
  rintro ⟨pB, hB⟩
  refine seq_join (ι := { p : List (List C) × Int × Int // PV S D n m p }) (fun p => ⟨261, [(3, .c (.i .i64 m)), (4, .bx 0 0), (5, .bx 1 0), (6, .bx 2 0), (9, .bx 3 0), (10, .bx 4 0), (11, .bx 5 0), (12, .bx 6 0), (13, .bx 7 0), (14, .bx 8 0), (15, .c (.sl 2 p.1.1)), (16, .bx 9 0)], ⟨[(9, [.c (.i .i64 p.1.2.1), .c (.i .i64 p.1.2.2)]), (8, [.c (.i .i64 pB.2.2.1), .c (.i .i64 pB.2.2.2)]), (7, [.c (.b pB.1), .c (.ints .u32 pB.2.1)]), (6, [.c (.i .i64 pA.2.2.1), .c (.i .i64 pA.2.2.2)]), (5, [.c (.b pA.1), .c (.ints .u32 pA.2.1)]), (4, [.c (.i .i64 0), .c (.i .i64 0)]), (3, [.c (.b (decide (n < 0))), .c (.ints .u32 (dg 4294967296 (n).natAbs))]), (2, [.c (.b w), .c (.ints .u32 ws)]), (1, [.c (.b u), .c (.ints .u32 us)]), (0, [.c (.b (decide (S < 0))), .c (.ints .u32 (dg 4294967296 (S).natAbs)), .c (.b (decide (T < 0))), .c (.ints .u32 (dg 4294967296 (T).natAbs)), .c (.b (decide (D < 0))), .c (.ints .u32 (dg 4294967296 (D).natAbs))])], [], []⟩, 10⟩) ?_ ?_
  · repeat' (first|(with_reducible first|apply q_a|apply q_b|apply q_c|apply q_d|apply q_e|apply q_f|apply q_g|apply q_h|apply q_i|apply q_j|apply q_k|apply q_m|apply q_n|apply q_o|apply q_p|refine q_l ?_)|((with_reducible first|refine q_q rlf_ok fun K hK=>?_|refine q_r rlf_ok fun K hK=>?_);simp (maxSteps:=2000000) only [go_sem,↓reduceIte,reduceCtorEq,Nat.reduceLeDiff,Nat.reduceLT,Nat.reduceBEq,Nat.reduceAdd,hvr, hN];(repeat1' with_reducible first|apply And.intro|(intro _;try exact q_v)|(refine hK _ ?_;clear hK K))<;>(try (clear hK K;exact q_u)))|(with_reducible refine q_s ?_;(first|apply q_J|apply q_K|apply q_L|apply q_M|apply q_N|apply q_O)<;>try (intro _;try exact q_v))|with_reducible refine q_t ?_)
    all_goals first
      | contradiction
      | omega
      | exact join_n ⟨([], 4, -2), .inr ⟨‹_›, rfl⟩⟩ q_D
      | exact join_n ⟨(elL S D (atM n m), 0, 0), .inl ⟨‹_›, rfl⟩⟩ q_D
      | skip
  rintro ⟨pC, hC⟩
  simp only
  refine seq_cut4 (ι := Unit) (fun _ => ⟨261, [(3, .c (.i .i64 m)), (5, .bx 1 0), (6, .bx 2 0), (11, .bx 5 0), (12, .bx 6 0), (13, .bx 7 0), (14, .bx 8 0), (15, .c (.sl 2 pC.1)), (16, .bx 9 0), (18, .bx 10 0)], ⟨[(10, [.c (.b (decide (S < 0))), .c (.ints .i64 (dg 65536 (S).natAbs)), .c (.b (decide (D < 0))), .c (.ints .i64 (dg 65536 (D).natAbs)), .c (.b (decide (n < 0))), .c (.ints .i64 (dg 65536 (n).natAbs)), .c (.b (sgz (S + D * (n - 1)) (decide (S < 0)))), .c (.ints .i64 (dg 65536 (S + D * (n - 1)).natAbs))]), (9, [.c (.i .i64 pC.2.1), .c (.i .i64 pC.2.2)]), (8, [.c (.i .i64 pB.2.2.1), .c (.i .i64 pB.2.2.2)]), (7, [.c (.b pB.1), .c (.ints .u32 pB.2.1)]), (6, [.c (.i .i64 pA.2.2.1), .c (.i .i64 pA.2.2.2)]), (5, [.c (.b pA.1), .c (.ints .u32 pA.2.1)]), (2, [.c (.b w), .c (.ints .u32 ws)]), (1, [.c (.b u), .c (.ints .u32 us)])], [], []⟩, 11⟩) (fun Y hY => ?_) ?_
  · repeat' (first|(with_reducible first|apply q_a|apply q_b|apply q_c|apply q_d|apply q_e|apply q_f|apply q_g|apply q_h|apply q_i|apply q_j|apply q_k|apply q_m|apply q_n|apply q_o|apply q_p|refine q_l ?_)|((with_reducible first|refine q_q rlf_ok fun K hK=>?_|refine q_r rlf_ok fun K hK=>?_);simp (maxSteps:=2000000) only [go_sem,↓reduceIte,reduceCtorEq,Nat.reduceLeDiff,Nat.reduceLT,Nat.reduceBEq,Nat.reduceAdd,hvr, hN];(repeat1' with_reducible first|apply And.intro|(intro _;try exact q_v)|(refine hK _ ?_;clear hK K))<;>(try (clear hK K;exact q_u)))|(with_reducible refine q_s ?_;(first|apply q_J|apply q_K|apply q_L|apply q_M|apply q_N|apply q_O)<;>try (intro _;try exact q_v))|with_reducible refine q_t ?_)
    all_goals first
        | contradiction
        | omega
        | assumption
        | exact awp_fit hY () q_D
        | skip
  rintro ⟨⟩
  refine seq_join (ι := Unit) (fun _ => ⟨261, [(3, .c (.i .i64 m)), (6, .bx 2 0), (13, .bx 7 0), (14, .bx 8 0), (15, .c (.sl 2 pC.1)), (16, .bx 9 0), (18, .bx 10 0)], ⟨[(10, [.c (.b (decide (S < 0))), .c (.ints .i64 (dg 65536 (S).natAbs)), .c (.b (decide (D < 0))), .c (.ints .i64 (dg 65536 (D).natAbs)), .c (.b (decide (n < 0))), .c (.ints .i64 (dg 65536 (n).natAbs)), .c (.b (sgz (S + D * (n - 1)) (decide (S < 0)))), .c (.ints .i64 (dg 65536 (S + D * (n - 1)).natAbs))]), (9, [.c (.i .i64 pC.2.1), .c (.i .i64 pC.2.2)]), (8, [.c (.i .i64 pB.2.2.1), .c (.i .i64 pB.2.2.2)]), (7, [.c (.b pB.1), .c (.ints .u32 pB.2.1)]), (2, [.c (.b w), .c (.ints .u32 ws)])], [], []⟩, 12⟩) ?_ ?_
  · rcases hA with ⟨ho, rfl⟩ | ⟨ho, hi, rfl⟩ | ⟨ho, hi, rfl⟩
    · repeat' (first|(with_reducible first|apply q_a|apply q_b|apply q_c|apply q_d|apply q_e|apply q_f|apply q_g|apply q_h|apply q_i|apply q_j|apply q_k|apply q_m|apply q_n|apply q_o|apply q_p|refine q_l ?_)|((with_reducible first|refine q_q rlf_ok fun K hK=>?_|refine q_r rlf_ok fun K hK=>?_);simp (maxSteps:=2000000) only [go_sem,↓reduceIte,reduceCtorEq,Nat.reduceLeDiff,Nat.reduceLT,Nat.reduceBEq,Nat.reduceAdd,ho, sv_nil];(repeat1' with_reducible first|apply And.intro|(intro _;try exact q_v)|(refine hK _ ?_;clear hK K))<;>(try (clear hK K;exact q_u)))|(with_reducible refine q_s ?_;(first|apply q_J|apply q_K|apply q_L|apply q_M|apply q_N|apply q_O)<;>try (intro _;try exact q_v))|with_reducible refine q_t ?_)
      all_goals first
        | contradiction
        | omega
        | assumption
        | exact join_n () q_D
        | skip
    · obtain ⟨e, la⟩ := gI_of ho b4
      generalize hz : sv 4294967296 u us = z at *
      simp only [gI, List.cons.injEq, C.b.injEq, C.ints.injEq, and_true, true_and] at e
      obtain ⟨rfl, rfl⟩ := e
      have hu : FB z := la
      have g3 := len256 hu
      have m2 := Nat.le_trans (FB_len hu) (show 128 ≤ 1048576 by omega)
      have hx := ix_fb hu n1 n2
      have sp := @sgz_lt (z + n)
      have sn := @sgz_ge (z + n)
      have pl := dg_len_pos 65536 (z + n).natAbs (by omega)
      have c1 := cz_lt (z + n) n
      have c2 := cz_lt z n
      obtain ⟨e1, e2, e3⟩ := elem (ixZ z n) hi.1 hi.2
      have g6 := len256 e3
      have g8 := len256 e1
      have m5 := Nat.le_trans (FB_len e3) (show 128 ≤ 16777216 by omega)
      by_cases hn : z < 0
      · have e : ixZ z n = z + n := if_pos hn
        rw [e] at hi e1 e2 e3 g6 g8 m5
        simp only [e]
        repeat' (first|(with_reducible first|apply q_a|apply q_b|apply q_c|apply q_d|apply q_e|apply q_f|apply q_g|apply q_h|apply q_i|apply q_j|apply q_k|apply q_m|apply q_n|apply q_o|apply q_p|refine q_l ?_)|((with_reducible first|refine q_q rlf_ok fun K hK=>?_|refine q_r rlf_ok fun K hK=>?_);simp (maxSteps:=2000000) only [go_sem,↓reduceIte,reduceCtorEq,Nat.reduceLeDiff,Nat.reduceLT,Nat.reduceBEq,Nat.reduceAdd,ho];(repeat1' with_reducible first|apply And.intro|(intro _;try exact q_v)|(refine hK _ ?_;clear hK K))<;>(try (clear hK K;exact q_u)))|(with_reducible refine q_s ?_;(first|apply q_J|apply q_K|apply q_L|apply q_M|apply q_N|apply q_O)<;>try (intro _;try exact q_v))|with_reducible refine q_t ?_)
        all_goals first
        | contradiction
        | omega
        | assumption
        | exact join_n () q_D
        | (rename_i y1 y2; exfalso; have := sp y1 (by omega); omega)
        | (rename_i y1; exfalso; have := sp y1 (by omega); omega)
        | (rename_i y1 y2; exfalso; have := sn y1; omega)
        | (rename_i y1; exfalso; have := sn y1; omega)
        | (exfalso; have := sn ‹sgz (z + n) (decide (z < 0)) = false›; omega)
        | skip
      · have e : ixZ z n = z := if_neg hn
        rw [e] at hi e1 e2 e3 g6 g8 m5
        simp only [e]
        repeat' (first|(with_reducible first|apply q_a|apply q_b|apply q_c|apply q_d|apply q_e|apply q_f|apply q_g|apply q_h|apply q_i|apply q_j|apply q_k|apply q_m|apply q_n|apply q_o|apply q_p|refine q_l ?_)|((with_reducible first|refine q_q rlf_ok fun K hK=>?_|refine q_r rlf_ok fun K hK=>?_);simp (maxSteps:=2000000) only [go_sem,↓reduceIte,reduceCtorEq,Nat.reduceLeDiff,Nat.reduceLT,Nat.reduceBEq,Nat.reduceAdd,ho];(repeat1' with_reducible first|apply And.intro|(intro _;try exact q_v)|(refine hK _ ?_;clear hK K))<;>(try (clear hK K;exact q_u)))|(with_reducible refine q_s ?_;(first|apply q_J|apply q_K|apply q_L|apply q_M|apply q_N|apply q_O)<;>try (intro _;try exact q_v))|with_reducible refine q_t ?_)
        all_goals first
        | contradiction
        | omega
        | assumption
        | exact join_n () q_D
        | (rename_i y1 y2; exfalso; have := sp y1 (by omega); omega)
        | (rename_i y1; exfalso; have := sp y1 (by omega); omega)
        | (rename_i y1 y2; exfalso; have := sn y1; omega)
        | (rename_i y1; exfalso; have := sn y1; omega)
        | (exfalso; have := sn ‹sgz (z + n) (decide (z < 0)) = false›; omega)
        | skip
    · obtain ⟨e, la⟩ := gI_of ho b4
      generalize hz : sv 4294967296 u us = z at *
      simp only [gI, List.cons.injEq, C.b.injEq, C.ints.injEq, and_true, true_and] at e
      obtain ⟨rfl, rfl⟩ := e
      have hu : FB z := la
      have g3 := len256 hu
      have m2 := Nat.le_trans (FB_len hu) (show 128 ≤ 1048576 by omega)
      have hx := ix_fb hu n1 n2
      have sp := @sgz_lt (z + n)
      have sn := @sgz_ge (z + n)
      have pl := dg_len_pos 65536 (z + n).natAbs (by omega)
      have c1 := cz_lt (z + n) n
      have c2 := cz_lt z n
      by_cases hn : z < 0
      · have e : ixZ z n = z + n := if_pos hn
        rw [e] at hi
        have g8 := len256 (hx hn)
        repeat' (first|(with_reducible first|apply q_a|apply q_b|apply q_c|apply q_d|apply q_e|apply q_f|apply q_g|apply q_h|apply q_i|apply q_j|apply q_k|apply q_m|apply q_n|apply q_o|apply q_p|refine q_l ?_)|((with_reducible first|refine q_q rlf_ok fun K hK=>?_|refine q_r rlf_ok fun K hK=>?_);simp (maxSteps:=2000000) only [go_sem,↓reduceIte,reduceCtorEq,Nat.reduceLeDiff,Nat.reduceLT,Nat.reduceBEq,Nat.reduceAdd,ho, sv_nil];(repeat1' with_reducible first|apply And.intro|(intro _;try exact q_v)|(refine hK _ ?_;clear hK K))<;>(try (clear hK K;exact q_u)))|(with_reducible refine q_s ?_;(first|apply q_J|apply q_K|apply q_L|apply q_M|apply q_N|apply q_O)<;>try (intro _;try exact q_v))|with_reducible refine q_t ?_)
        all_goals first
        | contradiction
        | omega
        | assumption
        | exact join_n () q_D
        | (rename_i y1 y2; exfalso; have := sp y1 (by omega); omega)
        | (rename_i y1; exfalso; have := sp y1 (by omega); omega)
        | (rename_i y1 y2; exfalso; have := sn y1; omega)
        | (rename_i y1; exfalso; have := sn y1; omega)
        | (exfalso; have := sn ‹sgz (z + n) (decide (z < 0)) = false›; omega)
        | skip
      · have e : ixZ z n = z := if_neg hn
        rw [e] at hi
        repeat' (first|(with_reducible first|apply q_a|apply q_b|apply q_c|apply q_d|apply q_e|apply q_f|apply q_g|apply q_h|apply q_i|apply q_j|apply q_k|apply q_m|apply q_n|apply q_o|apply q_p|refine q_l ?_)|((with_reducible first|refine q_q rlf_ok fun K hK=>?_|refine q_r rlf_ok fun K hK=>?_);simp (maxSteps:=2000000) only [go_sem,↓reduceIte,reduceCtorEq,Nat.reduceLeDiff,Nat.reduceLT,Nat.reduceBEq,Nat.reduceAdd,ho, sv_nil];(repeat1' with_reducible first|apply And.intro|(intro _;try exact q_v)|(refine hK _ ?_;clear hK K))<;>(try (clear hK K;exact q_u)))|(with_reducible refine q_s ?_;(first|apply q_J|apply q_K|apply q_L|apply q_M|apply q_N|apply q_O)<;>try (intro _;try exact q_v))|with_reducible refine q_t ?_)
        all_goals first
        | contradiction
        | omega
        | assumption
        | exact join_n () q_D
        | (rename_i y1 y2; exfalso; have := sp y1 (by omega); omega)
        | (rename_i y1; exfalso; have := sp y1 (by omega); omega)
        | (rename_i y1 y2; exfalso; have := sn y1; omega)
        | (rename_i y1; exfalso; have := sn y1; omega)
        | (exfalso; have := sn ‹sgz (z + n) (decide (z < 0)) = false›; omega)
        | skip
  rintro ⟨⟩
  clear hA
  refine seq_join (ι := Unit) (fun _ => ⟨261, [(3, .c (.i .i64 m)), (15, .c (.sl 2 pC.1)), (16, .bx 9 0), (18, .bx 10 0)], ⟨[(10, [.c (.b (decide (S < 0))), .c (.ints .i64 (dg 65536 (S).natAbs)), .c (.b (decide (D < 0))), .c (.ints .i64 (dg 65536 (D).natAbs)), .c (.b (decide (n < 0))), .c (.ints .i64 (dg 65536 (n).natAbs)), .c (.b (sgz (S + D * (n - 1)) (decide (S < 0)))), .c (.ints .i64 (dg 65536 (S + D * (n - 1)).natAbs))]), (9, [.c (.i .i64 pC.2.1), .c (.i .i64 pC.2.2)])], [], []⟩, 12⟩) ?_ ?_
  · rcases hB with ⟨ho, rfl⟩ | ⟨ho, hi, rfl⟩ | ⟨ho, hi, rfl⟩
    · repeat' (first|(with_reducible first|apply q_a|apply q_b|apply q_c|apply q_d|apply q_e|apply q_f|apply q_g|apply q_h|apply q_i|apply q_j|apply q_k|apply q_m|apply q_n|apply q_o|apply q_p|refine q_l ?_)|((with_reducible first|refine q_q rlf_ok fun K hK=>?_|refine q_r rlf_ok fun K hK=>?_);simp (maxSteps:=2000000) only [go_sem,↓reduceIte,reduceCtorEq,Nat.reduceLeDiff,Nat.reduceLT,Nat.reduceBEq,Nat.reduceAdd,ho, sv_nil];(repeat1' with_reducible first|apply And.intro|(intro _;try exact q_v)|(refine hK _ ?_;clear hK K))<;>(try (clear hK K;exact q_u)))|(with_reducible refine q_s ?_;(first|apply q_J|apply q_K|apply q_L|apply q_M|apply q_N|apply q_O)<;>try (intro _;try exact q_v))|with_reducible refine q_t ?_)
      all_goals first
        | contradiction
        | omega
        | assumption
        | exact join_n () q_D
        | skip
    · obtain ⟨e, la⟩ := gI_of ho b5
      generalize hz : sv 4294967296 w ws = z at *
      simp only [gI, List.cons.injEq, C.b.injEq, C.ints.injEq, and_true, true_and] at e
      obtain ⟨rfl, rfl⟩ := e
      have hu : FB z := la
      have g3 := len256 hu
      have m2 := Nat.le_trans (FB_len hu) (show 128 ≤ 1048576 by omega)
      have hh8 := has8_t hi
      rw [hN] at hh8
      obtain ⟨q1, q2, q3⟩ := hi
      rw [hN] at q3
      obtain ⟨k1, k2, k3⟩ := elem ((z - S).fdiv D) q2 q3
      have eqv : S + D * (z - S).fdiv D = z := by
        have e := Int.fmod_add_mul_fdiv (z - S) D
        rw [q1] at e
        omega
      generalize hq : (z - S).fdiv D = q at *
      have c3 := cz_self z
      have hq0 : ¬ q < 0 := by omega
      have g7 := len256 k1
      have oq := (okZ_g q).trans (decide_eq_true (FB_len k1))
      have bz := lb_of k1
      have m4 := Nat.le_trans (FB_len k1) (show 128 ≤ 1048576 by omega)
      repeat' (first|(with_reducible first|apply q_a|apply q_b|apply q_c|apply q_d|apply q_e|apply q_f|apply q_g|apply q_h|apply q_i|apply q_j|apply q_k|apply q_m|apply q_n|apply q_o|apply q_p|refine q_l ?_)|((with_reducible first|refine q_q rlf_ok fun K hK=>?_|refine q_r rlf_ok fun K hK=>?_);simp (maxSteps:=2000000) only [go_sem,↓reduceIte,reduceCtorEq,Nat.reduceLeDiff,Nat.reduceLT,Nat.reduceBEq,Nat.reduceAdd,ho, hq, hh8, eqv, c3, oq];(repeat1' with_reducible first|apply And.intro|(intro _;try exact q_v)|(refine hK _ ?_;clear hK K))<;>(try (clear hK K;exact q_u)))|(with_reducible refine q_s ?_;(first|apply q_J|apply q_K|apply q_L|apply q_M|apply q_N|apply q_O)<;>try (intro _;try exact q_v))|with_reducible refine q_t ?_)
      all_goals first
        | contradiction
        | omega
        | assumption
        | exact join_n () q_D
        | (simp at *; omega)
        | skip
    · obtain ⟨e, la⟩ := gI_of ho b5
      generalize hz : sv 4294967296 w ws = z at *
      simp only [gI, List.cons.injEq, C.b.injEq, C.ints.injEq, and_true, true_and] at e
      obtain ⟨rfl, rfl⟩ := e
      have hu : FB z := la
      have g3 := len256 hu
      have m2 := Nat.le_trans (FB_len hu) (show 128 ≤ 1048576 by omega)
      have hh8 := has8_f hi
      rw [hN] at hh8
      repeat' (first|(with_reducible first|apply q_a|apply q_b|apply q_c|apply q_d|apply q_e|apply q_f|apply q_g|apply q_h|apply q_i|apply q_j|apply q_k|apply q_m|apply q_n|apply q_o|apply q_p|refine q_l ?_)|((with_reducible first|refine q_q rlf_ok fun K hK=>?_|refine q_r rlf_ok fun K hK=>?_);simp (maxSteps:=2000000) only [go_sem,↓reduceIte,reduceCtorEq,Nat.reduceLeDiff,Nat.reduceLT,Nat.reduceBEq,Nat.reduceAdd,ho, hh8, sv_nil];(repeat1' with_reducible first|apply And.intro|(intro _;try exact q_v)|(refine hK _ ?_;clear hK K))<;>(try (clear hK K;exact q_u)))|(with_reducible refine q_s ?_;(first|apply q_J|apply q_K|apply q_L|apply q_M|apply q_N|apply q_O)<;>try (intro _;try exact q_v))|with_reducible refine q_t ?_)
      all_goals first
        | contradiction
        | omega
        | assumption
        | exact join_n () q_D
        | skip
  rintro ⟨⟩
  clear hB
  rcases hC with ⟨hml, rfl⟩ | ⟨hml, rfl⟩
  · have hc : ((atM n m : Nat) : Int) = min n m := by unfold atM; omega
    generalize atM n m = c at *
    have ln := elL_len S D c
    have c4 := cz_lt n m
    have c5 : n < m → cmpZ n (c : Int) = 0 := fun hh => by
      rw [show (c : Int) = n by omega]
      exact cz_self n
    have hg := elL_get S D c
    have fm := len256 (z := m) (FB_w (by have := W80_ge; have := W40_pos; omega))
    have fc := len256 (z := (c : Int)) (FB_w (by have := W80_ge; have := W40_pos; omega))
    refine seq_cut4 (ι := Unit) (fun _ => ⟨261, [(15, .c (.sl 2 (elL S D c))), (18, .bx 10 0)], ⟨[(10, [.c (.b (decide (S < 0))), .c (.ints .i64 (dg 65536 (S).natAbs)), .c (.b (decide (D < 0))), .c (.ints .i64 (dg 65536 (D).natAbs)), .c (.b (decide (n < 0))), .c (.ints .i64 (dg 65536 (n).natAbs)), .c (.b (sgz (S + D * (n - 1)) (decide (S < 0)))), .c (.ints .i64 (dg 65536 (S + D * (n - 1)).natAbs))])], [], []⟩, 12⟩) (fun Y hY => ?_) ?_
    · by_cases hnm : n < m
      · have c5 := c5 hnm
        repeat' (first|(with_reducible first|apply q_a|apply q_b|apply q_c|apply q_d|apply q_e|apply q_f|apply q_g|apply q_h|apply q_i|apply q_j|apply q_k|apply q_m|apply q_n|apply q_o|apply q_p|refine q_l ?_)|((with_reducible first|refine q_q rlf_ok fun K hK=>?_|refine q_r rlf_ok fun K hK=>?_);simp (maxSteps:=2000000) only [go_sem,↓reduceIte,reduceCtorEq,Nat.reduceLeDiff,Nat.reduceLT,Nat.reduceBEq,Nat.reduceAdd,ln, c5];(repeat1' with_reducible first|apply And.intro|(intro _;try exact q_v)|(refine hK _ ?_;clear hK K))<;>(try (clear hK K;exact q_u)))|(with_reducible refine q_s ?_;(first|apply q_J|apply q_K|apply q_L|apply q_M|apply q_N|apply q_O)<;>try (intro _;try exact q_v))|with_reducible refine q_t ?_)
        all_goals first
        | contradiction
        | omega
        | assumption
        | exact awp_fit hY () q_D
        | skip
      · clear c5
        repeat' (first|(with_reducible first|apply q_a|apply q_b|apply q_c|apply q_d|apply q_e|apply q_f|apply q_g|apply q_h|apply q_i|apply q_j|apply q_k|apply q_m|apply q_n|apply q_o|apply q_p|refine q_l ?_)|((with_reducible first|refine q_q rlf_ok fun K hK=>?_|refine q_r rlf_ok fun K hK=>?_);simp (maxSteps:=2000000) only [go_sem,↓reduceIte,reduceCtorEq,Nat.reduceLeDiff,Nat.reduceLT,Nat.reduceBEq,Nat.reduceAdd,ln];(repeat1' with_reducible first|apply And.intro|(intro _;try exact q_v)|(refine hK _ ?_;clear hK K))<;>(try (clear hK K;exact q_u)))|(with_reducible refine q_s ?_;(first|apply q_J|apply q_K|apply q_L|apply q_M|apply q_N|apply q_O)<;>try (intro _;try exact q_v))|with_reducible refine q_t ?_)
        all_goals first
        | contradiction
        | omega
        | assumption
        | exact awp_fit hY () q_D
        | skip
    rintro ⟨⟩
    repeat' (first|(with_reducible first|apply q_a|apply q_b|apply q_c|apply q_d|apply q_e|apply q_f|apply q_g|apply q_h|apply q_i|apply q_j|apply q_k|apply q_m|apply q_n|apply q_o|apply q_p|refine q_l ?_)|((with_reducible first|refine q_q rlf_ok fun K hK=>?_|refine q_r rlf_ok fun K hK=>?_);simp (maxSteps:=2000000) only [go_sem,↓reduceIte,reduceCtorEq,Nat.reduceLeDiff,Nat.reduceLT,Nat.reduceBEq,Nat.reduceAdd,ln];(repeat1' with_reducible first|apply And.intro|(intro _;try exact q_v)|(refine hK _ ?_;clear hK K))<;>(try (clear hK K;exact q_u)))|(with_reducible refine q_s ?_;(first|apply q_J|apply q_K|apply q_L|apply q_M|apply q_N|apply q_O)<;>try (intro _;try exact q_v))|with_reducible refine q_t ?_)
    all_goals try omega
    refine q_G (ι := { i : Nat // i ≤ c }) (fun i => ⟨261, [(15, .c (.sl 2 (elL S D c))), (18, .bx 10 0), (21, .c (.i .i64 (i.1 : Nat)))], ⟨[(10, [.c (.b (decide (S < 0))), .c (.ints .i64 (dg 65536 (S).natAbs)), .c (.b (decide (D < 0))), .c (.ints .i64 (dg 65536 (D).natAbs)), .c (.b (decide (n < 0))), .c (.ints .i64 (dg 65536 (n).natAbs)), .c (.b (sgz (S + D * (n - 1)) (decide (S < 0)))), .c (.ints .i64 (dg 65536 (S + D * (n - 1)).natAbs))])], [], []⟩, 12⟩) (fun i => c - i.1) ⟨0, by omega⟩ q_D ?_
    rintro ⟨i, hi⟩
    simp only at hi ⊢
    rcases Nat.lt_or_ge i c with hk | hk
    · obtain ⟨e1, e2, e3⟩ := elem (i : Int) (by omega) (by omega)
      have hg := hg i hk
      have g6 := len256 e3
      have g7 := len256 e1
      have m5 := Nat.le_trans (FB_len e3) (show 128 ≤ 16777216 by omega)
      repeat' (first|(with_reducible first|apply q_a|apply q_b|apply q_c|apply q_d|apply q_e|apply q_f|apply q_g|apply q_h|apply q_i|apply q_j|apply q_k|apply q_m|apply q_n|apply q_o|apply q_p|refine q_l ?_)|((with_reducible first|refine q_q rlf_ok fun K hK=>?_|refine q_r rlf_ok fun K hK=>?_);simp (maxSteps:=2000000) only [go_sem,↓reduceIte,reduceCtorEq,Nat.reduceLeDiff,Nat.reduceLT,Nat.reduceBEq,Nat.reduceAdd,ln, hg];(repeat1' with_reducible first|apply And.intro|(intro _;try exact q_v)|(refine hK _ ?_;clear hK K))<;>(try (clear hK K;exact q_u)))|(with_reducible refine q_s ?_;(first|apply q_J|apply q_K|apply q_L|apply q_M|apply q_N|apply q_O)<;>try (intro _;try exact q_v))|with_reducible refine q_t ?_)
      all_goals first
        | contradiction
        | omega
        | assumption
        | exact q_F ⟨i + 1, hk⟩ q_D (by simp only; omega)
        | skip
    · repeat' (first|(with_reducible first|apply q_a|apply q_b|apply q_c|apply q_d|apply q_e|apply q_f|apply q_g|apply q_h|apply q_i|apply q_j|apply q_k|apply q_m|apply q_n|apply q_o|apply q_p|refine q_l ?_)|((with_reducible first|refine q_q rlf_ok fun K hK=>?_|refine q_r rlf_ok fun K hK=>?_);simp (maxSteps:=2000000) only [go_sem,↓reduceIte,reduceCtorEq,Nat.reduceLeDiff,Nat.reduceLT,Nat.reduceBEq,Nat.reduceAdd,ln];(repeat1' with_reducible first|apply And.intro|(intro _;try exact q_v)|(refine hK _ ?_;clear hK K))<;>(try (clear hK K;exact q_u)))|(with_reducible refine q_s ?_;(first|apply q_J|apply q_K|apply q_L|apply q_M|apply q_N|apply q_O)<;>try (intro _;try exact q_v))|with_reducible refine q_t ?_)
      all_goals first
        | contradiction
        | omega
        | exact q_A rfl
        | skip
  · repeat' (first|(with_reducible first|apply q_a|apply q_b|apply q_c|apply q_d|apply q_e|apply q_f|apply q_g|apply q_h|apply q_i|apply q_j|apply q_k|apply q_m|apply q_n|apply q_o|apply q_p|refine q_l ?_)|((with_reducible first|refine q_q rlf_ok fun K hK=>?_|refine q_r rlf_ok fun K hK=>?_);simp (maxSteps:=2000000) only [go_sem,↓reduceIte,reduceCtorEq,Nat.reduceLeDiff,Nat.reduceLT,Nat.reduceBEq,Nat.reduceAdd];(repeat1' with_reducible first|apply And.intro|(intro _;try exact q_v)|(refine hK _ ?_;clear hK K))<;>(try (clear hK K;exact q_u)))|(with_reducible refine q_s ?_;(first|apply q_J|apply q_K|apply q_L|apply q_M|apply q_N|apply q_O)<;>try (intro _;try exact q_v))|with_reducible refine q_t ?_)
    all_goals first
      | contradiction
      | omega
      | exact q_A rfl
      | exact q_A (by simp [resAV, q_y])
      | skip
end Go.Proofs.Ytneecniebhhhlaa
