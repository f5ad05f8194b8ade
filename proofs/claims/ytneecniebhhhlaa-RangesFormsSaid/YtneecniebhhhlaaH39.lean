import Derived.Test.YtneecniebhhhlaaH35
namespace Go.Proofs.Ytneecniebhhhlaa
set_option linter.unusedSimpArgs false
set_option linter.unusedVariables false
open Go.Abs Go.Proofs.NatL

attribute [go_sem] n8
def rfm : Cfg := listT [(78, spansCT), (85, (rTot gdPlain (.t [.inr [.b false, .ints .u32 [], .b false, .ints .u32 [], .b false, .ints .u32 []], .inr [.i .i64 6, .i .i64 (-1)]]))), (86, (rTot gdTurn (.t [.inr [.b false, .ints .u32 [], .b false, .ints .u32 [], .b false, .ints .u32 []], .inr [.i .i64 6, .i .i64 (-1)]]))), (87, sameRgCT), (77, rangeOkCT), (23, atCT), (79, noRangeCT), (83, isPlainCT), (72, plusDCT), (60, iminusCT), (58, (rI2CT 4194304 ordF)), (82, fitsCT), (53, numberCT), (81, rangeOfCT)] [28]
theorem rfm_ok : TblOk Try.prog rfm := listE_ok (by simp only [List.mem_singleton, forall_eq]; exact flt) ⟨⟨rz8, rz8_ok, rfl⟩, ⟨rp2, rp2_ok, rfl⟩, ⟨rp6, rp6_ok, rfl⟩, ⟨rp4, rp4_ok, rfl⟩, ⟨rj1, rj1_ok, rfl⟩, ⟨jt12, jt12_ok, rfl⟩, ⟨rj7, rj7_ok, rfl⟩, ⟨rj9, rj9_ok, rfl⟩, ⟨rj3, rj3_ok, rfl⟩, ⟨jt12, jt12_ok, rfl⟩, ⟨jt12, jt12_ok, rfl⟩, ⟨jt12, jt12_ok, rfl⟩, ⟨jt12, jt12_ok, rfl⟩, ⟨rj4, rj4_ok, rfl⟩, trivial⟩
attribute [go_sem] rfm
set_option maxRecDepth 100000 in
set_option maxHeartbeats 6400000 in
theorem forms_bad (s t d s' t' d' : Bool) (xs ys zs xs' ys' zs' : List Int) (h1 : xs.length ≤ 140737488355328) (h2 : ys.length ≤ 140737488355328) (h3 : zs.length ≤ 140737488355328) (h4 : xs'.length ≤ 140737488355328) (h5 : ys'.length ≤ 140737488355328) (h6 : zs'.length ≤ 140737488355328) (b1 : InB 4294967296 xs) (b2 : InB 4294967296 ys) (b3 : InB 4294967296 zs) (b4 : InB 4294967296 xs') (b5 : InB 4294967296 ys') (b6 : InB 4294967296 zs') (hv : vR s t d xs ys zs = false) :
    Ret Try.prog 15 false [.inr [.b s, .ints .u32 xs, .b t, .ints .u32 ys, .b d, .ints .u32 zs], .inr [.b s', .ints .u32 xs', .b t', .ints .u32 ys', .b d', .ints .u32 zs']] (.c (.b true)) := by
  (refine q_H Try.func15 (fun F => ?_); simp only [q_z,q_y,Try.ntmps15,Try.results15])
  repeat' (first|(with_reducible first|apply q_a|apply q_b|apply q_c|apply q_d|apply q_e|apply q_f|apply q_g|apply q_h|apply q_i|apply q_j|apply q_k|apply q_m|apply q_n|apply q_o|apply q_p|refine q_l ?_)|((with_reducible first|refine q_q rfm_ok fun K hK=>?_|refine q_r rfm_ok fun K hK=>?_);simp (maxSteps:=2000000) only [go_sem,↓reduceIte,reduceCtorEq,Nat.reduceLeDiff,Nat.reduceLT,Nat.reduceBEq,Nat.reduceAdd,hv, sv_nil];(repeat1' with_reducible first|apply And.intro|(intro _;try exact q_v)|(refine hK _ ?_;clear hK K))<;>(try (clear hK K;exact q_u)))|(with_reducible refine q_s ?_;(first|apply q_J|apply q_K|apply q_L|apply q_M|apply q_N|apply q_O)<;>try (intro _;try exact q_v))|with_reducible refine q_t ?_)
  all_goals first | contradiction | omega | exact q_A rfl | exact q_A (by simp [resAV, q_y]) | skip
def PS (S T D : Int) (s t d : Bool) (xs ys zs : List Int) (p : Bool × Int × Int) : Prop :=
  (vR s t d xs ys zs = true ∧ p = (sameRg S T D (sv 4294967296 s xs) (sv 4294967296 t ys) (sv 4294967296 d zs), 0, 0)) ∨ (vR s t d xs ys zs = false ∧ p = (false, 6, -2))
theorem la_any {S T D : Int} (h : RV S T D) : (laR S T D).natAbs ≤ 100 * W80 := by
  have hw := W80_ge
  by_cases hz : rLen S T D = 0
  · obtain ⟨h0, h1, h2, h3⟩ := h
    unfold laR
    rw [hz]
    have : D * (0 - 1) = -D := by omega
    rw [this]; omega
  · have := (la_facts h hz).1
    omega
theorem pl_neg {S T D : Int} (h : RV S T D) : FB (0 - plD S T D) := by
  obtain ⟨h0, h1, h2, h3⟩ := h
  have hw := W80_ge
  unfold plD
  refine FB_w ?_
  rcases sgR_cases D with e | e <;> rw [e] <;> split <;> (try split) <;> omega
set_option maxRecDepth 100000 in
set_option maxHeartbeats 25600000 in
theorem forms_ok (S T D : Int) (s' t' d' : Bool) (xs' ys' zs' : List Int) (h : RV S T D) (h4 : xs'.length ≤ 140737488355328) (h5 : ys'.length ≤ 140737488355328) (h6 : zs'.length ≤ 140737488355328) (b4 : InB 4294967296 xs') (b5 : InB 4294967296 ys') (b6 : InB 4294967296 zs') :
    Ret Try.prog 15 false [.inr (gG S T D), .inr [.b s', .ints .u32 xs', .b t', .ints .u32 ys', .b d', .ints .u32 zs']] (.c (.b true)) := by
  have hvr := (vR_g S T D).2 h
  obtain ⟨f1, f2, f3⟩ := rv_fb h
  have l1 := lb_of f1
  have l2 := lb_of f2
  have l3 := lb_of f3
  obtain ⟨n1, n2⟩ := len_fb h
  have hrv := h
  have hpl := isPl_pl n2
  have htu := isPl_turn (S := S) (T := T) h.1
  have hlw := la_facts h
  have wla0 : (laR S T D).natAbs ≤ 100 * W80 := la_any h
  obtain ⟨y1, y2, y3⟩ := pl_fb h.rb
  have hle := rLen_le S T D h.1
  obtain ⟨w0, w1, w2, w3⟩ := h
  have hw := W80_ge
  have hdR : (sgR D = 1 ∧ ¬ D < 0) ∨ (sgR D = -1 ∧ D < 0) := by unfold sgR; split <;> omega
  have g1 := (dg_half' _ 128).2 f1
  have g2 := (dg_half' _ 128).2 f3
  have g5 := (dg_half' _ 128).2 n1
  have q6 := len_i64 (z := 1) (by omega)
  have q7 := len_i64 (z := -1) (by omega)
  have htu0 : rLen S T D = 0 → isPl 0 0 1 (laR S T D) (-D) (rLen S T D) (-sgR D) = true := fun hz => by rw [hz]; exact isPl_turn0 _ _ _
  have ela : S + D * (rLen S T D - 1) = laR S T D := rfl
  have wA : ∀ z : Int, z.natAbs ≤ 100 * W80 → FB z := fun z hz => FB_w (by omega)
  have fsg : FB (S - sgR D) := wA _ (by rcases hdR with ⟨e, _⟩ | ⟨e, _⟩ <;> rw [e] <;> omega)
  have fA3 : FB (0 - plD S T D) := pl_neg hrv
  generalize hla : laR S T D = la at *
  generalize hN : rLen S T D = n at *
  generalize hA1 : plS S T D = A1 at *
  generalize hA2 : plT S T D = A2 at *
  generalize hA3 : plD S T D = A3 at *
  have wla := wla0
  have fla := wA la wla
  simp only [gG]
  (refine q_H Try.func15 (fun F => ?_); simp only [q_z,q_y,Try.ntmps15,Try.results15])
  have hpi : ∀ e, e = 1 ∨ e = -1 → pIs A1 A2 A3 S D n e := fun e he => ⟨⟨y1, y2, y3⟩, ⟨by omega, by omega, by omega⟩, .inr w0, n2, he⟩
  have z1 := dg_len_pos 65536 n.natAbs (by omega)
  have eN1 : (0 : Int) - 1 = -1 := rfl
  have eN2 : (0 : Int) - -1 = 1 := rfl
  refine seq_cut12 (ι := { p : Bool × Int × Int // PS S T D s' t' d' xs' ys' zs' p }) (fun p => ⟨174, [(3, .bx 1 0), (9, .c (.b p.1.1)), (10, .bx 6 0), (12, .bx 7 0)], ⟨[(7, [.c (.b (decide (S < 0))), .c (.ints .i64 (dg 65536 (S).natAbs)), .c (.b (decide (D < 0))), .c (.ints .i64 (dg 65536 (D).natAbs)), .c (.b (decide (n < 0))), .c (.ints .i64 (dg 65536 (n).natAbs)), .c (.b (sgz la (decide (S < 0)))), .c (.ints .i64 (dg 65536 (la).natAbs))]), (6, [.c (.i .i64 p.1.2.1), .c (.i .i64 p.1.2.2)]), (1, [.c (.b s'), .c (.ints .u32 xs'), .c (.b t'), .c (.ints .u32 ys'), .c (.b d'), .c (.ints .u32 zs')])], [], []⟩, 9⟩) (fun Y hY => ?_) ?_
  · by_cases hz : n = 0
    · refine seq_cutA (ι := { p : Bool × Int × Int // PS S T D s' t' d' xs' ys' zs' p }) (fun p => ⟨174, [(2, .bx 0 0), (3, .bx 1 0), (5, .bx 2 0), (6, .bx 3 0), (7, .bx 4 0), (8, .bx 5 0), (9, .c (.b p.1.1)), (10, .bx 6 0)], ⟨[(6, [.c (.i .i64 p.1.2.1), .c (.i .i64 p.1.2.2)]), (5, [.c (.i .i64 0), .c (.i .i64 0)]), (4, [.c (.b (decide ((0 : Int) < 0))), .c (.ints .u32 (dg 4294967296 ((0 : Int)).natAbs)), .c (.b (decide ((0 : Int) < 0))), .c (.ints .u32 (dg 4294967296 ((0 : Int)).natAbs)), .c (.b (decide ((1 : Int) < 0))), .c (.ints .u32 (dg 4294967296 ((1 : Int)).natAbs))]), (3, [.c (.i .i64 0), .c (.i .i64 0)]), (2, [.c (.b (decide (A1 < 0))), .c (.ints .u32 (dg 4294967296 (A1).natAbs)), .c (.b (decide (A2 < 0))), .c (.ints .u32 (dg 4294967296 (A2).natAbs)), .c (.b (decide (A3 < 0))), .c (.ints .u32 (dg 4294967296 (A3).natAbs))]), (1, [.c (.b s'), .c (.ints .u32 xs'), .c (.b t'), .c (.ints .u32 ys'), .c (.b d'), .c (.ints .u32 zs')]), (0, [.c (.b (decide (S < 0))), .c (.ints .u32 (dg 4294967296 (S).natAbs)), .c (.b (decide (T < 0))), .c (.ints .u32 (dg 4294967296 (T).natAbs)), .c (.b (decide (D < 0))), .c (.ints .u32 (dg 4294967296 (D).natAbs))])], [], []⟩, 7⟩) (fun Y2 hY2 => ?_) ?_
      · repeat' (first|(with_reducible first|apply q_a|apply q_b|apply q_c|apply q_d|apply q_e|apply q_f|apply q_g|apply q_h|apply q_i|apply q_j|apply q_k|apply q_m|apply q_n|apply q_o|apply q_p|refine q_l ?_)|((with_reducible first|refine q_q rfm_ok fun K hK=>?_|refine q_r rfm_ok fun K hK=>?_);simp (maxSteps:=2000000) only [go_sem,↓reduceIte,reduceCtorEq,Nat.reduceLeDiff,Nat.reduceLT,Nat.reduceBEq,Nat.reduceAdd,hvr, hN, hla, hA1, hA2, hA3];(repeat1' with_reducible first|apply And.intro|(intro _;try exact q_v)|(refine hK _ ?_;clear hK K))<;>(try (clear hK K;exact q_u)))|(with_reducible refine q_s ?_;(first|apply q_J|apply q_K|apply q_L|apply q_M|apply q_N|apply q_O)<;>try (intro _;try exact q_v))|with_reducible refine q_t ?_)
        all_goals first | contradiction | omega | exact awp_fitA hY2 ⟨(_, 0, 0), .inl ⟨‹_›, rfl⟩⟩ q_D | exact awp_fitA hY2 ⟨(false, 6, -2), .inr ⟨‹_›, rfl⟩⟩ q_D | skip
      rintro p
      have hpt : ∀ e, e = 1 ∨ e = -1 → pIs 0 0 1 la (-D) n e := fun e he => ⟨⟨FB_zero, FB_zero, FB_one⟩, ⟨wla, by omega, by omega⟩, .inl hz, n2, he⟩
      have hq : ∀ e, isPl 0 0 1 la (-D) n e = true := fun e => by rw [hz]; exact isPl_turn0 _ _ _
      rcases hdR with ⟨hs, hd⟩ | ⟨hs, hd⟩
      · rw [hs] at hpl
        skip
        repeat' (first|(with_reducible first|apply q_a|apply q_b|apply q_c|apply q_d|apply q_e|apply q_f|apply q_g|apply q_h|apply q_i|apply q_j|apply q_k|apply q_m|apply q_n|apply q_o|apply q_p|refine q_l ?_)|((with_reducible first|refine q_q rfm_ok fun K hK=>?_|refine q_r rfm_ok fun K hK=>?_);simp (maxSteps:=2000000) only [go_sem,↓reduceIte,reduceCtorEq,Nat.reduceLeDiff,Nat.reduceLT,Nat.reduceBEq,Nat.reduceAdd,hvr, hN, hla, hA1, hA2, hA3, ela, sv_nil, eN1, eN2, hpl, hq, hs];(repeat1' with_reducible first|apply And.intro|(intro _;try exact q_v)|(refine hK _ ?_;clear hK K))<;>(try (clear hK K;exact q_u)))|(with_reducible refine q_s ?_;(first|apply q_J|apply q_K|apply q_L|apply q_M|apply q_N|apply q_O)<;>try (intro _;try exact q_v))|with_reducible refine q_t ?_)
        all_goals first | contradiction | omega | assumption | exact hpi _ (.inl rfl) | exact hpi _ (.inr rfl) | exact hpt _ (.inl rfl) | exact hpt _ (.inr rfl) | exact awp_fitA hY p q_D | skip
      · rw [hs] at hpl
        skip
        repeat' (first|(with_reducible first|apply q_a|apply q_b|apply q_c|apply q_d|apply q_e|apply q_f|apply q_g|apply q_h|apply q_i|apply q_j|apply q_k|apply q_m|apply q_n|apply q_o|apply q_p|refine q_l ?_)|((with_reducible first|refine q_q rfm_ok fun K hK=>?_|refine q_r rfm_ok fun K hK=>?_);simp (maxSteps:=2000000) only [go_sem,↓reduceIte,reduceCtorEq,Nat.reduceLeDiff,Nat.reduceLT,Nat.reduceBEq,Nat.reduceAdd,hvr, hN, hla, hA1, hA2, hA3, ela, sv_nil, eN1, eN2, hpl, hq, hs];(repeat1' with_reducible first|apply And.intro|(intro _;try exact q_v)|(refine hK _ ?_;clear hK K))<;>(try (clear hK K;exact q_u)))|(with_reducible refine q_s ?_;(first|apply q_J|apply q_K|apply q_L|apply q_M|apply q_N|apply q_O)<;>try (intro _;try exact q_v))|with_reducible refine q_t ?_)
        all_goals first | contradiction | omega | assumption | exact hpi _ (.inl rfl) | exact hpi _ (.inr rfl) | exact hpt _ (.inl rfl) | exact hpt _ (.inr rfl) | exact awp_fitA hY p q_D | skip
    · have htz := htu hz
      have hpt : ∀ e, e = 1 ∨ e = -1 → pIs la (S - sgR D) (0 - A3) la (-D) n e := fun e he => ⟨⟨fla, fsg, fA3⟩, ⟨wla, by omega, by omega⟩, .inr (by omega), n2, he⟩
      by_cases hfi : (S - sgR D).natAbs < W40
      · have hbf := (len_W40 (S - sgR D)).2 hfi
        refine seq_cutA (ι := { p : Bool × Int × Int // PS S T D s' t' d' xs' ys' zs' p }) (fun p => ⟨174, [(2, .bx 0 0), (3, .bx 1 0), (5, .bx 2 0), (6, .bx 3 0), (7, .bx 4 0), (8, .bx 5 0), (9, .c (.b p.1.1)), (10, .bx 6 0)], ⟨[(6, [.c (.i .i64 p.1.2.1), .c (.i .i64 p.1.2.2)]), (5, [.c (.i .i64 0), .c (.i .i64 0)]), (4, [.c (.b (decide (la < 0))), .c (.ints .u32 (dg 4294967296 (la).natAbs)), .c (.b (decide ((S - sgR D) < 0))), .c (.ints .u32 (dg 4294967296 ((S - sgR D)).natAbs)), .c (.b (decide ((0 - A3) < 0))), .c (.ints .u32 (dg 4294967296 ((0 - A3)).natAbs))]), (3, [.c (.i .i64 0), .c (.i .i64 0)]), (2, [.c (.b (decide (A1 < 0))), .c (.ints .u32 (dg 4294967296 (A1).natAbs)), .c (.b (decide (A2 < 0))), .c (.ints .u32 (dg 4294967296 (A2).natAbs)), .c (.b (decide (A3 < 0))), .c (.ints .u32 (dg 4294967296 (A3).natAbs))]), (1, [.c (.b s'), .c (.ints .u32 xs'), .c (.b t'), .c (.ints .u32 ys'), .c (.b d'), .c (.ints .u32 zs')]), (0, [.c (.b (decide (S < 0))), .c (.ints .u32 (dg 4294967296 (S).natAbs)), .c (.b (decide (T < 0))), .c (.ints .u32 (dg 4294967296 (T).natAbs)), .c (.b (decide (D < 0))), .c (.ints .u32 (dg 4294967296 (D).natAbs))])], [], []⟩, 7⟩) (fun Y2 hY2 => ?_) ?_
        · repeat' (first|(with_reducible first|apply q_a|apply q_b|apply q_c|apply q_d|apply q_e|apply q_f|apply q_g|apply q_h|apply q_i|apply q_j|apply q_k|apply q_m|apply q_n|apply q_o|apply q_p|refine q_l ?_)|((with_reducible first|refine q_q rfm_ok fun K hK=>?_|refine q_r rfm_ok fun K hK=>?_);simp (maxSteps:=2000000) only [go_sem,↓reduceIte,reduceCtorEq,Nat.reduceLeDiff,Nat.reduceLT,Nat.reduceBEq,Nat.reduceAdd,hvr, hN, hla, hA1, hA2, hA3];(repeat1' with_reducible first|apply And.intro|(intro _;try exact q_v)|(refine hK _ ?_;clear hK K))<;>(try (clear hK K;exact q_u)))|(with_reducible refine q_s ?_;(first|apply q_J|apply q_K|apply q_L|apply q_M|apply q_N|apply q_O)<;>try (intro _;try exact q_v))|with_reducible refine q_t ?_)
          all_goals first | contradiction | omega | exact awp_fitA hY2 ⟨(_, 0, 0), .inl ⟨‹_›, rfl⟩⟩ q_D | exact awp_fitA hY2 ⟨(false, 6, -2), .inr ⟨‹_›, rfl⟩⟩ q_D | skip
        rintro p
        rcases hdR with ⟨hs, hd⟩ | ⟨hs, hd⟩
        · rw [hs] at hpl
          rw [hs] at hbf htz hpt
          rw [show S - 1 = S + -1 by omega] at hbf
          repeat' (first|(with_reducible first|apply q_a|apply q_b|apply q_c|apply q_d|apply q_e|apply q_f|apply q_g|apply q_h|apply q_i|apply q_j|apply q_k|apply q_m|apply q_n|apply q_o|apply q_p|refine q_l ?_)|((with_reducible first|refine q_q rfm_ok fun K hK=>?_|refine q_r rfm_ok fun K hK=>?_);simp (maxSteps:=2000000) only [go_sem,↓reduceIte,reduceCtorEq,Nat.reduceLeDiff,Nat.reduceLT,Nat.reduceBEq,Nat.reduceAdd,hvr, hN, hla, hA1, hA2, hA3, ela, sv_nil, eN1, eN2, hpl, htz, hs];(repeat1' with_reducible first|apply And.intro|(intro _;try exact q_v)|(refine hK _ ?_;clear hK K))<;>(try (clear hK K;exact q_u)))|(with_reducible refine q_s ?_;(first|apply q_J|apply q_K|apply q_L|apply q_M|apply q_N|apply q_O)<;>try (intro _;try exact q_v))|with_reducible refine q_t ?_)
          all_goals first | contradiction | omega | assumption | exact hpi _ (.inl rfl) | exact hpi _ (.inr rfl) | exact hpt _ (.inl rfl) | exact hpt _ (.inr rfl) | exact awp_fitA hY p q_D | skip
        · rw [hs] at hpl
          rw [hs] at hbf htz hpt
          rw [Int.neg_neg] at htz
          rw [show S - -1 = S + 1 by omega] at hbf
          repeat' (first|(with_reducible first|apply q_a|apply q_b|apply q_c|apply q_d|apply q_e|apply q_f|apply q_g|apply q_h|apply q_i|apply q_j|apply q_k|apply q_m|apply q_n|apply q_o|apply q_p|refine q_l ?_)|((with_reducible first|refine q_q rfm_ok fun K hK=>?_|refine q_r rfm_ok fun K hK=>?_);simp (maxSteps:=2000000) only [go_sem,↓reduceIte,reduceCtorEq,Nat.reduceLeDiff,Nat.reduceLT,Nat.reduceBEq,Nat.reduceAdd,hvr, hN, hla, hA1, hA2, hA3, ela, sv_nil, eN1, eN2, hpl, htz, hs];(repeat1' with_reducible first|apply And.intro|(intro _;try exact q_v)|(refine hK _ ?_;clear hK K))<;>(try (clear hK K;exact q_u)))|(with_reducible refine q_s ?_;(first|apply q_J|apply q_K|apply q_L|apply q_M|apply q_N|apply q_O)<;>try (intro _;try exact q_v))|with_reducible refine q_t ?_)
          all_goals first | contradiction | omega | assumption | exact hpi _ (.inl rfl) | exact hpi _ (.inr rfl) | exact hpt _ (.inl rfl) | exact hpt _ (.inr rfl) | exact awp_fitA hY p q_D | skip
      · have hbf := fun h => hfi ((len_W40 (S - sgR D)).1 h)
        refine seq_cutA (ι := { p : Bool × Int × Int // PS S T D s' t' d' xs' ys' zs' p }) (fun p => ⟨174, [(2, .bx 0 0), (3, .bx 1 0), (5, .bx 2 0), (6, .bx 3 0), (7, .bx 4 0), (8, .bx 5 0), (9, .c (.b p.1.1)), (10, .bx 6 0)], ⟨[(6, [.c (.i .i64 p.1.2.1), .c (.i .i64 p.1.2.2)]), (5, [.c (.i .i64 14), .c (.i .i64 (-1))]), (4, [.c (.b false), .c (.ints .u32 []), .c (.b false), .c (.ints .u32 []), .c (.b false), .c (.ints .u32 [])]), (3, [.c (.i .i64 0), .c (.i .i64 0)]), (2, [.c (.b (decide (A1 < 0))), .c (.ints .u32 (dg 4294967296 (A1).natAbs)), .c (.b (decide (A2 < 0))), .c (.ints .u32 (dg 4294967296 (A2).natAbs)), .c (.b (decide (A3 < 0))), .c (.ints .u32 (dg 4294967296 (A3).natAbs))]), (1, [.c (.b s'), .c (.ints .u32 xs'), .c (.b t'), .c (.ints .u32 ys'), .c (.b d'), .c (.ints .u32 zs')]), (0, [.c (.b (decide (S < 0))), .c (.ints .u32 (dg 4294967296 (S).natAbs)), .c (.b (decide (T < 0))), .c (.ints .u32 (dg 4294967296 (T).natAbs)), .c (.b (decide (D < 0))), .c (.ints .u32 (dg 4294967296 (D).natAbs))])], [], []⟩, 7⟩) (fun Y2 hY2 => ?_) ?_
        · repeat' (first|(with_reducible first|apply q_a|apply q_b|apply q_c|apply q_d|apply q_e|apply q_f|apply q_g|apply q_h|apply q_i|apply q_j|apply q_k|apply q_m|apply q_n|apply q_o|apply q_p|refine q_l ?_)|((with_reducible first|refine q_q rfm_ok fun K hK=>?_|refine q_r rfm_ok fun K hK=>?_);simp (maxSteps:=2000000) only [go_sem,↓reduceIte,reduceCtorEq,Nat.reduceLeDiff,Nat.reduceLT,Nat.reduceBEq,Nat.reduceAdd,hvr, hN, hla, hA1, hA2, hA3];(repeat1' with_reducible first|apply And.intro|(intro _;try exact q_v)|(refine hK _ ?_;clear hK K))<;>(try (clear hK K;exact q_u)))|(with_reducible refine q_s ?_;(first|apply q_J|apply q_K|apply q_L|apply q_M|apply q_N|apply q_O)<;>try (intro _;try exact q_v))|with_reducible refine q_t ?_)
          all_goals first | contradiction | omega | exact awp_fitA hY2 ⟨(_, 0, 0), .inl ⟨‹_›, rfl⟩⟩ q_D | exact awp_fitA hY2 ⟨(false, 6, -2), .inr ⟨‹_›, rfl⟩⟩ q_D | skip
        rintro p
        rcases hdR with ⟨hs, hd⟩ | ⟨hs, hd⟩
        · rw [hs] at hpl
          rw [hs] at hbf hpt
          rw [show S - 1 = S + -1 by omega] at hbf
          repeat' (first|(with_reducible first|apply q_a|apply q_b|apply q_c|apply q_d|apply q_e|apply q_f|apply q_g|apply q_h|apply q_i|apply q_j|apply q_k|apply q_m|apply q_n|apply q_o|apply q_p|refine q_l ?_)|((with_reducible first|refine q_q rfm_ok fun K hK=>?_|refine q_r rfm_ok fun K hK=>?_);simp (maxSteps:=2000000) only [go_sem,↓reduceIte,reduceCtorEq,Nat.reduceLeDiff,Nat.reduceLT,Nat.reduceBEq,Nat.reduceAdd,hvr, hN, hla, hA1, hA2, hA3, ela, sv_nil, eN1, eN2, hpl, hs];(repeat1' with_reducible first|apply And.intro|(intro _;try exact q_v)|(refine hK _ ?_;clear hK K))<;>(try (clear hK K;exact q_u)))|(with_reducible refine q_s ?_;(first|apply q_J|apply q_K|apply q_L|apply q_M|apply q_N|apply q_O)<;>try (intro _;try exact q_v))|with_reducible refine q_t ?_)
          all_goals first | contradiction | omega | assumption | exact hpi _ (.inl rfl) | exact hpi _ (.inr rfl) | exact hpt _ (.inl rfl) | exact hpt _ (.inr rfl) | exact awp_fitA hY p q_D | skip
        · rw [hs] at hpl
          rw [hs] at hbf hpt
          rw [show S - -1 = S + 1 by omega] at hbf
          repeat' (first|(with_reducible first|apply q_a|apply q_b|apply q_c|apply q_d|apply q_e|apply q_f|apply q_g|apply q_h|apply q_i|apply q_j|apply q_k|apply q_m|apply q_n|apply q_o|apply q_p|refine q_l ?_)|((with_reducible first|refine q_q rfm_ok fun K hK=>?_|refine q_r rfm_ok fun K hK=>?_);simp (maxSteps:=2000000) only [go_sem,↓reduceIte,reduceCtorEq,Nat.reduceLeDiff,Nat.reduceLT,Nat.reduceBEq,Nat.reduceAdd,hvr, hN, hla, hA1, hA2, hA3, ela, sv_nil, eN1, eN2, hpl, hs];(repeat1' with_reducible first|apply And.intro|(intro _;try exact q_v)|(refine hK _ ?_;clear hK K))<;>(try (clear hK K;exact q_u)))|(with_reducible refine q_s ?_;(first|apply q_J|apply q_K|apply q_L|apply q_M|apply q_N|apply q_O)<;>try (intro _;try exact q_v))|with_reducible refine q_t ?_)
          all_goals first | contradiction | omega | assumption | exact hpi _ (.inl rfl) | exact hpi _ (.inr rfl) | exact hpt _ (.inl rfl) | exact hpt _ (.inr rfl) | exact awp_fitA hY p q_D | skip
  rintro ⟨p, hp⟩
  clear hpl htu htu0 hlw wA fsg fA3 hpi
  rcases hp with ⟨ho, rfl⟩ | ⟨ho, rfl⟩
  · simp only
    obtain ⟨m1, m2, m3, h'⟩ := vR_ok ho b4 b5 b6
    obtain ⟨e1, e2⟩ := Nrm_eq m1
    obtain ⟨e3, e4⟩ := Nrm_eq m2
    obtain ⟨e5, e6⟩ := Nrm_eq m3
    generalize sv 4294967296 s' xs' = S' at *
    generalize sv 4294967296 t' ys' = T' at *
    generalize sv 4294967296 d' zs' = D' at *
    subst e1 e2 e3 e4 e5 e6
    obtain ⟨f1', f2', f3'⟩ := rv_fb h'
    obtain ⟨n1', n2'⟩ := len_fb h'
    have wla' := la_any h'
    have g1' := (dg_half' _ 128).2 f1'
    have g5' := (dg_half' _ 128).2 n1'
    have g6' := w65 (k := 100) wla' (by omega)
    have g6 := w65 (k := 100) wla (by omega)
    have ela' : S' + D' * (rLen S' T' D' - 1) = laR S' T' D' := rfl
    have hsm : sameRg S T D S' T' D' = decide (n = rLen S' T' D' ∧ (n = 0 ∨ S = S' ∧ la = S' + D' * (n - 1))) := by
      unfold sameRg
      rw [hN, ela]
    generalize hN' : rLen S' T' D' = n' at *
    generalize hla' : laR S' T' D' = la' at *
    by_cases k1 : n = n'
    · have c1 : (cmpZ n n' = 0) = True := eq_true ((cz_eq n n').2 k1)
      by_cases k2 : n = 0
      · have hsm := hsm.trans (decide_eq_true ⟨k1, .inl k2⟩)
        repeat' (first|(with_reducible first|apply q_a|apply q_b|apply q_c|apply q_d|apply q_e|apply q_f|apply q_g|apply q_h|apply q_i|apply q_j|apply q_k|apply q_m|apply q_n|apply q_o|apply q_p|refine q_l ?_)|((with_reducible first|refine q_q rfm_ok fun K hK=>?_|refine q_r rfm_ok fun K hK=>?_);simp (maxSteps:=2000000) only [go_sem,↓reduceIte,reduceCtorEq,Nat.reduceLeDiff,Nat.reduceLT,Nat.reduceBEq,Nat.reduceAdd,ho, hsm, hN', ela', c1];(repeat1' with_reducible first|apply And.intro|(intro _;try exact q_v)|(refine hK _ ?_;clear hK K))<;>(try (clear hK K;exact q_u)))|(with_reducible refine q_s ?_;(first|apply q_J|apply q_K|apply q_L|apply q_M|apply q_N|apply q_O)<;>try (intro _;try exact q_v))|with_reducible refine q_t ?_)
        all_goals first | contradiction | omega | exact q_A rfl | exact h' | skip
      · by_cases k3 : S = S'
        · have c2 : (cmpZ S S' = 0) = True := eq_true ((cz_eq S S').2 k3)
          by_cases k4 : la = la'
          · have c3 : (cmpZ la la' = 0) = True := eq_true ((cz_eq la la').2 k4)
            have hsm := hsm.trans (decide_eq_true ⟨k1, .inr ⟨k3, by rw [k1, ela']; exact k4⟩⟩)
            repeat' (first|(with_reducible first|apply q_a|apply q_b|apply q_c|apply q_d|apply q_e|apply q_f|apply q_g|apply q_h|apply q_i|apply q_j|apply q_k|apply q_m|apply q_n|apply q_o|apply q_p|refine q_l ?_)|((with_reducible first|refine q_q rfm_ok fun K hK=>?_|refine q_r rfm_ok fun K hK=>?_);simp (maxSteps:=2000000) only [go_sem,↓reduceIte,reduceCtorEq,Nat.reduceLeDiff,Nat.reduceLT,Nat.reduceBEq,Nat.reduceAdd,ho, hsm, hN', ela', c1, c2, c3];(repeat1' with_reducible first|apply And.intro|(intro _;try exact q_v)|(refine hK _ ?_;clear hK K))<;>(try (clear hK K;exact q_u)))|(with_reducible refine q_s ?_;(first|apply q_J|apply q_K|apply q_L|apply q_M|apply q_N|apply q_O)<;>try (intro _;try exact q_v))|with_reducible refine q_t ?_)
            all_goals first | contradiction | omega | exact q_A rfl | exact h' | skip
          · have c3 : (cmpZ la la' = 0) = False := eq_false (fun h => k4 ((cz_eq la la').1 h))
            have hsm := hsm.trans (decide_eq_false (fun ⟨_, h⟩ => h.elim k2 (fun ⟨_, h⟩ => k4 (by rw [k1, ela'] at h; exact h))))
            repeat' (first|(with_reducible first|apply q_a|apply q_b|apply q_c|apply q_d|apply q_e|apply q_f|apply q_g|apply q_h|apply q_i|apply q_j|apply q_k|apply q_m|apply q_n|apply q_o|apply q_p|refine q_l ?_)|((with_reducible first|refine q_q rfm_ok fun K hK=>?_|refine q_r rfm_ok fun K hK=>?_);simp (maxSteps:=2000000) only [go_sem,↓reduceIte,reduceCtorEq,Nat.reduceLeDiff,Nat.reduceLT,Nat.reduceBEq,Nat.reduceAdd,ho, hsm, hN', ela', c1, c2, c3];(repeat1' with_reducible first|apply And.intro|(intro _;try exact q_v)|(refine hK _ ?_;clear hK K))<;>(try (clear hK K;exact q_u)))|(with_reducible refine q_s ?_;(first|apply q_J|apply q_K|apply q_L|apply q_M|apply q_N|apply q_O)<;>try (intro _;try exact q_v))|with_reducible refine q_t ?_)
            all_goals first | contradiction | omega | exact q_A rfl | exact h' | skip
        · have c2 : (cmpZ S S' = 0) = False := eq_false (fun h => k3 ((cz_eq S S').1 h))
          have hsm := hsm.trans (decide_eq_false (fun ⟨_, h⟩ => h.elim k2 (fun ⟨h, _⟩ => k3 h)))
          repeat' (first|(with_reducible first|apply q_a|apply q_b|apply q_c|apply q_d|apply q_e|apply q_f|apply q_g|apply q_h|apply q_i|apply q_j|apply q_k|apply q_m|apply q_n|apply q_o|apply q_p|refine q_l ?_)|((with_reducible first|refine q_q rfm_ok fun K hK=>?_|refine q_r rfm_ok fun K hK=>?_);simp (maxSteps:=2000000) only [go_sem,↓reduceIte,reduceCtorEq,Nat.reduceLeDiff,Nat.reduceLT,Nat.reduceBEq,Nat.reduceAdd,ho, hsm, hN', ela', c1, c2];(repeat1' with_reducible first|apply And.intro|(intro _;try exact q_v)|(refine hK _ ?_;clear hK K))<;>(try (clear hK K;exact q_u)))|(with_reducible refine q_s ?_;(first|apply q_J|apply q_K|apply q_L|apply q_M|apply q_N|apply q_O)<;>try (intro _;try exact q_v))|with_reducible refine q_t ?_)
          all_goals first | contradiction | omega | exact q_A rfl | exact h' | skip
    · have c1 : (cmpZ n n' = 0) = False := eq_false (fun h => k1 ((cz_eq n n').1 h))
      have hsm := hsm.trans (decide_eq_false (fun h => k1 h.1))
      repeat' (first|(with_reducible first|apply q_a|apply q_b|apply q_c|apply q_d|apply q_e|apply q_f|apply q_g|apply q_h|apply q_i|apply q_j|apply q_k|apply q_m|apply q_n|apply q_o|apply q_p|refine q_l ?_)|((with_reducible first|refine q_q rfm_ok fun K hK=>?_|refine q_r rfm_ok fun K hK=>?_);simp (maxSteps:=2000000) only [go_sem,↓reduceIte,reduceCtorEq,Nat.reduceLeDiff,Nat.reduceLT,Nat.reduceBEq,Nat.reduceAdd,ho, hsm, hN', ela', c1];(repeat1' with_reducible first|apply And.intro|(intro _;try exact q_v)|(refine hK _ ?_;clear hK K))<;>(try (clear hK K;exact q_u)))|(with_reducible refine q_s ?_;(first|apply q_J|apply q_K|apply q_L|apply q_M|apply q_N|apply q_O)<;>try (intro _;try exact q_v))|with_reducible refine q_t ?_)
      all_goals first | contradiction | omega | exact q_A rfl | exact h' | skip
  · repeat' (first|(with_reducible first|apply q_a|apply q_b|apply q_c|apply q_d|apply q_e|apply q_f|apply q_g|apply q_h|apply q_i|apply q_j|apply q_k|apply q_m|apply q_n|apply q_o|apply q_p|refine q_l ?_)|((with_reducible first|refine q_q rfm_ok fun K hK=>?_|refine q_r rfm_ok fun K hK=>?_);simp (maxSteps:=2000000) only [go_sem,↓reduceIte,reduceCtorEq,Nat.reduceLeDiff,Nat.reduceLT,Nat.reduceBEq,Nat.reduceAdd,ho];(repeat1' with_reducible first|apply And.intro|(intro _;try exact q_v)|(refine hK _ ?_;clear hK K))<;>(try (clear hK K;exact q_u)))|(with_reducible refine q_s ?_;(first|apply q_J|apply q_K|apply q_L|apply q_M|apply q_N|apply q_O)<;>try (intro _;try exact q_v))|with_reducible refine q_t ?_)
    all_goals first | contradiction | omega | exact q_A rfl | skip
end Go.Proofs.Ytneecniebhhhlaa
