import Derived.Test.YtneecniebhhhlaaH29
import Derived.Test.YtneecniebhhhlaaH35
namespace Go.Proofs.Ytneecniebhhhlaa
set_option linter.unusedSimpArgs false
set_option linter.unusedVariables false
open Go.Abs Go.Proofs.NatL

def rbk : Cfg := listT [(78, spansCT), (88, (rTot gdLength (.t [.inr [.b false, .ints .u32 []], .inr [.i .i64 6, .i .i64 (-1)]]))), (89, (rTotI gdAt)), (84, (rTotI gdIndex)), (85, (rTot gdPlain (.t [.inr [.b false, .ints .u32 [], .b false, .ints .u32 [], .b false, .ints .u32 []], .inr [.i .i64 6, .i .i64 (-1)]]))), (86, (rTot gdTurn (.t [.inr [.b false, .ints .u32 [], .b false, .ints .u32 [], .b false, .ints .u32 []], .inr [.i .i64 6, .i .i64 (-1)]]))), (87, sameRgCT), (77, rangeOkCT), (23, atCT), (38, noIntCT), (39, sameIntCT), (48, sameIntsCT), (24, ivalidCT), (43, intOfCT), (72, plusDCT), (53, numberCT), (65, limbsCT)] [28]
theorem rbk_ok : TblOk Try.prog rbk := listE_ok (by simp only [List.mem_singleton, forall_eq]; exact flt) ⟨⟨rz8, rz8_ok, rfl⟩, ⟨re1, re1_ok, rfl⟩, ⟨re2, re2_ok, rfl⟩, ⟨re3, re3_ok, rfl⟩, ⟨rp2, rp2_ok, rfl⟩, ⟨rp6, rp6_ok, rfl⟩, ⟨rp4, rp4_ok, rfl⟩, ⟨rj1, rj1_ok, rfl⟩, ⟨jt12, jt12_ok, rfl⟩, ⟨jt12, jt12_ok, rfl⟩, ⟨jt12, jt12_ok, rfl⟩, ⟨jt12, jt12_ok, rfl⟩, ⟨jt12, jt12_ok, rfl⟩, ⟨jt12, jt12_ok, rfl⟩, ⟨rj3, rj3_ok, rfl⟩, ⟨jt12, jt12_ok, rfl⟩, ⟨jt12, jt12_ok, rfl⟩, trivial⟩
attribute [go_sem] rbk
set_option maxRecDepth 100000 in
set_option maxHeartbeats 6400000 in
theorem back_bad (s t d u : Bool) (xs ys zs us : List Int) (h1 : xs.length ≤ 140737488355328) (h2 : ys.length ≤ 140737488355328) (h3 : zs.length ≤ 140737488355328) (h4 : us.length ≤ 140737488355328) (b1 : InB 4294967296 xs) (b2 : InB 4294967296 ys) (b3 : InB 4294967296 zs) (b4 : InB 4294967296 us) (hv : vR s t d xs ys zs = false ∨ vR s t d xs ys zs = true ∧ okZ u us = false) :
    Ret Try.prog 16 false [.inr [.b s, .ints .u32 xs, .b t, .ints .u32 ys, .b d, .ints .u32 zs], .inr [.b u, .ints .u32 us]] (.c (.b true)) := by
  rcases hv with hv | ⟨hv, hw⟩
  · (refine q_H Try.func16 (fun F => ?_); simp only [q_z,q_y,Try.ntmps16,Try.results16])
    repeat' (first|(with_reducible first|apply q_a|apply q_b|apply q_c|apply q_d|apply q_e|apply q_f|apply q_g|apply q_h|apply q_i|apply q_j|apply q_k|apply q_m|apply q_n|apply q_o|apply q_p|refine q_l ?_)|((with_reducible first|refine q_q rbk_ok fun K hK=>?_|refine q_r rbk_ok fun K hK=>?_);simp (maxSteps:=2000000) only [go_sem,↓reduceIte,reduceCtorEq,Nat.reduceLeDiff,Nat.reduceLT,Nat.reduceBEq,Nat.reduceAdd,hv];(repeat1' with_reducible first|apply And.intro|(intro _;try exact q_v)|(refine hK _ ?_;clear hK K))<;>(try (clear hK K;exact q_u)))|(with_reducible refine q_s ?_;(first|apply q_J|apply q_K|apply q_L|apply q_M|apply q_N|apply q_O)<;>try (intro _;try exact q_v))|with_reducible refine q_t ?_)
    all_goals first | contradiction | omega | exact q_A rfl | skip
  · (refine q_H Try.func16 (fun F => ?_); simp only [q_z,q_y,Try.ntmps16,Try.results16])
    repeat' (first|(with_reducible first|apply q_a|apply q_b|apply q_c|apply q_d|apply q_e|apply q_f|apply q_g|apply q_h|apply q_i|apply q_j|apply q_k|apply q_m|apply q_n|apply q_o|apply q_p|refine q_l ?_)|((with_reducible first|refine q_q rbk_ok fun K hK=>?_|refine q_r rbk_ok fun K hK=>?_);simp (maxSteps:=2000000) only [go_sem,↓reduceIte,reduceCtorEq,Nat.reduceLeDiff,Nat.reduceLT,Nat.reduceBEq,Nat.reduceAdd,hv, hw];(repeat1' with_reducible first|apply And.intro|(intro _;try exact q_v)|(refine hK _ ?_;clear hK K))<;>(try (clear hK K;exact q_u)))|(with_reducible refine q_s ?_;(first|apply q_J|apply q_K|apply q_L|apply q_M|apply q_N|apply q_O)<;>try (intro _;try exact q_v))|with_reducible refine q_t ?_)
    all_goals first | contradiction | omega | exact q_A rfl | skip
theorem len_is {S T D n : Int} (hD : D ≠ 0) (hn : 0 < n) (h1 : D < 0 ∧ T < S + D * (n - 1) ∨ 0 < D ∧ S + D * (n - 1) < T) (h2 : ¬ (D < 0 ∧ T < S + D * n ∨ 0 < D ∧ S + D * n < T)) : rLen S T D = n := by
  have a := (rLen_iff (S := S) (T := T) hD (n - 1) (by omega)).2 h1
  have b : ¬ n < rLen S T D := fun h => h2 ((rLen_iff (S := S) (T := T) hD n (by omega)).1 h)
  omega
theorem step_n (D n : Int) : D * n = D * (n - 1) + D := by rw [Int.mul_sub]; omega
theorem RV001' : RV 0 0 1 := RV_of (by kernel_rfl)
theorem pl_len {S T D : Int} (hD : D ≠ 0) (hz : rLen S T D ≠ 0) : rLen (plS S T D) (plT S T D) (plD S T D) = rLen S T D ∧ plD S T D * (rLen S T D - 1) = D * (rLen S T D - 1) ∧ plS S T D = S ∧ plT S T D = laR S T D + sgR D := by
  have h0 : 0 ≤ rLen S T D := rLen_nonneg S T D hD
  unfold plS plT plD laR
  generalize rLen S T D = n at *
  rw [if_neg hz, if_neg hz, if_neg hz]
  have hs : (sgR D = 1 ∧ 0 < D) ∨ (sgR D = -1 ∧ D < 0) := by unfold sgR; split <;> omega
  have e := step_n D n
  by_cases h1 : 1 < n
  · rw [if_pos h1]
    exact ⟨len_is hD (by omega) (by omega) (by omega), rfl, rfl, rfl⟩
  · have : n = 1 := by omega
    subst this
    rw [if_neg h1]
    refine ⟨len_is (by omega) (by omega) ?_ ?_, by simp, rfl, rfl⟩
    · rcases hs with ⟨e, _⟩ | ⟨e, _⟩ <;> rw [e] <;> simp <;> omega
    · rcases hs with ⟨e, _⟩ | ⟨e, _⟩ <;> rw [e] <;> simp <;> omega
theorem tu_len {S T D : Int} (h : RV S T D) (hz : rLen S T D ≠ 0) (hf : (S - sgR D).natAbs < W40) :
    RV (laR S T D) (S - sgR D) (0 - plD S T D) ∧ rLen (laR S T D) (S - sgR D) (0 - plD S T D) = rLen S T D ∧ laR (laR S T D) (S - sgR D) (0 - plD S T D) = S ∧ sgR (0 - plD S T D) = -sgR D ∧ 0 - plD (laR S T D) (S - sgR D) (0 - plD S T D) = plD S T D := by
  have hw := (la_facts h hz).1
  have hd := (pl_facts h hz).2.2
  have hD := h.1
  have h0 : 0 ≤ rLen S T D := rLen_nonneg S T D hD
  have hs : (sgR D = 1 ∧ 0 < D) ∨ (sgR D = -1 ∧ D < 0) := by unfold sgR; split <;> omega
  have hsg : sgR (0 - plD S T D) = -sgR D := by
    have := sgR_pl hz
    rw [← this, Int.zero_sub]
    exact sgR_neg hd.1
  have hl : rLen (laR S T D) (S - sgR D) (0 - plD S T D) = rLen S T D ∧ (0 - plD S T D) * (rLen S T D - 1) = S - laR S T D := by
    have e3 : plD S T D = if 1 < rLen S T D then D else sgR D := if_neg hz
    rw [e3]
    unfold laR
    generalize rLen S T D = n at *
    have e := step_n D n
    by_cases h1 : 1 < n
    · rw [if_pos h1, Int.zero_sub]
      have e1 : -D * (n - 1) = -(D * (n - 1)) := Int.neg_mul _ _
      have e2 : -D * n = -(D * n) := Int.neg_mul _ _
      exact ⟨len_is (by omega) (by omega) (by omega) (by omega), by omega⟩
    · have : n = 1 := by omega
      subst this
      rw [if_neg h1]
      refine ⟨len_is (by omega) (by omega) ?_ ?_, by simp⟩
      · rcases hs with ⟨e, _⟩ | ⟨e, _⟩ <;> rw [e] <;> simp <;> omega
      · rcases hs with ⟨e, _⟩ | ⟨e, _⟩ <;> rw [e] <;> simp <;> omega
  obtain ⟨hl1, hl2⟩ := hl
  refine ⟨⟨by omega, hw, hf, by omega⟩, hl1, ?_, hsg, ?_⟩
  · unfold laR at hl1 hl2 ⊢
    rw [hl1]; omega
  · have e3 : plD (laR S T D) (S - sgR D) (0 - plD S T D) = if 1 < rLen S T D then 0 - plD S T D else sgR (0 - plD S T D) := by
      unfold plD
      unfold plD at hl1
      rw [hl1, if_neg hz]
    rw [e3]
    split
    · omega
    · rename_i h1
      have e4 : plD S T D = sgR D := by
        unfold plD
        rw [if_neg hz, if_neg h1]
      rw [hsg, e4]; omega
theorem tu_elem {S T D k : Int} (hD : D ≠ 0) (hz : rLen S T D ≠ 0) : k < rLen S T D → 0 ≤ k → laR S T D + (0 - plD S T D) * (-(k + 1) + rLen S T D) = S + D * k := fun h1 h0 => by
  obtain ⟨_, e, _, _⟩ := pl_len hD hz
  by_cases h : 1 < rLen S T D
  · have : plD S T D = D := by unfold plD; rw [if_neg hz, if_pos h]
    rw [this]
    unfold laR
    have e1 : (0 - D) * (-(k + 1) + rLen S T D) = -(D * (rLen S T D - 1 - k)) := by rw [Int.zero_sub, Int.neg_mul]; congr 2; omega
    rw [e1, Int.mul_sub D (rLen S T D - 1) k]; omega
  · have hk : k = 0 := by omega
    have hn : rLen S T D = 1 := by omega
    subst hk
    unfold laR
    rw [hn]; simp
theorem same_pl {S T D : Int} (hD : D ≠ 0) (hz : rLen S T D ≠ 0) : sameRg (plS S T D) (plT S T D) (plD S T D) S T D = true := by
  obtain ⟨h1, h2, h3, h4⟩ := pl_len hD hz
  unfold sameRg
  rw [h1]
  exact decide_eq_true ⟨rfl, .inr ⟨h3, by rw [h2, h3]⟩⟩
theorem same_none {S T D : Int} (hz : rLen S T D = 0) : sameRg 0 0 1 S T D = true := by
  unfold sameRg
  have : rLen 0 0 1 = 0 := by decide
  rw [this, hz]
  exact decide_eq_true ⟨rfl, .inl rfl⟩
theorem seq_cut8 {F : Fr} {Q : Exit → St → Prop} {st : St} {a b c d e f g h Y : Code} {ι : Type} (mid : ι → St) (h1 : ∀ Y', (∀ i, AWp Try.prog F Y' Q (mid i)) → AWp Try.prog F (.seq a (.seq b (.seq c (.seq d (.seq e (.seq f (.seq g (.seq h Y')))))))) Q st) (h2 : ∀ i, AWp Try.prog F Y Q (mid i)) : AWp Try.prog F (.seq a (.seq b (.seq c (.seq d (.seq e (.seq f (.seq g (.seq h Y)))))))) Q st := h1 Y h2
theorem len_plus {k n : Int} (h0 : 0 ≤ k) (h1 : k < n) (hn : FB n) : FB (k + 1) := Nat.le_trans (dg_len_mono (by omega) (by omega)) hn
def PAb (S D n z : Int) (p : Bool × List Int × Int × Int) : Prop :=
  ((0 ≤ ixZ z n ∧ ixZ z n < n) ∧ p = (decide (S + D * ixZ z n < 0), dg 4294967296 (S + D * ixZ z n).natAbs, 0, 0)) ∨ (¬ (0 ≤ ixZ z n ∧ ixZ z n < n) ∧ p = (false, [], 4, -2))
theorem has_k {S T D k : Int} (hD : D ≠ 0) (h0 : 0 ≤ k) (h1 : k < rLen S T D) : hasR S T D (S + D * k) ∧ (S + D * k - S).fdiv D = k := by
  have e : S + D * k - S = D * k := by omega
  unfold hasR
  rw [e, Int.mul_fdiv_cancel_left _ hD]
  exact ⟨⟨Int.mul_fmod_right _ _, h0, h1⟩, rfl⟩
set_option maxRecDepth 100000 in
set_option maxHeartbeats 25600000 in
theorem back_empty (S T D z : Int) (h : RV S T D) (hu : FB z) (hz : rLen S T D = 0) :
    Ret Try.prog 16 false [.inr (gG S T D), .inr (gI z)] (.c (.b true)) := by
  have hvr := (vR_g S T D).2 h
  have oz := (okZ_g z).trans (decide_eq_true (FB_len hu))
  obtain ⟨f1, f2, f3⟩ := rv_fb h
  have l1 := lb_of f1
  have l2 := lb_of f2
  have l3 := lb_of f3
  have l4 := lb_of hu
  obtain ⟨n1, n2⟩ := len_fb h
  obtain ⟨y1, y2, y3⟩ := pl_fb h.rb
  have m1 := ls_of y1
  have m2 := ls_of y2
  have m3 := ls_of y3
  have m4 := ls_of n1
  have q1 := Nat.le_trans (FB_len hu) (show 128 ≤ 1048576 by omega)
  have q2 := Nat.le_trans (FB_len n1) (show 128 ≤ 1048576 by omega)
  have q3 := ls_of f1
  have q4 := len_i64 (z := 1) (by omega)
  have k1 := lb_of y1
  have k2 := lb_of y2
  have k3 := lb_of y3
  have hix := ix_fb hu n1 n2
  have elem := fun k h0 h1 => elem_fb (k := k) h h0 h1
  have hhas := fun k (h0 : 0 ≤ k) (h1 : k < rLen S T D) => has_k (k := k) h.1 h0 h1
  have hsn := same_none hz
  have hv0 := (vR_g 0 0 1).2 RV001'
  have r0 : rLen 0 0 1 = 0 := by decide
  have a1 : plS S T D = 0 := if_pos hz
  have a2 : plT S T D = 0 := if_pos hz
  have a3 : plD S T D = 1 := if_pos hz
  have l0 := lb_of FB_zero
  have l5 := lb_of FB_one
  have m0 := ls_of FB_zero
  have m5 := ls_of FB_one
  generalize hN : rLen S T D = n at *
  generalize hA1 : plS S T D = A1 at *
  generalize hA2 : plT S T D = A2 at *
  generalize hA3 : plD S T D = A3 at *
  simp only [gG, gI]
  (refine q_H Try.func16 (fun F => ?_); simp only [q_z,q_y,Try.ntmps16,Try.results16])
  refine seq_cut8 (ι := { p : Bool × List Int × Int × Int // PAb S D n z p }) (fun p => ⟨185, [(2, .bx 0 0), (3, .bx 1 0), (5, .bx 2 0), (6, .bx 3 0), (7, .bx 4 0), (8, .bx 5 0), (9, .bx 6 0), (10, .bx 7 0), (11, .bx 8 0), (12, .bx 9 0)], ⟨[(9, [.c (.i .i64 0), .c (.i .i64 0)]), (8, [.c (.b (decide ((0 : Int) < 0))), .c (.ints .u32 (dg 4294967296 ((0 : Int)).natAbs)), .c (.b (decide ((0 : Int) < 0))), .c (.ints .u32 (dg 4294967296 ((0 : Int)).natAbs)), .c (.b (decide ((1 : Int) < 0))), .c (.ints .u32 (dg 4294967296 ((1 : Int)).natAbs))]), (7, [.c (.i .i64 0), .c (.i .i64 0)]), (6, [.c (.b (decide (A1 < 0))), .c (.ints .u32 (dg 4294967296 (A1).natAbs)), .c (.b (decide (A2 < 0))), .c (.ints .u32 (dg 4294967296 (A2).natAbs)), .c (.b (decide (A3 < 0))), .c (.ints .u32 (dg 4294967296 (A3).natAbs))]), (5, [.c (.i .i64 p.1.2.2.1), .c (.i .i64 p.1.2.2.2)]), (4, [.c (.b p.1.1), .c (.ints .u32 p.1.2.1)]), (3, [.c (.i .i64 0), .c (.i .i64 0)]), (2, [.c (.b (decide (n < 0))), .c (.ints .u32 (dg 4294967296 (n).natAbs))]), (1, [.c (.b (decide (z < 0))), .c (.ints .u32 (dg 4294967296 (z).natAbs))]), (0, [.c (.b (decide (S < 0))), .c (.ints .u32 (dg 4294967296 (S).natAbs)), .c (.b (decide (T < 0))), .c (.ints .u32 (dg 4294967296 (T).natAbs)), .c (.b (decide (D < 0))), .c (.ints .u32 (dg 4294967296 (D).natAbs))])], [], []⟩, 10⟩) (fun Y hY => ?_) ?_
  · repeat' (first|(with_reducible first|apply q_a|apply q_b|apply q_c|apply q_d|apply q_e|apply q_f|apply q_g|apply q_h|apply q_i|apply q_j|apply q_k|apply q_m|apply q_n|apply q_o|apply q_p|refine q_l ?_)|((with_reducible first|refine q_q rbk_ok fun K hK=>?_|refine q_r rbk_ok fun K hK=>?_);simp (maxSteps:=2000000) only [go_sem,↓reduceIte,reduceCtorEq,Nat.reduceLeDiff,Nat.reduceLT,Nat.reduceBEq,Nat.reduceAdd,hvr, oz, hN, hA1, hA2, hA3];(repeat1' with_reducible first|apply And.intro|(intro _;try exact q_v)|(refine hK _ ?_;clear hK K))<;>(try (clear hK K;exact q_u)))|(with_reducible refine q_s ?_;(first|apply q_J|apply q_K|apply q_L|apply q_M|apply q_N|apply q_O)<;>try (intro _;try exact q_v))|with_reducible refine q_t ?_)
    all_goals first | contradiction | omega | exact awp_fitA hY ⟨(_, _, 0, 0), .inl ⟨‹_›, rfl⟩⟩ q_D | exact awp_fitA hY ⟨(false, [], 4, -2), .inr ⟨‹_›, rfl⟩⟩ q_D | skip
  rintro ⟨p, hp⟩
  simp only
  refine seq_join (ι := Unit) (fun _ => ⟨185, [(2, .bx 0 0), (3, .bx 1 0), (5, .bx 2 0), (6, .bx 3 0), (7, .bx 4 0), (8, .bx 5 0), (11, .bx 8 0), (12, .bx 9 0)], ⟨[(9, [.c (.i .i64 0), .c (.i .i64 0)]), (8, [.c (.b (decide ((0 : Int) < 0))), .c (.ints .u32 (dg 4294967296 ((0 : Int)).natAbs)), .c (.b (decide ((0 : Int) < 0))), .c (.ints .u32 (dg 4294967296 ((0 : Int)).natAbs)), .c (.b (decide ((1 : Int) < 0))), .c (.ints .u32 (dg 4294967296 ((1 : Int)).natAbs))]), (5, [.c (.i .i64 p.2.2.1), .c (.i .i64 p.2.2.2)]), (4, [.c (.b p.1), .c (.ints .u32 p.2.1)]), (3, [.c (.i .i64 0), .c (.i .i64 0)]), (2, [.c (.b (decide (n < 0))), .c (.ints .u32 (dg 4294967296 (n).natAbs))]), (1, [.c (.b (decide (z < 0))), .c (.ints .u32 (dg 4294967296 (z).natAbs))]), (0, [.c (.b (decide (S < 0))), .c (.ints .u32 (dg 4294967296 (S).natAbs)), .c (.b (decide (T < 0))), .c (.ints .u32 (dg 4294967296 (T).natAbs)), .c (.b (decide (D < 0))), .c (.ints .u32 (dg 4294967296 (D).natAbs))])], [], []⟩, 15⟩) ?_ ?_
  · repeat' (first|(with_reducible first|apply q_a|apply q_b|apply q_c|apply q_d|apply q_e|apply q_f|apply q_g|apply q_h|apply q_i|apply q_j|apply q_k|apply q_m|apply q_n|apply q_o|apply q_p|refine q_l ?_)|((with_reducible first|refine q_q rbk_ok fun K hK=>?_|refine q_r rbk_ok fun K hK=>?_);simp (maxSteps:=2000000) only [go_sem,↓reduceIte,reduceCtorEq,Nat.reduceLeDiff,Nat.reduceLT,Nat.reduceBEq,Nat.reduceAdd,hvr, hN, hv0, r0, hsn, a1, a2, a3, hz];(repeat1' with_reducible first|apply And.intro|(intro _;try exact q_v)|(refine hK _ ?_;clear hK K))<;>(try (clear hK K;exact q_u)))|(with_reducible refine q_s ?_;(first|apply q_J|apply q_K|apply q_L|apply q_M|apply q_N|apply q_O)<;>try (intro _;try exact q_v))|with_reducible refine q_t ?_)
    all_goals first | contradiction | omega | exact join_n () q_D | skip
  rintro ⟨⟩
  rcases hp with ⟨hi, rfl⟩ | ⟨hi, rfl⟩
  · simp only
    exfalso; omega
  · simp only
    repeat' (first|(with_reducible first|apply q_a|apply q_b|apply q_c|apply q_d|apply q_e|apply q_f|apply q_g|apply q_h|apply q_i|apply q_j|apply q_k|apply q_m|apply q_n|apply q_o|apply q_p|refine q_l ?_)|((with_reducible first|refine q_q rbk_ok fun K hK=>?_|refine q_r rbk_ok fun K hK=>?_);simp (maxSteps:=2000000) only [go_sem,↓reduceIte,reduceCtorEq,Nat.reduceLeDiff,Nat.reduceLT,Nat.reduceBEq,Nat.reduceAdd,hvr, oz, hN, sv_nil];(repeat1' with_reducible first|apply And.intro|(intro _;try exact q_v)|(refine hK _ ?_;clear hK K))<;>(try (clear hK K;exact q_u)))|(with_reducible refine q_s ?_;(first|apply q_J|apply q_K|apply q_L|apply q_M|apply q_N|apply q_O)<;>try (intro _;try exact q_v))|with_reducible refine q_t ?_)
    all_goals first | contradiction | omega | exact q_A rfl | skip
set_option maxRecDepth 100000 in
set_option maxHeartbeats 25600000 in
theorem back_big (S T D z : Int) (h : RV S T D) (hu : FB z) (hz : rLen S T D ≠ 0) (hfi : ¬ (S - sgR D).natAbs < W40) :
    Ret Try.prog 16 false [.inr (gG S T D), .inr (gI z)] (.c (.b true)) := by
  have hvr := (vR_g S T D).2 h
  have oz := (okZ_g z).trans (decide_eq_true (FB_len hu))
  obtain ⟨f1, f2, f3⟩ := rv_fb h
  have l1 := lb_of f1
  have l2 := lb_of f2
  have l3 := lb_of f3
  have l4 := lb_of hu
  obtain ⟨n1, n2⟩ := len_fb h
  obtain ⟨y1, y2, y3⟩ := pl_fb h.rb
  have m1 := ls_of y1
  have m2 := ls_of y2
  have m3 := ls_of y3
  have m4 := ls_of n1
  have q1 := Nat.le_trans (FB_len hu) (show 128 ≤ 1048576 by omega)
  have q2 := Nat.le_trans (FB_len n1) (show 128 ≤ 1048576 by omega)
  have q3 := ls_of f1
  have q4 := len_i64 (z := 1) (by omega)
  have k1 := lb_of y1
  have k2 := lb_of y2
  have k3 := lb_of y3
  have hix := ix_fb hu n1 n2
  have elem := fun k h0 h1 => elem_fb (k := k) h h0 h1
  have hhas := fun k (h0 : 0 ≤ k) (h1 : k < rLen S T D) => has_k (k := k) h.1 h0 h1
  generalize hN : rLen S T D = n at *
  generalize hA1 : plS S T D = A1 at *
  generalize hA2 : plT S T D = A2 at *
  generalize hA3 : plD S T D = A3 at *
  simp only [gG, gI]
  (refine q_H Try.func16 (fun F => ?_); simp only [q_z,q_y,Try.ntmps16,Try.results16])
  refine seq_cut8 (ι := { p : Bool × List Int × Int × Int // PAb S D n z p }) (fun p => ⟨185, [(2, .bx 0 0), (3, .bx 1 0), (5, .bx 2 0), (6, .bx 3 0), (7, .bx 4 0), (8, .bx 5 0), (9, .bx 6 0), (10, .bx 7 0), (11, .bx 8 0), (12, .bx 9 0)], ⟨[(9, [.c (.i .i64 14), .c (.i .i64 (-1))]), (8, [.c (.b false), .c (.ints .u32 []), .c (.b false), .c (.ints .u32 []), .c (.b false), .c (.ints .u32 [])]), (7, [.c (.i .i64 0), .c (.i .i64 0)]), (6, [.c (.b (decide (A1 < 0))), .c (.ints .u32 (dg 4294967296 (A1).natAbs)), .c (.b (decide (A2 < 0))), .c (.ints .u32 (dg 4294967296 (A2).natAbs)), .c (.b (decide (A3 < 0))), .c (.ints .u32 (dg 4294967296 (A3).natAbs))]), (5, [.c (.i .i64 p.1.2.2.1), .c (.i .i64 p.1.2.2.2)]), (4, [.c (.b p.1.1), .c (.ints .u32 p.1.2.1)]), (3, [.c (.i .i64 0), .c (.i .i64 0)]), (2, [.c (.b (decide (n < 0))), .c (.ints .u32 (dg 4294967296 (n).natAbs))]), (1, [.c (.b (decide (z < 0))), .c (.ints .u32 (dg 4294967296 (z).natAbs))]), (0, [.c (.b (decide (S < 0))), .c (.ints .u32 (dg 4294967296 (S).natAbs)), .c (.b (decide (T < 0))), .c (.ints .u32 (dg 4294967296 (T).natAbs)), .c (.b (decide (D < 0))), .c (.ints .u32 (dg 4294967296 (D).natAbs))])], [], []⟩, 10⟩) (fun Y hY => ?_) ?_
  · repeat' (first|(with_reducible first|apply q_a|apply q_b|apply q_c|apply q_d|apply q_e|apply q_f|apply q_g|apply q_h|apply q_i|apply q_j|apply q_k|apply q_m|apply q_n|apply q_o|apply q_p|refine q_l ?_)|((with_reducible first|refine q_q rbk_ok fun K hK=>?_|refine q_r rbk_ok fun K hK=>?_);simp (maxSteps:=2000000) only [go_sem,↓reduceIte,reduceCtorEq,Nat.reduceLeDiff,Nat.reduceLT,Nat.reduceBEq,Nat.reduceAdd,hvr, oz, hN, hA1, hA2, hA3, hfi];(repeat1' with_reducible first|apply And.intro|(intro _;try exact q_v)|(refine hK _ ?_;clear hK K))<;>(try (clear hK K;exact q_u)))|(with_reducible refine q_s ?_;(first|apply q_J|apply q_K|apply q_L|apply q_M|apply q_N|apply q_O)<;>try (intro _;try exact q_v))|with_reducible refine q_t ?_)
    all_goals first | contradiction | omega | exact awp_fitA hY ⟨(_, _, 0, 0), .inl ⟨‹_›, rfl⟩⟩ q_D | exact awp_fitA hY ⟨(false, [], 4, -2), .inr ⟨‹_›, rfl⟩⟩ q_D | skip
  rintro ⟨p, hp⟩
  simp only
  refine seq_join (ι := Unit) (fun _ => ⟨185, [(2, .bx 0 0), (3, .bx 1 0), (5, .bx 2 0), (6, .bx 3 0), (7, .bx 4 0), (8, .bx 5 0), (11, .bx 8 0), (12, .bx 9 0)], ⟨[(9, [.c (.i .i64 14), .c (.i .i64 (-1))]), (8, [.c (.b false), .c (.ints .u32 []), .c (.b false), .c (.ints .u32 []), .c (.b false), .c (.ints .u32 [])]), (5, [.c (.i .i64 p.2.2.1), .c (.i .i64 p.2.2.2)]), (4, [.c (.b p.1), .c (.ints .u32 p.2.1)]), (3, [.c (.i .i64 0), .c (.i .i64 0)]), (2, [.c (.b (decide (n < 0))), .c (.ints .u32 (dg 4294967296 (n).natAbs))]), (1, [.c (.b (decide (z < 0))), .c (.ints .u32 (dg 4294967296 (z).natAbs))]), (0, [.c (.b (decide (S < 0))), .c (.ints .u32 (dg 4294967296 (S).natAbs)), .c (.b (decide (T < 0))), .c (.ints .u32 (dg 4294967296 (T).natAbs)), .c (.b (decide (D < 0))), .c (.ints .u32 (dg 4294967296 (D).natAbs))])], [], []⟩, 10⟩) ?_ ?_
  · repeat' (first|(with_reducible first|apply q_a|apply q_b|apply q_c|apply q_d|apply q_e|apply q_f|apply q_g|apply q_h|apply q_i|apply q_j|apply q_k|apply q_m|apply q_n|apply q_o|apply q_p|refine q_l ?_)|((with_reducible first|refine q_q rbk_ok fun K hK=>?_|refine q_r rbk_ok fun K hK=>?_);simp (maxSteps:=2000000) only [go_sem,↓reduceIte,reduceCtorEq,Nat.reduceLeDiff,Nat.reduceLT,Nat.reduceBEq,Nat.reduceAdd,hvr, hN];(repeat1' with_reducible first|apply And.intro|(intro _;try exact q_v)|(refine hK _ ?_;clear hK K))<;>(try (clear hK K;exact q_u)))|(with_reducible refine q_s ?_;(first|apply q_J|apply q_K|apply q_L|apply q_M|apply q_N|apply q_O)<;>try (intro _;try exact q_v))|with_reducible refine q_t ?_)
    all_goals first | contradiction | omega | exact join_n () q_D | skip
  rintro ⟨⟩
  rcases hp with ⟨hi, rfl⟩ | ⟨hi, rfl⟩
  · simp only
    obtain ⟨e1, e2, e3⟩ := elem _ hi.1 hi.2
    obtain ⟨hh, hq⟩ := hhas _ hi.1 hi.2
    have g1 := lb_of e3
    have g2 := ls_of e3
    have g3 := ls_of e1
    have g4 := (dg_half' _ 128).2 e1
    have g5 := (dg_half' _ 128).2 n1
    have g6 := (dg_half' _ 128).2 hu
    have ox := (okZ_g (S + D * ixZ z n)).trans (decide_eq_true (FB_len e3))
    by_cases hn : z < 0
    · have e : ixZ z n = z + n := if_pos hn
      rw [e] at hi e1 e2 e3 hh hq g1 g2 g3 g4 ox
      simp only [e]
      repeat' (first|(with_reducible first|apply q_a|apply q_b|apply q_c|apply q_d|apply q_e|apply q_f|apply q_g|apply q_h|apply q_i|apply q_j|apply q_k|apply q_m|apply q_n|apply q_o|apply q_p|refine q_l ?_)|((with_reducible first|refine q_q rbk_ok fun K hK=>?_|refine q_r rbk_ok fun K hK=>?_);simp (maxSteps:=2000000) only [go_sem,↓reduceIte,reduceCtorEq,Nat.reduceLeDiff,Nat.reduceLT,Nat.reduceBEq,Nat.reduceAdd,hvr, oz, hN, hh, hq, ox];(repeat1' with_reducible first|apply And.intro|(intro _;try exact q_v)|(refine hK _ ?_;clear hK K))<;>(try (clear hK K;exact q_u)))|(with_reducible refine q_s ?_;(first|apply q_J|apply q_K|apply q_L|apply q_M|apply q_N|apply q_O)<;>try (intro _;try exact q_v))|with_reducible refine q_t ?_)
      all_goals first | contradiction | omega | assumption | exact q_A rfl | skip
    · have e : ixZ z n = z := if_neg hn
      rw [e] at hi e1 e2 e3 hh hq g1 g2 g3 g4 ox
      simp only [e]
      repeat' (first|(with_reducible first|apply q_a|apply q_b|apply q_c|apply q_d|apply q_e|apply q_f|apply q_g|apply q_h|apply q_i|apply q_j|apply q_k|apply q_m|apply q_n|apply q_o|apply q_p|refine q_l ?_)|((with_reducible first|refine q_q rbk_ok fun K hK=>?_|refine q_r rbk_ok fun K hK=>?_);simp (maxSteps:=2000000) only [go_sem,↓reduceIte,reduceCtorEq,Nat.reduceLeDiff,Nat.reduceLT,Nat.reduceBEq,Nat.reduceAdd,hvr, oz, hN, hh, hq, ox];(repeat1' with_reducible first|apply And.intro|(intro _;try exact q_v)|(refine hK _ ?_;clear hK K))<;>(try (clear hK K;exact q_u)))|(with_reducible refine q_s ?_;(first|apply q_J|apply q_K|apply q_L|apply q_M|apply q_N|apply q_O)<;>try (intro _;try exact q_v))|with_reducible refine q_t ?_)
      all_goals first | contradiction | omega | assumption | exact q_A rfl | skip
  · simp only
    repeat' (first|(with_reducible first|apply q_a|apply q_b|apply q_c|apply q_d|apply q_e|apply q_f|apply q_g|apply q_h|apply q_i|apply q_j|apply q_k|apply q_m|apply q_n|apply q_o|apply q_p|refine q_l ?_)|((with_reducible first|refine q_q rbk_ok fun K hK=>?_|refine q_r rbk_ok fun K hK=>?_);simp (maxSteps:=2000000) only [go_sem,↓reduceIte,reduceCtorEq,Nat.reduceLeDiff,Nat.reduceLT,Nat.reduceBEq,Nat.reduceAdd,hvr, oz, hN, sv_nil];(repeat1' with_reducible first|apply And.intro|(intro _;try exact q_v)|(refine hK _ ?_;clear hK K))<;>(try (clear hK K;exact q_u)))|(with_reducible refine q_s ?_;(first|apply q_J|apply q_K|apply q_L|apply q_M|apply q_N|apply q_O)<;>try (intro _;try exact q_v))|with_reducible refine q_t ?_)
    all_goals first | contradiction | omega | exact q_A rfl | skip
set_option maxRecDepth 100000 in
set_option maxHeartbeats 25600000 in
theorem back_fits (S T D z : Int) (h : RV S T D) (hu : FB z) (hz : rLen S T D ≠ 0) (hfi : (S - sgR D).natAbs < W40) :
    Ret Try.prog 16 false [.inr (gG S T D), .inr (gI z)] (.c (.b true)) := by
  have hvr := (vR_g S T D).2 h
  have oz := (okZ_g z).trans (decide_eq_true (FB_len hu))
  obtain ⟨f1, f2, f3⟩ := rv_fb h
  have l1 := lb_of f1
  have l2 := lb_of f2
  have l3 := lb_of f3
  have l4 := lb_of hu
  obtain ⟨n1, n2⟩ := len_fb h
  obtain ⟨y1, y2, y3⟩ := pl_fb h.rb
  have m1 := ls_of y1
  have m2 := ls_of y2
  have m3 := ls_of y3
  have m4 := ls_of n1
  have q1 := Nat.le_trans (FB_len hu) (show 128 ≤ 1048576 by omega)
  have q2 := Nat.le_trans (FB_len n1) (show 128 ≤ 1048576 by omega)
  have q3 := ls_of f1
  have q4 := len_i64 (z := 1) (by omega)
  have k1 := lb_of y1
  have k2 := lb_of y2
  have k3 := lb_of y3
  have hix := ix_fb hu n1 n2
  have elem := fun k h0 h1 => elem_fb (k := k) h h0 h1
  have hhas := fun k (h0 : 0 ≤ k) (h1 : k < rLen S T D) => has_k (k := k) h.1 h0 h1
  obtain ⟨rt, t1, t2, t3, t4⟩ := tu_len h hz hfi
  have hvt := (vR_g _ _ _).2 rt
  obtain ⟨p1, p2, p3, p4⟩ := pl_len h.1 hz
  have hsm := same_pl h.1 hz
  rw [p3] at hsm
  have e5 : laR S T D - sgR (0 - plD S T D) = plT S T D := by rw [t3, p4]; omega
  have htr : (plT S T D).natAbs < W40 ↔ RV S (plT S T D) (plD S T D) := by
    obtain ⟨_, _, w5⟩ := pl_facts h hz
    exact ⟨fun hh => ⟨w5.1, h.2.1, hh, w5.2⟩, fun hh => hh.2.2.1⟩
  have hvu := vR_g S (plT S T D) (plD S T D)
  obtain ⟨f1', f2', f3'⟩ := rv_fb rt
  have l1' := lb_of f1'
  have l2' := lb_of f2'
  have l3' := lb_of f3'
  have helt := fun k (h0 : 0 ≤ k) (h1 : k < rLen S T D) => tu_elem (k := k) h.1 hz
  generalize hN : rLen S T D = n at *
  generalize hA1 : plS S T D = A1 at *
  generalize hA2 : plT S T D = A2 at *
  generalize hA3 : plD S T D = A3 at *
  generalize hla : laR S T D = la at *
  generalize hT2 : S - sgR D = B2 at *
  generalize hT3 : 0 - A3 = B3 at *
  simp only [gG, gI]
  (refine q_H Try.func16 (fun F => ?_); simp only [q_z,q_y,Try.ntmps16,Try.results16])
  refine seq_cut8 (ι := { p : Bool × List Int × Int × Int // PAb S D n z p }) (fun p => ⟨185, [(2, .bx 0 0), (3, .bx 1 0), (5, .bx 2 0), (6, .bx 3 0), (7, .bx 4 0), (8, .bx 5 0), (9, .bx 6 0), (10, .bx 7 0), (11, .bx 8 0), (12, .bx 9 0)], ⟨[(9, [.c (.i .i64 0), .c (.i .i64 0)]), (8, [.c (.b (decide (la < 0))), .c (.ints .u32 (dg 4294967296 (la).natAbs)), .c (.b (decide (B2 < 0))), .c (.ints .u32 (dg 4294967296 (B2).natAbs)), .c (.b (decide (B3 < 0))), .c (.ints .u32 (dg 4294967296 (B3).natAbs))]), (7, [.c (.i .i64 0), .c (.i .i64 0)]), (6, [.c (.b (decide (A1 < 0))), .c (.ints .u32 (dg 4294967296 (A1).natAbs)), .c (.b (decide (A2 < 0))), .c (.ints .u32 (dg 4294967296 (A2).natAbs)), .c (.b (decide (A3 < 0))), .c (.ints .u32 (dg 4294967296 (A3).natAbs))]), (5, [.c (.i .i64 p.1.2.2.1), .c (.i .i64 p.1.2.2.2)]), (4, [.c (.b p.1.1), .c (.ints .u32 p.1.2.1)]), (3, [.c (.i .i64 0), .c (.i .i64 0)]), (2, [.c (.b (decide (n < 0))), .c (.ints .u32 (dg 4294967296 (n).natAbs))]), (1, [.c (.b (decide (z < 0))), .c (.ints .u32 (dg 4294967296 (z).natAbs))]), (0, [.c (.b (decide (S < 0))), .c (.ints .u32 (dg 4294967296 (S).natAbs)), .c (.b (decide (T < 0))), .c (.ints .u32 (dg 4294967296 (T).natAbs)), .c (.b (decide (D < 0))), .c (.ints .u32 (dg 4294967296 (D).natAbs))])], [], []⟩, 10⟩) (fun Y hY => ?_) ?_
  · repeat' (first|(with_reducible first|apply q_a|apply q_b|apply q_c|apply q_d|apply q_e|apply q_f|apply q_g|apply q_h|apply q_i|apply q_j|apply q_k|apply q_m|apply q_n|apply q_o|apply q_p|refine q_l ?_)|((with_reducible first|refine q_q rbk_ok fun K hK=>?_|refine q_r rbk_ok fun K hK=>?_);simp (maxSteps:=2000000) only [go_sem,↓reduceIte,reduceCtorEq,Nat.reduceLeDiff,Nat.reduceLT,Nat.reduceBEq,Nat.reduceAdd,hvr, oz, hN, hA1, hA2, hA3, hla, hT2, hT3, hfi];(repeat1' with_reducible first|apply And.intro|(intro _;try exact q_v)|(refine hK _ ?_;clear hK K))<;>(try (clear hK K;exact q_u)))|(with_reducible refine q_s ?_;(first|apply q_J|apply q_K|apply q_L|apply q_M|apply q_N|apply q_O)<;>try (intro _;try exact q_v))|with_reducible refine q_t ?_)
    all_goals first | contradiction | omega | exact awp_fitA hY ⟨(_, _, 0, 0), .inl ⟨‹_›, rfl⟩⟩ q_D | exact awp_fitA hY ⟨(false, [], 4, -2), .inr ⟨‹_›, rfl⟩⟩ q_D | skip
  rintro ⟨p, hp⟩
  simp only
  refine seq_join (ι := Unit) (fun _ => ⟨185, [(2, .bx 0 0), (3, .bx 1 0), (5, .bx 2 0), (6, .bx 3 0), (7, .bx 4 0), (8, .bx 5 0), (11, .bx 8 0), (12, .bx 9 0)], ⟨[(9, [.c (.i .i64 0), .c (.i .i64 0)]), (8, [.c (.b (decide (la < 0))), .c (.ints .u32 (dg 4294967296 (la).natAbs)), .c (.b (decide (B2 < 0))), .c (.ints .u32 (dg 4294967296 (B2).natAbs)), .c (.b (decide (B3 < 0))), .c (.ints .u32 (dg 4294967296 (B3).natAbs))]), (5, [.c (.i .i64 p.2.2.1), .c (.i .i64 p.2.2.2)]), (4, [.c (.b p.1), .c (.ints .u32 p.2.1)]), (3, [.c (.i .i64 0), .c (.i .i64 0)]), (2, [.c (.b (decide (n < 0))), .c (.ints .u32 (dg 4294967296 (n).natAbs))]), (1, [.c (.b (decide (z < 0))), .c (.ints .u32 (dg 4294967296 (z).natAbs))]), (0, [.c (.b (decide (S < 0))), .c (.ints .u32 (dg 4294967296 (S).natAbs)), .c (.b (decide (T < 0))), .c (.ints .u32 (dg 4294967296 (T).natAbs)), .c (.b (decide (D < 0))), .c (.ints .u32 (dg 4294967296 (D).natAbs))])], [], []⟩, 15⟩) ?_ ?_
  · by_cases hR : RV S A2 A3
    · have hvu := hvu.2 hR
      have htr := htr.2 hR
      repeat' (first|(with_reducible first|apply q_a|apply q_b|apply q_c|apply q_d|apply q_e|apply q_f|apply q_g|apply q_h|apply q_i|apply q_j|apply q_k|apply q_m|apply q_n|apply q_o|apply q_p|refine q_l ?_)|((with_reducible first|refine q_q rbk_ok fun K hK=>?_|refine q_r rbk_ok fun K hK=>?_);simp (maxSteps:=2000000) only [go_sem,↓reduceIte,reduceCtorEq,Nat.reduceLeDiff,Nat.reduceLT,Nat.reduceBEq,Nat.reduceAdd,hvr, hN, hvt, t1, t2, e5, t4, htr, hvu, hsm, p3];(repeat1' with_reducible first|apply And.intro|(intro _;try exact q_v)|(refine hK _ ?_;clear hK K))<;>(try (clear hK K;exact q_u)))|(with_reducible refine q_s ?_;(first|apply q_J|apply q_K|apply q_L|apply q_M|apply q_N|apply q_O)<;>try (intro _;try exact q_v))|with_reducible refine q_t ?_)
      all_goals first | contradiction | omega | assumption | exact join_n () q_D | skip
    · have htr := fun hh => hR (htr.1 hh)
      have v0 : vR false false false [] [] [] = false := by kernel_rfl
      repeat' (first|(with_reducible first|apply q_a|apply q_b|apply q_c|apply q_d|apply q_e|apply q_f|apply q_g|apply q_h|apply q_i|apply q_j|apply q_k|apply q_m|apply q_n|apply q_o|apply q_p|refine q_l ?_)|((with_reducible first|refine q_q rbk_ok fun K hK=>?_|refine q_r rbk_ok fun K hK=>?_);simp (maxSteps:=2000000) only [go_sem,↓reduceIte,reduceCtorEq,Nat.reduceLeDiff,Nat.reduceLT,Nat.reduceBEq,Nat.reduceAdd,hvr, hN, hvt, t1, t2, e5, t4, htr, v0, p3];(repeat1' with_reducible first|apply And.intro|(intro _;try exact q_v)|(refine hK _ ?_;clear hK K))<;>(try (clear hK K;exact q_u)))|(with_reducible refine q_s ?_;(first|apply q_J|apply q_K|apply q_L|apply q_M|apply q_N|apply q_O)<;>try (intro _;try exact q_v))|with_reducible refine q_t ?_)
      all_goals first | contradiction | omega | assumption | exact join_n () q_D | skip
  rintro ⟨⟩
  rcases hp with ⟨hi, rfl⟩ | ⟨hi, rfl⟩
  · simp only
    obtain ⟨e1, e2, e3⟩ := elem _ hi.1 hi.2
    obtain ⟨hh, hq⟩ := hhas _ hi.1 hi.2
    have g1 := lb_of e3
    have g2 := ls_of e3
    have g3 := ls_of e1
    have g4 := (dg_half' _ 128).2 e1
    have g5 := (dg_half' _ 128).2 n1
    have g6 := (dg_half' _ 128).2 hu
    have ox := (okZ_g (S + D * ixZ z n)).trans (decide_eq_true (FB_len e3))
    by_cases hn : z < 0
    · have e : ixZ z n = z + n := if_pos hn
      rw [e] at hi e1 e2 e3 hh hq g1 g2 g3 g4 ox
      simp only [e]
      have ht := helt _ hi.1 hi.2 hi.2 hi.1
      have hkn : -(z + n + 1) < 0 := by omega
      have hix2 : ixZ (-(z + n + 1)) n = -(z + n + 1) + n := if_pos hkn
      have hsv : sg true (z + n + 1).natAbs = -(z + n + 1) := by rw [sgt]; omega
      have g7 := sum_len (x := z + n) (y := 1) (k := 256) g4 (by have := len_i64 (z := 1) (by omega); omega)
      have hfk : FB (z + n + 1) := len_plus hi.1 hi.2 n1
      have ok1 : okZ true (dg 4294967296 (z + n + 1).natAbs) = true := by
        have := (okZ_g (-(z + n + 1))).trans (decide_eq_true (by rw [Int.natAbs_neg]; exact FB_len hfk))
        rw [decide_eq_true hkn, Int.natAbs_neg] at this
        exact this
      have g8 := lb_of hfk
      repeat' (first|(with_reducible first|apply q_a|apply q_b|apply q_c|apply q_d|apply q_e|apply q_f|apply q_g|apply q_h|apply q_i|apply q_j|apply q_k|apply q_m|apply q_n|apply q_o|apply q_p|refine q_l ?_)|((with_reducible first|refine q_q rbk_ok fun K hK=>?_|refine q_r rbk_ok fun K hK=>?_);simp (maxSteps:=2000000) only [go_sem,↓reduceIte,reduceCtorEq,Nat.reduceLeDiff,Nat.reduceLT,Nat.reduceBEq,Nat.reduceAdd,hvr, oz, hN, hh, hq, ox, hvt, t1, hix2, hsv, ok1, ht];(repeat1' with_reducible first|apply And.intro|(intro _;try exact q_v)|(refine hK _ ?_;clear hK K))<;>(try (clear hK K;exact q_u)))|(with_reducible refine q_s ?_;(first|apply q_J|apply q_K|apply q_L|apply q_M|apply q_N|apply q_O)<;>try (intro _;try exact q_v))|with_reducible refine q_t ?_)
      all_goals first | contradiction | omega | assumption | exact q_A rfl | skip
    · have e : ixZ z n = z := if_neg hn
      rw [e] at hi e1 e2 e3 hh hq g1 g2 g3 g4 ox
      simp only [e]
      have ht := helt _ hi.1 hi.2 hi.2 hi.1
      have hkn : -(z + 1) < 0 := by omega
      have hix2 : ixZ (-(z + 1)) n = -(z + 1) + n := if_pos hkn
      have hsv : sg true (z + 1).natAbs = -(z + 1) := by rw [sgt]; omega
      have g7 := sum_len (x := z) (y := 1) (k := 256) g4 (by have := len_i64 (z := 1) (by omega); omega)
      have hfk : FB (z + 1) := len_plus hi.1 hi.2 n1
      have ok1 : okZ true (dg 4294967296 (z + 1).natAbs) = true := by
        have := (okZ_g (-(z + 1))).trans (decide_eq_true (by rw [Int.natAbs_neg]; exact FB_len hfk))
        rw [decide_eq_true hkn, Int.natAbs_neg] at this
        exact this
      have g8 := lb_of hfk
      repeat' (first|(with_reducible first|apply q_a|apply q_b|apply q_c|apply q_d|apply q_e|apply q_f|apply q_g|apply q_h|apply q_i|apply q_j|apply q_k|apply q_m|apply q_n|apply q_o|apply q_p|refine q_l ?_)|((with_reducible first|refine q_q rbk_ok fun K hK=>?_|refine q_r rbk_ok fun K hK=>?_);simp (maxSteps:=2000000) only [go_sem,↓reduceIte,reduceCtorEq,Nat.reduceLeDiff,Nat.reduceLT,Nat.reduceBEq,Nat.reduceAdd,hvr, oz, hN, hh, hq, ox, hvt, t1, hix2, hsv, ok1, ht];(repeat1' with_reducible first|apply And.intro|(intro _;try exact q_v)|(refine hK _ ?_;clear hK K))<;>(try (clear hK K;exact q_u)))|(with_reducible refine q_s ?_;(first|apply q_J|apply q_K|apply q_L|apply q_M|apply q_N|apply q_O)<;>try (intro _;try exact q_v))|with_reducible refine q_t ?_)
      all_goals first | contradiction | omega | assumption | exact q_A rfl | skip
  · simp only
    repeat' (first|(with_reducible first|apply q_a|apply q_b|apply q_c|apply q_d|apply q_e|apply q_f|apply q_g|apply q_h|apply q_i|apply q_j|apply q_k|apply q_m|apply q_n|apply q_o|apply q_p|refine q_l ?_)|((with_reducible first|refine q_q rbk_ok fun K hK=>?_|refine q_r rbk_ok fun K hK=>?_);simp (maxSteps:=2000000) only [go_sem,↓reduceIte,reduceCtorEq,Nat.reduceLeDiff,Nat.reduceLT,Nat.reduceBEq,Nat.reduceAdd,hvr, oz, hN, sv_nil];(repeat1' with_reducible first|apply And.intro|(intro _;try exact q_v)|(refine hK _ ?_;clear hK K))<;>(try (clear hK K;exact q_u)))|(with_reducible refine q_s ?_;(first|apply q_J|apply q_K|apply q_L|apply q_M|apply q_N|apply q_O)<;>try (intro _;try exact q_v))|with_reducible refine q_t ?_)
    all_goals first | contradiction | omega | exact q_A rfl | skip
theorem back_ok (S T D z : Int) (h : RV S T D) (hu : FB z) : Ret Try.prog 16 false [.inr (gG S T D), .inr (gI z)] (.c (.b true)) := by
  by_cases hz : rLen S T D = 0
  · exact back_empty S T D z h hu hz
  · by_cases hfi : (S - sgR D).natAbs < W40
    · exact back_fits S T D z h hu hz hfi
    · exact back_big S T D z h hu hz hfi
end Go.Proofs.Ytneecniebhhhlaa
