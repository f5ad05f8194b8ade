import Derived.Test.YtneecniebhhhlaaH28
import Derived.Test.YtneecniebhhhlaaH31
import Derived.Test.YtneecniebhhhlaaH34
namespace Go.Proofs.Ytneecniebhhhlaa
set_option linter.unusedSimpArgs false
set_option linter.unusedVariables false
open Go.Abs Go.Proofs.NatL

set_option maxHeartbeats 1600000 in
theorem Turn_bad (s t d : Bool) (xs ys zs : List Int) (h1 : xs.length ≤ 140737488355328) (h2 : ys.length ≤ 140737488355328) (h3 : zs.length ≤ 140737488355328) (hv : vR s t d xs ys zs = false) :
    Ret Try.prog 86 false [.inr [.b s, .ints .u32 xs, .b t, .ints .u32 ys, .b d, .ints .u32 zs]] (.t [.inr [.b false, .ints .u32 [], .b false, .ints .u32 [], .b false, .ints .u32 []], .inr [.i .i64 6, .i .i64 (-1)]]) := by
  (refine q_H Try.func86 (fun F => ?_); simp only [q_z,q_y,Try.ntmps86,Try.results86])
  repeat' (first|(with_reducible first|apply q_a|apply q_b|apply q_c|apply q_d|apply q_e|apply q_f|apply q_g|apply q_h|apply q_i|apply q_j|apply q_k|apply q_m|apply q_n|apply q_o|apply q_p|refine q_l ?_)|((with_reducible first|refine q_q rp5_ok fun K hK=>?_|refine q_r rp5_ok fun K hK=>?_);simp (maxSteps:=2000000) only [go_sem,↓reduceIte,reduceCtorEq,Nat.reduceLeDiff,Nat.reduceLT,Nat.reduceBEq,Nat.reduceAdd,hv];(repeat1' with_reducible first|apply And.intro|(intro _;try exact q_v)|(refine hK _ ?_;clear hK K))<;>(try (clear hK K;exact q_u)))|(with_reducible refine q_s ?_;(first|apply q_J|apply q_K|apply q_L|apply q_M|apply q_N|apply q_O)<;>try (intro _;try exact q_v))|with_reducible refine q_t ?_)
  all_goals first | contradiction | omega | exact q_B [nG, .inr [none, none]] rfl rfl
def gdTurn (S T D : Int) (K : AV → Prop) : Prop := (rLen S T D = 0 → K (.t [.inr (gG 0 0 1), .inr [.i .i64 0, .i .i64 0]])) ∧
  (rLen S T D ≠ 0 → ((S - sgR D).natAbs < W40 → K (.t [.inr (gG (laR S T D) (S - sgR D) (0 - plD S T D)), .inr [.i .i64 0, .i .i64 0]])) ∧
    (¬ (S - sgR D).natAbs < W40 → K (.t [.inr [.b false, .ints .u32 [], .b false, .ints .u32 [], .b false, .ints .u32 []], .inr [.i .i64 14, .i .i64 (-1)]])))
def rp6 : Cfg := addT 86 (rTot gdTurn (.t [.inr [.b false, .ints .u32 [], .b false, .ints .u32 [], .b false, .ints .u32 []], .inr [.i .i64 6, .i .i64 (-1)]])) rp4
theorem rp6_ok : TblOk Try.prog rp6 := q_I rp4_ok Try.func86 fun l K h =>
  rTot_tr (good := gdTurn) (bad := (.t [.inr [.b false, .ints .u32 [], .b false, .ints .u32 [], .b false, .ints .u32 []], .inr [.i .i64 6, .i .i64 (-1)]])) (fun S T D hv K h => by
    by_cases hz : rLen S T D = 0
    · exact ⟨_, Turn_none S T D hv hz, h.1 hz⟩
    · have h2 := h.2 hz
      have := Turn_some S T D hv hz
      by_cases hi : (S - sgR D).natAbs < W40
      · rw [if_pos hi] at this
        exact ⟨_, this, h2.1 hi⟩
      · rw [if_neg hi] at this
        exact ⟨_, this, h2.2 hi⟩) (fun s t d xs ys zs h1 h2 h3 hv => Turn_bad s t d xs ys zs h1 h2 h3 hv) l K h
attribute [go_sem] gdTurn
def rnr : Cfg := listT [(38, noIntCT)] [28]
theorem rnr_ok : TblOk Try.prog rnr := listE_ok (by simp only [List.mem_singleton, forall_eq]; exact flt) ⟨⟨jt12, jt12_ok, rfl⟩, trivial⟩
attribute [go_sem] rnr
def noRangeCT : CT := mkCT [nG] true fun l K => match l with
  | [.inr [.b s, .ints .u32 xs, .b t, .ints .u32 ys, .b d, .ints .u32 zs]] => ((Nrm s xs ∧ Nrm t ys ∧ Nrm d zs) ∧ xs.length ≤ 140737488355328 ∧ ys.length ≤ 140737488355328 ∧ zs.length ≤ 140737488355328) ∧
      K (.c (.b (decide (sv 4294967296 s xs = 0) && decide (sv 4294967296 t ys = 0) && decide (sv 4294967296 d zs = 0))))
  | _ => False
theorem noRange_ret (s t d a b c : Bool) (xs ys zs : List Int) (n1 : Nrm s xs) (n2 : Nrm t ys) (n3 : Nrm d zs) (l1 : xs.length ≤ 140737488355328) (l2 : ys.length ≤ 140737488355328) (l3 : zs.length ≤ 140737488355328) (ha : decide (sv 4294967296 s xs = 0) = a) (hb : decide (sv 4294967296 t ys = 0) = b) (hc : decide (sv 4294967296 d zs = 0) = c) :
    Ret Try.prog 79 false [.inr [.b s, .ints .u32 xs, .b t, .ints .u32 ys, .b d, .ints .u32 zs]] (.c (.b (a && b && c))) := by
  cases a
  all_goals cases b
  all_goals
    (refine q_H Try.func79 (fun F => ?_); simp only [q_z,q_y,Try.ntmps79,Try.results79])
    repeat' (first|(with_reducible first|apply q_a|apply q_b|apply q_c|apply q_d|apply q_e|apply q_f|apply q_g|apply q_h|apply q_i|apply q_j|apply q_k|apply q_m|apply q_n|apply q_o|apply q_p|refine q_l ?_)|((with_reducible first|refine q_q rnr_ok fun K hK=>?_|refine q_r rnr_ok fun K hK=>?_);simp (maxSteps:=2000000) only [go_sem,↓reduceIte,reduceCtorEq,Nat.reduceLeDiff,Nat.reduceLT,Nat.reduceBEq,Nat.reduceAdd,ha, hb, hc];(repeat1' with_reducible first|apply And.intro|(intro _;try exact q_v)|(refine hK _ ?_;clear hK K))<;>(try (clear hK K;exact q_u)))|(with_reducible refine q_s ?_;(first|apply q_J|apply q_K|apply q_L|apply q_M|apply q_N|apply q_O)<;>try (intro _;try exact q_v))|with_reducible refine q_t ?_)
    all_goals first | contradiction | omega | exact q_A rfl
def rj7 : Cfg := addT 79 noRangeCT rj6
theorem rj7_ok : TblOk Try.prog rj7 := q_I rj6_ok Try.func79 fun l K h => by
  split at h
  · obtain ⟨⟨⟨n1, n2, n3⟩, l1, l2, l3⟩, h⟩ := h
    exact ⟨_, (noRange_ret _ _ _ _ _ _ _ _ _ n1 n2 n3 l1 l2 l3 rfl rfl rfl).plain rfl, h⟩
  · exact h.elim
attribute [go_sem] noRangeCT
def plO (d n one : Int) : Int := if n = 1 then one else d
def isPl (P Q R F d n one : Int) : Bool := if n = 0 then decide (P = 0 ∧ Q = 0 ∧ R = 1) else decide (P = F ∧ Q = F + plO d n one * (n - 1) + sgR (plO d n one) ∧ R = plO d n one)
def pIs (P Q R F d n one : Int) : Prop := (FB P ∧ FB Q ∧ FB R) ∧ (F.natAbs ≤ 100 * W80 ∧ d.natAbs ≤ 100 * W80 ∧ n.natAbs ≤ 100 * W80) ∧ (n = 0 ∨ d ≠ 0) ∧ 0 ≤ n ∧ (one = 1 ∨ one = -1)
def rip : Cfg := listT [(38, noIntCT), (39, sameIntCT), (53, numberCT), (58, (rI2CT 4194304 ordF)), (72, plusDCT), (66, (rI2CT 1048576 mulF))] [28]
theorem rip_ok : TblOk Try.prog rip := listE_ok (by simp only [List.mem_singleton, forall_eq]; exact flt) ⟨⟨jt12, jt12_ok, rfl⟩, ⟨jt12, jt12_ok, rfl⟩, ⟨jt12, jt12_ok, rfl⟩, ⟨jt12, jt12_ok, rfl⟩, ⟨rj3, rj3_ok, rfl⟩, ⟨jt12, jt12_ok, rfl⟩, trivial⟩
attribute [go_sem] rip
theorem sum_len {x y : Int} {k : Nat} (hx : (dg 65536 x.natAbs).length ≤ k) (hy : (dg 65536 y.natAbs).length ≤ k) : (dg 65536 (x + y).natAbs).length ≤ k + 1 := by
  have q1 := lt_of_len (B := 65536) (a := x.natAbs) (k := k) (by omega) hx
  have q2 := lt_of_len (B := 65536) (a := y.natAbs) (k := k) (by omega) hy
  exact dg_len_le (B := 65536) (by omega) (x + y).natAbs (k + 1) (by rw [Nat.pow_succ]; omega)
theorem ls_of {z : Int} (h : FB z) : (dg 4294967296 z.natAbs).length ≤ 16777216 := Nat.le_trans (FB_len h) (by omega)
set_option maxRecDepth 100000 in
set_option maxHeartbeats 12800000 in
theorem isPlain_ret (P Q R F d n one : Int) (a b c : Bool) (h : pIs P Q R F d n one) :
    Ret Try.prog 83 false [.inr (gG P Q R), .inr (gRz F a), .inr (gRz d b), .inr (gRz n c), .inl (.i .i64 one)] (.c (.b (isPl P Q R F d n one))) := by
  obtain ⟨⟨h1, h2, h3⟩, ⟨w1, w2, w3⟩, h4, h5, h6⟩ := h
  have hw := W80_ge
  have l1 := lb_of h1
  have l2 := lb_of h2
  have l3 := lb_of h3
  have m1 := ls_of h1
  have m2 := ls_of h2
  have m3 := ls_of h3
  have q1 := w65 (z := F) (k := 100) w1 (by omega)
  have q2 := w65 (z := d) (k := 100) w2 (by omega)
  have q3 := w65 (z := n) (k := 100) w3 (by omega)
  have q4 := w65 (z := n + -1) (k := 101) (by omega) (by omega)
  have q5 : (dg 65536 (d * (n + -1)).natAbs).length ≤ 1000 := by
    rw [Int.natAbs_mul]
    exact Nat.le_trans (mul_len (by omega) q2 q4) (by omega)
  have q6 := len_i64 (z := 1) (by omega)
  have q7 := len_i64 (z := -1) (by omega)
  have e1 : n + -1 = n - 1 := by omega
  have pz := dg_len_pos 65536 n.natAbs (by omega)
  have c1 := cz_eq n 1
  have c2 : n ≠ 0 → sgz d b = decide (d < 0) := fun hn => sgz_ne (by omega)
  unfold isPl plO
  by_cases hz : n = 0
  · rw [if_pos hz]
    by_cases k1 : P = 0
    · by_cases k2 : Q = 0
      · simp only [gG, gRz, gR]
        (refine q_H Try.func83 (fun F => ?_); simp only [q_z,q_y,Try.ntmps83,Try.results83])
        repeat' (first|(with_reducible first|apply q_a|apply q_b|apply q_c|apply q_d|apply q_e|apply q_f|apply q_g|apply q_h|apply q_i|apply q_j|apply q_k|apply q_m|apply q_n|apply q_o|apply q_p|refine q_l ?_)|((with_reducible first|refine q_q rip_ok fun K hK=>?_|refine q_r rip_ok fun K hK=>?_);simp (maxSteps:=2000000) only [go_sem,↓reduceIte,reduceCtorEq,Nat.reduceLeDiff,Nat.reduceLT,Nat.reduceBEq,Nat.reduceAdd];(repeat1' with_reducible first|apply And.intro|(intro _;try exact q_v)|(refine hK _ ?_;clear hK K))<;>(try (clear hK K;exact q_u)))|(with_reducible refine q_s ?_;(first|apply q_J|apply q_K|apply q_L|apply q_M|apply q_N|apply q_O)<;>try (intro _;try exact q_v))|with_reducible refine q_t ?_)
        all_goals first | contradiction | omega | exact q_A (congrArg (fun b => AV.c (C.b b)) (decide_eq_decide.2 (by omega))) | skip
      · simp only [gG, gRz, gR]
        (refine q_H Try.func83 (fun F => ?_); simp only [q_z,q_y,Try.ntmps83,Try.results83])
        repeat' (first|(with_reducible first|apply q_a|apply q_b|apply q_c|apply q_d|apply q_e|apply q_f|apply q_g|apply q_h|apply q_i|apply q_j|apply q_k|apply q_m|apply q_n|apply q_o|apply q_p|refine q_l ?_)|((with_reducible first|refine q_q rip_ok fun K hK=>?_|refine q_r rip_ok fun K hK=>?_);simp (maxSteps:=2000000) only [go_sem,↓reduceIte,reduceCtorEq,Nat.reduceLeDiff,Nat.reduceLT,Nat.reduceBEq,Nat.reduceAdd];(repeat1' with_reducible first|apply And.intro|(intro _;try exact q_v)|(refine hK _ ?_;clear hK K))<;>(try (clear hK K;exact q_u)))|(with_reducible refine q_s ?_;(first|apply q_J|apply q_K|apply q_L|apply q_M|apply q_N|apply q_O)<;>try (intro _;try exact q_v))|with_reducible refine q_t ?_)
        all_goals first | contradiction | omega | exact q_A (congrArg (fun b => AV.c (C.b b)) (decide_eq_false (by omega)).symm) | skip
    · simp only [gG, gRz, gR]
      (refine q_H Try.func83 (fun F => ?_); simp only [q_z,q_y,Try.ntmps83,Try.results83])
      repeat' (first|(with_reducible first|apply q_a|apply q_b|apply q_c|apply q_d|apply q_e|apply q_f|apply q_g|apply q_h|apply q_i|apply q_j|apply q_k|apply q_m|apply q_n|apply q_o|apply q_p|refine q_l ?_)|((with_reducible first|refine q_q rip_ok fun K hK=>?_|refine q_r rip_ok fun K hK=>?_);simp (maxSteps:=2000000) only [go_sem,↓reduceIte,reduceCtorEq,Nat.reduceLeDiff,Nat.reduceLT,Nat.reduceBEq,Nat.reduceAdd];(repeat1' with_reducible first|apply And.intro|(intro _;try exact q_v)|(refine hK _ ?_;clear hK K))<;>(try (clear hK K;exact q_u)))|(with_reducible refine q_s ?_;(first|apply q_J|apply q_K|apply q_L|apply q_M|apply q_N|apply q_O)<;>try (intro _;try exact q_v))|with_reducible refine q_t ?_)
      all_goals first | contradiction | omega | exact q_A (congrArg (fun b => AV.c (C.b b)) (decide_eq_false (by omega)).symm) | skip
  · rw [if_neg hz]
    have c2 := c2 hz
    have es : ∀ x : Int, sgR x = if x < 0 then -1 else 1 := fun _ => rfl
    simp only [gG, gRz, gR, c2]
    by_cases hn : n = 1
    · rw [if_pos hn]
      subst hn
      have c1 := c1.2 rfl
      have e0 : (1 : Int) + -1 = 0 := rfl
      have l0 := len_i64 (z := 0) (by omega)
      have q8 := w65 (z := F + 1) (k := 101) (by omega) (by omega)
      have q9 := w65 (z := F + -1) (k := 101) (by omega) (by omega)
      rcases h6 with rfl | rfl
      all_goals
        rw [es]
        (refine q_H Try.func83 (fun F => ?_); simp only [q_z,q_y,Try.ntmps83,Try.results83])
        repeat' (first|(with_reducible first|apply q_a|apply q_b|apply q_c|apply q_d|apply q_e|apply q_f|apply q_g|apply q_h|apply q_i|apply q_j|apply q_k|apply q_m|apply q_n|apply q_o|apply q_p|refine q_l ?_)|((with_reducible first|refine q_q rip_ok fun K hK=>?_|refine q_r rip_ok fun K hK=>?_);simp (maxSteps:=2000000) only [go_sem,↓reduceIte,reduceCtorEq,Nat.reduceLeDiff,Nat.reduceLT,Nat.reduceBEq,Nat.reduceAdd,e0, c1, Int.mul_zero, Int.add_zero];(repeat1' with_reducible first|apply And.intro|(intro _;try exact q_v)|(refine hK _ ?_;clear hK K))<;>(try (clear hK K;exact q_u)))|(with_reducible refine q_s ?_;(first|apply q_J|apply q_K|apply q_L|apply q_M|apply q_N|apply q_O)<;>try (intro _;try exact q_v))|with_reducible refine q_t ?_)
        all_goals first | contradiction | omega | exact q_A (congrArg (fun b => AV.c (C.b b)) (decide_eq_decide.2 (by omega))) | exact q_A (congrArg (fun b => AV.c (C.b b)) (decide_eq_false (by omega)).symm) | exact q_A (congrArg (fun b => AV.c (C.b b)) (decide_eq_true (by omega)).symm) | skip
    · rw [if_neg hn, es]
      rw [e1] at q4 q5
      have q8 := sum_len (x := F) (y := d * (n - 1)) (k := 1000) (by omega) q5
      have q9 := sum_len (x := F + d * (n - 1)) (y := 1) (k := 1001) q8 (by omega)
      have q10 := sum_len (x := F + d * (n - 1)) (y := -1) (k := 1001) q8 (by omega)
      (refine q_H Try.func83 (fun F => ?_); simp only [q_z,q_y,Try.ntmps83,Try.results83])
      repeat' (first|(with_reducible first|apply q_a|apply q_b|apply q_c|apply q_d|apply q_e|apply q_f|apply q_g|apply q_h|apply q_i|apply q_j|apply q_k|apply q_m|apply q_n|apply q_o|apply q_p|refine q_l ?_)|((with_reducible first|refine q_q rip_ok fun K hK=>?_|refine q_r rip_ok fun K hK=>?_);simp (maxSteps:=2000000) only [go_sem,↓reduceIte,reduceCtorEq,Nat.reduceLeDiff,Nat.reduceLT,Nat.reduceBEq,Nat.reduceAdd,e1];(repeat1' with_reducible first|apply And.intro|(intro _;try exact q_v)|(refine hK _ ?_;clear hK K))<;>(try (clear hK K;exact q_u)))|(with_reducible refine q_s ?_;(first|apply q_J|apply q_K|apply q_L|apply q_M|apply q_N|apply q_O)<;>try (intro _;try exact q_v))|with_reducible refine q_t ?_)
      all_goals first | contradiction | omega | exact q_A (congrArg (fun b => AV.c (C.b b)) (decide_eq_decide.2 (by omega))) | exact q_A (congrArg (fun b => AV.c (C.b b)) (decide_eq_false (by omega)).symm) | exact q_A (congrArg (fun b => AV.c (C.b b)) (decide_eq_true (by omega)).symm) | skip
def isPlainCT : CT := mkCT [nG, nR, nR, nR] true fun l K => match l with
  | [.inr [.b s0, .ints .u32 x0, .b s1, .ints .u32 x1, .b s2, .ints .u32 x2], .inr [.b a, .ints .i64 fs], .inr [.b b, .ints .i64 ds], .inr [.b c, .ints .i64 ns], .inl (.i .i64 one)] =>
      ((Nrm s0 x0 ∧ Nrm s1 x1 ∧ Nrm s2 x2) ∧ (InB 65536 fs ∧ Trd fs ∧ InB 65536 ds ∧ Trd ds ∧ InB 65536 ns ∧ Trd ns) ∧ pIs (sv 4294967296 s0 x0) (sv 4294967296 s1 x1) (sv 4294967296 s2 x2) (sv 65536 a fs) (sv 65536 b ds) (sv 65536 c ns) one) ∧
      K (.c (.b (isPl (sv 4294967296 s0 x0) (sv 4294967296 s1 x1) (sv 4294967296 s2 x2) (sv 65536 a fs) (sv 65536 b ds) (sv 65536 c ns) one)))
  | _ => False
theorem gR_of {t : Bool} {ys : List Int} (h1 : InB 65536 ys) (h2 : Trd ys) : gRz (sv 65536 t ys) t = [.b t, .ints .i64 ys] := by
  obtain ⟨e1, e2⟩ := sv_ys (s := t) h1 h2
  rw [e2, gRz_eq, ← e1]
def rj9 : Cfg := addT 83 isPlainCT rj7
theorem rj9_ok : TblOk Try.prog rj9 := q_I rj7_ok Try.func83 fun l K h => by
  split at h
  · rename_i s0 x0 s1 x1 s2 x2 a fs b ds c ns one
    obtain ⟨⟨⟨n0, n1, n2⟩, ⟨b1, t1, b2, t2, b3, t3⟩, hp⟩, h⟩ := h
    have := isPlain_ret _ _ _ _ _ _ _ a b c hp
    rw [gR_of b1 t1, gR_of b2 t2, gR_of b3 t3, ← gG_nrm n0 n1 n2] at this
    exact ⟨_, this.plain rfl, h⟩
  · exact h.elim
attribute [go_sem] isPlainCT
theorem len_W40 (z : Int) : ((dg 65536 z.natAbs).length : Int) ≤ 80 ↔ z.natAbs < W40 := by
  have := dg_half' z.natAbs 40
  have := W40_len (z := z)
  omega
theorem isPl_pl {S T D : Int} (hn : 0 ≤ rLen S T D) : isPl (plS S T D) (plT S T D) (plD S T D) S D (rLen S T D) (sgR D) = true := by
  unfold isPl plO plS plT plD
  generalize rLen S T D = n at *
  have hs : sgR (sgR D) = sgR D := by unfold sgR; split <;> rfl
  by_cases hz : n = 0
  · rw [if_pos hz, if_pos hz, if_pos hz, if_pos hz]; exact decide_eq_true ⟨rfl, rfl, rfl⟩
  · rw [if_neg hz, if_neg hz, if_neg hz, if_neg hz]
    refine decide_eq_true ?_
    by_cases h1 : n = 1
    · rw [if_pos h1, if_neg (by omega), hs, h1]; simp
    · rw [if_neg h1, if_pos (by omega)]; exact ⟨rfl, rfl, rfl⟩
theorem sgR_neg {D : Int} (h : D ≠ 0) : sgR (-D) = -sgR D := by unfold sgR; split <;> split <;> omega
theorem isPl_turn {S T D : Int} (hD : D ≠ 0) (hz : rLen S T D ≠ 0) : isPl (laR S T D) (S - sgR D) (0 - plD S T D) (laR S T D) (-D) (rLen S T D) (-sgR D) = true := by
  unfold isPl plO plD laR
  have h0 : 0 ≤ rLen S T D := rLen_nonneg S T D hD
  generalize rLen S T D = n at *
  rw [if_neg hz, if_neg hz]
  refine decide_eq_true ?_
  by_cases h1 : n = 1
  · have hs : sgR (-sgR D) = -sgR D := by rcases sgR_cases D with e | e <;> rw [e] <;> rfl
    rw [if_pos h1, if_neg (by omega), hs, h1]; simp; omega
  · rw [if_neg h1, if_pos (by omega), sgR_neg hD, Int.neg_mul]
    exact ⟨rfl, by omega, by omega⟩
theorem isPl_turn0 (F D e : Int) : isPl 0 0 1 F D 0 e = true := by
  unfold isPl
  rw [if_pos rfl]; exact decide_eq_true ⟨rfl, rfl, rfl⟩
theorem seq_cut12 {F : Fr} {Q : Exit → St → Prop} {st : St} {a b c d e f g h i j k l Y : Code} {ι : Type} (mid : ι → St) (h1 : ∀ Y', (∀ i, AWp Try.prog F Y' Q (mid i)) → AWp Try.prog F (.seq a (.seq b (.seq c (.seq d (.seq e (.seq f (.seq g (.seq h (.seq i (.seq j (.seq k (.seq l Y')))))))))))) Q st) (h2 : ∀ i, AWp Try.prog F Y Q (mid i)) : AWp Try.prog F (.seq a (.seq b (.seq c (.seq d (.seq e (.seq f (.seq g (.seq h (.seq i (.seq j (.seq k (.seq l Y)))))))))))) Q st := h1 Y h2
theorem seq_cutA {F : Fr} {Q : Exit → St → Prop} {st : St} {a b c d Y : Code} {ι : Type} (mid : ι → St) (h1 : ∀ Y', (∀ i, AWp Try.prog F Y' Q (mid i)) → AWp Try.prog F (.seq a (.seq b (.seq c (.seq d Y')))) Q st) (h2 : ∀ i, AWp Try.prog F Y Q (mid i)) : AWp Try.prog F (.seq a (.seq b (.seq c (.seq d Y)))) Q st := h1 Y h2
theorem awp_fitA {F : Fr} {Q : Exit → St → Prop} {st : St} {Y : Code} {ι : Type} {mid : ι → St} (hY : ∀ i, AWp Try.prog F Y Q (mid i)) (i : ι) (h : FitP st (mid i)) : AWp Try.prog F Y Q st := awp_told (mid i) h (hY i)
end Go.Proofs.Ytneecniebhhhlaa

namespace Go.Proofs.Ytneecniebhhhlaa
set_option linter.unusedSimpArgs false
set_option linter.unusedVariables false
open Go.Abs Go.Proofs.NatL

def rsp : Cfg := listT [(88, (rTot gdLength (.t [.inr [.b false, .ints .u32 []], .inr [.i .i64 6, .i .i64 (-1)]]))), (76, meetCT), (28, iOfCT), (39, sameIntCT), (53, numberCT)] [28]
theorem rsp_ok : TblOk Try.prog rsp := listE_ok (by simp only [List.mem_singleton, forall_eq]; exact flt) ⟨⟨re1, re1_ok, rfl⟩, ⟨rz7, rz7_ok, rfl⟩, ⟨iu1, iu1_ok, rfl⟩, ⟨jt12, jt12_ok, rfl⟩, ⟨jt12, jt12_ok, rfl⟩, trivial⟩
attribute [go_sem] rsp
theorem inv_46 : isInv (upS 4) (upS (-6)) 2 := ⟨by decide +kernel, 1, by decide +kernel⟩
theorem RV_of {S T D : Int} (h : vR (decide (S < 0)) (decide (T < 0)) (decide (D < 0)) (dg 4294967296 S.natAbs) (dg 4294967296 T.natAbs) (dg 4294967296 D.natAbs) = true) : RV S T D := (vR_g S T D).1 h
theorem RV_ex : RV 12 13 1 := RV_of (by kernel_rfl)
set_option maxRecDepth 100000 in
set_option maxHeartbeats 6400000 in
theorem spans_ret : Ret Try.prog 78 false [] (.c (.b true)) := by
  have hall : ∀ P : Nat → Prop, (∀ j, isInv (upS 4) (upS (-6)) j → P j) = P 2 := fun P => propext ⟨fun h => h 2 inv_46, fun h j hj => by
    have := isInv_unique (by decide) (by decide) inv_46 hj
    subst this; exact h⟩
  have v1 : vR (decide ((10 : Int) < 0)) false (decide ((-3 : Int) < 0)) (dg 4294967296 (Int.natAbs 10)) [] (dg 4294967296 (-3 : Int).natAbs) = true := by kernel_rfl
  have v2 : vR false (decide ((20 : Int) < 0)) (decide ((4 : Int) < 0)) [] (dg 4294967296 (Int.natAbs 20)) (dg 4294967296 (Int.natAbs 4)) = true := by kernel_rfl
  have v3 : vR (decide ((18 : Int) < 0)) false (decide ((-6 : Int) < 0)) (dg 4294967296 (Int.natAbs 18)) [] (dg 4294967296 (-6 : Int).natAbs) = true := by kernel_rfl
  have n1 : rLen 10 0 (-3) = 4 := by kernel_rfl
  have n2 : rLen 0 20 4 = 5 := by kernel_rfl
  have n3 : rLen 18 0 (-6) = 3 := by kernel_rfl
  have n4 : (upF 18 0 (-6) - upF 0 20 4).fmod (gOf (upS 4) (upS (-6))) = 0 := by kernel_rfl
  have n5 : meetF 0 20 4 18 0 (-6) 2 = 12 := by kernel_rfl
  have n6 : meetE 0 20 4 18 0 (-6) = 17 := by kernel_rfl
  have n7 : meetS 4 (-6) = 12 := by kernel_rfl
  have n8 : plS 12 17 12 = 12 := by kernel_rfl
  have n9 : plT 12 17 12 = 13 := by kernel_rfl
  have n10 : plD 12 17 12 = 1 := by kernel_rfl
  have l1 : (dg 4294967296 (Int.natAbs 10)).length ≤ 140737488355328 := by decide +kernel
  have l2 : (dg 4294967296 (-3 : Int).natAbs).length ≤ 140737488355328 := by decide +kernel
  have l3 : (dg 4294967296 (Int.natAbs 20)).length ≤ 140737488355328 := by decide +kernel
  have l4 : (dg 4294967296 (Int.natAbs 4)).length ≤ 140737488355328 := by decide +kernel
  have l5 : (dg 4294967296 (Int.natAbs 18)).length ≤ 140737488355328 := by decide +kernel
  have l6 : (dg 4294967296 (-6 : Int).natAbs).length ≤ 140737488355328 := by decide +kernel
  have rv := RV_ex
  (refine q_H Try.func78 (fun F => ?_); simp only [q_z,q_y,Try.ntmps78,Try.results78])
  repeat' (first|(with_reducible first|apply q_a|apply q_b|apply q_c|apply q_d|apply q_e|apply q_f|apply q_g|apply q_h|apply q_i|apply q_j|apply q_k|apply q_m|apply q_n|apply q_o|apply q_p|refine q_l ?_)|((with_reducible first|refine q_q rsp_ok fun K hK=>?_|refine q_r rsp_ok fun K hK=>?_);simp (maxSteps:=2000000) only [go_sem,↓reduceIte,reduceCtorEq,Nat.reduceLeDiff,Nat.reduceLT,Nat.reduceBEq,Nat.reduceAdd,v1, v2, v3, n1, n2, n3, n4, n5, n6, n7, n8, n9, n10, hall, sv_nil];(repeat1' with_reducible first|apply And.intro|(intro _;try exact q_v)|(refine hK _ ?_;clear hK K))<;>(try (clear hK K;exact q_u)))|(with_reducible refine q_s ?_;(first|apply q_J|apply q_K|apply q_L|apply q_M|apply q_N|apply q_O)<;>try (intro _;try exact q_v))|with_reducible refine q_t ?_)
  all_goals first | exact q_A rfl | decide +kernel
def spansCT : CT := mkCT [] true fun l K => match l with
  | [] => K (.c (.b true))
  | _ => False
def rz8 : Cfg := addT 78 spansCT rz7
theorem rz8_ok : TblOk Try.prog rz8 := q_I rz7_ok Try.func78 fun l K h => by
  split at h
  · exact ⟨_, spans_ret.plain rfl, h⟩
  · exact h.elim
attribute [go_sem] spansCT
end Go.Proofs.Ytneecniebhhhlaa
