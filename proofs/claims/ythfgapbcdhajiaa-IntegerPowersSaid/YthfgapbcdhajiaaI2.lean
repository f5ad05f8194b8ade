import Derived.Test.YthfgapbcdhajiaaI1
namespace Go.Proofs.Ythfgapbcdhajiaa
set_option linter.unusedSimpArgs false
set_option linter.unusedVariables false
open Go.Abs Go.Proofs.NatL

theorem okN_128 {n : Nat} (h : (dg 4294967296 n).length ≤ 128) : okN (dg 4294967296 n) = true := okN_dg' (by omega)

set_option maxHeartbeats 800000 in
theorem iNeg_bad (s : Bool) (xs : List Int) (hx : xs.length ≤ 140737488355328) (ho : okZ s xs = false) :
    Ret Try.prog 45 false [.inr [.b s, .ints .u32 xs]] (.t [.inr [.b false, .ints .u32 []], .inr [.i .i64 6, .i .i64 (-1)]]) := by
  (refine q_H Try.func45 (fun F => ?_); simp only [q_z,q_y,Try.ntmps45,Try.results45])
  repeat' (first|(with_reducible first|apply q_a|apply q_b|apply q_c|apply q_d|apply q_e|apply q_f|apply q_g|apply q_h|apply q_i|apply q_j|apply q_k|apply q_m|apply q_n|apply q_o|apply q_p|refine q_l ?_)|((with_reducible first|refine q_q ib_ok fun K hK=>?_|refine q_r ib_ok fun K hK=>?_);simp (maxSteps:=2000000) only [go_sem,↓reduceIte,reduceCtorEq,Nat.reduceLeDiff,Nat.reduceLT,Nat.reduceBEq,Nat.reduceAdd,ho];(repeat1' with_reducible first|apply And.intro|(intro _;try exact q_v)|(refine hK _ ?_;clear hK K))<;>(try (clear hK K;exact q_u)))|(with_reducible refine q_s ?_;(first|apply q_J|apply q_K|apply q_L|apply q_M|apply q_N|apply q_O)<;>try (intro _;try exact q_v))|with_reducible refine q_t ?_)
  all_goals exact q_B [nP] rfl rfl
set_option maxHeartbeats 800000 in
theorem iAbs_bad (s : Bool) (xs : List Int) (hx : xs.length ≤ 140737488355328) (ho : okZ s xs = false) :
    Ret Try.prog 46 false [.inr [.b s, .ints .u32 xs]] (.t [.inr [.b false, .ints .u32 []], .inr [.i .i64 6, .i .i64 (-1)]]) := by
  (refine q_H Try.func46 (fun F => ?_); simp only [q_z,q_y,Try.ntmps46,Try.results46])
  repeat' (first|(with_reducible first|apply q_a|apply q_b|apply q_c|apply q_d|apply q_e|apply q_f|apply q_g|apply q_h|apply q_i|apply q_j|apply q_k|apply q_m|apply q_n|apply q_o|apply q_p|refine q_l ?_)|((with_reducible first|refine q_q ib_ok fun K hK=>?_|refine q_r ib_ok fun K hK=>?_);simp (maxSteps:=2000000) only [go_sem,↓reduceIte,reduceCtorEq,Nat.reduceLeDiff,Nat.reduceLT,Nat.reduceBEq,Nat.reduceAdd,ho];(repeat1' with_reducible first|apply And.intro|(intro _;try exact q_v)|(refine hK _ ?_;clear hK K))<;>(try (clear hK K;exact q_u)))|(with_reducible refine q_s ?_;(first|apply q_J|apply q_K|apply q_L|apply q_M|apply q_N|apply q_O)<;>try (intro _;try exact q_v))|with_reducible refine q_t ?_)
  all_goals exact q_B [nP] rfl rfl
set_option maxHeartbeats 800000 in
theorem iBits_bad (s : Bool) (xs : List Int) (hx : xs.length ≤ 140737488355328) (ho : okZ s xs = false) :
    Ret Try.prog 44 false [.inr [.b s, .ints .u32 xs]] (.t [.inl (.i .i64 0), .inr [.i .i64 6, .i .i64 (-1)]]) := by
  (refine q_H Try.func44 (fun F => ?_); simp only [q_z,q_y,Try.ntmps44,Try.results44])
  repeat' (first|(with_reducible first|apply q_a|apply q_b|apply q_c|apply q_d|apply q_e|apply q_f|apply q_g|apply q_h|apply q_i|apply q_j|apply q_k|apply q_m|apply q_n|apply q_o|apply q_p|refine q_l ?_)|((with_reducible first|refine q_q ib_ok fun K hK=>?_|refine q_r ib_ok fun K hK=>?_);simp (maxSteps:=2000000) only [go_sem,↓reduceIte,reduceCtorEq,Nat.reduceLeDiff,Nat.reduceLT,Nat.reduceBEq,Nat.reduceAdd,ho];(repeat1' with_reducible first|apply And.intro|(intro _;try exact q_v)|(refine hK _ ?_;clear hK K))<;>(try (clear hK K;exact q_u)))|(with_reducible refine q_s ?_;(first|apply q_J|apply q_K|apply q_L|apply q_M|apply q_N|apply q_O)<;>try (intro _;try exact q_v))|with_reducible refine q_t ?_)
  all_goals exact q_B [.inl none] rfl rfl
set_option maxHeartbeats 800000 in
theorem iSmall_bad (s : Bool) (xs : List Int) (hx : xs.length ≤ 140737488355328) (ho : okZ s xs = false) :
    Ret Try.prog 43 false [.inr [.b s, .ints .u32 xs]] (.t [.inl (.i .i64 0), .inr [.i .i64 6, .i .i64 (-1)]]) := by
  (refine q_H Try.func43 (fun F => ?_); simp only [q_z,q_y,Try.ntmps43,Try.results43])
  repeat' (first|(with_reducible first|apply q_a|apply q_b|apply q_c|apply q_d|apply q_e|apply q_f|apply q_g|apply q_h|apply q_i|apply q_j|apply q_k|apply q_m|apply q_n|apply q_o|apply q_p|refine q_l ?_)|((with_reducible first|refine q_q ib_ok fun K hK=>?_|refine q_r ib_ok fun K hK=>?_);simp (maxSteps:=2000000) only [go_sem,↓reduceIte,reduceCtorEq,Nat.reduceLeDiff,Nat.reduceLT,Nat.reduceBEq,Nat.reduceAdd,ho];(repeat1' with_reducible first|apply And.intro|(intro _;try exact q_v)|(refine hK _ ?_;clear hK K))<;>(try (clear hK K;exact q_u)))|(with_reducible refine q_s ?_;(first|apply q_J|apply q_K|apply q_L|apply q_M|apply q_N|apply q_O)<;>try (intro _;try exact q_v))|with_reducible refine q_t ?_)
  all_goals exact q_B [.inl none] rfl rfl

set_option maxHeartbeats 800000 in
theorem iNeg_ok (a : Int) (la : (dg 4294967296 a.natAbs).length ≤ 128) :
    Ret Try.prog 45 false [.inr (gI a)] (.t [.inr (gI (-a)), .inr [.i .i64 0, .i .i64 0]]) := by
  have ho := (okZ_g a).trans (decide_eq_true la)
  have hs : sv 4294967296 (!decide (a < 0)) (dg 4294967296 a.natAbs) = -a := by
    have := sv32 a
    by_cases h : a < 0
    · rw [decide_eq_true h] at this ⊢; simp only [sv, Bool.not_true, Bool.false_eq_true, if_false, if_true] at this ⊢; omega
    · rw [decide_eq_false h] at this ⊢; simp only [sv, Bool.not_false, Bool.false_eq_true, if_false, if_true] at this ⊢; omega
  obtain ⟨e1, e2, e3⟩ := cl_fit (k := 128) (z := -a) (by rw [len_neg]; exact la)
  (refine q_H Try.func45 (fun F => ?_); simp only [q_z,q_y,Try.ntmps45,Try.results45])
  repeat' (first|(with_reducible first|apply q_a|apply q_b|apply q_c|apply q_d|apply q_e|apply q_f|apply q_g|apply q_h|apply q_i|apply q_j|apply q_k|apply q_m|apply q_n|apply q_o|apply q_p|refine q_l ?_)|((with_reducible first|refine q_q ib_ok fun K hK=>?_|refine q_r ib_ok fun K hK=>?_);simp (maxSteps:=2000000) only [go_sem,↓reduceIte,reduceCtorEq,Nat.reduceLeDiff,Nat.reduceLT,Nat.reduceBEq,Nat.reduceAdd,ho, hs, e1, e2, e3];(repeat1' with_reducible first|apply And.intro|(intro _;try exact q_v)|(refine hK _ ?_;clear hK K))<;>(try (clear hK K;exact q_u)))|(with_reducible refine q_s ?_;(first|apply q_J|apply q_K|apply q_L|apply q_M|apply q_N|apply q_O)<;>try (intro _;try exact q_v))|with_reducible refine q_t ?_)
  exact q_A rfl

set_option maxHeartbeats 800000 in
theorem iAbs_ok (a : Int) (la : (dg 4294967296 a.natAbs).length ≤ 128) :
    Ret Try.prog 46 false [.inr (gI a)] (.t [.inr (gI (a.natAbs : Int)), .inr [.i .i64 0, .i .i64 0]]) := by
  have ho := (okZ_g a).trans (decide_eq_true la)
  obtain ⟨e1, e2, e3⟩ := cl_fit (k := 128) (z := (a.natAbs : Int)) (by simpa using la)
  (refine q_H Try.func46 (fun F => ?_); simp only [q_z,q_y,Try.ntmps46,Try.results46])
  repeat' (first|(with_reducible first|apply q_a|apply q_b|apply q_c|apply q_d|apply q_e|apply q_f|apply q_g|apply q_h|apply q_i|apply q_j|apply q_k|apply q_m|apply q_n|apply q_o|apply q_p|refine q_l ?_)|((with_reducible first|refine q_q ib_ok fun K hK=>?_|refine q_r ib_ok fun K hK=>?_);simp (maxSteps:=2000000) only [go_sem,↓reduceIte,reduceCtorEq,Nat.reduceLeDiff,Nat.reduceLT,Nat.reduceBEq,Nat.reduceAdd,ho, sv32d, sgf, e1, e2, e3];(repeat1' with_reducible first|apply And.intro|(intro _;try exact q_v)|(refine hK _ ?_;clear hK K))<;>(try (clear hK K;exact q_u)))|(with_reducible refine q_s ?_;(first|apply q_J|apply q_K|apply q_L|apply q_M|apply q_N|apply q_O)<;>try (intro _;try exact q_v))|with_reducible refine q_t ?_)
  exact q_A rfl

set_option maxHeartbeats 800000 in
theorem iBits_ok (a : Int) (la : (dg 4294967296 a.natAbs).length ≤ 128) :
    Ret Try.prog 44 false [.inr (gI a)] (.t [.inl (.i .i64 (bl a.natAbs : Nat)), .inr [.i .i64 0, .i .i64 0]]) := by
  have ho := (okZ_g a).trans (decide_eq_true la)
  have hk := okN_128 la
  (refine q_H Try.func44 (fun F => ?_); simp only [q_z,q_y,Try.ntmps44,Try.results44])
  repeat' (first|(with_reducible first|apply q_a|apply q_b|apply q_c|apply q_d|apply q_e|apply q_f|apply q_g|apply q_h|apply q_i|apply q_j|apply q_k|apply q_m|apply q_n|apply q_o|apply q_p|refine q_l ?_)|((with_reducible first|refine q_q ib_ok fun K hK=>?_|refine q_r ib_ok fun K hK=>?_);simp (maxSteps:=2000000) only [go_sem,↓reduceIte,reduceCtorEq,Nat.reduceLeDiff,Nat.reduceLT,Nat.reduceBEq,Nat.reduceAdd,ho, hk];(repeat1' with_reducible first|apply And.intro|(intro _;try exact q_v)|(refine hK _ ?_;clear hK K))<;>(try (clear hK K;exact q_u)))|(with_reducible refine q_s ?_;(first|apply q_J|apply q_K|apply q_L|apply q_M|apply q_N|apply q_O)<;>try (intro _;try exact q_v))|with_reducible refine q_t ?_)
  exact q_A rfl

set_option maxHeartbeats 800000 in
theorem iAdd_bad (s t : Bool) (xs ys : List Int) (hx : xs.length ≤ 140737488355328) (hy : ys.length ≤ 140737488355328) (ho : okZ s xs = false ∨ okZ s xs = true ∧ okZ t ys = false) :
    Ret Try.prog 30 false [.inr [.b s, .ints .u32 xs], .inr [.b t, .ints .u32 ys]] (.t [.inr [.b false, .ints .u32 []], .inr [.i .i64 6, .i .i64 (if okZ s xs then -2 else -1)]]) := by
  rcases ho with h1 | ⟨h1, h2⟩
  · simp only [h1, Bool.false_eq_true, if_false]
    (refine q_H Try.func30 (fun F => ?_); simp only [q_z,q_y,Try.ntmps30,Try.results30])
    repeat' (first|(with_reducible first|apply q_a|apply q_b|apply q_c|apply q_d|apply q_e|apply q_f|apply q_g|apply q_h|apply q_i|apply q_j|apply q_k|apply q_m|apply q_n|apply q_o|apply q_p|refine q_l ?_)|((with_reducible first|refine q_q ib_ok fun K hK=>?_|refine q_r ib_ok fun K hK=>?_);simp (maxSteps:=2000000) only [go_sem,↓reduceIte,reduceCtorEq,Nat.reduceLeDiff,Nat.reduceLT,Nat.reduceBEq,Nat.reduceAdd,h1];(repeat1' with_reducible first|apply And.intro|(intro _;try exact q_v)|(refine hK _ ?_;clear hK K))<;>(try (clear hK K;exact q_u)))|(with_reducible refine q_s ?_;(first|apply q_J|apply q_K|apply q_L|apply q_M|apply q_N|apply q_O)<;>try (intro _;try exact q_v))|with_reducible refine q_t ?_)
    all_goals exact q_B [nP] rfl rfl
  · simp only [h1, if_true]
    (refine q_H Try.func30 (fun F => ?_); simp only [q_z,q_y,Try.ntmps30,Try.results30])
    repeat' (first|(with_reducible first|apply q_a|apply q_b|apply q_c|apply q_d|apply q_e|apply q_f|apply q_g|apply q_h|apply q_i|apply q_j|apply q_k|apply q_m|apply q_n|apply q_o|apply q_p|refine q_l ?_)|((with_reducible first|refine q_q ib_ok fun K hK=>?_|refine q_r ib_ok fun K hK=>?_);simp (maxSteps:=2000000) only [go_sem,↓reduceIte,reduceCtorEq,Nat.reduceLeDiff,Nat.reduceLT,Nat.reduceBEq,Nat.reduceAdd,h1, h2];(repeat1' with_reducible first|apply And.intro|(intro _;try exact q_v)|(refine hK _ ?_;clear hK K))<;>(try (clear hK K;exact q_u)))|(with_reducible refine q_s ?_;(first|apply q_J|apply q_K|apply q_L|apply q_M|apply q_N|apply q_O)<;>try (intro _;try exact q_v))|with_reducible refine q_t ?_)
    all_goals exact q_B [nP] rfl rfl
set_option maxHeartbeats 800000 in
theorem iSub_bad (s t : Bool) (xs ys : List Int) (hx : xs.length ≤ 140737488355328) (hy : ys.length ≤ 140737488355328) (ho : okZ s xs = false ∨ okZ s xs = true ∧ okZ t ys = false) :
    Ret Try.prog 16 false [.inr [.b s, .ints .u32 xs], .inr [.b t, .ints .u32 ys]] (.t [.inr [.b false, .ints .u32 []], .inr [.i .i64 6, .i .i64 (if okZ s xs then -2 else -1)]]) := by
  rcases ho with h1 | ⟨h1, h2⟩
  · simp only [h1, Bool.false_eq_true, if_false]
    (refine q_H Try.func16 (fun F => ?_); simp only [q_z,q_y,Try.ntmps16,Try.results16])
    repeat' (first|(with_reducible first|apply q_a|apply q_b|apply q_c|apply q_d|apply q_e|apply q_f|apply q_g|apply q_h|apply q_i|apply q_j|apply q_k|apply q_m|apply q_n|apply q_o|apply q_p|refine q_l ?_)|((with_reducible first|refine q_q ib_ok fun K hK=>?_|refine q_r ib_ok fun K hK=>?_);simp (maxSteps:=2000000) only [go_sem,↓reduceIte,reduceCtorEq,Nat.reduceLeDiff,Nat.reduceLT,Nat.reduceBEq,Nat.reduceAdd,h1];(repeat1' with_reducible first|apply And.intro|(intro _;try exact q_v)|(refine hK _ ?_;clear hK K))<;>(try (clear hK K;exact q_u)))|(with_reducible refine q_s ?_;(first|apply q_J|apply q_K|apply q_L|apply q_M|apply q_N|apply q_O)<;>try (intro _;try exact q_v))|with_reducible refine q_t ?_)
    all_goals exact q_B [nP] rfl rfl
  · simp only [h1, if_true]
    (refine q_H Try.func16 (fun F => ?_); simp only [q_z,q_y,Try.ntmps16,Try.results16])
    repeat' (first|(with_reducible first|apply q_a|apply q_b|apply q_c|apply q_d|apply q_e|apply q_f|apply q_g|apply q_h|apply q_i|apply q_j|apply q_k|apply q_m|apply q_n|apply q_o|apply q_p|refine q_l ?_)|((with_reducible first|refine q_q ib_ok fun K hK=>?_|refine q_r ib_ok fun K hK=>?_);simp (maxSteps:=2000000) only [go_sem,↓reduceIte,reduceCtorEq,Nat.reduceLeDiff,Nat.reduceLT,Nat.reduceBEq,Nat.reduceAdd,h1, h2];(repeat1' with_reducible first|apply And.intro|(intro _;try exact q_v)|(refine hK _ ?_;clear hK K))<;>(try (clear hK K;exact q_u)))|(with_reducible refine q_s ?_;(first|apply q_J|apply q_K|apply q_L|apply q_M|apply q_N|apply q_O)<;>try (intro _;try exact q_v))|with_reducible refine q_t ?_)
    all_goals exact q_B [nP] rfl rfl
set_option maxHeartbeats 800000 in
theorem iMul_bad (s t : Bool) (xs ys : List Int) (hx : xs.length ≤ 140737488355328) (hy : ys.length ≤ 140737488355328) (ho : okZ s xs = false ∨ okZ s xs = true ∧ okZ t ys = false) :
    Ret Try.prog 31 false [.inr [.b s, .ints .u32 xs], .inr [.b t, .ints .u32 ys]] (.t [.inr [.b false, .ints .u32 []], .inr [.i .i64 6, .i .i64 (if okZ s xs then -2 else -1)]]) := by
  rcases ho with h1 | ⟨h1, h2⟩
  · simp only [h1, Bool.false_eq_true, if_false]
    (refine q_H Try.func31 (fun F => ?_); simp only [q_z,q_y,Try.ntmps31,Try.results31])
    repeat' (first|(with_reducible first|apply q_a|apply q_b|apply q_c|apply q_d|apply q_e|apply q_f|apply q_g|apply q_h|apply q_i|apply q_j|apply q_k|apply q_m|apply q_n|apply q_o|apply q_p|refine q_l ?_)|((with_reducible first|refine q_q ib_ok fun K hK=>?_|refine q_r ib_ok fun K hK=>?_);simp (maxSteps:=2000000) only [go_sem,↓reduceIte,reduceCtorEq,Nat.reduceLeDiff,Nat.reduceLT,Nat.reduceBEq,Nat.reduceAdd,h1];(repeat1' with_reducible first|apply And.intro|(intro _;try exact q_v)|(refine hK _ ?_;clear hK K))<;>(try (clear hK K;exact q_u)))|(with_reducible refine q_s ?_;(first|apply q_J|apply q_K|apply q_L|apply q_M|apply q_N|apply q_O)<;>try (intro _;try exact q_v))|with_reducible refine q_t ?_)
    all_goals exact q_B [nP] rfl rfl
  · simp only [h1, if_true]
    (refine q_H Try.func31 (fun F => ?_); simp only [q_z,q_y,Try.ntmps31,Try.results31])
    repeat' (first|(with_reducible first|apply q_a|apply q_b|apply q_c|apply q_d|apply q_e|apply q_f|apply q_g|apply q_h|apply q_i|apply q_j|apply q_k|apply q_m|apply q_n|apply q_o|apply q_p|refine q_l ?_)|((with_reducible first|refine q_q ib_ok fun K hK=>?_|refine q_r ib_ok fun K hK=>?_);simp (maxSteps:=2000000) only [go_sem,↓reduceIte,reduceCtorEq,Nat.reduceLeDiff,Nat.reduceLT,Nat.reduceBEq,Nat.reduceAdd,h1, h2];(repeat1' with_reducible first|apply And.intro|(intro _;try exact q_v)|(refine hK _ ?_;clear hK K))<;>(try (clear hK K;exact q_u)))|(with_reducible refine q_s ?_;(first|apply q_J|apply q_K|apply q_L|apply q_M|apply q_N|apply q_O)<;>try (intro _;try exact q_v))|with_reducible refine q_t ?_)
    all_goals exact q_B [nP] rfl rfl
set_option maxHeartbeats 800000 in
theorem iGcd_bad (s t : Bool) (xs ys : List Int) (hx : xs.length ≤ 140737488355328) (hy : ys.length ≤ 140737488355328) (ho : okZ s xs = false ∨ okZ s xs = true ∧ okZ t ys = false) :
    Ret Try.prog 15 false [.inr [.b s, .ints .u32 xs], .inr [.b t, .ints .u32 ys]] (.t [.inr [.b false, .ints .u32 []], .inr [.i .i64 6, .i .i64 (if okZ s xs then -2 else -1)]]) := by
  rcases ho with h1 | ⟨h1, h2⟩
  · simp only [h1, Bool.false_eq_true, if_false]
    (refine q_H Try.func15 (fun F => ?_); simp only [q_z,q_y,Try.ntmps15,Try.results15])
    repeat' (first|(with_reducible first|apply q_a|apply q_b|apply q_c|apply q_d|apply q_e|apply q_f|apply q_g|apply q_h|apply q_i|apply q_j|apply q_k|apply q_m|apply q_n|apply q_o|apply q_p|refine q_l ?_)|((with_reducible first|refine q_q ib_ok fun K hK=>?_|refine q_r ib_ok fun K hK=>?_);simp (maxSteps:=2000000) only [go_sem,↓reduceIte,reduceCtorEq,Nat.reduceLeDiff,Nat.reduceLT,Nat.reduceBEq,Nat.reduceAdd,h1];(repeat1' with_reducible first|apply And.intro|(intro _;try exact q_v)|(refine hK _ ?_;clear hK K))<;>(try (clear hK K;exact q_u)))|(with_reducible refine q_s ?_;(first|apply q_J|apply q_K|apply q_L|apply q_M|apply q_N|apply q_O)<;>try (intro _;try exact q_v))|with_reducible refine q_t ?_)
    all_goals exact q_B [nP] rfl rfl
  · simp only [h1, if_true]
    (refine q_H Try.func15 (fun F => ?_); simp only [q_z,q_y,Try.ntmps15,Try.results15])
    repeat' (first|(with_reducible first|apply q_a|apply q_b|apply q_c|apply q_d|apply q_e|apply q_f|apply q_g|apply q_h|apply q_i|apply q_j|apply q_k|apply q_m|apply q_n|apply q_o|apply q_p|refine q_l ?_)|((with_reducible first|refine q_q ib_ok fun K hK=>?_|refine q_r ib_ok fun K hK=>?_);simp (maxSteps:=2000000) only [go_sem,↓reduceIte,reduceCtorEq,Nat.reduceLeDiff,Nat.reduceLT,Nat.reduceBEq,Nat.reduceAdd,h1, h2];(repeat1' with_reducible first|apply And.intro|(intro _;try exact q_v)|(refine hK _ ?_;clear hK K))<;>(try (clear hK K;exact q_u)))|(with_reducible refine q_s ?_;(first|apply q_J|apply q_K|apply q_L|apply q_M|apply q_N|apply q_O)<;>try (intro _;try exact q_v))|with_reducible refine q_t ?_)
    all_goals exact q_B [nP] rfl rfl
set_option maxHeartbeats 800000 in
theorem iDivMod_bad (s t : Bool) (xs ys : List Int) (hx : xs.length ≤ 140737488355328) (hy : ys.length ≤ 140737488355328) (ho : okZ s xs = false ∨ okZ s xs = true ∧ okZ t ys = false) :
    Ret Try.prog 19 false [.inr [.b s, .ints .u32 xs], .inr [.b t, .ints .u32 ys]] (.t [.inr [.b false, .ints .u32 []], .inr [.b false, .ints .u32 []], .inr [.i .i64 6, .i .i64 (if okZ s xs then -2 else -1)]]) := by
  rcases ho with h1 | ⟨h1, h2⟩
  · simp only [h1, Bool.false_eq_true, if_false]
    (refine q_H Try.func19 (fun F => ?_); simp only [q_z,q_y,Try.ntmps19,Try.results19])
    repeat' (first|(with_reducible first|apply q_a|apply q_b|apply q_c|apply q_d|apply q_e|apply q_f|apply q_g|apply q_h|apply q_i|apply q_j|apply q_k|apply q_m|apply q_n|apply q_o|apply q_p|refine q_l ?_)|((with_reducible first|refine q_q ib_ok fun K hK=>?_|refine q_r ib_ok fun K hK=>?_);simp (maxSteps:=2000000) only [go_sem,↓reduceIte,reduceCtorEq,Nat.reduceLeDiff,Nat.reduceLT,Nat.reduceBEq,Nat.reduceAdd,h1];(repeat1' with_reducible first|apply And.intro|(intro _;try exact q_v)|(refine hK _ ?_;clear hK K))<;>(try (clear hK K;exact q_u)))|(with_reducible refine q_s ?_;(first|apply q_J|apply q_K|apply q_L|apply q_M|apply q_N|apply q_O)<;>try (intro _;try exact q_v))|with_reducible refine q_t ?_)
    all_goals exact q_B [nP, nP] rfl rfl
  · simp only [h1, if_true]
    (refine q_H Try.func19 (fun F => ?_); simp only [q_z,q_y,Try.ntmps19,Try.results19])
    repeat' (first|(with_reducible first|apply q_a|apply q_b|apply q_c|apply q_d|apply q_e|apply q_f|apply q_g|apply q_h|apply q_i|apply q_j|apply q_k|apply q_m|apply q_n|apply q_o|apply q_p|refine q_l ?_)|((with_reducible first|refine q_q ib_ok fun K hK=>?_|refine q_r ib_ok fun K hK=>?_);simp (maxSteps:=2000000) only [go_sem,↓reduceIte,reduceCtorEq,Nat.reduceLeDiff,Nat.reduceLT,Nat.reduceBEq,Nat.reduceAdd,h1, h2];(repeat1' with_reducible first|apply And.intro|(intro _;try exact q_v)|(refine hK _ ?_;clear hK K))<;>(try (clear hK K;exact q_u)))|(with_reducible refine q_s ?_;(first|apply q_J|apply q_K|apply q_L|apply q_M|apply q_N|apply q_O)<;>try (intro _;try exact q_v))|with_reducible refine q_t ?_)
    all_goals exact q_B [nP, nP] rfl rfl
set_option maxHeartbeats 800000 in
theorem iCmp_bad (s t : Bool) (xs ys : List Int) (hx : xs.length ≤ 140737488355328) (hy : ys.length ≤ 140737488355328) (ho : okZ s xs = false ∨ okZ s xs = true ∧ okZ t ys = false) :
    Ret Try.prog 40 false [.inr [.b s, .ints .u32 xs], .inr [.b t, .ints .u32 ys]] (.t [.inl (.i .i64 0), .inr [.i .i64 6, .i .i64 (if okZ s xs then -2 else -1)]]) := by
  rcases ho with h1 | ⟨h1, h2⟩
  · simp only [h1, Bool.false_eq_true, if_false]
    (refine q_H Try.func40 (fun F => ?_); simp only [q_z,q_y,Try.ntmps40,Try.results40])
    repeat' (first|(with_reducible first|apply q_a|apply q_b|apply q_c|apply q_d|apply q_e|apply q_f|apply q_g|apply q_h|apply q_i|apply q_j|apply q_k|apply q_m|apply q_n|apply q_o|apply q_p|refine q_l ?_)|((with_reducible first|refine q_q ib_ok fun K hK=>?_|refine q_r ib_ok fun K hK=>?_);simp (maxSteps:=2000000) only [go_sem,↓reduceIte,reduceCtorEq,Nat.reduceLeDiff,Nat.reduceLT,Nat.reduceBEq,Nat.reduceAdd,h1];(repeat1' with_reducible first|apply And.intro|(intro _;try exact q_v)|(refine hK _ ?_;clear hK K))<;>(try (clear hK K;exact q_u)))|(with_reducible refine q_s ?_;(first|apply q_J|apply q_K|apply q_L|apply q_M|apply q_N|apply q_O)<;>try (intro _;try exact q_v))|with_reducible refine q_t ?_)
    all_goals exact q_B [.inl none] rfl rfl
  · simp only [h1, if_true]
    (refine q_H Try.func40 (fun F => ?_); simp only [q_z,q_y,Try.ntmps40,Try.results40])
    repeat' (first|(with_reducible first|apply q_a|apply q_b|apply q_c|apply q_d|apply q_e|apply q_f|apply q_g|apply q_h|apply q_i|apply q_j|apply q_k|apply q_m|apply q_n|apply q_o|apply q_p|refine q_l ?_)|((with_reducible first|refine q_q ib_ok fun K hK=>?_|refine q_r ib_ok fun K hK=>?_);simp (maxSteps:=2000000) only [go_sem,↓reduceIte,reduceCtorEq,Nat.reduceLeDiff,Nat.reduceLT,Nat.reduceBEq,Nat.reduceAdd,h1, h2];(repeat1' with_reducible first|apply And.intro|(intro _;try exact q_v)|(refine hK _ ?_;clear hK K))<;>(try (clear hK K;exact q_u)))|(with_reducible refine q_s ?_;(first|apply q_J|apply q_K|apply q_L|apply q_M|apply q_N|apply q_O)<;>try (intro _;try exact q_v))|with_reducible refine q_t ?_)
    all_goals exact q_B [.inl none] rfl rfl

end Go.Proofs.Ythfgapbcdhajiaa
