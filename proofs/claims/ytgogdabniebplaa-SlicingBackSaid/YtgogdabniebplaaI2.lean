import Derived.Test.YtgogdabniebplaaI1
namespace Go.Proofs.Ytgogdabniebplaa
set_option linter.unusedSimpArgs false
set_option linter.unusedVariables false
open Go.Abs Go.Proofs.NatL

theorem okN_128 {n : Nat} (h : (dg 4294967296 n).length ≤ 128) : okN (dg 4294967296 n) = true := okN_dg' (by omega)

set_option maxHeartbeats 800000 in
theorem iNeg_bad (s : Bool) (xs : List Int) (hx : xs.length ≤ 140737488355328) (ho : okZ s xs = false) :
    Ret Try.prog 79 false [.inr [.b s, .ints .u32 xs]] (.t [.inr [.b false, .ints .u32 []], .inr [.i .i64 6, .i .i64 (-1)]]) := by
  (refine q_H Try.func79 (fun F => ?_); simp only [q_z,q_y,Try.ntmps79,Try.results79])
  repeat' (first|(with_reducible first|apply q_a|apply q_b|apply q_c|apply q_d|apply q_e|apply q_f|apply q_g|apply q_h|apply q_i|apply q_j|apply q_k|apply q_m|apply q_n|apply q_o|apply q_p|refine q_l ?_)|((with_reducible first|refine q_q ib_ok fun K hK=>?_|refine q_r ib_ok fun K hK=>?_);simp (maxSteps:=2000000) only [go_sem,↓reduceIte,reduceCtorEq,Nat.reduceLeDiff,Nat.reduceLT,Nat.reduceBEq,Nat.reduceAdd,ho];(repeat1' with_reducible first|apply And.intro|(intro _;try exact q_v)|(refine hK _ ?_;clear hK K))<;>(try (clear hK K;exact q_u)))|(with_reducible refine q_s ?_;(first|apply q_J|apply q_K|apply q_L|apply q_M|apply q_N|apply q_O)<;>try (intro _;try exact q_v))|with_reducible refine q_t ?_)
  all_goals exact q_B [nP] rfl rfl
set_option maxHeartbeats 800000 in
theorem iAbs_bad (s : Bool) (xs : List Int) (hx : xs.length ≤ 140737488355328) (ho : okZ s xs = false) :
    Ret Try.prog 80 false [.inr [.b s, .ints .u32 xs]] (.t [.inr [.b false, .ints .u32 []], .inr [.i .i64 6, .i .i64 (-1)]]) := by
  (refine q_H Try.func80 (fun F => ?_); simp only [q_z,q_y,Try.ntmps80,Try.results80])
  repeat' (first|(with_reducible first|apply q_a|apply q_b|apply q_c|apply q_d|apply q_e|apply q_f|apply q_g|apply q_h|apply q_i|apply q_j|apply q_k|apply q_m|apply q_n|apply q_o|apply q_p|refine q_l ?_)|((with_reducible first|refine q_q ib_ok fun K hK=>?_|refine q_r ib_ok fun K hK=>?_);simp (maxSteps:=2000000) only [go_sem,↓reduceIte,reduceCtorEq,Nat.reduceLeDiff,Nat.reduceLT,Nat.reduceBEq,Nat.reduceAdd,ho];(repeat1' with_reducible first|apply And.intro|(intro _;try exact q_v)|(refine hK _ ?_;clear hK K))<;>(try (clear hK K;exact q_u)))|(with_reducible refine q_s ?_;(first|apply q_J|apply q_K|apply q_L|apply q_M|apply q_N|apply q_O)<;>try (intro _;try exact q_v))|with_reducible refine q_t ?_)
  all_goals exact q_B [nP] rfl rfl
set_option maxHeartbeats 800000 in
theorem iBits_bad (s : Bool) (xs : List Int) (hx : xs.length ≤ 140737488355328) (ho : okZ s xs = false) :
    Ret Try.prog 78 false [.inr [.b s, .ints .u32 xs]] (.t [.inl (.i .i64 0), .inr [.i .i64 6, .i .i64 (-1)]]) := by
  (refine q_H Try.func78 (fun F => ?_); simp only [q_z,q_y,Try.ntmps78,Try.results78])
  repeat' (first|(with_reducible first|apply q_a|apply q_b|apply q_c|apply q_d|apply q_e|apply q_f|apply q_g|apply q_h|apply q_i|apply q_j|apply q_k|apply q_m|apply q_n|apply q_o|apply q_p|refine q_l ?_)|((with_reducible first|refine q_q ib_ok fun K hK=>?_|refine q_r ib_ok fun K hK=>?_);simp (maxSteps:=2000000) only [go_sem,↓reduceIte,reduceCtorEq,Nat.reduceLeDiff,Nat.reduceLT,Nat.reduceBEq,Nat.reduceAdd,ho];(repeat1' with_reducible first|apply And.intro|(intro _;try exact q_v)|(refine hK _ ?_;clear hK K))<;>(try (clear hK K;exact q_u)))|(with_reducible refine q_s ?_;(first|apply q_J|apply q_K|apply q_L|apply q_M|apply q_N|apply q_O)<;>try (intro _;try exact q_v))|with_reducible refine q_t ?_)
  all_goals exact q_B [.inl none] rfl rfl
set_option maxHeartbeats 800000 in
theorem iSmall_bad (s : Bool) (xs : List Int) (hx : xs.length ≤ 140737488355328) (ho : okZ s xs = false) :
    Ret Try.prog 77 false [.inr [.b s, .ints .u32 xs]] (.t [.inl (.i .i64 0), .inr [.i .i64 6, .i .i64 (-1)]]) := by
  (refine q_H Try.func77 (fun F => ?_); simp only [q_z,q_y,Try.ntmps77,Try.results77])
  repeat' (first|(with_reducible first|apply q_a|apply q_b|apply q_c|apply q_d|apply q_e|apply q_f|apply q_g|apply q_h|apply q_i|apply q_j|apply q_k|apply q_m|apply q_n|apply q_o|apply q_p|refine q_l ?_)|((with_reducible first|refine q_q ib_ok fun K hK=>?_|refine q_r ib_ok fun K hK=>?_);simp (maxSteps:=2000000) only [go_sem,↓reduceIte,reduceCtorEq,Nat.reduceLeDiff,Nat.reduceLT,Nat.reduceBEq,Nat.reduceAdd,ho];(repeat1' with_reducible first|apply And.intro|(intro _;try exact q_v)|(refine hK _ ?_;clear hK K))<;>(try (clear hK K;exact q_u)))|(with_reducible refine q_s ?_;(first|apply q_J|apply q_K|apply q_L|apply q_M|apply q_N|apply q_O)<;>try (intro _;try exact q_v))|with_reducible refine q_t ?_)
  all_goals exact q_B [.inl none] rfl rfl

set_option maxHeartbeats 800000 in
theorem iNeg_ok (a : Int) (la : (dg 4294967296 a.natAbs).length ≤ 128) :
    Ret Try.prog 79 false [.inr (gI a)] (.t [.inr (gI (-a)), .inr [.i .i64 0, .i .i64 0]]) := by
  have ho := (okZ_g a).trans (decide_eq_true la)
  have hs : sv 4294967296 (!decide (a < 0)) (dg 4294967296 a.natAbs) = -a := by
    have := sv32 a
    by_cases h : a < 0
    · rw [decide_eq_true h] at this ⊢; simp only [sv, Bool.not_true, Bool.false_eq_true, if_false, if_true] at this ⊢; omega
    · rw [decide_eq_false h] at this ⊢; simp only [sv, Bool.not_false, Bool.false_eq_true, if_false, if_true] at this ⊢; omega
  obtain ⟨e1, e2, e3⟩ := cl_fit (k := 128) (z := -a) (by rw [len_neg]; exact la)
  (refine q_H Try.func79 (fun F => ?_); simp only [q_z,q_y,Try.ntmps79,Try.results79])
  repeat' (first|(with_reducible first|apply q_a|apply q_b|apply q_c|apply q_d|apply q_e|apply q_f|apply q_g|apply q_h|apply q_i|apply q_j|apply q_k|apply q_m|apply q_n|apply q_o|apply q_p|refine q_l ?_)|((with_reducible first|refine q_q ib_ok fun K hK=>?_|refine q_r ib_ok fun K hK=>?_);simp (maxSteps:=2000000) only [go_sem,↓reduceIte,reduceCtorEq,Nat.reduceLeDiff,Nat.reduceLT,Nat.reduceBEq,Nat.reduceAdd,ho, hs, e1, e2, e3];(repeat1' with_reducible first|apply And.intro|(intro _;try exact q_v)|(refine hK _ ?_;clear hK K))<;>(try (clear hK K;exact q_u)))|(with_reducible refine q_s ?_;(first|apply q_J|apply q_K|apply q_L|apply q_M|apply q_N|apply q_O)<;>try (intro _;try exact q_v))|with_reducible refine q_t ?_)
  exact q_A rfl

set_option maxHeartbeats 800000 in
theorem iAbs_ok (a : Int) (la : (dg 4294967296 a.natAbs).length ≤ 128) :
    Ret Try.prog 80 false [.inr (gI a)] (.t [.inr (gI (a.natAbs : Int)), .inr [.i .i64 0, .i .i64 0]]) := by
  have ho := (okZ_g a).trans (decide_eq_true la)
  obtain ⟨e1, e2, e3⟩ := cl_fit (k := 128) (z := (a.natAbs : Int)) (by simpa using la)
  (refine q_H Try.func80 (fun F => ?_); simp only [q_z,q_y,Try.ntmps80,Try.results80])
  repeat' (first|(with_reducible first|apply q_a|apply q_b|apply q_c|apply q_d|apply q_e|apply q_f|apply q_g|apply q_h|apply q_i|apply q_j|apply q_k|apply q_m|apply q_n|apply q_o|apply q_p|refine q_l ?_)|((with_reducible first|refine q_q ib_ok fun K hK=>?_|refine q_r ib_ok fun K hK=>?_);simp (maxSteps:=2000000) only [go_sem,↓reduceIte,reduceCtorEq,Nat.reduceLeDiff,Nat.reduceLT,Nat.reduceBEq,Nat.reduceAdd,ho, sv32d, sgf, e1, e2, e3];(repeat1' with_reducible first|apply And.intro|(intro _;try exact q_v)|(refine hK _ ?_;clear hK K))<;>(try (clear hK K;exact q_u)))|(with_reducible refine q_s ?_;(first|apply q_J|apply q_K|apply q_L|apply q_M|apply q_N|apply q_O)<;>try (intro _;try exact q_v))|with_reducible refine q_t ?_)
  exact q_A rfl

set_option maxHeartbeats 800000 in
theorem iBits_ok (a : Int) (la : (dg 4294967296 a.natAbs).length ≤ 128) :
    Ret Try.prog 78 false [.inr (gI a)] (.t [.inl (.i .i64 (bl a.natAbs : Nat)), .inr [.i .i64 0, .i .i64 0]]) := by
  have ho := (okZ_g a).trans (decide_eq_true la)
  have hk := okN_128 la
  (refine q_H Try.func78 (fun F => ?_); simp only [q_z,q_y,Try.ntmps78,Try.results78])
  repeat' (first|(with_reducible first|apply q_a|apply q_b|apply q_c|apply q_d|apply q_e|apply q_f|apply q_g|apply q_h|apply q_i|apply q_j|apply q_k|apply q_m|apply q_n|apply q_o|apply q_p|refine q_l ?_)|((with_reducible first|refine q_q ib_ok fun K hK=>?_|refine q_r ib_ok fun K hK=>?_);simp (maxSteps:=2000000) only [go_sem,↓reduceIte,reduceCtorEq,Nat.reduceLeDiff,Nat.reduceLT,Nat.reduceBEq,Nat.reduceAdd,ho, hk];(repeat1' with_reducible first|apply And.intro|(intro _;try exact q_v)|(refine hK _ ?_;clear hK K))<;>(try (clear hK K;exact q_u)))|(with_reducible refine q_s ?_;(first|apply q_J|apply q_K|apply q_L|apply q_M|apply q_N|apply q_O)<;>try (intro _;try exact q_v))|with_reducible refine q_t ?_)
  exact q_A rfl

set_option maxHeartbeats 800000 in
theorem iAdd_bad (s t : Bool) (xs ys : List Int) (hx : xs.length ≤ 140737488355328) (hy : ys.length ≤ 140737488355328) (ho : okZ s xs = false ∨ okZ s xs = true ∧ okZ t ys = false) :
    Ret Try.prog 158 false [.inr [.b s, .ints .u32 xs], .inr [.b t, .ints .u32 ys]] (.t [.inr [.b false, .ints .u32 []], .inr [.i .i64 6, .i .i64 (if okZ s xs then -2 else -1)]]) := by
  rcases ho with h1 | ⟨h1, h2⟩
  · simp only [h1, Bool.false_eq_true, if_false]
    (refine q_H Try.func158 (fun F => ?_); simp only [q_z,q_y,Try.ntmps158,Try.results158])
    repeat' (first|(with_reducible first|apply q_a|apply q_b|apply q_c|apply q_d|apply q_e|apply q_f|apply q_g|apply q_h|apply q_i|apply q_j|apply q_k|apply q_m|apply q_n|apply q_o|apply q_p|refine q_l ?_)|((with_reducible first|refine q_q ib_ok fun K hK=>?_|refine q_r ib_ok fun K hK=>?_);simp (maxSteps:=2000000) only [go_sem,↓reduceIte,reduceCtorEq,Nat.reduceLeDiff,Nat.reduceLT,Nat.reduceBEq,Nat.reduceAdd,h1];(repeat1' with_reducible first|apply And.intro|(intro _;try exact q_v)|(refine hK _ ?_;clear hK K))<;>(try (clear hK K;exact q_u)))|(with_reducible refine q_s ?_;(first|apply q_J|apply q_K|apply q_L|apply q_M|apply q_N|apply q_O)<;>try (intro _;try exact q_v))|with_reducible refine q_t ?_)
    all_goals exact q_B [nP] rfl rfl
  · simp only [h1, if_true]
    (refine q_H Try.func158 (fun F => ?_); simp only [q_z,q_y,Try.ntmps158,Try.results158])
    repeat' (first|(with_reducible first|apply q_a|apply q_b|apply q_c|apply q_d|apply q_e|apply q_f|apply q_g|apply q_h|apply q_i|apply q_j|apply q_k|apply q_m|apply q_n|apply q_o|apply q_p|refine q_l ?_)|((with_reducible first|refine q_q ib_ok fun K hK=>?_|refine q_r ib_ok fun K hK=>?_);simp (maxSteps:=2000000) only [go_sem,↓reduceIte,reduceCtorEq,Nat.reduceLeDiff,Nat.reduceLT,Nat.reduceBEq,Nat.reduceAdd,h1, h2];(repeat1' with_reducible first|apply And.intro|(intro _;try exact q_v)|(refine hK _ ?_;clear hK K))<;>(try (clear hK K;exact q_u)))|(with_reducible refine q_s ?_;(first|apply q_J|apply q_K|apply q_L|apply q_M|apply q_N|apply q_O)<;>try (intro _;try exact q_v))|with_reducible refine q_t ?_)
    all_goals exact q_B [nP] rfl rfl
set_option maxHeartbeats 800000 in
theorem iSub_bad (s t : Bool) (xs ys : List Int) (hx : xs.length ≤ 140737488355328) (hy : ys.length ≤ 140737488355328) (ho : okZ s xs = false ∨ okZ s xs = true ∧ okZ t ys = false) :
    Ret Try.prog 159 false [.inr [.b s, .ints .u32 xs], .inr [.b t, .ints .u32 ys]] (.t [.inr [.b false, .ints .u32 []], .inr [.i .i64 6, .i .i64 (if okZ s xs then -2 else -1)]]) := by
  rcases ho with h1 | ⟨h1, h2⟩
  · simp only [h1, Bool.false_eq_true, if_false]
    (refine q_H Try.func159 (fun F => ?_); simp only [q_z,q_y,Try.ntmps159,Try.results159])
    repeat' (first|(with_reducible first|apply q_a|apply q_b|apply q_c|apply q_d|apply q_e|apply q_f|apply q_g|apply q_h|apply q_i|apply q_j|apply q_k|apply q_m|apply q_n|apply q_o|apply q_p|refine q_l ?_)|((with_reducible first|refine q_q ib_ok fun K hK=>?_|refine q_r ib_ok fun K hK=>?_);simp (maxSteps:=2000000) only [go_sem,↓reduceIte,reduceCtorEq,Nat.reduceLeDiff,Nat.reduceLT,Nat.reduceBEq,Nat.reduceAdd,h1];(repeat1' with_reducible first|apply And.intro|(intro _;try exact q_v)|(refine hK _ ?_;clear hK K))<;>(try (clear hK K;exact q_u)))|(with_reducible refine q_s ?_;(first|apply q_J|apply q_K|apply q_L|apply q_M|apply q_N|apply q_O)<;>try (intro _;try exact q_v))|with_reducible refine q_t ?_)
    all_goals exact q_B [nP] rfl rfl
  · simp only [h1, if_true]
    (refine q_H Try.func159 (fun F => ?_); simp only [q_z,q_y,Try.ntmps159,Try.results159])
    repeat' (first|(with_reducible first|apply q_a|apply q_b|apply q_c|apply q_d|apply q_e|apply q_f|apply q_g|apply q_h|apply q_i|apply q_j|apply q_k|apply q_m|apply q_n|apply q_o|apply q_p|refine q_l ?_)|((with_reducible first|refine q_q ib_ok fun K hK=>?_|refine q_r ib_ok fun K hK=>?_);simp (maxSteps:=2000000) only [go_sem,↓reduceIte,reduceCtorEq,Nat.reduceLeDiff,Nat.reduceLT,Nat.reduceBEq,Nat.reduceAdd,h1, h2];(repeat1' with_reducible first|apply And.intro|(intro _;try exact q_v)|(refine hK _ ?_;clear hK K))<;>(try (clear hK K;exact q_u)))|(with_reducible refine q_s ?_;(first|apply q_J|apply q_K|apply q_L|apply q_M|apply q_N|apply q_O)<;>try (intro _;try exact q_v))|with_reducible refine q_t ?_)
    all_goals exact q_B [nP] rfl rfl
set_option maxHeartbeats 800000 in
theorem iMul_bad (s t : Bool) (xs ys : List Int) (hx : xs.length ≤ 140737488355328) (hy : ys.length ≤ 140737488355328) (ho : okZ s xs = false ∨ okZ s xs = true ∧ okZ t ys = false) :
    Ret Try.prog 93 false [.inr [.b s, .ints .u32 xs], .inr [.b t, .ints .u32 ys]] (.t [.inr [.b false, .ints .u32 []], .inr [.i .i64 6, .i .i64 (if okZ s xs then -2 else -1)]]) := by
  rcases ho with h1 | ⟨h1, h2⟩
  · simp only [h1, Bool.false_eq_true, if_false]
    (refine q_H Try.func93 (fun F => ?_); simp only [q_z,q_y,Try.ntmps93,Try.results93])
    repeat' (first|(with_reducible first|apply q_a|apply q_b|apply q_c|apply q_d|apply q_e|apply q_f|apply q_g|apply q_h|apply q_i|apply q_j|apply q_k|apply q_m|apply q_n|apply q_o|apply q_p|refine q_l ?_)|((with_reducible first|refine q_q ib_ok fun K hK=>?_|refine q_r ib_ok fun K hK=>?_);simp (maxSteps:=2000000) only [go_sem,↓reduceIte,reduceCtorEq,Nat.reduceLeDiff,Nat.reduceLT,Nat.reduceBEq,Nat.reduceAdd,h1];(repeat1' with_reducible first|apply And.intro|(intro _;try exact q_v)|(refine hK _ ?_;clear hK K))<;>(try (clear hK K;exact q_u)))|(with_reducible refine q_s ?_;(first|apply q_J|apply q_K|apply q_L|apply q_M|apply q_N|apply q_O)<;>try (intro _;try exact q_v))|with_reducible refine q_t ?_)
    all_goals exact q_B [nP] rfl rfl
  · simp only [h1, if_true]
    (refine q_H Try.func93 (fun F => ?_); simp only [q_z,q_y,Try.ntmps93,Try.results93])
    repeat' (first|(with_reducible first|apply q_a|apply q_b|apply q_c|apply q_d|apply q_e|apply q_f|apply q_g|apply q_h|apply q_i|apply q_j|apply q_k|apply q_m|apply q_n|apply q_o|apply q_p|refine q_l ?_)|((with_reducible first|refine q_q ib_ok fun K hK=>?_|refine q_r ib_ok fun K hK=>?_);simp (maxSteps:=2000000) only [go_sem,↓reduceIte,reduceCtorEq,Nat.reduceLeDiff,Nat.reduceLT,Nat.reduceBEq,Nat.reduceAdd,h1, h2];(repeat1' with_reducible first|apply And.intro|(intro _;try exact q_v)|(refine hK _ ?_;clear hK K))<;>(try (clear hK K;exact q_u)))|(with_reducible refine q_s ?_;(first|apply q_J|apply q_K|apply q_L|apply q_M|apply q_N|apply q_O)<;>try (intro _;try exact q_v))|with_reducible refine q_t ?_)
    all_goals exact q_B [nP] rfl rfl
set_option maxHeartbeats 800000 in
theorem iGcd_bad (s t : Bool) (xs ys : List Int) (hx : xs.length ≤ 140737488355328) (hy : ys.length ≤ 140737488355328) (ho : okZ s xs = false ∨ okZ s xs = true ∧ okZ t ys = false) :
    Ret Try.prog 63 false [.inr [.b s, .ints .u32 xs], .inr [.b t, .ints .u32 ys]] (.t [.inr [.b false, .ints .u32 []], .inr [.i .i64 6, .i .i64 (if okZ s xs then -2 else -1)]]) := by
  rcases ho with h1 | ⟨h1, h2⟩
  · simp only [h1, Bool.false_eq_true, if_false]
    (refine q_H Try.func63 (fun F => ?_); simp only [q_z,q_y,Try.ntmps63,Try.results63])
    repeat' (first|(with_reducible first|apply q_a|apply q_b|apply q_c|apply q_d|apply q_e|apply q_f|apply q_g|apply q_h|apply q_i|apply q_j|apply q_k|apply q_m|apply q_n|apply q_o|apply q_p|refine q_l ?_)|((with_reducible first|refine q_q ib_ok fun K hK=>?_|refine q_r ib_ok fun K hK=>?_);simp (maxSteps:=2000000) only [go_sem,↓reduceIte,reduceCtorEq,Nat.reduceLeDiff,Nat.reduceLT,Nat.reduceBEq,Nat.reduceAdd,h1];(repeat1' with_reducible first|apply And.intro|(intro _;try exact q_v)|(refine hK _ ?_;clear hK K))<;>(try (clear hK K;exact q_u)))|(with_reducible refine q_s ?_;(first|apply q_J|apply q_K|apply q_L|apply q_M|apply q_N|apply q_O)<;>try (intro _;try exact q_v))|with_reducible refine q_t ?_)
    all_goals exact q_B [nP] rfl rfl
  · simp only [h1, if_true]
    (refine q_H Try.func63 (fun F => ?_); simp only [q_z,q_y,Try.ntmps63,Try.results63])
    repeat' (first|(with_reducible first|apply q_a|apply q_b|apply q_c|apply q_d|apply q_e|apply q_f|apply q_g|apply q_h|apply q_i|apply q_j|apply q_k|apply q_m|apply q_n|apply q_o|apply q_p|refine q_l ?_)|((with_reducible first|refine q_q ib_ok fun K hK=>?_|refine q_r ib_ok fun K hK=>?_);simp (maxSteps:=2000000) only [go_sem,↓reduceIte,reduceCtorEq,Nat.reduceLeDiff,Nat.reduceLT,Nat.reduceBEq,Nat.reduceAdd,h1, h2];(repeat1' with_reducible first|apply And.intro|(intro _;try exact q_v)|(refine hK _ ?_;clear hK K))<;>(try (clear hK K;exact q_u)))|(with_reducible refine q_s ?_;(first|apply q_J|apply q_K|apply q_L|apply q_M|apply q_N|apply q_O)<;>try (intro _;try exact q_v))|with_reducible refine q_t ?_)
    all_goals exact q_B [nP] rfl rfl
set_option maxHeartbeats 800000 in
theorem iDivMod_bad (s t : Bool) (xs ys : List Int) (hx : xs.length ≤ 140737488355328) (hy : ys.length ≤ 140737488355328) (ho : okZ s xs = false ∨ okZ s xs = true ∧ okZ t ys = false) :
    Ret Try.prog 62 false [.inr [.b s, .ints .u32 xs], .inr [.b t, .ints .u32 ys]] (.t [.inr [.b false, .ints .u32 []], .inr [.b false, .ints .u32 []], .inr [.i .i64 6, .i .i64 (if okZ s xs then -2 else -1)]]) := by
  rcases ho with h1 | ⟨h1, h2⟩
  · simp only [h1, Bool.false_eq_true, if_false]
    (refine q_H Try.func62 (fun F => ?_); simp only [q_z,q_y,Try.ntmps62,Try.results62])
    repeat' (first|(with_reducible first|apply q_a|apply q_b|apply q_c|apply q_d|apply q_e|apply q_f|apply q_g|apply q_h|apply q_i|apply q_j|apply q_k|apply q_m|apply q_n|apply q_o|apply q_p|refine q_l ?_)|((with_reducible first|refine q_q ib_ok fun K hK=>?_|refine q_r ib_ok fun K hK=>?_);simp (maxSteps:=2000000) only [go_sem,↓reduceIte,reduceCtorEq,Nat.reduceLeDiff,Nat.reduceLT,Nat.reduceBEq,Nat.reduceAdd,h1];(repeat1' with_reducible first|apply And.intro|(intro _;try exact q_v)|(refine hK _ ?_;clear hK K))<;>(try (clear hK K;exact q_u)))|(with_reducible refine q_s ?_;(first|apply q_J|apply q_K|apply q_L|apply q_M|apply q_N|apply q_O)<;>try (intro _;try exact q_v))|with_reducible refine q_t ?_)
    all_goals exact q_B [nP, nP] rfl rfl
  · simp only [h1, if_true]
    (refine q_H Try.func62 (fun F => ?_); simp only [q_z,q_y,Try.ntmps62,Try.results62])
    repeat' (first|(with_reducible first|apply q_a|apply q_b|apply q_c|apply q_d|apply q_e|apply q_f|apply q_g|apply q_h|apply q_i|apply q_j|apply q_k|apply q_m|apply q_n|apply q_o|apply q_p|refine q_l ?_)|((with_reducible first|refine q_q ib_ok fun K hK=>?_|refine q_r ib_ok fun K hK=>?_);simp (maxSteps:=2000000) only [go_sem,↓reduceIte,reduceCtorEq,Nat.reduceLeDiff,Nat.reduceLT,Nat.reduceBEq,Nat.reduceAdd,h1, h2];(repeat1' with_reducible first|apply And.intro|(intro _;try exact q_v)|(refine hK _ ?_;clear hK K))<;>(try (clear hK K;exact q_u)))|(with_reducible refine q_s ?_;(first|apply q_J|apply q_K|apply q_L|apply q_M|apply q_N|apply q_O)<;>try (intro _;try exact q_v))|with_reducible refine q_t ?_)
    all_goals exact q_B [nP, nP] rfl rfl
set_option maxHeartbeats 800000 in
theorem iCmp_bad (s t : Bool) (xs ys : List Int) (hx : xs.length ≤ 140737488355328) (hy : ys.length ≤ 140737488355328) (ho : okZ s xs = false ∨ okZ s xs = true ∧ okZ t ys = false) :
    Ret Try.prog 75 false [.inr [.b s, .ints .u32 xs], .inr [.b t, .ints .u32 ys]] (.t [.inl (.i .i64 0), .inr [.i .i64 6, .i .i64 (if okZ s xs then -2 else -1)]]) := by
  rcases ho with h1 | ⟨h1, h2⟩
  · simp only [h1, Bool.false_eq_true, if_false]
    (refine q_H Try.func75 (fun F => ?_); simp only [q_z,q_y,Try.ntmps75,Try.results75])
    repeat' (first|(with_reducible first|apply q_a|apply q_b|apply q_c|apply q_d|apply q_e|apply q_f|apply q_g|apply q_h|apply q_i|apply q_j|apply q_k|apply q_m|apply q_n|apply q_o|apply q_p|refine q_l ?_)|((with_reducible first|refine q_q ib_ok fun K hK=>?_|refine q_r ib_ok fun K hK=>?_);simp (maxSteps:=2000000) only [go_sem,↓reduceIte,reduceCtorEq,Nat.reduceLeDiff,Nat.reduceLT,Nat.reduceBEq,Nat.reduceAdd,h1];(repeat1' with_reducible first|apply And.intro|(intro _;try exact q_v)|(refine hK _ ?_;clear hK K))<;>(try (clear hK K;exact q_u)))|(with_reducible refine q_s ?_;(first|apply q_J|apply q_K|apply q_L|apply q_M|apply q_N|apply q_O)<;>try (intro _;try exact q_v))|with_reducible refine q_t ?_)
    all_goals exact q_B [.inl none] rfl rfl
  · simp only [h1, if_true]
    (refine q_H Try.func75 (fun F => ?_); simp only [q_z,q_y,Try.ntmps75,Try.results75])
    repeat' (first|(with_reducible first|apply q_a|apply q_b|apply q_c|apply q_d|apply q_e|apply q_f|apply q_g|apply q_h|apply q_i|apply q_j|apply q_k|apply q_m|apply q_n|apply q_o|apply q_p|refine q_l ?_)|((with_reducible first|refine q_q ib_ok fun K hK=>?_|refine q_r ib_ok fun K hK=>?_);simp (maxSteps:=2000000) only [go_sem,↓reduceIte,reduceCtorEq,Nat.reduceLeDiff,Nat.reduceLT,Nat.reduceBEq,Nat.reduceAdd,h1, h2];(repeat1' with_reducible first|apply And.intro|(intro _;try exact q_v)|(refine hK _ ?_;clear hK K))<;>(try (clear hK K;exact q_u)))|(with_reducible refine q_s ?_;(first|apply q_J|apply q_K|apply q_L|apply q_M|apply q_N|apply q_O)<;>try (intro _;try exact q_v))|with_reducible refine q_t ?_)
    all_goals exact q_B [.inl none] rfl rfl

end Go.Proofs.Ytgogdabniebplaa
