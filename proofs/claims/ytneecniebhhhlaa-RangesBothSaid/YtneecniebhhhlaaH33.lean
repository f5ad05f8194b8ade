import Derived.Test.YtneecniebhhhlaaH24
import Derived.Test.YtneecniebhhhlaaH32
namespace Go.Proofs.Ytneecniebhhhlaa
set_option linter.unusedSimpArgs false
set_option linter.unusedVariables false
open Go.Abs Go.Proofs.NatL

def rq1 : Cfg := listT [(24, ivalidCT), (38, noIntCT)] [28]
theorem rq1_ok : TblOk Try.prog rq1 := listT_ok (big := jt12) jt12_ok ⟨rfl, rfl, trivial⟩
attribute [go_sem] rq1
set_option maxRecDepth 100000 in
set_option maxHeartbeats 6400000 in
theorem rangeOk_ret (s0 s1 s2 : Bool) (x0 x1 x2 : List Int) (l0 : x0.length ≤ 140737488355328) (l1 : x1.length ≤ 140737488355328) (l2 : x2.length ≤ 140737488355328) (b0 : InB 4294967296 x0) (b1 : InB 4294967296 x1) (b2 : InB 4294967296 x2) :
    Ret Try.prog 77 false [.inr [.b s0, .ints .u32 x0, .b s1, .ints .u32 x1, .b s2, .ints .u32 x2]] (.c (.b (vR s0 s1 s2 x0 x1 x2))) := by
  (refine q_H Try.func77 (fun F => ?_); simp only [q_z,q_y,Try.ntmps77,Try.results77])
  repeat' (first|(with_reducible first|apply q_a|apply q_b|apply q_c|apply q_d|apply q_e|apply q_f|apply q_g|apply q_h|apply q_i|apply q_j|apply q_k|apply q_m|apply q_n|apply q_o|apply q_p|refine q_l ?_)|((with_reducible first|refine q_q rq1_ok fun K hK=>?_|refine q_r rq1_ok fun K hK=>?_);simp (maxSteps:=2000000) only [go_sem,↓reduceIte,reduceCtorEq,Nat.reduceLeDiff,Nat.reduceLT,Nat.reduceBEq,Nat.reduceAdd];(repeat1' with_reducible first|apply And.intro|(intro _;try exact q_v)|(refine hK _ ?_;clear hK K))<;>(try (clear hK K;exact q_u)))|(with_reducible refine q_s ?_;(first|apply q_J|apply q_K|apply q_L|apply q_M|apply q_N|apply q_O)<;>try (intro _;try exact q_v))|with_reducible refine q_t ?_)
  refine q_G (ι := { i : Nat // i ≤ 3 ∧ (0 < i → fit4 s0 x0 = true) ∧ (1 < i → fit4 s1 x1 = true) ∧ (2 < i → fit4 s2 x2 = true) }) (fun i => ⟨35, [(1, .bx 0 0), (3, .c (.sl 2 [[.b s0, .ints .u32 x0], [.b s1, .ints .u32 x1], [.b s2, .ints .u32 x2]])), (4, .c (.i .i64 (i.1 : Nat)))], ⟨[(0, [.c (.b s0), .c (.ints .u32 x0), .c (.b s1), .c (.ints .u32 x1), .c (.b s2), .c (.ints .u32 x2)])], [], []⟩, 1⟩) (fun i => 3 - i.1) ⟨0, by omega, fun h => by omega, fun h => by omega, fun h => by omega⟩ ?_ ?_
  · exact q_D
  rintro ⟨i, h1, h2, h3, h4⟩
  simp only at h1 h2 h3 h4 ⊢
  have c1 : ((1 : Nat) : Int).toNat = 1 := rfl
  have c2 : ((2 : Nat) : Int).toNat = 2 := rfl
  have c0 : ((0 : Nat) : Int).toNat = 0 := rfl
  rcases (show i = 0 ∨ i = 1 ∨ i = 2 ∨ i = 3 by omega) with rfl | rfl | rfl | rfl
  · rcases Bool.eq_false_or_eq_true (fit4 s0 x0) with hp | hp
    rotate_left
    · have eF : vR s0 s1 s2 x0 x1 x2 = false := by unfold vR; rw [hp]; simp
      rw [eF]
      rcases Bool.eq_false_or_eq_true (okZ s0 x0) with ho | ho
      · have hl : ¬ (x0.length : Int) ≤ 40 := fun h => by unfold fit4 at hp; rw [ho, decide_eq_true h] at hp; exact absurd hp (by decide)
        repeat' (first|(with_reducible first|apply q_a|apply q_b|apply q_c|apply q_d|apply q_e|apply q_f|apply q_g|apply q_h|apply q_i|apply q_j|apply q_k|apply q_m|apply q_n|apply q_o|apply q_p|refine q_l ?_)|((with_reducible first|refine q_q rq1_ok fun K hK=>?_|refine q_r rq1_ok fun K hK=>?_);simp (maxSteps:=2000000) only [go_sem,↓reduceIte,reduceCtorEq,Nat.reduceLeDiff,Nat.reduceLT,Nat.reduceBEq,Nat.reduceAdd,c0, c1, c2, List.getD_cons_zero, List.getD_cons_succ, ho];(repeat1' with_reducible first|apply And.intro|(intro _;try exact q_v)|(refine hK _ ?_;clear hK K))<;>(try (clear hK K;exact q_u)))|(with_reducible refine q_s ?_;(first|apply q_J|apply q_K|apply q_L|apply q_M|apply q_N|apply q_O)<;>try (intro _;try exact q_v))|with_reducible refine q_t ?_)
        all_goals first | omega | exact q_A rfl
      · repeat' (first|(with_reducible first|apply q_a|apply q_b|apply q_c|apply q_d|apply q_e|apply q_f|apply q_g|apply q_h|apply q_i|apply q_j|apply q_k|apply q_m|apply q_n|apply q_o|apply q_p|refine q_l ?_)|((with_reducible first|refine q_q rq1_ok fun K hK=>?_|refine q_r rq1_ok fun K hK=>?_);simp (maxSteps:=2000000) only [go_sem,↓reduceIte,reduceCtorEq,Nat.reduceLeDiff,Nat.reduceLT,Nat.reduceBEq,Nat.reduceAdd,c0, c1, c2, List.getD_cons_zero, List.getD_cons_succ, ho];(repeat1' with_reducible first|apply And.intro|(intro _;try exact q_v)|(refine hK _ ?_;clear hK K))<;>(try (clear hK K;exact q_u)))|(with_reducible refine q_s ?_;(first|apply q_J|apply q_K|apply q_L|apply q_M|apply q_N|apply q_O)<;>try (intro _;try exact q_v))|with_reducible refine q_t ?_)
        all_goals first | omega | exact q_A rfl
    · obtain ⟨_, _, ho, hl⟩ := fit4_ok hp b0
      repeat' (first|(with_reducible first|apply q_a|apply q_b|apply q_c|apply q_d|apply q_e|apply q_f|apply q_g|apply q_h|apply q_i|apply q_j|apply q_k|apply q_m|apply q_n|apply q_o|apply q_p|refine q_l ?_)|((with_reducible first|refine q_q rq1_ok fun K hK=>?_|refine q_r rq1_ok fun K hK=>?_);simp (maxSteps:=2000000) only [go_sem,↓reduceIte,reduceCtorEq,Nat.reduceLeDiff,Nat.reduceLT,Nat.reduceBEq,Nat.reduceAdd,c0, c1, c2, List.getD_cons_zero, List.getD_cons_succ, ho];(repeat1' with_reducible first|apply And.intro|(intro _;try exact q_v)|(refine hK _ ?_;clear hK K))<;>(try (clear hK K;exact q_u)))|(with_reducible refine q_s ?_;(first|apply q_J|apply q_K|apply q_L|apply q_M|apply q_N|apply q_O)<;>try (intro _;try exact q_v))|with_reducible refine q_t ?_)
      all_goals try omega
      refine q_F ⟨0 + 1, by omega, ?_, ?_, ?_⟩ ?_ (by simp only; omega)
      · intro h; first | exact hp | exact h2 (by omega)
      · intro h; first | exact hp | exact h3 (by omega) | omega
      · intro h; first | exact hp | exact h4 (by omega) | omega
      · exact q_D
  · rcases Bool.eq_false_or_eq_true (fit4 s1 x1) with hp | hp
    rotate_left
    · have eF : vR s0 s1 s2 x0 x1 x2 = false := by unfold vR; rw [hp]; simp
      rw [eF]
      rcases Bool.eq_false_or_eq_true (okZ s1 x1) with ho | ho
      · have hl : ¬ (x1.length : Int) ≤ 40 := fun h => by unfold fit4 at hp; rw [ho, decide_eq_true h] at hp; exact absurd hp (by decide)
        repeat' (first|(with_reducible first|apply q_a|apply q_b|apply q_c|apply q_d|apply q_e|apply q_f|apply q_g|apply q_h|apply q_i|apply q_j|apply q_k|apply q_m|apply q_n|apply q_o|apply q_p|refine q_l ?_)|((with_reducible first|refine q_q rq1_ok fun K hK=>?_|refine q_r rq1_ok fun K hK=>?_);simp (maxSteps:=2000000) only [go_sem,↓reduceIte,reduceCtorEq,Nat.reduceLeDiff,Nat.reduceLT,Nat.reduceBEq,Nat.reduceAdd,c0, c1, c2, List.getD_cons_zero, List.getD_cons_succ, ho];(repeat1' with_reducible first|apply And.intro|(intro _;try exact q_v)|(refine hK _ ?_;clear hK K))<;>(try (clear hK K;exact q_u)))|(with_reducible refine q_s ?_;(first|apply q_J|apply q_K|apply q_L|apply q_M|apply q_N|apply q_O)<;>try (intro _;try exact q_v))|with_reducible refine q_t ?_)
        all_goals first | omega | exact q_A rfl
      · repeat' (first|(with_reducible first|apply q_a|apply q_b|apply q_c|apply q_d|apply q_e|apply q_f|apply q_g|apply q_h|apply q_i|apply q_j|apply q_k|apply q_m|apply q_n|apply q_o|apply q_p|refine q_l ?_)|((with_reducible first|refine q_q rq1_ok fun K hK=>?_|refine q_r rq1_ok fun K hK=>?_);simp (maxSteps:=2000000) only [go_sem,↓reduceIte,reduceCtorEq,Nat.reduceLeDiff,Nat.reduceLT,Nat.reduceBEq,Nat.reduceAdd,c0, c1, c2, List.getD_cons_zero, List.getD_cons_succ, ho];(repeat1' with_reducible first|apply And.intro|(intro _;try exact q_v)|(refine hK _ ?_;clear hK K))<;>(try (clear hK K;exact q_u)))|(with_reducible refine q_s ?_;(first|apply q_J|apply q_K|apply q_L|apply q_M|apply q_N|apply q_O)<;>try (intro _;try exact q_v))|with_reducible refine q_t ?_)
        all_goals first | omega | exact q_A rfl
    · obtain ⟨_, _, ho, hl⟩ := fit4_ok hp b1
      repeat' (first|(with_reducible first|apply q_a|apply q_b|apply q_c|apply q_d|apply q_e|apply q_f|apply q_g|apply q_h|apply q_i|apply q_j|apply q_k|apply q_m|apply q_n|apply q_o|apply q_p|refine q_l ?_)|((with_reducible first|refine q_q rq1_ok fun K hK=>?_|refine q_r rq1_ok fun K hK=>?_);simp (maxSteps:=2000000) only [go_sem,↓reduceIte,reduceCtorEq,Nat.reduceLeDiff,Nat.reduceLT,Nat.reduceBEq,Nat.reduceAdd,c0, c1, c2, List.getD_cons_zero, List.getD_cons_succ, ho];(repeat1' with_reducible first|apply And.intro|(intro _;try exact q_v)|(refine hK _ ?_;clear hK K))<;>(try (clear hK K;exact q_u)))|(with_reducible refine q_s ?_;(first|apply q_J|apply q_K|apply q_L|apply q_M|apply q_N|apply q_O)<;>try (intro _;try exact q_v))|with_reducible refine q_t ?_)
      all_goals try omega
      refine q_F ⟨1 + 1, by omega, ?_, ?_, ?_⟩ ?_ (by simp only; omega)
      · intro h; first | exact hp | exact h2 (by omega)
      · intro h; first | exact hp | exact h3 (by omega) | omega
      · intro h; first | exact hp | exact h4 (by omega) | omega
      · exact q_D
  · rcases Bool.eq_false_or_eq_true (fit4 s2 x2) with hp | hp
    rotate_left
    · have eF : vR s0 s1 s2 x0 x1 x2 = false := by unfold vR; rw [hp]; simp
      rw [eF]
      rcases Bool.eq_false_or_eq_true (okZ s2 x2) with ho | ho
      · have hl : ¬ (x2.length : Int) ≤ 40 := fun h => by unfold fit4 at hp; rw [ho, decide_eq_true h] at hp; exact absurd hp (by decide)
        repeat' (first|(with_reducible first|apply q_a|apply q_b|apply q_c|apply q_d|apply q_e|apply q_f|apply q_g|apply q_h|apply q_i|apply q_j|apply q_k|apply q_m|apply q_n|apply q_o|apply q_p|refine q_l ?_)|((with_reducible first|refine q_q rq1_ok fun K hK=>?_|refine q_r rq1_ok fun K hK=>?_);simp (maxSteps:=2000000) only [go_sem,↓reduceIte,reduceCtorEq,Nat.reduceLeDiff,Nat.reduceLT,Nat.reduceBEq,Nat.reduceAdd,c0, c1, c2, List.getD_cons_zero, List.getD_cons_succ, ho];(repeat1' with_reducible first|apply And.intro|(intro _;try exact q_v)|(refine hK _ ?_;clear hK K))<;>(try (clear hK K;exact q_u)))|(with_reducible refine q_s ?_;(first|apply q_J|apply q_K|apply q_L|apply q_M|apply q_N|apply q_O)<;>try (intro _;try exact q_v))|with_reducible refine q_t ?_)
        all_goals first | omega | exact q_A rfl
      · repeat' (first|(with_reducible first|apply q_a|apply q_b|apply q_c|apply q_d|apply q_e|apply q_f|apply q_g|apply q_h|apply q_i|apply q_j|apply q_k|apply q_m|apply q_n|apply q_o|apply q_p|refine q_l ?_)|((with_reducible first|refine q_q rq1_ok fun K hK=>?_|refine q_r rq1_ok fun K hK=>?_);simp (maxSteps:=2000000) only [go_sem,↓reduceIte,reduceCtorEq,Nat.reduceLeDiff,Nat.reduceLT,Nat.reduceBEq,Nat.reduceAdd,c0, c1, c2, List.getD_cons_zero, List.getD_cons_succ, ho];(repeat1' with_reducible first|apply And.intro|(intro _;try exact q_v)|(refine hK _ ?_;clear hK K))<;>(try (clear hK K;exact q_u)))|(with_reducible refine q_s ?_;(first|apply q_J|apply q_K|apply q_L|apply q_M|apply q_N|apply q_O)<;>try (intro _;try exact q_v))|with_reducible refine q_t ?_)
        all_goals first | omega | exact q_A rfl
    · obtain ⟨_, _, ho, hl⟩ := fit4_ok hp b2
      repeat' (first|(with_reducible first|apply q_a|apply q_b|apply q_c|apply q_d|apply q_e|apply q_f|apply q_g|apply q_h|apply q_i|apply q_j|apply q_k|apply q_m|apply q_n|apply q_o|apply q_p|refine q_l ?_)|((with_reducible first|refine q_q rq1_ok fun K hK=>?_|refine q_r rq1_ok fun K hK=>?_);simp (maxSteps:=2000000) only [go_sem,↓reduceIte,reduceCtorEq,Nat.reduceLeDiff,Nat.reduceLT,Nat.reduceBEq,Nat.reduceAdd,c0, c1, c2, List.getD_cons_zero, List.getD_cons_succ, ho];(repeat1' with_reducible first|apply And.intro|(intro _;try exact q_v)|(refine hK _ ?_;clear hK K))<;>(try (clear hK K;exact q_u)))|(with_reducible refine q_s ?_;(first|apply q_J|apply q_K|apply q_L|apply q_M|apply q_N|apply q_O)<;>try (intro _;try exact q_v))|with_reducible refine q_t ?_)
      all_goals try omega
      refine q_F ⟨2 + 1, by omega, ?_, ?_, ?_⟩ ?_ (by simp only; omega)
      · intro h; first | exact hp | exact h2 (by omega)
      · intro h; first | exact hp | exact h3 (by omega) | omega
      · intro h; first | exact hp | exact h4 (by omega) | omega
      · exact q_D
  · have p0 := h2 (by omega)
    have p1 := h3 (by omega)
    have p2 := h4 (by omega)
    obtain ⟨hn, _, ho, _⟩ := fit4_ok p2 b2
    have hz := len_zero ho b2
    have eF : vR s0 s1 s2 x0 x1 x2 = decide (0 < (x2.length : Int)) := by unfold vR; rw [p0, p1, p2]; rfl
    rw [eF]
    have e2 : (!decide (sv 4294967296 s2 x2 = 0)) = decide (0 < (x2.length : Int)) := by
      by_cases h : x2.length = 0
      · rw [decide_eq_true (hz.2 h), decide_eq_false (by omega)]; rfl
      · rw [decide_eq_false (fun e => h (hz.1 e)), decide_eq_true (by omega)]; rfl
    repeat' (first|(with_reducible first|apply q_a|apply q_b|apply q_c|apply q_d|apply q_e|apply q_f|apply q_g|apply q_h|apply q_i|apply q_j|apply q_k|apply q_m|apply q_n|apply q_o|apply q_p|refine q_l ?_)|((with_reducible first|refine q_q rq1_ok fun K hK=>?_|refine q_r rq1_ok fun K hK=>?_);simp (maxSteps:=2000000) only [go_sem,↓reduceIte,reduceCtorEq,Nat.reduceLeDiff,Nat.reduceLT,Nat.reduceBEq,Nat.reduceAdd,e2];(repeat1' with_reducible first|apply And.intro|(intro _;try exact q_v)|(refine hK _ ?_;clear hK K))<;>(try (clear hK K;exact q_u)))|(with_reducible refine q_s ?_;(first|apply q_J|apply q_K|apply q_L|apply q_M|apply q_N|apply q_O)<;>try (intro _;try exact q_v))|with_reducible refine q_t ?_)
    all_goals first | omega | exact q_A rfl
def rangeOkCT : CT := mkCT [nG] true fun l K => match l with
  | [.inr [.b s, .ints .u32 xs, .b t, .ints .u32 ys, .b d, .ints .u32 zs]] => ((xs.length ≤ 140737488355328 ∧ ys.length ≤ 140737488355328 ∧ zs.length ≤ 140737488355328) ∧ InB 4294967296 xs ∧ InB 4294967296 ys ∧ InB 4294967296 zs) ∧ K (.c (.b (vR s t d xs ys zs)))
  | _ => False
def rj1 : Cfg := addT 77 rangeOkCT jt12
theorem rj1_ok : TblOk Try.prog rj1 := q_I jt12_ok Try.func77 fun l K h => by
  split at h
  · exact ⟨_, (rangeOk_ret _ _ _ _ _ _ h.1.1.1 h.1.1.2.1 h.1.1.2.2 h.1.2.1 h.1.2.2.1 h.1.2.2.2).plain rfl, h.2⟩
  · exact h.elim
attribute [go_sem] rangeOkCT
end Go.Proofs.Ytneecniebhhhlaa
