import Derived.Test.YtgogdabniebplaaJ3
import Derived.Test.YtgogdabniebplaaS2
namespace Go.Proofs.Ytgogdabniebplaa
set_option linter.unusedSimpArgs false
set_option linter.unusedVariables false
open Go.Abs Go.Proofs.NatL

def sr1 : Cfg := listT [(23, atCT), (24, ivalidCT), (53, noIntCT)] [28]
theorem sr1_ok : TblOk Try.prog sr1 := listT_ok (big := jt12) jt12_ok ⟨rfl, rfl, rfl, trivial⟩
attribute [go_sem] sr1
theorem prt_bad {s : Bool} {xs : List Int} {g : Bool} (h : prt s xs g = false) : okZ s xs = false ∨ okZ s xs = true ∧ g = false ∧ ¬ xs.length = 0 := by
  unfold prt at h
  cases ho : okZ s xs <;> cases g <;> simp_all
theorem prt_good {s : Bool} {xs : List Int} {g : Bool} (h : prt s xs g = true) : okZ s xs = true ∧ (g = false → xs.length = 0) := by
  unfold prt at h
  cases ho : okZ s xs <;> cases g <;> simp_all
theorem len_zero {s : Bool} {xs : List Int} (ho : okZ s xs = true) (hb : InB 4294967296 xs) : sv 4294967296 s xs = 0 ↔ xs.length = 0 := by
  obtain ⟨e1, e2, e3⟩ := okZ_eq ho hb
  have hp := dg_len_pos 4294967296 (sv 4294967296 s xs).natAbs (by omega)
  rw [← e2] at hp
  omega
set_option maxRecDepth 100000 in
set_option maxHeartbeats 6400000 in
theorem sliceFault_ret (s0 s1 s2 g0 g1 g2 : Bool) (x0 x1 x2 : List Int) (l0 : x0.length ≤ 140737488355328) (l1 : x1.length ≤ 140737488355328) (l2 : x2.length ≤ 140737488355328) (b0 : InB 4294967296 x0) (b1 : InB 4294967296 x1) (b2 : InB 4294967296 x2) :
    Ret Try.prog 20 false [.inr [.b s0, .ints .u32 x0, .b s1, .ints .u32 x1, .b s2, .ints .u32 x2, .b g0, .b g1, .b g2]] (.g [.i .i64 (slF (prt s0 x0 g0) (prt s1 x1 g1) (prt s2 x2 g2) g2 x2.length), .i .i64 (slI (prt s0 x0 g0) (prt s1 x1 g1) (prt s2 x2 g2) g2 x2.length)]) := by
  (refine q_H Try.func20 (fun F => ?_); simp only [q_z,q_y,Try.ntmps20,Try.results20])
  repeat' (first|(with_reducible first|apply q_a|apply q_b|apply q_c|apply q_d|apply q_e|apply q_f|apply q_g|apply q_h|apply q_i|apply q_j|apply q_k|apply q_m|apply q_n|apply q_o|apply q_p|refine q_l ?_)|((with_reducible first|refine q_q sr1_ok fun K hK=>?_|refine q_r sr1_ok fun K hK=>?_);simp (maxSteps:=2000000) only [go_sem,↓reduceIte,reduceCtorEq,Nat.reduceLeDiff,Nat.reduceLT,Nat.reduceBEq,Nat.reduceAdd];(repeat1' with_reducible first|apply And.intro|(intro _;try exact q_v)|(refine hK _ ?_;clear hK K))<;>(try (clear hK K;exact q_u)))|(with_reducible refine q_s ?_;(first|apply q_J|apply q_K|apply q_L|apply q_M|apply q_N|apply q_O)<;>try (intro _;try exact q_v))|with_reducible refine q_t ?_)
  refine q_G (ι := { i : Nat // i ≤ 3 ∧ (0 < i → prt s0 x0 g0 = true) ∧ (1 < i → prt s1 x1 g1 = true) ∧ (2 < i → prt s2 x2 g2 = true) }) (fun i => ⟨55, [(1, .bx 0 0), (2, .bx 1 0), (3, .c (.sl 2 [[.b s0, .ints .u32 x0], [.b s1, .ints .u32 x1], [.b s2, .ints .u32 x2]])), (4, .c (.bools [g0, g1, g2])), (5, .c (.i .i64 (i.1 : Nat)))], ⟨[(1, [.c (.i .i64 0), .c (.i .i64 0)]), (0, [.c (.b s0), .c (.ints .u32 x0), .c (.b s1), .c (.ints .u32 x1), .c (.b s2), .c (.ints .u32 x2), .c (.b g0), .c (.b g1), .c (.b g2)])], [], []⟩, 2⟩) (fun i => 3 - i.1) ⟨0, by omega, fun h => by omega, fun h => by omega, fun h => by omega⟩ ?_ ?_
  · exact q_D
  rintro ⟨i, h1, h2, h3, h4⟩
  simp only at h1 h2 h3 h4 ⊢
  have c1 : ((1 : Nat) : Int).toNat = 1 := rfl
  have c2 : ((2 : Nat) : Int).toNat = 2 := rfl
  have c0 : ((0 : Nat) : Int).toNat = 0 := rfl
  rcases (show i = 0 ∨ i = 1 ∨ i = 2 ∨ i = 3 by omega) with rfl | rfl | rfl | rfl
  · rcases Bool.eq_false_or_eq_true (prt s0 x0 g0) with hp | hp
    rotate_left
    · have eF : slF (prt s0 x0 g0) (prt s1 x1 g1) (prt s2 x2 g2) g2 x2.length = 6 := by
        unfold slF; rw [if_neg (fun h => by first | (rw [hp] at h; exact absurd h.1 (by decide)) | (rw [hp] at h; exact absurd h.2.1 (by decide)) | (rw [hp] at h; exact absurd h.2.2 (by decide)))]
      have eI : slI (prt s0 x0 g0) (prt s1 x1 g1) (prt s2 x2 g2) g2 x2.length = -1 := by unfold slI; rw [eF]; rfl
      rw [eF, eI]
      rcases prt_bad hp with ho | ⟨ho, hg, hl⟩
      · repeat' (first|(with_reducible first|apply q_a|apply q_b|apply q_c|apply q_d|apply q_e|apply q_f|apply q_g|apply q_h|apply q_i|apply q_j|apply q_k|apply q_m|apply q_n|apply q_o|apply q_p|refine q_l ?_)|((with_reducible first|refine q_q sr1_ok fun K hK=>?_|refine q_r sr1_ok fun K hK=>?_);simp (maxSteps:=2000000) only [go_sem,↓reduceIte,reduceCtorEq,Nat.reduceLeDiff,Nat.reduceLT,Nat.reduceBEq,Nat.reduceAdd,c0, c1, c2, List.getD_cons_zero, List.getD_cons_succ, ho];(repeat1' with_reducible first|apply And.intro|(intro _;try exact q_v)|(refine hK _ ?_;clear hK K))<;>(try (clear hK K;exact q_u)))|(with_reducible refine q_s ?_;(first|apply q_J|apply q_K|apply q_L|apply q_M|apply q_N|apply q_O)<;>try (intro _;try exact q_v))|with_reducible refine q_t ?_)
        all_goals first | omega | exact q_A rfl
      · have hn := okZ_Nrm ho b0
        have hz : (sv 4294967296 s0 x0 = 0) = False := eq_false (fun e => hl ((len_zero ho b0).1 e))
        subst hg
        repeat' (first|(with_reducible first|apply q_a|apply q_b|apply q_c|apply q_d|apply q_e|apply q_f|apply q_g|apply q_h|apply q_i|apply q_j|apply q_k|apply q_m|apply q_n|apply q_o|apply q_p|refine q_l ?_)|((with_reducible first|refine q_q sr1_ok fun K hK=>?_|refine q_r sr1_ok fun K hK=>?_);simp (maxSteps:=2000000) only [go_sem,↓reduceIte,reduceCtorEq,Nat.reduceLeDiff,Nat.reduceLT,Nat.reduceBEq,Nat.reduceAdd,c0, c1, c2, List.getD_cons_zero, List.getD_cons_succ, ho, hz, decide_false];(repeat1' with_reducible first|apply And.intro|(intro _;try exact q_v)|(refine hK _ ?_;clear hK K))<;>(try (clear hK K;exact q_u)))|(with_reducible refine q_s ?_;(first|apply q_J|apply q_K|apply q_L|apply q_M|apply q_N|apply q_O)<;>try (intro _;try exact q_v))|with_reducible refine q_t ?_)
        all_goals first | omega | exact q_A rfl
    · obtain ⟨ho, hg⟩ := prt_good hp
      have hn := okZ_Nrm ho b0
      have hz := len_zero ho b0
      rcases Bool.eq_false_or_eq_true g0 with hgb | hgb
      rotate_left
      · have hz : (sv 4294967296 s0 x0 = 0) = True := eq_true (hz.2 (hg hgb))
        subst hgb
        repeat' (first|(with_reducible first|apply q_a|apply q_b|apply q_c|apply q_d|apply q_e|apply q_f|apply q_g|apply q_h|apply q_i|apply q_j|apply q_k|apply q_m|apply q_n|apply q_o|apply q_p|refine q_l ?_)|((with_reducible first|refine q_q sr1_ok fun K hK=>?_|refine q_r sr1_ok fun K hK=>?_);simp (maxSteps:=2000000) only [go_sem,↓reduceIte,reduceCtorEq,Nat.reduceLeDiff,Nat.reduceLT,Nat.reduceBEq,Nat.reduceAdd,c0, c1, c2, List.getD_cons_zero, List.getD_cons_succ, ho, hz, decide_true];(repeat1' with_reducible first|apply And.intro|(intro _;try exact q_v)|(refine hK _ ?_;clear hK K))<;>(try (clear hK K;exact q_u)))|(with_reducible refine q_s ?_;(first|apply q_J|apply q_K|apply q_L|apply q_M|apply q_N|apply q_O)<;>try (intro _;try exact q_v))|with_reducible refine q_t ?_)
        all_goals try omega
        refine q_F ⟨0 + 1, by omega, ?_, ?_, ?_⟩ ?_ (by simp only; omega)
        · intro h; first | exact hp | exact h2 (by omega)
        · intro h; first | exact hp | exact h3 (by omega) | omega
        · intro h; first | exact hp | exact h4 (by omega) | omega
        · exact q_D
      · subst hgb
        repeat' (first|(with_reducible first|apply q_a|apply q_b|apply q_c|apply q_d|apply q_e|apply q_f|apply q_g|apply q_h|apply q_i|apply q_j|apply q_k|apply q_m|apply q_n|apply q_o|apply q_p|refine q_l ?_)|((with_reducible first|refine q_q sr1_ok fun K hK=>?_|refine q_r sr1_ok fun K hK=>?_);simp (maxSteps:=2000000) only [go_sem,↓reduceIte,reduceCtorEq,Nat.reduceLeDiff,Nat.reduceLT,Nat.reduceBEq,Nat.reduceAdd,c0, c1, c2, List.getD_cons_zero, List.getD_cons_succ, ho];(repeat1' with_reducible first|apply And.intro|(intro _;try exact q_v)|(refine hK _ ?_;clear hK K))<;>(try (clear hK K;exact q_u)))|(with_reducible refine q_s ?_;(first|apply q_J|apply q_K|apply q_L|apply q_M|apply q_N|apply q_O)<;>try (intro _;try exact q_v))|with_reducible refine q_t ?_)
        all_goals try omega
        refine q_F ⟨0 + 1, by omega, ?_, ?_, ?_⟩ ?_ (by simp only; omega)
        · intro h; first | exact hp | exact h2 (by omega)
        · intro h; first | exact hp | exact h3 (by omega) | omega
        · intro h; first | exact hp | exact h4 (by omega) | omega
        · exact q_D
  · rcases Bool.eq_false_or_eq_true (prt s1 x1 g1) with hp | hp
    rotate_left
    · have eF : slF (prt s0 x0 g0) (prt s1 x1 g1) (prt s2 x2 g2) g2 x2.length = 6 := by
        unfold slF; rw [if_neg (fun h => by first | (rw [hp] at h; exact absurd h.1 (by decide)) | (rw [hp] at h; exact absurd h.2.1 (by decide)) | (rw [hp] at h; exact absurd h.2.2 (by decide)))]
      have eI : slI (prt s0 x0 g0) (prt s1 x1 g1) (prt s2 x2 g2) g2 x2.length = -1 := by unfold slI; rw [eF]; rfl
      rw [eF, eI]
      rcases prt_bad hp with ho | ⟨ho, hg, hl⟩
      · repeat' (first|(with_reducible first|apply q_a|apply q_b|apply q_c|apply q_d|apply q_e|apply q_f|apply q_g|apply q_h|apply q_i|apply q_j|apply q_k|apply q_m|apply q_n|apply q_o|apply q_p|refine q_l ?_)|((with_reducible first|refine q_q sr1_ok fun K hK=>?_|refine q_r sr1_ok fun K hK=>?_);simp (maxSteps:=2000000) only [go_sem,↓reduceIte,reduceCtorEq,Nat.reduceLeDiff,Nat.reduceLT,Nat.reduceBEq,Nat.reduceAdd,c0, c1, c2, List.getD_cons_zero, List.getD_cons_succ, ho];(repeat1' with_reducible first|apply And.intro|(intro _;try exact q_v)|(refine hK _ ?_;clear hK K))<;>(try (clear hK K;exact q_u)))|(with_reducible refine q_s ?_;(first|apply q_J|apply q_K|apply q_L|apply q_M|apply q_N|apply q_O)<;>try (intro _;try exact q_v))|with_reducible refine q_t ?_)
        all_goals first | omega | exact q_A rfl
      · have hn := okZ_Nrm ho b1
        have hz : (sv 4294967296 s1 x1 = 0) = False := eq_false (fun e => hl ((len_zero ho b1).1 e))
        subst hg
        repeat' (first|(with_reducible first|apply q_a|apply q_b|apply q_c|apply q_d|apply q_e|apply q_f|apply q_g|apply q_h|apply q_i|apply q_j|apply q_k|apply q_m|apply q_n|apply q_o|apply q_p|refine q_l ?_)|((with_reducible first|refine q_q sr1_ok fun K hK=>?_|refine q_r sr1_ok fun K hK=>?_);simp (maxSteps:=2000000) only [go_sem,↓reduceIte,reduceCtorEq,Nat.reduceLeDiff,Nat.reduceLT,Nat.reduceBEq,Nat.reduceAdd,c0, c1, c2, List.getD_cons_zero, List.getD_cons_succ, ho, hz, decide_false];(repeat1' with_reducible first|apply And.intro|(intro _;try exact q_v)|(refine hK _ ?_;clear hK K))<;>(try (clear hK K;exact q_u)))|(with_reducible refine q_s ?_;(first|apply q_J|apply q_K|apply q_L|apply q_M|apply q_N|apply q_O)<;>try (intro _;try exact q_v))|with_reducible refine q_t ?_)
        all_goals first | omega | exact q_A rfl
    · obtain ⟨ho, hg⟩ := prt_good hp
      have hn := okZ_Nrm ho b1
      have hz := len_zero ho b1
      rcases Bool.eq_false_or_eq_true g1 with hgb | hgb
      rotate_left
      · have hz : (sv 4294967296 s1 x1 = 0) = True := eq_true (hz.2 (hg hgb))
        subst hgb
        repeat' (first|(with_reducible first|apply q_a|apply q_b|apply q_c|apply q_d|apply q_e|apply q_f|apply q_g|apply q_h|apply q_i|apply q_j|apply q_k|apply q_m|apply q_n|apply q_o|apply q_p|refine q_l ?_)|((with_reducible first|refine q_q sr1_ok fun K hK=>?_|refine q_r sr1_ok fun K hK=>?_);simp (maxSteps:=2000000) only [go_sem,↓reduceIte,reduceCtorEq,Nat.reduceLeDiff,Nat.reduceLT,Nat.reduceBEq,Nat.reduceAdd,c0, c1, c2, List.getD_cons_zero, List.getD_cons_succ, ho, hz, decide_true];(repeat1' with_reducible first|apply And.intro|(intro _;try exact q_v)|(refine hK _ ?_;clear hK K))<;>(try (clear hK K;exact q_u)))|(with_reducible refine q_s ?_;(first|apply q_J|apply q_K|apply q_L|apply q_M|apply q_N|apply q_O)<;>try (intro _;try exact q_v))|with_reducible refine q_t ?_)
        all_goals try omega
        refine q_F ⟨1 + 1, by omega, ?_, ?_, ?_⟩ ?_ (by simp only; omega)
        · intro h; first | exact hp | exact h2 (by omega)
        · intro h; first | exact hp | exact h3 (by omega) | omega
        · intro h; first | exact hp | exact h4 (by omega) | omega
        · exact q_D
      · subst hgb
        repeat' (first|(with_reducible first|apply q_a|apply q_b|apply q_c|apply q_d|apply q_e|apply q_f|apply q_g|apply q_h|apply q_i|apply q_j|apply q_k|apply q_m|apply q_n|apply q_o|apply q_p|refine q_l ?_)|((with_reducible first|refine q_q sr1_ok fun K hK=>?_|refine q_r sr1_ok fun K hK=>?_);simp (maxSteps:=2000000) only [go_sem,↓reduceIte,reduceCtorEq,Nat.reduceLeDiff,Nat.reduceLT,Nat.reduceBEq,Nat.reduceAdd,c0, c1, c2, List.getD_cons_zero, List.getD_cons_succ, ho];(repeat1' with_reducible first|apply And.intro|(intro _;try exact q_v)|(refine hK _ ?_;clear hK K))<;>(try (clear hK K;exact q_u)))|(with_reducible refine q_s ?_;(first|apply q_J|apply q_K|apply q_L|apply q_M|apply q_N|apply q_O)<;>try (intro _;try exact q_v))|with_reducible refine q_t ?_)
        all_goals try omega
        refine q_F ⟨1 + 1, by omega, ?_, ?_, ?_⟩ ?_ (by simp only; omega)
        · intro h; first | exact hp | exact h2 (by omega)
        · intro h; first | exact hp | exact h3 (by omega) | omega
        · intro h; first | exact hp | exact h4 (by omega) | omega
        · exact q_D
  · rcases Bool.eq_false_or_eq_true (prt s2 x2 g2) with hp | hp
    rotate_left
    · have eF : slF (prt s0 x0 g0) (prt s1 x1 g1) (prt s2 x2 g2) g2 x2.length = 6 := by
        unfold slF; rw [if_neg (fun h => by first | (rw [hp] at h; exact absurd h.1 (by decide)) | (rw [hp] at h; exact absurd h.2.1 (by decide)) | (rw [hp] at h; exact absurd h.2.2 (by decide)))]
      have eI : slI (prt s0 x0 g0) (prt s1 x1 g1) (prt s2 x2 g2) g2 x2.length = -1 := by unfold slI; rw [eF]; rfl
      rw [eF, eI]
      rcases prt_bad hp with ho | ⟨ho, hg, hl⟩
      · repeat' (first|(with_reducible first|apply q_a|apply q_b|apply q_c|apply q_d|apply q_e|apply q_f|apply q_g|apply q_h|apply q_i|apply q_j|apply q_k|apply q_m|apply q_n|apply q_o|apply q_p|refine q_l ?_)|((with_reducible first|refine q_q sr1_ok fun K hK=>?_|refine q_r sr1_ok fun K hK=>?_);simp (maxSteps:=2000000) only [go_sem,↓reduceIte,reduceCtorEq,Nat.reduceLeDiff,Nat.reduceLT,Nat.reduceBEq,Nat.reduceAdd,c0, c1, c2, List.getD_cons_zero, List.getD_cons_succ, ho];(repeat1' with_reducible first|apply And.intro|(intro _;try exact q_v)|(refine hK _ ?_;clear hK K))<;>(try (clear hK K;exact q_u)))|(with_reducible refine q_s ?_;(first|apply q_J|apply q_K|apply q_L|apply q_M|apply q_N|apply q_O)<;>try (intro _;try exact q_v))|with_reducible refine q_t ?_)
        all_goals first | omega | exact q_A rfl
      · have hn := okZ_Nrm ho b2
        have hz : (sv 4294967296 s2 x2 = 0) = False := eq_false (fun e => hl ((len_zero ho b2).1 e))
        subst hg
        repeat' (first|(with_reducible first|apply q_a|apply q_b|apply q_c|apply q_d|apply q_e|apply q_f|apply q_g|apply q_h|apply q_i|apply q_j|apply q_k|apply q_m|apply q_n|apply q_o|apply q_p|refine q_l ?_)|((with_reducible first|refine q_q sr1_ok fun K hK=>?_|refine q_r sr1_ok fun K hK=>?_);simp (maxSteps:=2000000) only [go_sem,↓reduceIte,reduceCtorEq,Nat.reduceLeDiff,Nat.reduceLT,Nat.reduceBEq,Nat.reduceAdd,c0, c1, c2, List.getD_cons_zero, List.getD_cons_succ, ho, hz, decide_false];(repeat1' with_reducible first|apply And.intro|(intro _;try exact q_v)|(refine hK _ ?_;clear hK K))<;>(try (clear hK K;exact q_u)))|(with_reducible refine q_s ?_;(first|apply q_J|apply q_K|apply q_L|apply q_M|apply q_N|apply q_O)<;>try (intro _;try exact q_v))|with_reducible refine q_t ?_)
        all_goals first | omega | exact q_A rfl
    · obtain ⟨ho, hg⟩ := prt_good hp
      have hn := okZ_Nrm ho b2
      have hz := len_zero ho b2
      rcases Bool.eq_false_or_eq_true g2 with hgb | hgb
      rotate_left
      · have hz : (sv 4294967296 s2 x2 = 0) = True := eq_true (hz.2 (hg hgb))
        subst hgb
        repeat' (first|(with_reducible first|apply q_a|apply q_b|apply q_c|apply q_d|apply q_e|apply q_f|apply q_g|apply q_h|apply q_i|apply q_j|apply q_k|apply q_m|apply q_n|apply q_o|apply q_p|refine q_l ?_)|((with_reducible first|refine q_q sr1_ok fun K hK=>?_|refine q_r sr1_ok fun K hK=>?_);simp (maxSteps:=2000000) only [go_sem,↓reduceIte,reduceCtorEq,Nat.reduceLeDiff,Nat.reduceLT,Nat.reduceBEq,Nat.reduceAdd,c0, c1, c2, List.getD_cons_zero, List.getD_cons_succ, ho, hz, decide_true];(repeat1' with_reducible first|apply And.intro|(intro _;try exact q_v)|(refine hK _ ?_;clear hK K))<;>(try (clear hK K;exact q_u)))|(with_reducible refine q_s ?_;(first|apply q_J|apply q_K|apply q_L|apply q_M|apply q_N|apply q_O)<;>try (intro _;try exact q_v))|with_reducible refine q_t ?_)
        all_goals try omega
        refine q_F ⟨2 + 1, by omega, ?_, ?_, ?_⟩ ?_ (by simp only; omega)
        · intro h; first | exact hp | exact h2 (by omega)
        · intro h; first | exact hp | exact h3 (by omega) | omega
        · intro h; first | exact hp | exact h4 (by omega) | omega
        · exact q_D
      · subst hgb
        repeat' (first|(with_reducible first|apply q_a|apply q_b|apply q_c|apply q_d|apply q_e|apply q_f|apply q_g|apply q_h|apply q_i|apply q_j|apply q_k|apply q_m|apply q_n|apply q_o|apply q_p|refine q_l ?_)|((with_reducible first|refine q_q sr1_ok fun K hK=>?_|refine q_r sr1_ok fun K hK=>?_);simp (maxSteps:=2000000) only [go_sem,↓reduceIte,reduceCtorEq,Nat.reduceLeDiff,Nat.reduceLT,Nat.reduceBEq,Nat.reduceAdd,c0, c1, c2, List.getD_cons_zero, List.getD_cons_succ, ho];(repeat1' with_reducible first|apply And.intro|(intro _;try exact q_v)|(refine hK _ ?_;clear hK K))<;>(try (clear hK K;exact q_u)))|(with_reducible refine q_s ?_;(first|apply q_J|apply q_K|apply q_L|apply q_M|apply q_N|apply q_O)<;>try (intro _;try exact q_v))|with_reducible refine q_t ?_)
        all_goals try omega
        refine q_F ⟨2 + 1, by omega, ?_, ?_, ?_⟩ ?_ (by simp only; omega)
        · intro h; first | exact hp | exact h2 (by omega)
        · intro h; first | exact hp | exact h3 (by omega) | omega
        · intro h; first | exact hp | exact h4 (by omega) | omega
        · exact q_D
  · have p0 := h2 (by omega)
    have p1 := h3 (by omega)
    have p2 := h4 (by omega)
    have ho := (prt_good p2).1
    have hn := okZ_Nrm ho b2
    have hz := len_zero ho b2
    have eF : slF (prt s0 x0 g0) (prt s1 x1 g1) (prt s2 x2 g2) g2 x2.length = (if g2 = true ∧ x2.length = 0 then 22 else 0) := by unfold slF; rw [if_pos ⟨p0, p1, p2⟩]
    have eI : slI (prt s0 x0 g0) (prt s1 x1 g1) (prt s2 x2 g2) g2 x2.length = (if g2 = true ∧ x2.length = 0 then -1 else 0) := by unfold slI; rw [eF]; split <;> rfl
    rw [eF, eI]
    by_cases hl : x2.length = 0
    · have hz' : (sv 4294967296 s2 x2 = 0) = True := eq_true (hz.2 hl)
      rcases Bool.eq_false_or_eq_true g2 with hg | hg
      all_goals
        subst hg
        repeat' (first|(with_reducible first|apply q_a|apply q_b|apply q_c|apply q_d|apply q_e|apply q_f|apply q_g|apply q_h|apply q_i|apply q_j|apply q_k|apply q_m|apply q_n|apply q_o|apply q_p|refine q_l ?_)|((with_reducible first|refine q_q sr1_ok fun K hK=>?_|refine q_r sr1_ok fun K hK=>?_);simp (maxSteps:=2000000) only [go_sem,↓reduceIte,reduceCtorEq,Nat.reduceLeDiff,Nat.reduceLT,Nat.reduceBEq,Nat.reduceAdd,ho, hz', decide_true];(repeat1' with_reducible first|apply And.intro|(intro _;try exact q_v)|(refine hK _ ?_;clear hK K))<;>(try (clear hK K;exact q_u)))|(with_reducible refine q_s ?_;(first|apply q_J|apply q_K|apply q_L|apply q_M|apply q_N|apply q_O)<;>try (intro _;try exact q_v))|with_reducible refine q_t ?_)
        all_goals first | omega | exact q_A (by simp [resAV, q_y, hl])
    · have hz' : (sv 4294967296 s2 x2 = 0) = False := eq_false (fun e => hl (hz.1 e))
      rcases Bool.eq_false_or_eq_true g2 with hg | hg
      all_goals
        subst hg
        repeat' (first|(with_reducible first|apply q_a|apply q_b|apply q_c|apply q_d|apply q_e|apply q_f|apply q_g|apply q_h|apply q_i|apply q_j|apply q_k|apply q_m|apply q_n|apply q_o|apply q_p|refine q_l ?_)|((with_reducible first|refine q_q sr1_ok fun K hK=>?_|refine q_r sr1_ok fun K hK=>?_);simp (maxSteps:=2000000) only [go_sem,↓reduceIte,reduceCtorEq,Nat.reduceLeDiff,Nat.reduceLT,Nat.reduceBEq,Nat.reduceAdd,ho, hz', decide_false];(repeat1' with_reducible first|apply And.intro|(intro _;try exact q_v)|(refine hK _ ?_;clear hK K))<;>(try (clear hK K;exact q_u)))|(with_reducible refine q_s ?_;(first|apply q_J|apply q_K|apply q_L|apply q_M|apply q_N|apply q_O)<;>try (intro _;try exact q_v))|with_reducible refine q_t ?_)
        all_goals first | omega | exact q_A (by simp [resAV, q_y, hl])
def sfCT : CT := mkCT [.inr [none, some (.ints .u32 []), none, some (.ints .u32 []), none, some (.ints .u32 []), none, none, none]] true fun l K => match l with
  | [.inr [.b s0, .ints .u32 x0, .b s1, .ints .u32 x1, .b s2, .ints .u32 x2, .b g0, .b g1, .b g2]] => ((x0.length ≤ 140737488355328 ∧ x1.length ≤ 140737488355328 ∧ x2.length ≤ 140737488355328) ∧ InB 4294967296 x0 ∧ InB 4294967296 x1 ∧ InB 4294967296 x2) ∧
      K (.g [.i .i64 (slF (prt s0 x0 g0) (prt s1 x1 g1) (prt s2 x2 g2) g2 x2.length), .i .i64 (slI (prt s0 x0 g0) (prt s1 x1 g1) (prt s2 x2 g2) g2 x2.length)])
  | _ => False
def sj1 : Cfg := addT 20 sfCT jt12
theorem sj1_ok : TblOk Try.prog sj1 := q_I jt12_ok Try.func20 fun l K h => by
  split at h
  · exact ⟨_, (sliceFault_ret _ _ _ _ _ _ _ _ _ h.1.1.1 h.1.1.2.1 h.1.1.2.2 h.1.2.1 h.1.2.2.1 h.1.2.2.2).plain rfl, h.2⟩
  · exact h.elim
attribute [go_sem] sfCT
def sr2 : Cfg := listT [(41, numberCT), (43, (rI2CT 4194304 ordF)), (39, (rI2CT 1048576 addF)), (54, intOfCT)] [28]
theorem sr2_ok : TblOk Try.prog sr2 := listT_ok (big := jt12) jt12_ok ⟨rfl, rfl, rfl, rfl, trivial⟩
attribute [go_sem] sr2
theorem len_i64 {z : Int} (h : -9223372036854775808 ≤ z ∧ z ≤ 9223372036854775807) : (dg 65536 z.natAbs).length ≤ 4 := dg_len_le (by omega) _ _ (by omega)
theorem cz_le (a b : Int) : cmpZ a b ≤ 0 ↔ a ≤ b := by unfold cmpZ; (repeat' split) <;> omega
theorem cz_ge (a b : Int) : 0 ≤ cmpZ a b ↔ b ≤ a := by unfold cmpZ; (repeat' split) <;> omega
theorem cz_eq (a b : Int) : cmpZ a b = 0 ↔ a = b := by unfold cmpZ; (repeat' split) <;> omega
set_option maxHeartbeats 3200000 in
theorem near_ret (t : Bool) (ys : List Int) (lo hi : Int) (by1 : InB 65536 ys) (ty : Trd ys) (ly : ys.length ≤ 4194304) (h0 : -4611686018427387904 ≤ lo) (h1 : lo ≤ hi) (h2 : hi ≤ 4611686018427387904) :
    Ret Try.prog 98 false [.inr [.b t, .ints .i64 ys], .inl (.i .i64 lo), .inl (.i .i64 hi)] (.c (.i .i64 (bnd (sv 65536 t ys) lo hi))) := by
  generalize hz : sv 65536 t ys = z
  have k1 := cz_le z lo
  have k2 := cz_ge z hi
  have nlo := len_i64 (z := lo) (by omega)
  have nhi := len_i64 (z := hi) (by omega)
  (refine q_H Try.func98 (fun F => ?_); simp only [q_z,q_y,Try.ntmps98,Try.results98])
  repeat' (first|(with_reducible first|apply q_a|apply q_b|apply q_c|apply q_d|apply q_e|apply q_f|apply q_g|apply q_h|apply q_i|apply q_j|apply q_k|apply q_m|apply q_n|apply q_o|apply q_p|refine q_l ?_)|((with_reducible first|refine q_q sr2_ok fun K hK=>?_|refine q_r sr2_ok fun K hK=>?_);simp (maxSteps:=2000000) only [go_sem,↓reduceIte,reduceCtorEq,Nat.reduceLeDiff,Nat.reduceLT,Nat.reduceBEq,Nat.reduceAdd,hz];(repeat1' with_reducible first|apply And.intro|(intro _;try exact q_v)|(refine hK _ ?_;clear hK K))<;>(try (clear hK K;exact q_u)))|(with_reducible refine q_s ?_;(first|apply q_J|apply q_K|apply q_L|apply q_M|apply q_N|apply q_O)<;>try (intro _;try exact q_v))|with_reducible refine q_t ?_)
  all_goals try omega
  · exact q_A (by rw [show bnd z lo hi = lo by unfold bnd; omega]; rfl)
  · exact q_A (by rw [show bnd z lo hi = hi by unfold bnd; omega]; rfl)
  · rename_i q1 q2
    rw [show bnd z lo hi = z by unfold bnd; omega]
    refine q_G (ι := { n : Int // lo ≤ n ∧ n ≤ z }) (fun n => ⟨29, [(3, .bx 0 0), (7, .c (.i .i64 n.1))], ⟨[(0, [.c (.b t), .c (.ints .i64 ys)])], [], []⟩, 1⟩) (fun n => (z - n.1).toNat) ⟨lo, by omega, by omega⟩ ?_ ?_
    · exact q_D
    rintro ⟨n, n1, n2⟩
    simp only at n1 n2 ⊢
    have k3 := cz_eq z n
    have nn := len_i64 (z := n) (by omega)
    repeat' (first|(with_reducible first|apply q_a|apply q_b|apply q_c|apply q_d|apply q_e|apply q_f|apply q_g|apply q_h|apply q_i|apply q_j|apply q_k|apply q_m|apply q_n|apply q_o|apply q_p|refine q_l ?_)|((with_reducible first|refine q_q sr2_ok fun K hK=>?_|refine q_r sr2_ok fun K hK=>?_);simp (maxSteps:=2000000) only [go_sem,↓reduceIte,reduceCtorEq,Nat.reduceLeDiff,Nat.reduceLT,Nat.reduceBEq,Nat.reduceAdd,hz];(repeat1' with_reducible first|apply And.intro|(intro _;try exact q_v)|(refine hK _ ?_;clear hK K))<;>(try (clear hK K;exact q_u)))|(with_reducible refine q_s ?_;(first|apply q_J|apply q_K|apply q_L|apply q_M|apply q_N|apply q_O)<;>try (intro _;try exact q_v))|with_reducible refine q_t ?_)
    all_goals try omega
    · refine q_F ⟨n + 1, by omega, by omega⟩ ?_ (by simp only; omega)
      exact q_D
    · exact q_A (by rw [show z = n by omega]; rfl)
def nearCT : CT := mkCT [nR] true fun l K => match l with
  | [.inr [.b t, .ints .i64 ys], .inl (.i .i64 lo), .inl (.i .i64 hi)] => ((InB 65536 ys ∧ Trd ys ∧ ys.length ≤ 4194304) ∧ -4611686018427387904 ≤ lo ∧ lo ≤ hi ∧ hi ≤ 4611686018427387904) ∧ K (.c (.i .i64 (bnd (sv 65536 t ys) lo hi)))
  | _ => False
def sj2 : Cfg := addT 98 nearCT sj1
theorem sj2_ok : TblOk Try.prog sj2 := q_I sj1_ok Try.func98 fun l K h => by
  split at h
  · obtain ⟨⟨⟨h1, h2, h3⟩, h4, h5, h6⟩, h⟩ := h
    exact ⟨_, (near_ret _ _ _ _ h1 h2 h3 h4 h5 h6).plain rfl, h⟩
  · exact h.elim
attribute [go_sem] nearCT
end Go.Proofs.Ytgogdabniebplaa
