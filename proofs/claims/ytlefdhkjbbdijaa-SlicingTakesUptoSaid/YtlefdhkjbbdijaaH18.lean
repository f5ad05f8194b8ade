import Derived.Test.YtlefdhkjbbdijaaH12
import Derived.Test.YtlefdhkjbbdijaaH14
import Derived.Test.YtlefdhkjbbdijaaH16
import Derived.Test.YtlefdhkjbbdijaaH17
namespace Go.Proofs.Ytlefdhkjbbdijaa
set_option linter.unusedSimpArgs false
set_option linter.unusedVariables false
open Go.Abs Go.Proofs.NatL

def sr1 : Cfg := listT [(32, atCT), (60, ivalidCT), (24, noIntCT)] [30]
theorem sr1_ok : TblOk Try.prog sr1 := listT_ok (big := jt12) jt12_ok ⟨rfl, rfl, rfl, trivial⟩
attribute [go_sem] sr1
theorem prt_bad {s : Bool} {xs : List Int} {g : Bool} (h : prt s xs g = false) : okZ s xs = false ∨ okZ s xs = true ∧ g = false ∧ ¬ xs.length = 0 := by
  unfold prt at h
  cases ho : okZ s xs <;> cases g <;> simp_all
theorem prt_good {s : Bool} {xs : List Int} {g : Bool} (h : prt s xs g = true) : okZ s xs = true ∧ (g = false → xs.length = 0) := by
  unfold prt at h
  cases ho : okZ s xs <;> cases g <;> simp_all
theorem len_zero {s : Bool} {xs : List Int} (ho : okZ s xs = true) (hb : InB 4294967296 xs) : sv 4294967296 s xs = 0 ↔ xs.length = 0 := by
  obtain ⟨e1, e2, e3⟩ := okZ_eq ho hb
  have hp := dg_len_pos 4294967296 (sv 4294967296 s xs).natAbs (by omega)
  rw [← e2] at hp
  omega
set_option maxRecDepth 100000 in
set_option maxHeartbeats 6400000 in
theorem sliceFault_ret (s0 s1 s2 g0 g1 g2 : Bool) (x0 x1 x2 : List Int) (l0 : x0.length ≤ 140737488355328) (l1 : x1.length ≤ 140737488355328) (l2 : x2.length ≤ 140737488355328) (b0 : InB 4294967296 x0) (b1 : InB 4294967296 x1) (b2 : InB 4294967296 x2) :
    Ret Try.prog 55 false [.inr [.b s0, .ints .u32 x0, .b s1, .ints .u32 x1, .b s2, .ints .u32 x2, .b g0, .b g1, .b g2]] (.g [.i .i64 (slF (prt s0 x0 g0) (prt s1 x1 g1) (prt s2 x2 g2) g2 x2.length), .i .i64 (slI (prt s0 x0 g0) (prt s1 x1 g1) (prt s2 x2 g2) g2 x2.length)]) := by
  (refine q_H Try.func55 (fun F => ?_); simp only [q_z,q_y,Try.ntmps55,Try.results55])
  repeat' (first|(with_reducible first|apply q_a|apply q_b|apply q_c|apply q_d|apply q_e|apply q_f|apply q_g|apply q_h|apply q_i|apply q_j|apply q_k|apply q_m|apply q_n|apply q_o|apply q_p|refine q_l ?_)|((with_reducible first|refine q_q sr1_ok fun K hK=>?_|refine q_r sr1_ok fun K hK=>?_);simp (maxSteps:=2000000) only [go_sem,↓reduceIte,reduceCtorEq,Nat.reduceLeDiff,Nat.reduceLT,Nat.reduceBEq,Nat.reduceAdd];(repeat1' with_reducible first|apply And.intro|(intro _;try exact q_v)|(refine hK _ ?_;clear hK K))<;>(try (clear hK K;exact q_u)))|(with_reducible refine q_s ?_;(first|apply q_J|apply q_K|apply q_L|apply q_M|apply q_N|apply q_O)<;>try (intro _;try exact q_v))|with_reducible refine q_t ?_)
  refine q_G (ι := { i : Nat // i ≤ 3 ∧ (0 < i → prt s0 x0 g0 = true) ∧ (1 < i → prt s1 x1 g1 = true) ∧ (2 < i → prt s2 x2 g2 = true) }) (fun i => ⟨55, [(1, .bx 0 0), (2, .bx 1 0), (3, .c (.sl 2 [[.b s0, .ints .u32 x0], [.b s1, .ints .u32 x1], [.b s2, .ints .u32 x2]])), (4, .c (.bools [g0, g1, g2])), (5, .c (.i .i64 (i.1 : Nat)))], ⟨[(1, [.c (.i .i64 0), .c (.i .i64 0)]), (0, [.c (.b s0), .c (.ints .u32 x0), .c (.b s1), .c (.ints .u32 x1), .c (.b s2), .c (.ints .u32 x2), .c (.b g0), .c (.b g1), .c (.b g2)])], [], []⟩, 2⟩) (fun i => 3 - i.1) ⟨0, by omega, fun h => by omega, fun h => by omega, fun h => by omega⟩ ?_ ?_
  · exact q_D
  rintro ⟨i, h1, h2, h3, h4⟩
  simp only at h1 h2 h3 h4 ⊢
  have c1 : ((1 : Nat) : Int).toNat = 1 := rfl
  have c2 : ((2 : Nat) : Int).toNat = 2 := rfl
  have c0 : ((0 : Nat) : Int).toNat = 0 := rfl
  rcases (show i = 0 ∨ i = 1 ∨ i = 2 ∨ i = 3 by omega) with rfl | rfl | rfl | rfl
  · rcases Bool.eq_false_or_eq_true (prt s0 x0 g0) with hp | hp
    rotate_left
    · have eF : slF (prt s0 x0 g0) (prt s1 x1 g1) (prt s2 x2 g2) g2 x2.length = 6 := by
        unfold slF; rw [if_neg (fun h => by first | (rw [hp] at h; exact absurd h.1 (by decide)) | (rw [hp] at h; exact absurd h.2.1 (by decide)) | (rw [hp] at h; exact absurd h.2.2 (by decide)))]
      have eI : slI (prt s0 x0 g0) (prt s1 x1 g1) (prt s2 x2 g2) g2 x2.length = -1 := by unfold slI; rw [eF]; rfl
      rw [eF, eI]
      rcases prt_bad hp with ho | ⟨ho, hg, hl⟩
      · repeat' (first|(with_reducible first|apply q_a|apply q_b|apply q_c|apply q_d|apply q_e|apply q_f|apply q_g|apply q_h|apply q_i|apply q_j|apply q_k|apply q_m|apply q_n|apply q_o|apply q_p|refine q_l ?_)|((with_reducible first|refine q_q sr1_ok fun K hK=>?_|refine q_r sr1_ok fun K hK=>?_);simp (maxSteps:=2000000) only [go_sem,↓reduceIte,reduceCtorEq,Nat.reduceLeDiff,Nat.reduceLT,Nat.reduceBEq,Nat.reduceAdd,c0, c1, c2, List.getD_cons_zero, List.getD_cons_succ, ho];(repeat1' with_reducible first|apply And.intro|(intro _;try exact q_v)|(refine hK _ ?_;clear hK K))<;>(try (clear hK K;exact q_u)))|(with_reducible refine q_s ?_;(first|apply q_J|apply q_K|apply q_L|apply q_M|apply q_N|apply q_O)<;>try (intro _;try exact q_v))|with_reducible refine q_t ?_)
        all_goals first | omega | exact q_A rfl
      · have hn := okZ_Nrm ho b0
        have hz : (sv 4294967296 s0 x0 = 0) = False := eq_false (fun e => hl ((len_zero ho b0).1 e))
        subst hg
        repeat' (first|(with_reducible first|apply q_a|apply q_b|apply q_c|apply q_d|apply q_e|apply q_f|apply q_g|apply q_h|apply q_i|apply q_j|apply q_k|apply q_m|apply q_n|apply q_o|apply q_p|refine q_l ?_)|((with_reducible first|refine q_q sr1_ok fun K hK=>?_|refine q_r sr1_ok fun K hK=>?_);simp (maxSteps:=2000000) only [go_sem,↓reduceIte,reduceCtorEq,Nat.reduceLeDiff,Nat.reduceLT,Nat.reduceBEq,Nat.reduceAdd,c0, c1, c2, List.getD_cons_zero, List.getD_cons_succ, ho, hz, decide_false];(repeat1' with_reducible first|apply And.intro|(intro _;try exact q_v)|(refine hK _ ?_;clear hK K))<;>(try (clear hK K;exact q_u)))|(with_reducible refine q_s ?_;(first|apply q_J|apply q_K|apply q_L|apply q_M|apply q_N|apply q_O)<;>try (intro _;try exact q_v))|with_reducible refine q_t ?_)
        all_goals first | omega | exact q_A rfl
    · obtain ⟨ho, hg⟩ := prt_good hp
      have hn := okZ_Nrm ho b0
      have hz := len_zero ho b0
      rcases Bool.eq_false_or_eq_true g0 with hgb | hgb
      rotate_left
      · have hz : (sv 4294967296 s0 x0 = 0) = True := eq_true (hz.2 (hg hgb))
        subst hgb
        repeat' (first|(with_reducible first|apply q_a|apply q_b|apply q_c|apply q_d|apply q_e|apply q_f|apply q_g|apply q_h|apply q_i|apply q_j|apply q_k|apply q_m|apply q_n|apply q_o|apply q_p|refine q_l ?_)|((with_reducible first|refine q_q sr1_ok fun K hK=>?_|refine q_r sr1_ok fun K hK=>?_);simp (maxSteps:=2000000) only [go_sem,↓reduceIte,reduceCtorEq,Nat.reduceLeDiff,Nat.reduceLT,Nat.reduceBEq,Nat.reduceAdd,c0, c1, c2, List.getD_cons_zero, List.getD_cons_succ, ho, hz, decide_true];(repeat1' with_reducible first|apply And.intro|(intro _;try exact q_v)|(refine hK _ ?_;clear hK K))<;>(try (clear hK K;exact q_u)))|(with_reducible refine q_s ?_;(first|apply q_J|apply q_K|apply q_L|apply q_M|apply q_N|apply q_O)<;>try (intro _;try exact q_v))|with_reducible refine q_t ?_)
        all_goals try omega
        refine q_F ⟨0 + 1, by omega, ?_, ?_, ?_⟩ ?_ (by simp only; omega)
        · intro h; first | exact hp | exact h2 (by omega)
        · intro h; first | exact hp | exact h3 (by omega) | omega
        · intro h; first | exact hp | exact h4 (by omega) | omega
        · exact q_D
      · subst hgb
        repeat' (first|(with_reducible first|apply q_a|apply q_b|apply q_c|apply q_d|apply q_e|apply q_f|apply q_g|apply q_h|apply q_i|apply q_j|apply q_k|apply q_m|apply q_n|apply q_o|apply q_p|refine q_l ?_)|((with_reducible first|refine q_q sr1_ok fun K hK=>?_|refine q_r sr1_ok fun K hK=>?_);simp (maxSteps:=2000000) only [go_sem,↓reduceIte,reduceCtorEq,Nat.reduceLeDiff,Nat.reduceLT,Nat.reduceBEq,Nat.reduceAdd,c0, c1, c2, List.getD_cons_zero, List.getD_cons_succ, ho];(repeat1' with_reducible first|apply And.intro|(intro _;try exact q_v)|(refine hK _ ?_;clear hK K))<;>(try (clear hK K;exact q_u)))|(with_reducible refine q_s ?_;(first|apply q_J|apply q_K|apply q_L|apply q_M|apply q_N|apply q_O)<;>try (intro _;try exact q_v))|with_reducible refine q_t ?_)
        all_goals try omega
        refine q_F ⟨0 + 1, by omega, ?_, ?_, ?_⟩ ?_ (by simp only; omega)
        · intro h; first | exact hp | exact h2 (by omega)
        · intro h; first | exact hp | exact h3 (by omega) | omega
        · intro h; first | exact hp | exact h4 (by omega) | omega
        · exact q_D
  · rcases Bool.eq_false_or_eq_true (prt s1 x1 g1) with hp | hp
    rotate_left
    · have eF : slF (prt s0 x0 g0) (prt s1 x1 g1) (prt s2 x2 g2) g2 x2.length = 6 := by
        unfold slF; rw [if_neg (fun h => by first | (rw [hp] at h; exact absurd h.1 (by decide)) | (rw [hp] at h; exact absurd h.2.1 (by decide)) | (rw [hp] at h; exact absurd h.2.2 (by decide)))]
      have eI : slI (prt s0 x0 g0) (prt s1 x1 g1) (prt s2 x2 g2) g2 x2.length = -1 := by unfold slI; rw [eF]; rfl
      rw [eF, eI]
      rcases prt_bad hp with ho | ⟨ho, hg, hl⟩
      · repeat' (first|(with_reducible first|apply q_a|apply q_b|apply q_c|apply q_d|apply q_e|apply q_f|apply q_g|apply q_h|apply q_i|apply q_j|apply q_k|apply q_m|apply q_n|apply q_o|apply q_p|refine q_l ?_)|((with_reducible first|refine q_q sr1_ok fun K hK=>?_|refine q_r sr1_ok fun K hK=>?_);simp (maxSteps:=2000000) only [go_sem,↓reduceIte,reduceCtorEq,Nat.reduceLeDiff,Nat.reduceLT,Nat.reduceBEq,Nat.reduceAdd,c0, c1, c2, List.getD_cons_zero, List.getD_cons_succ, ho];(repeat1' with_reducible first|apply And.intro|(intro _;try exact q_v)|(refine hK _ ?_;clear hK K))<;>(try (clear hK K;exact q_u)))|(with_reducible refine q_s ?_;(first|apply q_J|apply q_K|apply q_L|apply q_M|apply q_N|apply q_O)<;>try (intro _;try exact q_v))|with_reducible refine q_t ?_)
        all_goals first | omega | exact q_A rfl
      · have hn := okZ_Nrm ho b1
        have hz : (sv 4294967296 s1 x1 = 0) = False := eq_false (fun e => hl ((len_zero ho b1).1 e))
        subst hg
        repeat' (first|(with_reducible first|apply q_a|apply q_b|apply q_c|apply q_d|apply q_e|apply q_f|apply q_g|apply q_h|apply q_i|apply q_j|apply q_k|apply q_m|apply q_n|apply q_o|apply q_p|refine q_l ?_)|((with_reducible first|refine q_q sr1_ok fun K hK=>?_|refine q_r sr1_ok fun K hK=>?_);simp (maxSteps:=2000000) only [go_sem,↓reduceIte,reduceCtorEq,Nat.reduceLeDiff,Nat.reduceLT,Nat.reduceBEq,Nat.reduceAdd,c0, c1, c2, List.getD_cons_zero, List.getD_cons_succ, ho, hz, decide_false];(repeat1' with_reducible first|apply And.intro|(intro _;try exact q_v)|(refine hK _ ?_;clear hK K))<;>(try (clear hK K;exact q_u)))|(with_reducible refine q_s ?_;(first|apply q_J|apply q_K|apply q_L|apply q_M|apply q_N|apply q_O)<;>try (intro _;try exact q_v))|with_reducible refine q_t ?_)
        all_goals first | omega | exact q_A rfl
    · obtain ⟨ho, hg⟩ := prt_good hp
      have hn := okZ_Nrm ho b1
      have hz := len_zero ho b1
      rcases Bool.eq_false_or_eq_true g1 with hgb | hgb
      rotate_left
      · have hz : (sv 4294967296 s1 x1 = 0) = True := eq_true (hz.2 (hg hgb))
        subst hgb
        repeat' (first|(with_reducible first|apply q_a|apply q_b|apply q_c|apply q_d|apply q_e|apply q_f|apply q_g|apply q_h|apply q_i|apply q_j|apply q_k|apply q_m|apply q_n|apply q_o|apply q_p|refine q_l ?_)|((with_reducible first|refine q_q sr1_ok fun K hK=>?_|refine q_r sr1_ok fun K hK=>?_);simp (maxSteps:=2000000) only [go_sem,↓reduceIte,reduceCtorEq,Nat.reduceLeDiff,Nat.reduceLT,Nat.reduceBEq,Nat.reduceAdd,c0, c1, c2, List.getD_cons_zero, List.getD_cons_succ, ho, hz, decide_true];(repeat1' with_reducible first|apply And.intro|(intro _;try exact q_v)|(refine hK _ ?_;clear hK K))<;>(try (clear hK K;exact q_u)))|(with_reducible refine q_s ?_;(first|apply q_J|apply q_K|apply q_L|apply q_M|apply q_N|apply q_O)<;>try (intro _;try exact q_v))|with_reducible refine q_t ?_)
        all_goals try omega
        refine q_F ⟨1 + 1, by omega, ?_, ?_, ?_⟩ ?_ (by simp only; omega)
        · intro h; first | exact hp | exact h2 (by omega)
        · intro h; first | exact hp | exact h3 (by omega) | omega
        · intro h; first | exact hp | exact h4 (by omega) | omega
        · exact q_D
      · subst hgb
        repeat' (first|(with_reducible first|apply q_a|apply q_b|apply q_c|apply q_d|apply q_e|apply q_f|apply q_g|apply q_h|apply q_i|apply q_j|apply q_k|apply q_m|apply q_n|apply q_o|apply q_p|refine q_l ?_)|((with_reducible first|refine q_q sr1_ok fun K hK=>?_|refine q_r sr1_ok fun K hK=>?_);simp (maxSteps:=2000000) only [go_sem,↓reduceIte,reduceCtorEq,Nat.reduceLeDiff,Nat.reduceLT,Nat.reduceBEq,Nat.reduceAdd,c0, c1, c2, List.getD_cons_zero, List.getD_cons_succ, ho];(repeat1' with_reducible first|apply And.intro|(intro _;try exact q_v)|(refine hK _ ?_;clear hK K))<;>(try (clear hK K;exact q_u)))|(with_reducible refine q_s ?_;(first|apply q_J|apply q_K|apply q_L|apply q_M|apply q_N|apply q_O)<;>try (intro _;try exact q_v))|with_reducible refine q_t ?_)
        all_goals try omega
        refine q_F ⟨1 + 1, by omega, ?_, ?_, ?_⟩ ?_ (by simp only; omega)
        · intro h; first | exact hp | exact h2 (by omega)
        · intro h; first | exact hp | exact h3 (by omega) | omega
        · intro h; first | exact hp | exact h4 (by omega) | omega
        · exact q_D
  · rcases Bool.eq_false_or_eq_true (prt s2 x2 g2) with hp | hp
    rotate_left
    · have eF : slF (prt s0 x0 g0) (prt s1 x1 g1) (prt s2 x2 g2) g2 x2.length = 6 := by
        unfold slF; rw [if_neg (fun h => by first | (rw [hp] at h; exact absurd h.1 (by decide)) | (rw [hp] at h; exact absurd h.2.1 (by decide)) | (rw [hp] at h; exact absurd h.2.2 (by decide)))]
      have eI : slI (prt s0 x0 g0) (prt s1 x1 g1) (prt s2 x2 g2) g2 x2.length = -1 := by unfold slI; rw [eF]; rfl
      rw [eF, eI]
      rcases prt_bad hp with ho | ⟨ho, hg, hl⟩
      · repeat' (first|(with_reducible first|apply q_a|apply q_b|apply q_c|apply q_d|apply q_e|apply q_f|apply q_g|apply q_h|apply q_i|apply q_j|apply q_k|apply q_m|apply q_n|apply q_o|apply q_p|refine q_l ?_)|((with_reducible first|refine q_q sr1_ok fun K hK=>?_|refine q_r sr1_ok fun K hK=>?_);simp (maxSteps:=2000000) only [go_sem,↓reduceIte,reduceCtorEq,Nat.reduceLeDiff,Nat.reduceLT,Nat.reduceBEq,Nat.reduceAdd,c0, c1, c2, List.getD_cons_zero, List.getD_cons_succ, ho];(repeat1' with_reducible first|apply And.intro|(intro _;try exact q_v)|(refine hK _ ?_;clear hK K))<;>(try (clear hK K;exact q_u)))|(with_reducible refine q_s ?_;(first|apply q_J|apply q_K|apply q_L|apply q_M|apply q_N|apply q_O)<;>try (intro _;try exact q_v))|with_reducible refine q_t ?_)
        all_goals first | omega | exact q_A rfl
      · have hn := okZ_Nrm ho b2
        have hz : (sv 4294967296 s2 x2 = 0) = False := eq_false (fun e => hl ((len_zero ho b2).1 e))
        subst hg
        repeat' (first|(with_reducible first|apply q_a|apply q_b|apply q_c|apply q_d|apply q_e|apply q_f|apply q_g|apply q_h|apply q_i|apply q_j|apply q_k|apply q_m|apply q_n|apply q_o|apply q_p|refine q_l ?_)|((with_reducible first|refine q_q sr1_ok fun K hK=>?_|refine q_r sr1_ok fun K hK=>?_);simp (maxSteps:=2000000) only [go_sem,↓reduceIte,reduceCtorEq,Nat.reduceLeDiff,Nat.reduceLT,Nat.reduceBEq,Nat.reduceAdd,c0, c1, c2, List.getD_cons_zero, List.getD_cons_succ, ho, hz, decide_false];(repeat1' with_reducible first|apply And.intro|(intro _;try exact q_v)|(refine hK _ ?_;clear hK K))<;>(try (clear hK K;exact q_u)))|(with_reducible refine q_s ?_;(first|apply q_J|apply q_K|apply q_L|apply q_M|apply q_N|apply q_O)<;>try (intro _;try exact q_v))|with_reducible refine q_t ?_)
        all_goals first | omega | exact q_A rfl
    · obtain ⟨ho, hg⟩ := prt_good hp
      have hn := okZ_Nrm ho b2
      have hz := len_zero ho b2
      rcases Bool.eq_false_or_eq_true g2 with hgb | hgb
      rotate_left
      · have hz : (sv 4294967296 s2 x2 = 0) = True := eq_true (hz.2 (hg hgb))
        subst hgb
        repeat' (first|(with_reducible first|apply q_a|apply q_b|apply q_c|apply q_d|apply q_e|apply q_f|apply q_g|apply q_h|apply q_i|apply q_j|apply q_k|apply q_m|apply q_n|apply q_o|apply q_p|refine q_l ?_)|((with_reducible first|refine q_q sr1_ok fun K hK=>?_|refine q_r sr1_ok fun K hK=>?_);simp (maxSteps:=2000000) only [go_sem,↓reduceIte,reduceCtorEq,Nat.reduceLeDiff,Nat.reduceLT,Nat.reduceBEq,Nat.reduceAdd,c0, c1, c2, List.getD_cons_zero, List.getD_cons_succ, ho, hz, decide_true];(repeat1' with_reducible first|apply And.intro|(intro _;try exact q_v)|(refine hK _ ?_;clear hK K))<;>(try (clear hK K;exact q_u)))|(with_reducible refine q_s ?_;(first|apply q_J|apply q_K|apply q_L|apply q_M|apply q_N|apply q_O)<;>try (intro _;try exact q_v))|with_reducible refine q_t ?_)
        all_goals try omega
        refine q_F ⟨2 + 1, by omega, ?_, ?_, ?_⟩ ?_ (by simp only; omega)
        · intro h; first | exact hp | exact h2 (by omega)
        · intro h; first | exact hp | exact h3 (by omega) | omega
        · intro h; first | exact hp | exact h4 (by omega) | omega
        · exact q_D
      · subst hgb
        repeat' (first|(with_reducible first|apply q_a|apply q_b|apply q_c|apply q_d|apply q_e|apply q_f|apply q_g|apply q_h|apply q_i|apply q_j|apply q_k|apply q_m|apply q_n|apply q_o|apply q_p|refine q_l ?_)|((with_reducible first|refine q_q sr1_ok fun K hK=>?_|refine q_r sr1_ok fun K hK=>?_);simp (maxSteps:=2000000) only [go_sem,↓reduceIte,reduceCtorEq,Nat.reduceLeDiff,Nat.reduceLT,Nat.reduceBEq,Nat.reduceAdd,c0, c1, c2, List.getD_cons_zero, List.getD_cons_succ, ho];(repeat1' with_reducible first|apply And.intro|(intro _;try exact q_v)|(refine hK _ ?_;clear hK K))<;>(try (clear hK K;exact q_u)))|(with_reducible refine q_s ?_;(first|apply q_J|apply q_K|apply q_L|apply q_M|apply q_N|apply q_O)<;>try (intro _;try exact q_v))|with_reducible refine q_t ?_)
        all_goals try omega
        refine q_F ⟨2 + 1, by omega, ?_, ?_, ?_⟩ ?_ (by simp only; omega)
        · intro h; first | exact hp | exact h2 (by omega)
        · intro h; first | exact hp | exact h3 (by omega) | omega
        · intro h; first | exact hp | exact h4 (by omega) | omega
        · exact q_D
  · have p0 := h2 (by omega)
    have p1 := h3 (by omega)
    have p2 := h4 (by omega)
    have ho := (prt_good p2).1
    have hn := okZ_Nrm ho b2
    have hz := len_zero ho b2
    have eF : slF (prt s0 x0 g0) (prt s1 x1 g1) (prt s2 x2 g2) g2 x2.length = (if g2 = true ∧ x2.length = 0 then 22 else 0) := by unfold slF; rw [if_pos ⟨p0, p1, p2⟩]
    have eI : slI (prt s0 x0 g0) (prt s1 x1 g1) (prt s2 x2 g2) g2 x2.length = (if g2 = true ∧ x2.length = 0 then -1 else 0) := by unfold slI; rw [eF]; split <;> rfl
    rw [eF, eI]
    by_cases hl : x2.length = 0
    · have hz' : (sv 4294967296 s2 x2 = 0) = True := eq_true (hz.2 hl)
      rcases Bool.eq_false_or_eq_true g2 with hg | hg
      all_goals
        subst hg
        repeat' (first|(with_reducible first|apply q_a|apply q_b|apply q_c|apply q_d|apply q_e|apply q_f|apply q_g|apply q_h|apply q_i|apply q_j|apply q_k|apply q_m|apply q_n|apply q_o|apply q_p|refine q_l ?_)|((with_reducible first|refine q_q sr1_ok fun K hK=>?_|refine q_r sr1_ok fun K hK=>?_);simp (maxSteps:=2000000) only [go_sem,↓reduceIte,reduceCtorEq,Nat.reduceLeDiff,Nat.reduceLT,Nat.reduceBEq,Nat.reduceAdd,ho, hz', decide_true];(repeat1' with_reducible first|apply And.intro|(intro _;try exact q_v)|(refine hK _ ?_;clear hK K))<;>(try (clear hK K;exact q_u)))|(with_reducible refine q_s ?_;(first|apply q_J|apply q_K|apply q_L|apply q_M|apply q_N|apply q_O)<;>try (intro _;try exact q_v))|with_reducible refine q_t ?_)
        all_goals first | omega | exact q_A (by simp [resAV, q_y, hl])
    · have hz' : (sv 4294967296 s2 x2 = 0) = False := eq_false (fun e => hl (hz.1 e))
      rcases Bool.eq_false_or_eq_true g2 with hg | hg
      all_goals
        subst hg
        repeat' (first|(with_reducible first|apply q_a|apply q_b|apply q_c|apply q_d|apply q_e|apply q_f|apply q_g|apply q_h|apply q_i|apply q_j|apply q_k|apply q_m|apply q_n|apply q_o|apply q_p|refine q_l ?_)|((with_reducible first|refine q_q sr1_ok fun K hK=>?_|refine q_r sr1_ok fun K hK=>?_);simp (maxSteps:=2000000) only [go_sem,↓reduceIte,reduceCtorEq,Nat.reduceLeDiff,Nat.reduceLT,Nat.reduceBEq,Nat.reduceAdd,ho, hz', decide_false];(repeat1' with_reducible first|apply And.intro|(intro _;try exact q_v)|(refine hK _ ?_;clear hK K))<;>(try (clear hK K;exact q_u)))|(with_reducible refine q_s ?_;(first|apply q_J|apply q_K|apply q_L|apply q_M|apply q_N|apply q_O)<;>try (intro _;try exact q_v))|with_reducible refine q_t ?_)
        all_goals first | omega | exact q_A (by simp [resAV, q_y, hl])
def sfCT : CT := mkCT [.inr [none, some (.ints .u32 []), none, some (.ints .u32 []), none, some (.ints .u32 []), none, none, none]] true fun l K => match l with
  | [.inr [.b s0, .ints .u32 x0, .b s1, .ints .u32 x1, .b s2, .ints .u32 x2, .b g0, .b g1, .b g2]] => ((x0.length ≤ 140737488355328 ∧ x1.length ≤ 140737488355328 ∧ x2.length ≤ 140737488355328) ∧ InB 4294967296 x0 ∧ InB 4294967296 x1 ∧ InB 4294967296 x2) ∧
      K (.g [.i .i64 (slF (prt s0 x0 g0) (prt s1 x1 g1) (prt s2 x2 g2) g2 x2.length), .i .i64 (slI (prt s0 x0 g0) (prt s1 x1 g1) (prt s2 x2 g2) g2 x2.length)])
  | _ => False
def sj1 : Cfg := addT 55 sfCT jt12
theorem sj1_ok : TblOk Try.prog sj1 := q_I jt12_ok Try.func55 fun l K h => by
  split at h
  · exact ⟨_, (sliceFault_ret _ _ _ _ _ _ _ _ _ h.1.1.1 h.1.1.2.1 h.1.1.2.2 h.1.2.1 h.1.2.2.1 h.1.2.2.2).plain rfl, h.2⟩
  · exact h.elim
attribute [go_sem] sfCT
def sr2 : Cfg := listT [(18, numberCT), (68, (rI2CT 4194304 ordF)), (29, (rI2CT 1048576 addF)), (47, intOfCT)] [30]
theorem sr2_ok : TblOk Try.prog sr2 := listT_ok (big := jt12) jt12_ok ⟨rfl, rfl, rfl, rfl, trivial⟩
attribute [go_sem] sr2
theorem len_i64 {z : Int} (h : -9223372036854775808 ≤ z ∧ z ≤ 9223372036854775807) : (dg 65536 z.natAbs).length ≤ 4 := dg_len_le (by omega) _ _ (by omega)
theorem cz_le (a b : Int) : cmpZ a b ≤ 0 ↔ a ≤ b := by unfold cmpZ; (repeat' split) <;> omega
theorem cz_ge (a b : Int) : 0 ≤ cmpZ a b ↔ b ≤ a := by unfold cmpZ; (repeat' split) <;> omega
theorem cz_eq (a b : Int) : cmpZ a b = 0 ↔ a = b := by unfold cmpZ; (repeat' split) <;> omega
set_option maxHeartbeats 3200000 in
theorem near_ret (t : Bool) (ys : List Int) (lo hi : Int) (by1 : InB 65536 ys) (ty : Trd ys) (ly : ys.length ≤ 4194304) (h0 : -4611686018427387904 ≤ lo) (h1 : lo ≤ hi) (h2 : hi ≤ 4611686018427387904) :
    Ret Try.prog 95 false [.inr [.b t, .ints .i64 ys], .inl (.i .i64 lo), .inl (.i .i64 hi)] (.c (.i .i64 (bnd (sv 65536 t ys) lo hi))) := by
  generalize hz : sv 65536 t ys = z
  have k1 := cz_le z lo
  have k2 := cz_ge z hi
  have nlo := len_i64 (z := lo) (by omega)
  have nhi := len_i64 (z := hi) (by omega)
  (refine q_H Try.func95 (fun F => ?_); simp only [q_z,q_y,Try.ntmps95,Try.results95])
  repeat' (first|(with_reducible first|apply q_a|apply q_b|apply q_c|apply q_d|apply q_e|apply q_f|apply q_g|apply q_h|apply q_i|apply q_j|apply q_k|apply q_m|apply q_n|apply q_o|apply q_p|refine q_l ?_)|((with_reducible first|refine q_q sr2_ok fun K hK=>?_|refine q_r sr2_ok fun K hK=>?_);simp (maxSteps:=2000000) only [go_sem,↓reduceIte,reduceCtorEq,Nat.reduceLeDiff,Nat.reduceLT,Nat.reduceBEq,Nat.reduceAdd,hz];(repeat1' with_reducible first|apply And.intro|(intro _;try exact q_v)|(refine hK _ ?_;clear hK K))<;>(try (clear hK K;exact q_u)))|(with_reducible refine q_s ?_;(first|apply q_J|apply q_K|apply q_L|apply q_M|apply q_N|apply q_O)<;>try (intro _;try exact q_v))|with_reducible refine q_t ?_)
  all_goals try omega
  · exact q_A (by rw [show bnd z lo hi = lo by unfold bnd; omega]; rfl)
  · exact q_A (by rw [show bnd z lo hi = hi by unfold bnd; omega]; rfl)
  · rename_i q1 q2
    rw [show bnd z lo hi = z by unfold bnd; omega]
    refine q_G (ι := { n : Int // lo ≤ n ∧ n ≤ z }) (fun n => ⟨29, [(3, .bx 0 0), (7, .c (.i .i64 n.1))], ⟨[(0, [.c (.b t), .c (.ints .i64 ys)])], [], []⟩, 1⟩) (fun n => (z - n.1).toNat) ⟨lo, by omega, by omega⟩ ?_ ?_
    · exact q_D
    rintro ⟨n, n1, n2⟩
    simp only at n1 n2 ⊢
    have k3 := cz_eq z n
    have nn := len_i64 (z := n) (by omega)
    repeat' (first|(with_reducible first|apply q_a|apply q_b|apply q_c|apply q_d|apply q_e|apply q_f|apply q_g|apply q_h|apply q_i|apply q_j|apply q_k|apply q_m|apply q_n|apply q_o|apply q_p|refine q_l ?_)|((with_reducible first|refine q_q sr2_ok fun K hK=>?_|refine q_r sr2_ok fun K hK=>?_);simp (maxSteps:=2000000) only [go_sem,↓reduceIte,reduceCtorEq,Nat.reduceLeDiff,Nat.reduceLT,Nat.reduceBEq,Nat.reduceAdd,hz];(repeat1' with_reducible first|apply And.intro|(intro _;try exact q_v)|(refine hK _ ?_;clear hK K))<;>(try (clear hK K;exact q_u)))|(with_reducible refine q_s ?_;(first|apply q_J|apply q_K|apply q_L|apply q_M|apply q_N|apply q_O)<;>try (intro _;try exact q_v))|with_reducible refine q_t ?_)
    all_goals try omega
    · refine q_F ⟨n + 1, by omega, by omega⟩ ?_ (by simp only; omega)
      exact q_D
    · exact q_A (by rw [show z = n by omega]; rfl)
def nearCT : CT := mkCT [nR] true fun l K => match l with
  | [.inr [.b t, .ints .i64 ys], .inl (.i .i64 lo), .inl (.i .i64 hi)] => ((InB 65536 ys ∧ Trd ys ∧ ys.length ≤ 4194304) ∧ -4611686018427387904 ≤ lo ∧ lo ≤ hi ∧ hi ≤ 4611686018427387904) ∧ K (.c (.i .i64 (bnd (sv 65536 t ys) lo hi)))
  | _ => False
def sj2 : Cfg := addT 95 nearCT sj1
theorem sj2_ok : TblOk Try.prog sj2 := q_I sj1_ok Try.func95 fun l K h => by
  split at h
  · obtain ⟨⟨⟨h1, h2, h3⟩, h4, h5, h6⟩, h⟩ := h
    exact ⟨_, (near_ret _ _ _ _ h1 h2 h3 h4 h5 h6).plain rfl, h⟩
  · exact h.elim
attribute [go_sem] nearCT
end Go.Proofs.Ytlefdhkjbbdijaa

namespace Go.Proofs.Ytlefdhkjbbdijaa
set_option linter.unusedSimpArgs false
set_option linter.unusedVariables false
open Go.Abs Go.Proofs.NatL

def numbersCT : CT := mkCT [.inl (some (.ints .i64 [])), .inl (some (.ints .i64 []))] true fun l K => match l with
  | [.inl (.ints .i64 xs), .inl (.ints .i64 ys)] => (xs.length ≤ 16777216 ∧ ys.length ≤ 16777216) ∧ K (.c (.b (decide (xs = ys))))
  | _ => False
def sw1 : Cfg := addT 58 numbersCT sj1
theorem sw1_ok : TblOk Try.prog sw1 := q_I sj1_ok Try.func58 fun l K h => by
  split at h
  · exact ⟨_, (numbers_ret _ _ h.1.1 h.1.2).plain rfl, h.2⟩
  · exact h.elim
attribute [go_sem] numbersCT
def scu : Cfg := listT [(13, iOfCT), (91, resCT), (52, putCT), (58, numbersCT)] [30]
theorem scu_ok : TblOk Try.prog scu := listE_ok (by simp only [List.mem_singleton, forall_eq]; exact flt) ⟨⟨iu1, iu1_ok, rfl⟩, ⟨su8, su8_ok, rfl⟩, ⟨sv2, sv2_ok, rfl⟩, ⟨sw1, sw1_ok, rfl⟩, trivial⟩
attribute [go_sem] scu
set_option maxRecDepth 100000 in
set_option maxHeartbeats 3200000 in
theorem cuts_ret : Ret Try.prog 54 false [] (.c (.b true)) := by
  have f1 : putO [1, 2, 3] [8, 9] 9 (rSt (decide ((1 : Int) < 0)) (dg 4294967296 (Int.natAbs 1)) true ((3 : Nat) : Int) (rSp false [] false)) (rSp false [] false) (slCnt (rSt (decide ((1 : Int) < 0)) (dg 4294967296 (Int.natAbs 1)) true ((3 : Nat) : Int) (rSp false [] false)) (rSo false [] true ((3 : Nat) : Int) (rSp false [] false)) (rSp false [] false)) = [.inl (.ints .i64 [1, 8, 9, 2, 3]), .inr [.i .i64 0, .i .i64 0]] := by kernel_rfl
  have f2 : rSp (decide ((-2 : Int) < 0)) (dg 4294967296 (-2 : Int).natAbs) true = -2 := by kernel_rfl
  have f3 : rSt false [] false 5 (-2) = 4 := by kernel_rfl
  have f4 : slCnt 4 (rSo false [] false 5 (-2)) (-2) = 3 := by kernel_rfl
  have f5 : slF (prt false [] false) (prt false [] false) (prt (decide ((-2 : Int) < 0)) (dg 4294967296 (-2 : Int).natAbs) true) true (dg 4294967296 (-2 : Int).natAbs).length = 0 := by kernel_rfl
  have f6 : slF (prt (decide ((1 : Int) < 0)) (dg 4294967296 (Int.natAbs 1)) true) (prt false [] true) (prt false [] false) false 0 = 0 := by kernel_rfl
  have l1 : (dg 4294967296 (-2 : Int).natAbs).length ≤ 140737488355328 := by decide +kernel
  have l2 : (dg 4294967296 (Int.natAbs 1)).length ≤ 140737488355328 := by decide +kernel
  (refine q_H Try.func54 (fun F => ?_); simp only [q_z,q_y,Try.ntmps54,Try.results54])
  repeat' (first|(with_reducible first|apply q_a|apply q_b|apply q_c|apply q_d|apply q_e|apply q_f|apply q_g|apply q_h|apply q_i|apply q_j|apply q_k|apply q_m|apply q_n|apply q_o|apply q_p|refine q_l ?_)|((with_reducible first|refine q_q scu_ok fun K hK=>?_|refine q_r scu_ok fun K hK=>?_);simp (maxSteps:=2000000) only [go_sem,↓reduceIte,reduceCtorEq,Nat.reduceLeDiff,Nat.reduceLT,Nat.reduceBEq,Nat.reduceAdd,f1, f2, f3, f4, f5, f6, decide_true];(repeat1' with_reducible first|apply And.intro|(intro _;try exact q_v)|(refine hK _ ?_;clear hK K))<;>(try (clear hK K;exact q_u)))|(with_reducible refine q_s ?_;(first|apply q_J|apply q_K|apply q_L|apply q_M|apply q_N|apply q_O)<;>try (intro _;try exact q_v))|with_reducible refine q_t ?_)
  all_goals first | contradiction | omega | exact q_A rfl | exact q_A (by simp [resAV, q_y])
def cutsCT : CT := mkCT [] true fun l K => match l with
  | [] => K (.c (.b true))
  | _ => False
def sw2 : Cfg := addT 54 cutsCT sw1
theorem sw2_ok : TblOk Try.prog sw2 := q_I sw1_ok Try.func54 fun l K h => by
  split at h
  · exact ⟨_, cuts_ret.plain rfl, h⟩
  · exact h.elim
attribute [go_sem] cutsCT
end Go.Proofs.Ytlefdhkjbbdijaa

namespace Go.Proofs.Ytlefdhkjbbdijaa
set_option linter.unusedSimpArgs false
set_option linter.unusedVariables false
open Go.Abs Go.Proofs.NatL

section
variable {cf : Cfg} {st : St}
theorem fz_lookup {t : TypeId} {x i : Operand} {ok : Bool} : fzFor cf st (.lookup t x i ok) = st := rfl
theorem fz_mapUpdate {t : TypeId} {x i y : Operand} : fzFor cf st (.mapUpdate t x i y) = st := rfl
theorem fz_makeMap {t : TypeId} {r : Option Operand} : fzFor cf st (.makeMap t r) = st := rfl
end
attribute [go_sem] fz_lookup fz_mapUpdate fz_makeMap
set_option maxRecDepth 100000 in
set_option maxHeartbeats 3200000 in
theorem drop_bad (xs : List Int) (s0 s1 s2 g0 g1 g2 : Bool) (x0 x1 x2 : List Int) (l0 : x0.length ≤ 140737488355328) (l1 : x1.length ≤ 140737488355328) (l2 : x2.length ≤ 140737488355328) (b0 : InB 4294967296 x0) (b1 : InB 4294967296 x1) (b2 : InB 4294967296 x2)
    (hF : slF (prt s0 x0 g0) (prt s1 x1 g1) (prt s2 x2 g2) g2 x2.length ≠ 0) :
    Ret Try.prog 53 false [.inl (.ints .i64 xs), .inr [.b s0, .ints .u32 x0, .b s1, .ints .u32 x1, .b s2, .ints .u32 x2, .b g0, .b g1, .b g2]]
      (.t [.inl (.ints .i64 []), .inr [.i .i64 (slF (prt s0 x0 g0) (prt s1 x1 g1) (prt s2 x2 g2) g2 x2.length), .i .i64 (-1)]]) := by
  (refine q_H Try.func53 (fun F => ?_); simp only [q_z,q_y,Try.ntmps53,Try.results53])
  repeat' (first|(with_reducible first|apply q_a|apply q_b|apply q_c|apply q_d|apply q_e|apply q_f|apply q_g|apply q_h|apply q_i|apply q_j|apply q_k|apply q_m|apply q_n|apply q_o|apply q_p|refine q_l ?_)|((with_reducible first|refine q_q sbt_ok fun K hK=>?_|refine q_r sbt_ok fun K hK=>?_);simp (maxSteps:=2000000) only [go_sem,↓reduceIte,reduceCtorEq,Nat.reduceLeDiff,Nat.reduceLT,Nat.reduceBEq,Nat.reduceAdd,hF];(repeat1' with_reducible first|apply And.intro|(intro _;try exact q_v)|(refine hK _ ?_;clear hK K))<;>(try (clear hK K;exact q_u)))|(with_reducible refine q_s ?_;(first|apply q_J|apply q_K|apply q_L|apply q_M|apply q_N|apply q_O)<;>try (intro _;try exact q_v))|with_reducible refine q_t ?_)
  all_goals first | contradiction | exact q_B [.inl (some (.ints .i64 [])), .inr [none, none]] rfl rfl
def goneF (ps : List Int) : Int → Option C := fun x => if x ∈ ps then some (.b true) else none
theorem mem_pos {st sp : Int} {c : Nat} {x : Int} : x ∈ slPos st sp c ↔ ∃ k : Nat, k < c ∧ x = st + (k : Int) * sp := by
  unfold slPos
  constructor
  · intro h
    obtain ⟨k, hk, e⟩ := List.mem_map.1 h
    exact ⟨k, List.mem_range.1 hk, e.symm⟩
  · rintro ⟨k, hk, e⟩
    exact List.mem_map.2 ⟨k, List.mem_range.2 hk, e.symm⟩
theorem pos_new {st sp : Int} (h : sp ≠ 0) (k : Nat) : st + (k : Int) * sp ∉ slPos st sp k := fun hm => by
  obtain ⟨j, hj, e⟩ := mem_pos.1 hm
  have e2 : (k : Int) * sp = (j : Int) * sp := by omega
  have := Int.eq_of_mul_eq_mul_right h e2
  omega
theorem gone_step (st sp : Int) (k : Nat) (y : Int) : (if y = st + (k : Int) * sp then some (C.b true) else goneF (slPos st sp k) y) = goneF (slPos st sp (k + 1)) y := by
  unfold goneF
  rw [slPos_succ]
  by_cases h : y = st + (k : Int) * sp
  · subst h; rw [if_pos rfl, if_pos (by simp)]
  · rw [if_neg h]
    by_cases h2 : y ∈ slPos st sp k
    · rw [if_pos h2, if_pos (by simp [h2])]
    · rw [if_neg h2, if_neg (by simp [h2, h])]
set_option maxRecDepth 100000 in
set_option maxHeartbeats 6400000 in
theorem drop_ok (xs : List Int) (s0 s1 s2 g0 g1 g2 : Bool) (x0 x1 x2 : List Int) (l0 : x0.length ≤ 140737488355328) (l1 : x1.length ≤ 140737488355328) (l2 : x2.length ≤ 140737488355328) (b0 : InB 4294967296 x0) (b1 : InB 4294967296 x1) (b2 : InB 4294967296 x2)
    (hF : slF (prt s0 x0 g0) (prt s1 x1 g1) (prt s2 x2 g2) g2 x2.length = 0) (hl : xs.length ≤ 4000) (st sp : Int) (c : Nat) (hst : rSt s0 x0 g0 xs.length (rSp s2 x2 g2) = st) (hsp : rSp s2 x2 g2 = sp)
    (hc : slCnt (rSt s0 x0 g0 xs.length (rSp s2 x2 g2)) (rSo s1 x1 g1 xs.length (rSp s2 x2 g2)) (rSp s2 x2 g2) = c) :
    Ret Try.prog 53 false [.inl (.ints .i64 xs), .inr [.b s0, .ints .u32 x0, .b s1, .ints .u32 x1, .b s2, .ints .u32 x2, .b g0, .b g1, .b g2]]
      (.t [.inl (.ints .i64 (dropL xs (slPos st sp c) xs.length)), .inr [.i .i64 0, .i .i64 0]]) := by
  obtain ⟨r1, r2, r3, r4, r5, r6, r7⟩ := r_facts (s0 := s0) (s1 := s1) (g0 := g0) (g1 := g1) (x0 := x0) (x1 := x1) b2 hF (n := xs.length) (by omega)
  have r6 := r6 _ rfl
  rw [hc] at r5 r6
  rw [hst, hsp] at r5
  rw [hst] at r3 r7
  rw [hsp] at r1 r2 r7
  have hc' := hc
  rw [hsp] at hst hc'
  rw [hst] at hc'
  (refine q_H Try.func53 (fun F => ?_); simp only [q_z,q_y,Try.ntmps53,Try.results53])
  repeat' (first|(with_reducible first|apply q_a|apply q_b|apply q_c|apply q_d|apply q_e|apply q_f|apply q_g|apply q_h|apply q_i|apply q_j|apply q_k|apply q_m|apply q_n|apply q_o|apply q_p|refine q_l ?_)|((with_reducible first|refine q_q sbt_ok fun K hK=>?_|refine q_r sbt_ok fun K hK=>?_);simp (maxSteps:=2000000) only [go_sem,↓reduceIte,reduceCtorEq,Nat.reduceLeDiff,Nat.reduceLT,Nat.reduceBEq,Nat.reduceAdd,hF, hsp, hst, hc'];(repeat1' with_reducible first|apply And.intro|(intro _;try exact q_v)|(refine hK _ ?_;clear hK K))<;>(try (clear hK K;exact q_u)))|(with_reducible refine q_s ?_;(first|apply q_J|apply q_K|apply q_L|apply q_M|apply q_N|apply q_O)<;>try (intro _;try exact q_v))|with_reducible refine q_t ?_)
  all_goals try omega
  refine q_G (ι := { k : Nat // k ≤ c }) (fun k => ⟨58, [(0, .c (.ints .i64 xs)), (5, .bx 1 0), (6, .c (.i .i64 st)), (7, .c (.i .i64 sp)), (10, .mp 3), (29, .c (.i .i64 c)), (30, .c (.i .i64 (k.1 : Nat)))], ⟨[(3, [.mc (.i .i64 (goneF (slPos st sp k.1)) k.1)]), (1, [.c (.i .i64 0), .c (.i .i64 0)])], [], []⟩, 4⟩) (fun k => c - k.1) ⟨0, by omega⟩ ?_ ?_
  · ((simp only [go_sem,↓reduceIte,reduceCtorEq,Nat.reduceLeDiff,Nat.reduceLT,Nat.reduceBEq,Nat.reduceAdd])<;>(try (simp;done))<;>(try ((simp only [C.i.injEq,C.b.injEq,C.ints.injEq,C.bools.injEq,List.append_cancel_left_eq,List.cons.injEq,true_and,and_true]);(repeat' with_reducible apply And.intro)<;>(first|rfl|assumption|omega|(simp;omega)|(congr 1;omega)|(congr 2;omega)))))
    exact ⟨rfl, fun x => by simp [goneF, slPos]⟩
  rintro ⟨k, k1⟩
  simp only at k1 ⊢
  rcases Nat.lt_or_ge k c with hk | hk
  · have hr := r5 k hk
    have hnew : goneF (slPos st sp k) (st + (k : Int) * sp) = none := if_neg (pos_new r1 k)
    repeat' (first|(with_reducible first|apply q_a|apply q_b|apply q_c|apply q_d|apply q_e|apply q_f|apply q_g|apply q_h|apply q_i|apply q_j|apply q_k|apply q_m|apply q_n|apply q_o|apply q_p|refine q_l ?_)|((with_reducible first|refine q_q sbt_ok fun K hK=>?_|refine q_r sbt_ok fun K hK=>?_);simp (maxSteps:=2000000) only [go_sem,↓reduceIte,reduceCtorEq,Nat.reduceLeDiff,Nat.reduceLT,Nat.reduceBEq,Nat.reduceAdd,hnew];(repeat1' with_reducible first|apply And.intro|(intro _;try exact q_v)|(refine hK _ ?_;clear hK K))<;>(try (clear hK K;exact q_u)))|(with_reducible refine q_s ?_;(first|apply q_J|apply q_K|apply q_L|apply q_M|apply q_N|apply q_O)<;>try (intro _;try exact q_v))|with_reducible refine q_t ?_)
    all_goals try omega
    refine q_F ⟨k + 1, hk⟩ ?_ (by simp only; omega)
    ((simp only [go_sem,↓reduceIte,reduceCtorEq,Nat.reduceLeDiff,Nat.reduceLT,Nat.reduceBEq,Nat.reduceAdd])<;>(try (simp;done))<;>(try ((simp only [C.i.injEq,C.b.injEq,C.ints.injEq,C.bools.injEq,List.append_cancel_left_eq,List.cons.injEq,true_and,and_true]);(repeat' with_reducible apply And.intro)<;>(first|rfl|assumption|omega|(simp;omega)|(congr 1;omega)|(congr 2;omega)))))
    exact ⟨by simp, fun x => gone_step st sp k x⟩
  · have hk' : k = c := by omega
    subst hk'
    generalize slPos st sp k = ps
    have zq := zv4
    try simp only [zvO, oneCell, Value.oneCell'] at zq
    repeat' (first|(with_reducible first|apply q_a|apply q_b|apply q_c|apply q_d|apply q_e|apply q_f|apply q_g|apply q_h|apply q_i|apply q_j|apply q_k|apply q_m|apply q_n|apply q_o|apply q_p|refine q_l ?_)|((with_reducible first|refine q_q sbt_ok fun K hK=>?_|refine q_r sbt_ok fun K hK=>?_);simp (maxSteps:=2000000) only [go_sem,↓reduceIte,reduceCtorEq,Nat.reduceLeDiff,Nat.reduceLT,Nat.reduceBEq,Nat.reduceAdd];(repeat1' with_reducible first|apply And.intro|(intro _;try exact q_v)|(refine hK _ ?_;clear hK K))<;>(try (clear hK K;exact q_u)))|(with_reducible refine q_s ?_;(first|apply q_J|apply q_K|apply q_L|apply q_M|apply q_N|apply q_O)<;>try (intro _;try exact q_v))|with_reducible refine q_t ?_)
    all_goals try omega
    refine q_G (ι := { i : Nat // i ≤ xs.length }) (fun i => ⟨58, [(5, .bx 1 0), (10, .mp 3), (12, .own 4 0), (40, .c (.ints .i64 xs)), (41, .c (.i .i64 xs.length)), (42, .c (.i .i64 (i.1 : Nat)))], ⟨[(3, [.mc (.i .i64 (goneF ps) k)]), (1, [.c (.i .i64 0), .c (.i .i64 0)])], [(4, ⟨0, 3, 1, .ints .i64 (dropL xs ps i.1)⟩)], []⟩, 5⟩) (fun i => xs.length - i.1) ⟨0, by omega⟩ ?_ ?_
    · ((simp only [go_sem,↓reduceIte,reduceCtorEq,Nat.reduceLeDiff,Nat.reduceLT,Nat.reduceBEq,Nat.reduceAdd])<;>(try (simp;done))<;>(try ((simp only [C.i.injEq,C.b.injEq,C.ints.injEq,C.bools.injEq,List.append_cancel_left_eq,List.cons.injEq,true_and,and_true]);(repeat' with_reducible apply And.intro)<;>(first|rfl|assumption|omega|(simp;omega)|(congr 1;omega)|(congr 2;omega)))))
      all_goals (try (intro x; rfl))
    rintro ⟨i, i1⟩
    simp only at i1 ⊢
    have dl := dropL_le xs ps i
    rcases Nat.lt_or_ge i xs.length with hi | hi
    · by_cases hm : (i : Int) ∈ ps
      · have hg : goneF ps (i : Int) = some (.b true) := if_pos hm
        have hd : dropL xs ps (i + 1) = dropL xs ps i := if_pos hm
        repeat' (first|(with_reducible first|apply q_a|apply q_b|apply q_c|apply q_d|apply q_e|apply q_f|apply q_g|apply q_h|apply q_i|apply q_j|apply q_k|apply q_m|apply q_n|apply q_o|apply q_p|refine q_l ?_)|((with_reducible first|refine q_q sbt_ok fun K hK=>?_|refine q_r sbt_ok fun K hK=>?_);simp (maxSteps:=2000000) only [go_sem,↓reduceIte,reduceCtorEq,Nat.reduceLeDiff,Nat.reduceLT,Nat.reduceBEq,Nat.reduceAdd,hg, zq];(repeat1' with_reducible first|apply And.intro|(intro _;try exact q_v)|(refine hK _ ?_;clear hK K))<;>(try (clear hK K;exact q_u)))|(with_reducible refine q_s ?_;(first|apply q_J|apply q_K|apply q_L|apply q_M|apply q_N|apply q_O)<;>try (intro _;try exact q_v))|with_reducible refine q_t ?_)
        all_goals try omega
        refine q_F ⟨i + 1, hi⟩ ?_ (by simp only; omega)
        simp only [hd]
        ((simp only [go_sem,↓reduceIte,reduceCtorEq,Nat.reduceLeDiff,Nat.reduceLT,Nat.reduceBEq,Nat.reduceAdd])<;>(try (simp;done))<;>(try ((simp only [C.i.injEq,C.b.injEq,C.ints.injEq,C.bools.injEq,List.append_cancel_left_eq,List.cons.injEq,true_and,and_true]);(repeat' with_reducible apply And.intro)<;>(first|rfl|assumption|omega|(simp;omega)|(congr 1;omega)|(congr 2;omega)))))
        all_goals (try (intro x; rfl))
      · have hg : goneF ps (i : Int) = none := if_neg hm
        have hd : dropL xs ps (i + 1) = dropL xs ps i ++ [xs.getD i 0] := if_neg hm
        repeat' (first|(with_reducible first|apply q_a|apply q_b|apply q_c|apply q_d|apply q_e|apply q_f|apply q_g|apply q_h|apply q_i|apply q_j|apply q_k|apply q_m|apply q_n|apply q_o|apply q_p|refine q_l ?_)|((with_reducible first|refine q_q sbt_ok fun K hK=>?_|refine q_r sbt_ok fun K hK=>?_);simp (maxSteps:=2000000) only [go_sem,↓reduceIte,reduceCtorEq,Nat.reduceLeDiff,Nat.reduceLT,Nat.reduceBEq,Nat.reduceAdd,hg, zq];(repeat1' with_reducible first|apply And.intro|(intro _;try exact q_v)|(refine hK _ ?_;clear hK K))<;>(try (clear hK K;exact q_u)))|(with_reducible refine q_s ?_;(first|apply q_J|apply q_K|apply q_L|apply q_M|apply q_N|apply q_O)<;>try (intro _;try exact q_v))|with_reducible refine q_t ?_)
        all_goals try omega
        refine q_F ⟨i + 1, hi⟩ ?_ (by simp only; omega)
        simp only [hd]
        ((simp only [go_sem,↓reduceIte,reduceCtorEq,Nat.reduceLeDiff,Nat.reduceLT,Nat.reduceBEq,Nat.reduceAdd])<;>(try (simp;done))<;>(try ((simp only [C.i.injEq,C.b.injEq,C.ints.injEq,C.bools.injEq,List.append_cancel_left_eq,List.cons.injEq,true_and,and_true]);(repeat' with_reducible apply And.intro)<;>(first|rfl|assumption|omega|(simp;omega)|(congr 1;omega)|(congr 2;omega)))))
        all_goals (try (intro x; rfl))
    · have hi' : i = xs.length := by omega
      subst hi'
      repeat' (first|(with_reducible first|apply q_a|apply q_b|apply q_c|apply q_d|apply q_e|apply q_f|apply q_g|apply q_h|apply q_i|apply q_j|apply q_k|apply q_m|apply q_n|apply q_o|apply q_p|refine q_l ?_)|((with_reducible first|refine q_q sbt_ok fun K hK=>?_|refine q_r sbt_ok fun K hK=>?_);simp (maxSteps:=2000000) only [go_sem,↓reduceIte,reduceCtorEq,Nat.reduceLeDiff,Nat.reduceLT,Nat.reduceBEq,Nat.reduceAdd];(repeat1' with_reducible first|apply And.intro|(intro _;try exact q_v)|(refine hK _ ?_;clear hK K))<;>(try (clear hK K;exact q_u)))|(with_reducible refine q_s ?_;(first|apply q_J|apply q_K|apply q_L|apply q_M|apply q_N|apply q_O)<;>try (intro _;try exact q_v))|with_reducible refine q_t ?_)
      all_goals first | omega | exact q_B [.inl (some (.ints .i64 [])), .inr [none, none]] rfl rfl | exact q_A rfl
def dropCT : CT := mkCT [.inl (some (.ints .i64 [])), .inr [none, some (.ints .u32 []), none, some (.ints .u32 []), none, some (.ints .u32 []), none, none, none]] false fun l K => match l with
  | [.inl (.ints .i64 xs), .inr [.b s0, .ints .u32 x0, .b s1, .ints .u32 x1, .b s2, .ints .u32 x2, .b g0, .b g1, .b g2]] => (xs.length ≤ 4000 ∧ (x0.length ≤ 140737488355328 ∧ x1.length ≤ 140737488355328 ∧ x2.length ≤ 140737488355328) ∧ InB 4294967296 x0 ∧ InB 4294967296 x1 ∧ InB 4294967296 x2) ∧
      (slF (prt s0 x0 g0) (prt s1 x1 g1) (prt s2 x2 g2) g2 x2.length ≠ 0 → K (.t [.inl (.ints .i64 []), .inr [.i .i64 (slF (prt s0 x0 g0) (prt s1 x1 g1) (prt s2 x2 g2) g2 x2.length), .i .i64 (-1)]])) ∧
      (slF (prt s0 x0 g0) (prt s1 x1 g1) (prt s2 x2 g2) g2 x2.length = 0 → K (.t [.inl (.ints .i64 (dropL xs (slPos (rSt s0 x0 g0 xs.length (rSp s2 x2 g2)) (rSp s2 x2 g2) (slCnt (rSt s0 x0 g0 xs.length (rSp s2 x2 g2)) (rSo s1 x1 g1 xs.length (rSp s2 x2 g2)) (rSp s2 x2 g2))) xs.length)), .inr [.i .i64 0, .i .i64 0]]))
  | _ => False
def sv3 : Cfg := addT 53 dropCT sv1
theorem sv3_ok : TblOk Try.prog sv3 := q_I sv1_ok Try.func53 fun l K h => by
  split at h
  · rename_i xs s0 x0 s1 x1 s2 x2 g0 g1 g2
    obtain ⟨⟨hl, ⟨l0, l1, l2⟩, b0, b1, b2⟩, hbad, hok⟩ := h
    by_cases hF : slF (prt s0 x0 g0) (prt s1 x1 g1) (prt s2 x2 g2) g2 x2.length = 0
    · exact ⟨_, drop_ok xs s0 s1 s2 g0 g1 g2 x0 x1 x2 l0 l1 l2 b0 b1 b2 hF hl _ _ _ rfl rfl rfl, hok hF⟩
    · exact ⟨_, drop_bad xs s0 s1 s2 g0 g1 g2 x0 x1 x2 l0 l1 l2 b0 b1 b2 hF, hbad hF⟩
  · exact h.elim
attribute [go_sem] dropCT
end Go.Proofs.Ytlefdhkjbbdijaa
