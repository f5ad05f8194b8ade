import Derived.Test.YthfgapbcdhajiaaI4
import Derived.Test.YthfgapbcdhajiaaI5
import Derived.Test.YthfgapbcdhajiaaP6
namespace Go.Proofs.Ythfgapbcdhajiaa
set_option linter.unusedSimpArgs false
set_option linter.unusedVariables false
open Go.Abs Go.Proofs.NatL

abbrev rPw (z : Int) : AV := .t [.inr (gI (cl 128 z)), .inr [.i .i64 (clC 128 z), .i .i64 (clI 128 z)]]
def ibp : Cfg := listT [(70, atCT), (61, icheckCT), (63, isignedCT), (81, (goodCT (fun xs ys => fitN (mulN xs ys)) (fun xs ys => fitC (mulN xs ys)) (fun xs ys => fitI (mulN xs ys)))), (91, sameCT)] [27]
theorem ibp_ok : TblOk Try.prog ibp := listT_ok (big := iu3) iu3_ok ⟨rfl, rfl, rfl, rfl, rfl, trivial⟩
attribute [go_sem] ibp
theorem dg_inj {B m n : Nat} (hB : 2 ≤ B) (h : dg B m = dg B n) : m = n := by
  have := congrArg (V B) h
  rwa [V_dg B hB, V_dg B hB] at this
set_option maxRecDepth 100000 in
set_option maxHeartbeats 3200000 in
theorem iPow_false (m n : Nat) (hs : false = true → 0 < m) (hn : n ≤ 10000) (ho : okZ false (dg 4294967296 m) = true) (la : (dg 4294967296 m).length ≤ 128) :
    Ret Try.prog 49 false [.inr [.b false, .ints .u32 (dg 4294967296 m)], .inl (.i .i64 (n : Int))] (rPw (sg false m ^ n)) := by
  have ka := okN_128 la
  have e1 : ([1] : List Int) = dg 4294967296 (m ^ 0) := by rw [Nat.pow_zero]; decide
  have hodd := tmod2 n
  have hodd2 : decide (((n % 2 : Nat) : Int) = 1) = decide (n % 2 = 1) := by congr 1; exact propext ⟨fun h => by omega, fun h => by omega⟩
  have hp := sg_pow false m n
  have l1 : (dg 4294967296 (m ^ 0)).length ≤ 128 := by rw [Nat.pow_zero]; exact Nat.le_trans (dg_len_le (B := 4294967296) (by omega) _ 1 (by decide)) (by omega)
  have habs : ∀ k, (sg false m ^ k).natAbs = m ^ k := fun k => by rw [abs_pow, sg_abs]
  (refine q_H Try.func49 (fun F => ?_); simp only [q_z,q_y,Try.ntmps49,Try.results49])
  repeat' (first|(with_reducible first|apply q_a|apply q_b|apply q_c|apply q_d|apply q_e|apply q_f|apply q_g|apply q_h|apply q_i|apply q_j|apply q_k|apply q_m|apply q_n|apply q_o|apply q_p|refine q_l ?_)|((with_reducible first|refine q_q ibp_ok fun K hK=>?_|refine q_r ibp_ok fun K hK=>?_);simp (maxSteps:=2000000) only [go_sem,↓reduceIte,reduceCtorEq,Nat.reduceLeDiff,Nat.reduceLT,Nat.reduceBEq,Nat.reduceAdd,ho, e1];(repeat1' with_reducible first|apply And.intro|(intro _;try exact q_v)|(refine hK _ ?_;clear hK K))<;>(try (clear hK K;exact q_u)))|(with_reducible refine q_s ?_;(first|apply q_J|apply q_K|apply q_L|apply q_M|apply q_N|apply q_O)<;>try (intro _;try exact q_v))|with_reducible refine q_t ?_)
  refine q_G (ι := { i : Nat // i ≤ n ∧ (dg 4294967296 (m ^ i)).length ≤ 128 }) (fun i => ⟨63, [(1, .c (.i .i64 (n : Int))), (2, .bx 0 0), (4, .bx 1 0), (5, .bx 2 0), (7, .c (.ints .u32 (dg 4294967296 (m ^ i.1)))), (27, .c (.i .i64 (n : Int))), (28, .c (.i .i64 (i.1 : Nat)))], ⟨[(2, [.c (.i .i64 0), .c (.i .i64 0)]), (1, [.c (.b false), .c .nil]), (0, [.c (.b false), .c (.ints .u32 (dg 4294967296 m))])], [], []⟩, 4⟩) (fun i => n - i.1) ⟨0, by omega, l1⟩ ?_ ?_
  · exact q_D
  rintro ⟨i, g1, g2⟩
  simp only at g1 g2 ⊢
  have ki := okN_128 g2
  have hm : mulN (dg 4294967296 (m ^ i)) (dg 4294967296 m) = dg 4294967296 (m ^ (i + 1)) := by rw [mulNd', Nat.pow_succ]
  have g3 : (dg 4294967296 (m ^ (i + 1))).length ≤ 256 := by rw [Nat.pow_succ]; exact mul_len (by omega) g2 la
  obtain ⟨f1, f2, f3⟩ := fit_small (Nat.le_trans g3 (by omega))
  have hend : ∀ j, j ≤ n → m ^ j = m ^ n → sv 4294967296 (false && decide (n % 2 = 1)) (dg 4294967296 (m ^ j)) = sg false m ^ n := fun j _ h => by rw [h, sv32d, hp]
  simp only [Bool.true_and, Bool.false_and] at hend
  rcases Nat.lt_or_ge i n with hi | hi
  · by_cases hbig : (dg 4294967296 (m ^ (i + 1))).length ≤ 128
    · by_cases heq : dg 4294967296 (m ^ (i + 1)) = dg 4294967296 (m ^ i)
      · have hst : m ^ i = m ^ n := by
          have := pow_stays (m := m) (i := i) (by rw [← Nat.pow_succ]; exact dg_inj (by omega) heq) (n - i)
          rw [show i + (n - i) = n by omega] at this; exact this.symm
        have hend := hend i g1 hst
        have hdec : decide (dg 4294967296 (m ^ (i + 1)) = dg 4294967296 (m ^ i)) = true := decide_eq_true heq
        repeat' (first|(with_reducible first|apply q_a|apply q_b|apply q_c|apply q_d|apply q_e|apply q_f|apply q_g|apply q_h|apply q_i|apply q_j|apply q_k|apply q_m|apply q_n|apply q_o|apply q_p|refine q_l ?_)|((with_reducible first|refine q_q ibp_ok fun K hK=>?_|refine q_r ibp_ok fun K hK=>?_);simp (maxSteps:=2000000) only [go_sem,↓reduceIte,reduceCtorEq,Nat.reduceLeDiff,Nat.reduceLT,Nat.reduceBEq,Nat.reduceAdd,ki, ka, hm, f1, f2, f3, hdec, hodd, hodd2, hend];(repeat1' with_reducible first|apply And.intro|(intro _;try exact q_v)|(refine hK _ ?_;clear hK K))<;>(try (clear hK K;exact q_u)))|(with_reducible refine q_s ?_;(first|apply q_J|apply q_K|apply q_L|apply q_M|apply q_N|apply q_O)<;>try (intro _;try exact q_v))|with_reducible refine q_t ?_)
        all_goals first | omega | exact q_A rfl | skip
      · have hdec : decide (dg 4294967296 (m ^ (i + 1)) = dg 4294967296 (m ^ i)) = false := decide_eq_false heq
        repeat' (first|(with_reducible first|apply q_a|apply q_b|apply q_c|apply q_d|apply q_e|apply q_f|apply q_g|apply q_h|apply q_i|apply q_j|apply q_k|apply q_m|apply q_n|apply q_o|apply q_p|refine q_l ?_)|((with_reducible first|refine q_q ibp_ok fun K hK=>?_|refine q_r ibp_ok fun K hK=>?_);simp (maxSteps:=2000000) only [go_sem,↓reduceIte,reduceCtorEq,Nat.reduceLeDiff,Nat.reduceLT,Nat.reduceBEq,Nat.reduceAdd,ki, ka, hm, f1, f2, f3, hdec];(repeat1' with_reducible first|apply And.intro|(intro _;try exact q_v)|(refine hK _ ?_;clear hK K))<;>(try (clear hK K;exact q_u)))|(with_reducible refine q_s ?_;(first|apply q_J|apply q_K|apply q_L|apply q_M|apply q_N|apply q_O)<;>try (intro _;try exact q_v))|with_reducible refine q_t ?_)
        all_goals first | omega | skip
        refine q_F ⟨i + 1, hi, hbig⟩ ?_ (by simp only; omega)
        exact q_D
    · have hbad : ¬ (dg 4294967296 (sg false m ^ n).natAbs).length ≤ 128 := fun h => hbig (by
        have := pow_len (a := sg false m) (k := i + 1) (n := n) hi (by omega) h
        rwa [habs] at this)
      obtain ⟨c1, c2, c3⟩ := cl_big hbad
      repeat' (first|(with_reducible first|apply q_a|apply q_b|apply q_c|apply q_d|apply q_e|apply q_f|apply q_g|apply q_h|apply q_i|apply q_j|apply q_k|apply q_m|apply q_n|apply q_o|apply q_p|refine q_l ?_)|((with_reducible first|refine q_q ibp_ok fun K hK=>?_|refine q_r ibp_ok fun K hK=>?_);simp (maxSteps:=2000000) only [go_sem,↓reduceIte,reduceCtorEq,Nat.reduceLeDiff,Nat.reduceLT,Nat.reduceBEq,Nat.reduceAdd,ki, ka, hm, f1, f2, f3];(repeat1' with_reducible first|apply And.intro|(intro _;try exact q_v)|(refine hK _ ?_;clear hK K))<;>(try (clear hK K;exact q_u)))|(with_reducible refine q_s ?_;(first|apply q_J|apply q_K|apply q_L|apply q_M|apply q_N|apply q_O)<;>try (intro _;try exact q_v))|with_reducible refine q_t ?_)
      all_goals first | omega | (refine q_B [nP] rfl ?_; simp only [rPw, c1, c2, c3, norm, nz, nzL, resAV]; rfl) | skip
  · have hi' : i = n := by omega
    subst hi'
    have hend := hend i g1 rfl
    repeat' (first|(with_reducible first|apply q_a|apply q_b|apply q_c|apply q_d|apply q_e|apply q_f|apply q_g|apply q_h|apply q_i|apply q_j|apply q_k|apply q_m|apply q_n|apply q_o|apply q_p|refine q_l ?_)|((with_reducible first|refine q_q ibp_ok fun K hK=>?_|refine q_r ibp_ok fun K hK=>?_);simp (maxSteps:=2000000) only [go_sem,↓reduceIte,reduceCtorEq,Nat.reduceLeDiff,Nat.reduceLT,Nat.reduceBEq,Nat.reduceAdd,ki, ka, hodd, hodd2, hend];(repeat1' with_reducible first|apply And.intro|(intro _;try exact q_v)|(refine hK _ ?_;clear hK K))<;>(try (clear hK K;exact q_u)))|(with_reducible refine q_s ?_;(first|apply q_J|apply q_K|apply q_L|apply q_M|apply q_N|apply q_O)<;>try (intro _;try exact q_v))|with_reducible refine q_t ?_)
    all_goals first | omega | exact q_A rfl | skip
set_option maxRecDepth 100000 in
set_option maxHeartbeats 3200000 in
theorem iPow_true (m n : Nat) (hs : true = true → 0 < m) (hn : n ≤ 10000) (ho : okZ true (dg 4294967296 m) = true) (la : (dg 4294967296 m).length ≤ 128) :
    Ret Try.prog 49 false [.inr [.b true, .ints .u32 (dg 4294967296 m)], .inl (.i .i64 (n : Int))] (rPw (sg true m ^ n)) := by
  have ka := okN_128 la
  have e1 : ([1] : List Int) = dg 4294967296 (m ^ 0) := by rw [Nat.pow_zero]; decide
  have hodd := tmod2 n
  have hodd2 : decide (((n % 2 : Nat) : Int) = 1) = decide (n % 2 = 1) := by congr 1; exact propext ⟨fun h => by omega, fun h => by omega⟩
  have hp := sg_pow true m n
  have l1 : (dg 4294967296 (m ^ 0)).length ≤ 128 := by rw [Nat.pow_zero]; exact Nat.le_trans (dg_len_le (B := 4294967296) (by omega) _ 1 (by decide)) (by omega)
  have habs : ∀ k, (sg true m ^ k).natAbs = m ^ k := fun k => by rw [abs_pow, sg_abs]
  (refine q_H Try.func49 (fun F => ?_); simp only [q_z,q_y,Try.ntmps49,Try.results49])
  repeat' (first|(with_reducible first|apply q_a|apply q_b|apply q_c|apply q_d|apply q_e|apply q_f|apply q_g|apply q_h|apply q_i|apply q_j|apply q_k|apply q_m|apply q_n|apply q_o|apply q_p|refine q_l ?_)|((with_reducible first|refine q_q ibp_ok fun K hK=>?_|refine q_r ibp_ok fun K hK=>?_);simp (maxSteps:=2000000) only [go_sem,↓reduceIte,reduceCtorEq,Nat.reduceLeDiff,Nat.reduceLT,Nat.reduceBEq,Nat.reduceAdd,ho, e1];(repeat1' with_reducible first|apply And.intro|(intro _;try exact q_v)|(refine hK _ ?_;clear hK K))<;>(try (clear hK K;exact q_u)))|(with_reducible refine q_s ?_;(first|apply q_J|apply q_K|apply q_L|apply q_M|apply q_N|apply q_O)<;>try (intro _;try exact q_v))|with_reducible refine q_t ?_)
  refine q_G (ι := { i : Nat // i ≤ n ∧ (dg 4294967296 (m ^ i)).length ≤ 128 }) (fun i => ⟨63, [(1, .c (.i .i64 (n : Int))), (2, .bx 0 0), (4, .bx 1 0), (5, .bx 2 0), (7, .c (.ints .u32 (dg 4294967296 (m ^ i.1)))), (27, .c (.i .i64 (n : Int))), (28, .c (.i .i64 (i.1 : Nat)))], ⟨[(2, [.c (.i .i64 0), .c (.i .i64 0)]), (1, [.c (.b false), .c .nil]), (0, [.c (.b true), .c (.ints .u32 (dg 4294967296 m))])], [], []⟩, 4⟩) (fun i => n - i.1) ⟨0, by omega, l1⟩ ?_ ?_
  · exact q_D
  rintro ⟨i, g1, g2⟩
  simp only at g1 g2 ⊢
  have ki := okN_128 g2
  have hm : mulN (dg 4294967296 (m ^ i)) (dg 4294967296 m) = dg 4294967296 (m ^ (i + 1)) := by rw [mulNd', Nat.pow_succ]
  have g3 : (dg 4294967296 (m ^ (i + 1))).length ≤ 256 := by rw [Nat.pow_succ]; exact mul_len (by omega) g2 la
  obtain ⟨f1, f2, f3⟩ := fit_small (Nat.le_trans g3 (by omega))
  have hend : ∀ j, j ≤ n → m ^ j = m ^ n → sv 4294967296 (true && decide (n % 2 = 1)) (dg 4294967296 (m ^ j)) = sg true m ^ n := fun j _ h => by rw [h, sv32d, hp]
  simp only [Bool.true_and, Bool.false_and] at hend
  rcases Nat.lt_or_ge i n with hi | hi
  · by_cases hbig : (dg 4294967296 (m ^ (i + 1))).length ≤ 128
    · by_cases heq : dg 4294967296 (m ^ (i + 1)) = dg 4294967296 (m ^ i)
      · have hst : m ^ i = m ^ n := by
          have := pow_stays (m := m) (i := i) (by rw [← Nat.pow_succ]; exact dg_inj (by omega) heq) (n - i)
          rw [show i + (n - i) = n by omega] at this; exact this.symm
        have hend := hend i g1 hst
        have hdec : decide (dg 4294967296 (m ^ (i + 1)) = dg 4294967296 (m ^ i)) = true := decide_eq_true heq
        repeat' (first|(with_reducible first|apply q_a|apply q_b|apply q_c|apply q_d|apply q_e|apply q_f|apply q_g|apply q_h|apply q_i|apply q_j|apply q_k|apply q_m|apply q_n|apply q_o|apply q_p|refine q_l ?_)|((with_reducible first|refine q_q ibp_ok fun K hK=>?_|refine q_r ibp_ok fun K hK=>?_);simp (maxSteps:=2000000) only [go_sem,↓reduceIte,reduceCtorEq,Nat.reduceLeDiff,Nat.reduceLT,Nat.reduceBEq,Nat.reduceAdd,ki, ka, hm, f1, f2, f3, hdec, hodd, hodd2, hend];(repeat1' with_reducible first|apply And.intro|(intro _;try exact q_v)|(refine hK _ ?_;clear hK K))<;>(try (clear hK K;exact q_u)))|(with_reducible refine q_s ?_;(first|apply q_J|apply q_K|apply q_L|apply q_M|apply q_N|apply q_O)<;>try (intro _;try exact q_v))|with_reducible refine q_t ?_)
        all_goals first | omega | exact q_A rfl | skip
      · have hdec : decide (dg 4294967296 (m ^ (i + 1)) = dg 4294967296 (m ^ i)) = false := decide_eq_false heq
        repeat' (first|(with_reducible first|apply q_a|apply q_b|apply q_c|apply q_d|apply q_e|apply q_f|apply q_g|apply q_h|apply q_i|apply q_j|apply q_k|apply q_m|apply q_n|apply q_o|apply q_p|refine q_l ?_)|((with_reducible first|refine q_q ibp_ok fun K hK=>?_|refine q_r ibp_ok fun K hK=>?_);simp (maxSteps:=2000000) only [go_sem,↓reduceIte,reduceCtorEq,Nat.reduceLeDiff,Nat.reduceLT,Nat.reduceBEq,Nat.reduceAdd,ki, ka, hm, f1, f2, f3, hdec];(repeat1' with_reducible first|apply And.intro|(intro _;try exact q_v)|(refine hK _ ?_;clear hK K))<;>(try (clear hK K;exact q_u)))|(with_reducible refine q_s ?_;(first|apply q_J|apply q_K|apply q_L|apply q_M|apply q_N|apply q_O)<;>try (intro _;try exact q_v))|with_reducible refine q_t ?_)
        all_goals first | omega | skip
        refine q_F ⟨i + 1, hi, hbig⟩ ?_ (by simp only; omega)
        exact q_D
    · have hbad : ¬ (dg 4294967296 (sg true m ^ n).natAbs).length ≤ 128 := fun h => hbig (by
        have := pow_len (a := sg true m) (k := i + 1) (n := n) hi (by omega) h
        rwa [habs] at this)
      obtain ⟨c1, c2, c3⟩ := cl_big hbad
      repeat' (first|(with_reducible first|apply q_a|apply q_b|apply q_c|apply q_d|apply q_e|apply q_f|apply q_g|apply q_h|apply q_i|apply q_j|apply q_k|apply q_m|apply q_n|apply q_o|apply q_p|refine q_l ?_)|((with_reducible first|refine q_q ibp_ok fun K hK=>?_|refine q_r ibp_ok fun K hK=>?_);simp (maxSteps:=2000000) only [go_sem,↓reduceIte,reduceCtorEq,Nat.reduceLeDiff,Nat.reduceLT,Nat.reduceBEq,Nat.reduceAdd,ki, ka, hm, f1, f2, f3];(repeat1' with_reducible first|apply And.intro|(intro _;try exact q_v)|(refine hK _ ?_;clear hK K))<;>(try (clear hK K;exact q_u)))|(with_reducible refine q_s ?_;(first|apply q_J|apply q_K|apply q_L|apply q_M|apply q_N|apply q_O)<;>try (intro _;try exact q_v))|with_reducible refine q_t ?_)
      all_goals first | omega | (refine q_B [nP] rfl ?_; simp only [rPw, c1, c2, c3, norm, nz, nzL, resAV]; rfl) | skip
  · have hi' : i = n := by omega
    subst hi'
    have hend := hend i g1 rfl
    repeat' (first|(with_reducible first|apply q_a|apply q_b|apply q_c|apply q_d|apply q_e|apply q_f|apply q_g|apply q_h|apply q_i|apply q_j|apply q_k|apply q_m|apply q_n|apply q_o|apply q_p|refine q_l ?_)|((with_reducible first|refine q_q ibp_ok fun K hK=>?_|refine q_r ibp_ok fun K hK=>?_);simp (maxSteps:=2000000) only [go_sem,↓reduceIte,reduceCtorEq,Nat.reduceLeDiff,Nat.reduceLT,Nat.reduceBEq,Nat.reduceAdd,ki, ka, hodd, hodd2, hend];(repeat1' with_reducible first|apply And.intro|(intro _;try exact q_v)|(refine hK _ ?_;clear hK K))<;>(try (clear hK K;exact q_u)))|(with_reducible refine q_s ?_;(first|apply q_J|apply q_K|apply q_L|apply q_M|apply q_N|apply q_O)<;>try (intro _;try exact q_v))|with_reducible refine q_t ?_)
    all_goals first | omega | exact q_A rfl | skip
set_option maxHeartbeats 1600000 in
theorem iPow_range (s : Bool) (xs : List Int) (n : Int) (ho : okZ s xs = true) (lx : xs.length ≤ 140737488355328) (hn : n < 0 ∨ 10000 < n) :
    Ret Try.prog 49 false [.inr [.b s, .ints .u32 xs], .inl (.i .i64 n)] (.t [.inr [.b false, .ints .u32 []], .inr [.i .i64 4, .i .i64 (-2)]]) := by
  (refine q_H Try.func49 (fun F => ?_); simp only [q_z,q_y,Try.ntmps49,Try.results49])
  repeat' (first|(with_reducible first|apply q_a|apply q_b|apply q_c|apply q_d|apply q_e|apply q_f|apply q_g|apply q_h|apply q_i|apply q_j|apply q_k|apply q_m|apply q_n|apply q_o|apply q_p|refine q_l ?_)|((with_reducible first|refine q_q ibp_ok fun K hK=>?_|refine q_r ibp_ok fun K hK=>?_);simp (maxSteps:=2000000) only [go_sem,↓reduceIte,reduceCtorEq,Nat.reduceLeDiff,Nat.reduceLT,Nat.reduceBEq,Nat.reduceAdd,ho];(repeat1' with_reducible first|apply And.intro|(intro _;try exact q_v)|(refine hK _ ?_;clear hK K))<;>(try (clear hK K;exact q_u)))|(with_reducible refine q_s ?_;(first|apply q_J|apply q_K|apply q_L|apply q_M|apply q_N|apply q_O)<;>try (intro _;try exact q_v))|with_reducible refine q_t ?_)
  all_goals first | omega | exact q_B [nP] rfl rfl
set_option maxHeartbeats 1600000 in
theorem iPow_bad (s : Bool) (xs : List Int) (n : Int) (ho : okZ s xs = false) (lx : xs.length ≤ 140737488355328) :
    Ret Try.prog 49 false [.inr [.b s, .ints .u32 xs], .inl (.i .i64 n)] (.t [.inr [.b false, .ints .u32 []], .inr [.i .i64 6, .i .i64 (-1)]]) := by
  (refine q_H Try.func49 (fun F => ?_); simp only [q_z,q_y,Try.ntmps49,Try.results49])
  repeat' (first|(with_reducible first|apply q_a|apply q_b|apply q_c|apply q_d|apply q_e|apply q_f|apply q_g|apply q_h|apply q_i|apply q_j|apply q_k|apply q_m|apply q_n|apply q_o|apply q_p|refine q_l ?_)|((with_reducible first|refine q_q ibp_ok fun K hK=>?_|refine q_r ibp_ok fun K hK=>?_);simp (maxSteps:=2000000) only [go_sem,↓reduceIte,reduceCtorEq,Nat.reduceLeDiff,Nat.reduceLT,Nat.reduceBEq,Nat.reduceAdd,ho];(repeat1' with_reducible first|apply And.intro|(intro _;try exact q_v)|(refine hK _ ?_;clear hK K))<;>(try (clear hK K;exact q_u)))|(with_reducible refine q_s ?_;(first|apply q_J|apply q_K|apply q_L|apply q_M|apply q_N|apply q_O)<;>try (intro _;try exact q_v))|with_reducible refine q_t ?_)
  all_goals first | omega | exact q_B [nP] rfl rfl

end Go.Proofs.Ythfgapbcdhajiaa
