import Derived.Test.YtlefdhkjbbdijaaG13
import Derived.Test.YtlefdhkjbbdijaaG14
import Derived.Test.YtlefdhkjbbdijaaG15
import Derived.Test.YtlefdhkjbbdijaaG19
import Derived.Test.YtlefdhkjbbdijaaG21
namespace Go.Proofs.Ytlefdhkjbbdijaa
set_option linter.unusedSimpArgs false
set_option linter.unusedVariables false
open Go.Abs Go.Proofs.NatL

abbrev rPw (z : Int) : AV := .t [.inr (gI (cl 128 z)), .inr [.i .i64 (clC 128 z), .i .i64 (clI 128 z)]]
def ibp : Cfg := listT [(114, atCT), (87, icheckCT), (105, isignedCT), (82, (goodCT (fun xs ys => fitN (mulN xs ys)) (fun xs ys => fitC (mulN xs ys)) (fun xs ys => fitI (mulN xs ys)))), (115, sameCT)] [30]
theorem ibp_ok : TblOk Try.prog ibp := listT_ok (big := iu3) iu3_ok ⟨rfl, rfl, rfl, rfl, rfl, trivial⟩
attribute [go_sem] ibp
theorem dg_inj {B m n : Nat} (hB : 2 ≤ B) (h : dg B m = dg B n) : m = n := by
  have := congrArg (V B) h
  rwa [V_dg B hB, V_dg B hB] at this
set_option maxRecDepth 100000 in
set_option maxHeartbeats 3200000 in
theorem iPow_false (m n : Nat) (hs : false = true → 0 < m) (hn : n ≤ 10000) (ho : okZ false (dg 4294967296 m) = true) (la : (dg 4294967296 m).length ≤ 128) :
    Ret Try.prog 88 false [.inr [.b false, .ints .u32 (dg 4294967296 m)], .inl (.i .i64 (n : Int))] (rPw (sg false m ^ n)) := by
  have ka := okN_128 la
  have e1 : ([1] : List Int) = dg 4294967296 (m ^ 0) := by rw [Nat.pow_zero]; decide
  have hodd := tmod2 n
  have hodd2 : decide (((n % 2 : Nat) : Int) = 1) = decide (n % 2 = 1) := by congr 1; exact propext ⟨fun h => by omega, fun h => by omega⟩
  have hp := sg_pow false m n
  have l1 : (dg 4294967296 (m ^ 0)).length ≤ 128 := by rw [Nat.pow_zero]; exact Nat.le_trans (dg_len_le (B := 4294967296) (by omega) _ 1 (by decide)) (by omega)
  have habs : ∀ k, (sg false m ^ k).natAbs = m ^ k := fun k => by rw [abs_pow, sg_abs]
  (refine q_H Try.func88 (fun F => ?_); simp only [q_z,q_y,Try.ntmps88,Try.results88])
  repeat' (first|(with_reducible first|apply q_a|apply q_b|apply q_c|apply q_d|apply q_e|apply q_f|apply q_g|apply q_h|apply q_i|apply q_j|apply q_k|apply q_m|apply q_n|apply q_o|apply q_p|refine q_l ?_)|((with_reducible first|refine q_q ibp_ok fun K hK=>?_|refine q_r ibp_ok fun K hK=>?_);simp (maxSteps:=2000000) only [go_sem,↓reduceIte,reduceCtorEq,Nat.reduceLeDiff,Nat.reduceLT,Nat.reduceBEq,Nat.reduceAdd,ho, e1];(repeat1' with_reducible first|apply And.intro|(intro _;try exact q_v)|(refine hK _ ?_;clear hK K))<;>(try (clear hK K;exact q_u)))|(with_reducible refine q_s ?_;(first|apply q_J|apply q_K|apply q_L|apply q_M|apply q_N|apply q_O)<;>try (intro _;try exact q_v))|with_reducible refine q_t ?_)
  refine q_G (ι := { i : Nat // i ≤ n ∧ (dg 4294967296 (m ^ i)).length ≤ 128 }) (fun i => ⟨63, [(1, .c (.i .i64 (n : Int))), (2, .bx 0 0), (4, .bx 1 0), (5, .bx 2 0), (7, .c (.ints .u32 (dg 4294967296 (m ^ i.1)))), (27, .c (.i .i64 (n : Int))), (28, .c (.i .i64 (i.1 : Nat)))], ⟨[(2, [.c (.i .i64 0), .c (.i .i64 0)]), (1, [.c (.b false), .c .nil]), (0, [.c (.b false), .c (.ints .u32 (dg 4294967296 m))])], [], []⟩, 4⟩) (fun i => n - i.1) ⟨0, by omega, l1⟩ ?_ ?_
  · exact q_D
  rintro ⟨i, g1, g2⟩
  simp only at g1 g2 ⊢
  have ki := okN_128 g2
  have hm : mulN (dg 4294967296 (m ^ i)) (dg 4294967296 m) = dg 4294967296 (m ^ (i + 1)) := by rw [mulNd', Nat.pow_succ]
  have g3 : (dg 4294967296 (m ^ (i + 1))).length ≤ 256 := by rw [Nat.pow_succ]; exact mul_len (by omega) g2 la
  obtain ⟨f1, f2, f3⟩ := fit_small (Nat.le_trans g3 (by omega))
  have hend : ∀ j, j ≤ n → m ^ j = m ^ n → sv 4294967296 (false && decide (n % 2 = 1)) (dg 4294967296 (m ^ j)) = sg false m ^ n := fun j _ h => by rw [h, sv32d, hp]
  simp only [Bool.true_and, Bool.false_and] at hend
  rcases Nat.lt_or_ge i n with hi | hi
  · by_cases hbig : (dg 4294967296 (m ^ (i + 1))).length ≤ 128
    · by_cases heq : dg 4294967296 (m ^ (i + 1)) = dg 4294967296 (m ^ i)
      · have hst : m ^ i = m ^ n := by
          have := pow_stays (m := m) (i := i) (by rw [← Nat.pow_succ]; exact dg_inj (by omega) heq) (n - i)
          rw [show i + (n - i) = n by omega] at this; exact this.symm
        have hend := hend i g1 hst
        have hdec : decide (dg 4294967296 (m ^ (i + 1)) = dg 4294967296 (m ^ i)) = true := decide_eq_true heq
        repeat' (first|(with_reducible first|apply q_a|apply q_b|apply q_c|apply q_d|apply q_e|apply q_f|apply q_g|apply q_h|apply q_i|apply q_j|apply q_k|apply q_m|apply q_n|apply q_o|apply q_p|refine q_l ?_)|((with_reducible first|refine q_q ibp_ok fun K hK=>?_|refine q_r ibp_ok fun K hK=>?_);simp (maxSteps:=2000000) only [go_sem,↓reduceIte,reduceCtorEq,Nat.reduceLeDiff,Nat.reduceLT,Nat.reduceBEq,Nat.reduceAdd,ki, ka, hm, f1, f2, f3, hdec, hodd, hodd2, hend];(repeat1' with_reducible first|apply And.intro|(intro _;try exact q_v)|(refine hK _ ?_;clear hK K))<;>(try (clear hK K;exact q_u)))|(with_reducible refine q_s ?_;(first|apply q_J|apply q_K|apply q_L|apply q_M|apply q_N|apply q_O)<;>try (intro _;try exact q_v))|with_reducible refine q_t ?_)
        all_goals first | omega | exact q_A rfl | skip
      · have hdec : decide (dg 4294967296 (m ^ (i + 1)) = dg 4294967296 (m ^ i)) = false := decide_eq_false heq
        repeat' (first|(with_reducible first|apply q_a|apply q_b|apply q_c|apply q_d|apply q_e|apply q_f|apply q_g|apply q_h|apply q_i|apply q_j|apply q_k|apply q_m|apply q_n|apply q_o|apply q_p|refine q_l ?_)|((with_reducible first|refine q_q ibp_ok fun K hK=>?_|refine q_r ibp_ok fun K hK=>?_);simp (maxSteps:=2000000) only [go_sem,↓reduceIte,reduceCtorEq,Nat.reduceLeDiff,Nat.reduceLT,Nat.reduceBEq,Nat.reduceAdd,ki, ka, hm, f1, f2, f3, hdec];(repeat1' with_reducible first|apply And.intro|(intro _;try exact q_v)|(refine hK _ ?_;clear hK K))<;>(try (clear hK K;exact q_u)))|(with_reducible refine q_s ?_;(first|apply q_J|apply q_K|apply q_L|apply q_M|apply q_N|apply q_O)<;>try (intro _;try exact q_v))|with_reducible refine q_t ?_)
        all_goals first | omega | skip
        refine q_F ⟨i + 1, hi, hbig⟩ ?_ (by simp only; omega)
        exact q_D
    · have hbad : ¬ (dg 4294967296 (sg false m ^ n).natAbs).length ≤ 128 := fun h => hbig (by
        have := pow_len (a := sg false m) (k := i + 1) (n := n) hi (by omega) h
        rwa [habs] at this)
      obtain ⟨c1, c2, c3⟩ := cl_big hbad
      repeat' (first|(with_reducible first|apply q_a|apply q_b|apply q_c|apply q_d|apply q_e|apply q_f|apply q_g|apply q_h|apply q_i|apply q_j|apply q_k|apply q_m|apply q_n|apply q_o|apply q_p|refine q_l ?_)|((with_reducible first|refine q_q ibp_ok fun K hK=>?_|refine q_r ibp_ok fun K hK=>?_);simp (maxSteps:=2000000) only [go_sem,↓reduceIte,reduceCtorEq,Nat.reduceLeDiff,Nat.reduceLT,Nat.reduceBEq,Nat.reduceAdd,ki, ka, hm, f1, f2, f3];(repeat1' with_reducible first|apply And.intro|(intro _;try exact q_v)|(refine hK _ ?_;clear hK K))<;>(try (clear hK K;exact q_u)))|(with_reducible refine q_s ?_;(first|apply q_J|apply q_K|apply q_L|apply q_M|apply q_N|apply q_O)<;>try (intro _;try exact q_v))|with_reducible refine q_t ?_)
      all_goals first | omega | (refine q_B [nP] rfl ?_; simp only [rPw, c1, c2, c3, norm, nz, nzL, resAV]; rfl) | skip
  · have hi' : i = n := by omega
    subst hi'
    have hend := hend i g1 rfl
    repeat' (first|(with_reducible first|apply q_a|apply q_b|apply q_c|apply q_d|apply q_e|apply q_f|apply q_g|apply q_h|apply q_i|apply q_j|apply q_k|apply q_m|apply q_n|apply q_o|apply q_p|refine q_l ?_)|((with_reducible first|refine q_q ibp_ok fun K hK=>?_|refine q_r ibp_ok fun K hK=>?_);simp (maxSteps:=2000000) only [go_sem,↓reduceIte,reduceCtorEq,Nat.reduceLeDiff,Nat.reduceLT,Nat.reduceBEq,Nat.reduceAdd,ki, ka, hodd, hodd2, hend];(repeat1' with_reducible first|apply And.intro|(intro _;try exact q_v)|(refine hK _ ?_;clear hK K))<;>(try (clear hK K;exact q_u)))|(with_reducible refine q_s ?_;(first|apply q_J|apply q_K|apply q_L|apply q_M|apply q_N|apply q_O)<;>try (intro _;try exact q_v))|with_reducible refine q_t ?_)
    all_goals first | omega | exact q_A rfl | skip
set_option maxRecDepth 100000 in
set_option maxHeartbeats 3200000 in
theorem iPow_true (m n : Nat) (hs : true = true → 0 < m) (hn : n ≤ 10000) (ho : okZ true (dg 4294967296 m) = true) (la : (dg 4294967296 m).length ≤ 128) :
    Ret Try.prog 88 false [.inr [.b true, .ints .u32 (dg 4294967296 m)], .inl (.i .i64 (n : Int))] (rPw (sg true m ^ n)) := by
  have ka := okN_128 la
  have e1 : ([1] : List Int) = dg 4294967296 (m ^ 0) := by rw [Nat.pow_zero]; decide
  have hodd := tmod2 n
  have hodd2 : decide (((n % 2 : Nat) : Int) = 1) = decide (n % 2 = 1) := by congr 1; exact propext ⟨fun h => by omega, fun h => by omega⟩
  have hp := sg_pow true m n
  have l1 : (dg 4294967296 (m ^ 0)).length ≤ 128 := by rw [Nat.pow_zero]; exact Nat.le_trans (dg_len_le (B := 4294967296) (by omega) _ 1 (by decide)) (by omega)
  have habs : ∀ k, (sg true m ^ k).natAbs = m ^ k := fun k => by rw [abs_pow, sg_abs]
  (refine q_H Try.func88 (fun F => ?_); simp only [q_z,q_y,Try.ntmps88,Try.results88])
  repeat' (first|(with_reducible first|apply q_a|apply q_b|apply q_c|apply q_d|apply q_e|apply q_f|apply q_g|apply q_h|apply q_i|apply q_j|apply q_k|apply q_m|apply q_n|apply q_o|apply q_p|refine q_l ?_)|((with_reducible first|refine q_q ibp_ok fun K hK=>?_|refine q_r ibp_ok fun K hK=>?_);simp (maxSteps:=2000000) only [go_sem,↓reduceIte,reduceCtorEq,Nat.reduceLeDiff,Nat.reduceLT,Nat.reduceBEq,Nat.reduceAdd,ho, e1];(repeat1' with_reducible first|apply And.intro|(intro _;try exact q_v)|(refine hK _ ?_;clear hK K))<;>(try (clear hK K;exact q_u)))|(with_reducible refine q_s ?_;(first|apply q_J|apply q_K|apply q_L|apply q_M|apply q_N|apply q_O)<;>try (intro _;try exact q_v))|with_reducible refine q_t ?_)
  refine q_G (ι := { i : Nat // i ≤ n ∧ (dg 4294967296 (m ^ i)).length ≤ 128 }) (fun i => ⟨63, [(1, .c (.i .i64 (n : Int))), (2, .bx 0 0), (4, .bx 1 0), (5, .bx 2 0), (7, .c (.ints .u32 (dg 4294967296 (m ^ i.1)))), (27, .c (.i .i64 (n : Int))), (28, .c (.i .i64 (i.1 : Nat)))], ⟨[(2, [.c (.i .i64 0), .c (.i .i64 0)]), (1, [.c (.b false), .c .nil]), (0, [.c (.b true), .c (.ints .u32 (dg 4294967296 m))])], [], []⟩, 4⟩) (fun i => n - i.1) ⟨0, by omega, l1⟩ ?_ ?_
  · exact q_D
  rintro ⟨i, g1, g2⟩
  simp only at g1 g2 ⊢
  have ki := okN_128 g2
  have hm : mulN (dg 4294967296 (m ^ i)) (dg 4294967296 m) = dg 4294967296 (m ^ (i + 1)) := by rw [mulNd', Nat.pow_succ]
  have g3 : (dg 4294967296 (m ^ (i + 1))).length ≤ 256 := by rw [Nat.pow_succ]; exact mul_len (by omega) g2 la
  obtain ⟨f1, f2, f3⟩ := fit_small (Nat.le_trans g3 (by omega))
  have hend : ∀ j, j ≤ n → m ^ j = m ^ n → sv 4294967296 (true && decide (n % 2 = 1)) (dg 4294967296 (m ^ j)) = sg true m ^ n := fun j _ h => by rw [h, sv32d, hp]
  simp only [Bool.true_and, Bool.false_and] at hend
  rcases Nat.lt_or_ge i n with hi | hi
  · by_cases hbig : (dg 4294967296 (m ^ (i + 1))).length ≤ 128
    · by_cases heq : dg 4294967296 (m ^ (i + 1)) = dg 4294967296 (m ^ i)
      · have hst : m ^ i = m ^ n := by
          have := pow_stays (m := m) (i := i) (by rw [← Nat.pow_succ]; exact dg_inj (by omega) heq) (n - i)
          rw [show i + (n - i) = n by omega] at this; exact this.symm
        have hend := hend i g1 hst
        have hdec : decide (dg 4294967296 (m ^ (i + 1)) = dg 4294967296 (m ^ i)) = true := decide_eq_true heq
        repeat' (first|(with_reducible first|apply q_a|apply q_b|apply q_c|apply q_d|apply q_e|apply q_f|apply q_g|apply q_h|apply q_i|apply q_j|apply q_k|apply q_m|apply q_n|apply q_o|apply q_p|refine q_l ?_)|((with_reducible first|refine q_q ibp_ok fun K hK=>?_|refine q_r ibp_ok fun K hK=>?_);simp (maxSteps:=2000000) only [go_sem,↓reduceIte,reduceCtorEq,Nat.reduceLeDiff,Nat.reduceLT,Nat.reduceBEq,Nat.reduceAdd,ki, ka, hm, f1, f2, f3, hdec, hodd, hodd2, hend];(repeat1' with_reducible first|apply And.intro|(intro _;try exact q_v)|(refine hK _ ?_;clear hK K))<;>(try (clear hK K;exact q_u)))|(with_reducible refine q_s ?_;(first|apply q_J|apply q_K|apply q_L|apply q_M|apply q_N|apply q_O)<;>try (intro _;try exact q_v))|with_reducible refine q_t ?_)
        all_goals first | omega | exact q_A rfl | skip
      · have hdec : decide (dg 4294967296 (m ^ (i + 1)) = dg 4294967296 (m ^ i)) = false := decide_eq_false heq
        repeat' (first|(with_reducible first|apply q_a|apply q_b|apply q_c|apply q_d|apply q_e|apply q_f|apply q_g|apply q_h|apply q_i|apply q_j|apply q_k|apply q_m|apply q_n|apply q_o|apply q_p|refine q_l ?_)|((with_reducible first|refine q_q ibp_ok fun K hK=>?_|refine q_r ibp_ok fun K hK=>?_);simp (maxSteps:=2000000) only [go_sem,↓reduceIte,reduceCtorEq,Nat.reduceLeDiff,Nat.reduceLT,Nat.reduceBEq,Nat.reduceAdd,ki, ka, hm, f1, f2, f3, hdec];(repeat1' with_reducible first|apply And.intro|(intro _;try exact q_v)|(refine hK _ ?_;clear hK K))<;>(try (clear hK K;exact q_u)))|(with_reducible refine q_s ?_;(first|apply q_J|apply q_K|apply q_L|apply q_M|apply q_N|apply q_O)<;>try (intro _;try exact q_v))|with_reducible refine q_t ?_)
        all_goals first | omega | skip
        refine q_F ⟨i + 1, hi, hbig⟩ ?_ (by simp only; omega)
        exact q_D
    · have hbad : ¬ (dg 4294967296 (sg true m ^ n).natAbs).length ≤ 128 := fun h => hbig (by
        have := pow_len (a := sg true m) (k := i + 1) (n := n) hi (by omega) h
        rwa [habs] at this)
      obtain ⟨c1, c2, c3⟩ := cl_big hbad
      repeat' (first|(with_reducible first|apply q_a|apply q_b|apply q_c|apply q_d|apply q_e|apply q_f|apply q_g|apply q_h|apply q_i|apply q_j|apply q_k|apply q_m|apply q_n|apply q_o|apply q_p|refine q_l ?_)|((with_reducible first|refine q_q ibp_ok fun K hK=>?_|refine q_r ibp_ok fun K hK=>?_);simp (maxSteps:=2000000) only [go_sem,↓reduceIte,reduceCtorEq,Nat.reduceLeDiff,Nat.reduceLT,Nat.reduceBEq,Nat.reduceAdd,ki, ka, hm, f1, f2, f3];(repeat1' with_reducible first|apply And.intro|(intro _;try exact q_v)|(refine hK _ ?_;clear hK K))<;>(try (clear hK K;exact q_u)))|(with_reducible refine q_s ?_;(first|apply q_J|apply q_K|apply q_L|apply q_M|apply q_N|apply q_O)<;>try (intro _;try exact q_v))|with_reducible refine q_t ?_)
      all_goals first | omega | (refine q_B [nP] rfl ?_; simp only [rPw, c1, c2, c3, norm, nz, nzL, resAV]; rfl) | skip
  · have hi' : i = n := by omega
    subst hi'
    have hend := hend i g1 rfl
    repeat' (first|(with_reducible first|apply q_a|apply q_b|apply q_c|apply q_d|apply q_e|apply q_f|apply q_g|apply q_h|apply q_i|apply q_j|apply q_k|apply q_m|apply q_n|apply q_o|apply q_p|refine q_l ?_)|((with_reducible first|refine q_q ibp_ok fun K hK=>?_|refine q_r ibp_ok fun K hK=>?_);simp (maxSteps:=2000000) only [go_sem,↓reduceIte,reduceCtorEq,Nat.reduceLeDiff,Nat.reduceLT,Nat.reduceBEq,Nat.reduceAdd,ki, ka, hodd, hodd2, hend];(repeat1' with_reducible first|apply And.intro|(intro _;try exact q_v)|(refine hK _ ?_;clear hK K))<;>(try (clear hK K;exact q_u)))|(with_reducible refine q_s ?_;(first|apply q_J|apply q_K|apply q_L|apply q_M|apply q_N|apply q_O)<;>try (intro _;try exact q_v))|with_reducible refine q_t ?_)
    all_goals first | omega | exact q_A rfl | skip
end Go.Proofs.Ytlefdhkjbbdijaa

namespace Go.Proofs.Ytlefdhkjbbdijaa
set_option linter.unusedSimpArgs false
set_option linter.unusedVariables false
open Go.Abs Go.Proofs.NatL

def jb9 : Cfg := listT [(28, smallCT), (61, rcmpCT), (67, (rI2CT 1048576 mulF)), (90, fitsCT)] [30]
theorem jb9_ok : TblOk Try.prog jb9 := listT_ok (big := jt15) jt15_ok ⟨rfl, rfl, rfl, rfl, trivial⟩
attribute [go_sem] jb9
theorem cmp3_one (m : Nat) : cmp3 m 1 = 0 ↔ m = 1 := by
  unfold cmp3
  repeat' split
  all_goals omega
theorem toNat1 : Int.toNat 1 = 1 := rfl
set_option maxRecDepth 100000 in
set_option maxHeartbeats 3200000 in
theorem raised_ex (s : Bool) (m n : Nat) (hn : n ≤ 10000) (lm : (dg 65536 m).length ≤ 256) :
    ∃ c, Ret Try.prog 50 false [.inr [.b s, .ints .i64 (dg 65536 m)], .inl (.i .i64 (n : Int))] (.t [.inr (gRz (cl 128 (sg s m ^ n)) c), .inl (.b (decide ((dg 4294967296 (sg s m ^ n).natAbs).length ≤ 128)))]) := by
  have hl := dg_len_pos 65536 m (by omega)
  have l1 : (dg 65536 1).length ≤ 256 := Nat.le_trans (dg_len_le (B := 65536) (by omega) _ 1 (by decide)) (by omega)
  have e65 : sv 65536 s (dg 65536 m) = sg s m := sv_d (by omega) s m
  have hc := cmp3_one m
  have hodd := tmod2 n
  by_cases h0 : m = 0 ∧ 0 < n
  · obtain ⟨rfl, hn0⟩ := h0
    refine ⟨false, ?_⟩
    have ez : sg s 0 ^ n = 0 := by rw [sg_zero, Int.zero_pow (by omega)]
    simp only [ez, show cl 128 0 = 0 by decide, show (dg 4294967296 (0 : Int).natAbs).length = 0 by decide, dg_zero, List.length_nil] at hl ⊢
    (refine q_H Try.func50 (fun F => ?_); simp only [q_z,q_y,Try.ntmps50,Try.results50])
    repeat' (first|(with_reducible first|apply q_a|apply q_b|apply q_c|apply q_d|apply q_e|apply q_f|apply q_g|apply q_h|apply q_i|apply q_j|apply q_k|apply q_m|apply q_n|apply q_o|apply q_p|refine q_l ?_)|((with_reducible first|refine q_q jb9_ok fun K hK=>?_|refine q_r jb9_ok fun K hK=>?_);simp (maxSteps:=2000000) only [go_sem,↓reduceIte,reduceCtorEq,Nat.reduceLeDiff,Nat.reduceLT,Nat.reduceBEq,Nat.reduceAdd];(repeat1' with_reducible first|apply And.intro|(intro _;try exact q_v)|(refine hK _ ?_;clear hK K))<;>(try (clear hK K;exact q_u)))|(with_reducible refine q_s ?_;(first|apply q_J|apply q_K|apply q_L|apply q_M|apply q_N|apply q_O)<;>try (intro _;try exact q_v))|with_reducible refine q_t ?_)
    all_goals first | omega | exact q_B [nR, .inl none] rfl rfl
  · by_cases h1 : m = 1
    · subst h1
      have hp := sg_pow s 1 n
      rw [Nat.one_pow] at hp
      refine ⟨s && decide (n % 2 = 1), ?_⟩
      have hlen : (dg 4294967296 (sg s 1 ^ n).natAbs).length ≤ 128 := by
        rw [← hp, sg_abs]; exact Nat.le_trans (dg_len_le (B := 4294967296) (by omega) _ 1 (by decide)) (by omega)
      obtain ⟨e1, e2, e3⟩ := cl_fit hlen
      rw [decide_eq_true hlen, e1, ← hp, gRz_eq]
      have hc1 : cmp3 1 1 = 0 := by decide
      have hodd2 : ((n % 2 : Nat) : Int) = 1 ↔ n % 2 = 1 := by omega
      cases s
      all_goals
        (refine q_H Try.func50 (fun F => ?_); simp only [q_z,q_y,Try.ntmps50,Try.results50])
        repeat' (first|(with_reducible first|apply q_a|apply q_b|apply q_c|apply q_d|apply q_e|apply q_f|apply q_g|apply q_h|apply q_i|apply q_j|apply q_k|apply q_m|apply q_n|apply q_o|apply q_p|refine q_l ?_)|((with_reducible first|refine q_q jb9_ok fun K hK=>?_|refine q_r jb9_ok fun K hK=>?_);simp (maxSteps:=2000000) only [go_sem,↓reduceIte,reduceCtorEq,Nat.reduceLeDiff,Nat.reduceLT,Nat.reduceBEq,Nat.reduceAdd,hc1, toNat1, hodd];(repeat1' with_reducible first|apply And.intro|(intro _;try exact q_v)|(refine hK _ ?_;clear hK K))<;>(try (clear hK K;exact q_u)))|(with_reducible refine q_s ?_;(first|apply q_J|apply q_K|apply q_L|apply q_M|apply q_N|apply q_O)<;>try (intro _;try exact q_v))|with_reducible refine q_t ?_)
      all_goals first | omega | contradiction | exact q_A (by simp only [resAV, Bool.false_and, Bool.true_and, decide_eq_decide.2 hodd2]) | skip
    · have hz : sg s m ≠ 0 ∨ n = 0 ∨ 0 < n := by omega
      have hc1 : ¬ cmp3 m 1 = 0 := fun h => h1 (hc.1 h)
      have hm0 : ¬ (dg 65536 m).length = 0 ∨ n = 0 := by omega
      generalize hzz : sg s m = z at *
      have g0 : [C.b false, C.ints .i64 (dg 65536 1)] = gR (z ^ 0) := by rw [Int.pow_zero]; rfl
      refine ⟨false, ?_⟩
      rcases Nat.eq_zero_or_pos m with hm | hm
      all_goals
        (refine q_H Try.func50 (fun F => ?_); simp only [q_z,q_y,Try.ntmps50,Try.results50])
        repeat' (first|(with_reducible first|apply q_a|apply q_b|apply q_c|apply q_d|apply q_e|apply q_f|apply q_g|apply q_h|apply q_i|apply q_j|apply q_k|apply q_m|apply q_n|apply q_o|apply q_p|refine q_l ?_)|((with_reducible first|refine q_q jb9_ok fun K hK=>?_|refine q_r jb9_ok fun K hK=>?_);simp (maxSteps:=2000000) only [go_sem,↓reduceIte,reduceCtorEq,Nat.reduceLeDiff,Nat.reduceLT,Nat.reduceBEq,Nat.reduceAdd,toNat1];(repeat1' with_reducible first|apply And.intro|(intro _;try exact q_v)|(refine hK _ ?_;clear hK K))<;>(try (clear hK K;exact q_u)))|(with_reducible refine q_s ?_;(first|apply q_J|apply q_K|apply q_L|apply q_M|apply q_N|apply q_O)<;>try (intro _;try exact q_v))|with_reducible refine q_t ?_)
        all_goals try omega
        refine q_G (ι := { k : Nat // k ≤ n ∧ (dg 65536 (z ^ k).natAbs).length ≤ 256 }) (fun k => ⟨44, [(1, .c (.i .i64 ((n : Int) - (k.1 : Nat)))), (2, .bx 0 0), (4, .bx 1 0), (6, .bx 2 0)], ⟨[(2, [.c (.b (decide (z ^ k.1 < 0))), .c (.ints .i64 (dg 65536 (z ^ k.1).natAbs))]), (1, [.c (.b false), .c .nil]), (0, [.c (.b s), .c (.ints .i64 (dg 65536 m))])], [], []⟩, 3⟩) (fun k => n - k.1) ⟨0, by omega, by rw [Int.pow_zero]; exact l1⟩ ?_ ?_
        · simp only [Int.pow_zero]
          exact q_D
        rintro ⟨k, g1, g2⟩
        simp only at g1 g2 ⊢
        have g3 := zmul_len (by omega) g2 (show (dg 65536 z.natAbs).length ≤ 256 by rw [← hzz, sg_abs]; exact lm)
        rcases Nat.lt_or_ge k n with hk | hk
        · by_cases hf : (dg 65536 (z ^ (k + 1)).natAbs).length ≤ 256
          · have hf2 : ((dg 65536 (z ^ (k + 1)).natAbs).length : Int) ≤ 2 * 128 := by omega
            repeat' (first|(with_reducible first|apply q_a|apply q_b|apply q_c|apply q_d|apply q_e|apply q_f|apply q_g|apply q_h|apply q_i|apply q_j|apply q_k|apply q_m|apply q_n|apply q_o|apply q_p|refine q_l ?_)|((with_reducible first|refine q_q jb9_ok fun K hK=>?_|refine q_r jb9_ok fun K hK=>?_);simp (maxSteps:=2000000) only [go_sem,↓reduceIte,reduceCtorEq,Nat.reduceLeDiff,Nat.reduceLT,Nat.reduceBEq,Nat.reduceAdd,e65, ← Int.pow_succ, decide_eq_true hf2];(repeat1' with_reducible first|apply And.intro|(intro _;try exact q_v)|(refine hK _ ?_;clear hK K))<;>(try (clear hK K;exact q_u)))|(with_reducible refine q_s ?_;(first|apply q_J|apply q_K|apply q_L|apply q_M|apply q_N|apply q_O)<;>try (intro _;try exact q_v))|with_reducible refine q_t ?_)
            all_goals first | omega | skip
            all_goals
              refine q_F ⟨k + 1, hk, hf⟩ ?_ (by simp only; omega)
              exact q_D
          · have hf2 : ¬ ((dg 65536 (z ^ (k + 1)).natAbs).length : Int) ≤ 2 * 128 := by omega
            have hbad : ¬ (dg 4294967296 (z ^ n).natAbs).length ≤ 128 := fun h => hf ((dg_half' _ 128).2 (pow_len (k := k + 1) (n := n) hk (by omega) h))
            obtain ⟨e1, e2, e3⟩ := cl_big hbad
            repeat' (first|(with_reducible first|apply q_a|apply q_b|apply q_c|apply q_d|apply q_e|apply q_f|apply q_g|apply q_h|apply q_i|apply q_j|apply q_k|apply q_m|apply q_n|apply q_o|apply q_p|refine q_l ?_)|((with_reducible first|refine q_q jb9_ok fun K hK=>?_|refine q_r jb9_ok fun K hK=>?_);simp (maxSteps:=2000000) only [go_sem,↓reduceIte,reduceCtorEq,Nat.reduceLeDiff,Nat.reduceLT,Nat.reduceBEq,Nat.reduceAdd,e65, ← Int.pow_succ, decide_eq_false hf2];(repeat1' with_reducible first|apply And.intro|(intro _;try exact q_v)|(refine hK _ ?_;clear hK K))<;>(try (clear hK K;exact q_u)))|(with_reducible refine q_s ?_;(first|apply q_J|apply q_K|apply q_L|apply q_M|apply q_N|apply q_O)<;>try (intro _;try exact q_v))|with_reducible refine q_t ?_)
            all_goals first | omega | exact q_B [nR, .inl none] rfl (by simp only [norm, nz, nzL, resAV, e1, decide_eq_false hbad]; rfl)
        · have hk' : k = n := by omega
          subst hk'
          have hgood := (dg_half' _ 128).1 g2
          obtain ⟨e1, e2, e3⟩ := cl_fit hgood
          repeat' (first|(with_reducible first|apply q_a|apply q_b|apply q_c|apply q_d|apply q_e|apply q_f|apply q_g|apply q_h|apply q_i|apply q_j|apply q_k|apply q_m|apply q_n|apply q_o|apply q_p|refine q_l ?_)|((with_reducible first|refine q_q jb9_ok fun K hK=>?_|refine q_r jb9_ok fun K hK=>?_);simp (maxSteps:=2000000) only [go_sem,↓reduceIte,reduceCtorEq,Nat.reduceLeDiff,Nat.reduceLT,Nat.reduceBEq,Nat.reduceAdd];(repeat1' with_reducible first|apply And.intro|(intro _;try exact q_v)|(refine hK _ ?_;clear hK K))<;>(try (clear hK K;exact q_u)))|(with_reducible refine q_s ?_;(first|apply q_J|apply q_K|apply q_L|apply q_M|apply q_N|apply q_O)<;>try (intro _;try exact q_v))|with_reducible refine q_t ?_)
          all_goals first | omega | exact q_A (by simp only [resAV, e1, decide_eq_true hgood, gRz, sgz_false])
def raisedCT : CT := mkCT [nR] false fun l K => match l with
  | [.inr [.b s, .ints .i64 ys], .inl (.i .i64 n)] => (InB 65536 ys ∧ Trd ys ∧ ys.length ≤ 256 ∧ 0 ≤ n ∧ n ≤ 10000) ∧ ∀ c : Bool, K (.t [.inr (gRz (cl 128 (sv 65536 s ys ^ n.toNat)) c), .inl (.b (decide ((dg 4294967296 (sv 65536 s ys ^ n.toNat).natAbs).length ≤ 128)))])
  | _ => False
def jt16 : Cfg := addT 50 raisedCT jt15
theorem jt16_ok : TblOk Try.prog jt16 := q_I jt15_ok Try.func50 fun l K h => by
  split at h
  · rename_i s ys n
    obtain ⟨⟨h1, h2, h3, h4, h5⟩, h⟩ := h
    obtain ⟨e1, e2⟩ := sv_ys (s := s) h1 h2
    rw [e2] at h
    obtain ⟨k, rfl⟩ : ∃ k : Nat, n = k := ⟨n.toNat, by omega⟩
    obtain ⟨c, this⟩ := raised_ex s (V 65536 ys) k (by omega) (by rw [← e1]; exact h3)
    rw [← e1] at this
    exact ⟨_, this, by simpa using h c⟩
  · exact h.elim
attribute [go_sem] raisedCT
end Go.Proofs.Ytlefdhkjbbdijaa

namespace Go.Proofs.NatL
set_option linter.unusedSimpArgs false
set_option linter.unusedVariables false
def pwB (z : Int) (d : Nat) (n : Int) : Int := if n < 0 then sg (decide (z < 0)) d ^ n.natAbs else z ^ n.natAbs
def pwE (z : Int) (d : Nat) (n : Int) : Nat := if n < 0 then z.natAbs ^ n.natAbs else d ^ n.natAbs
theorem okZ_sd (s : Bool) {d : Nat} (h : 0 < d) : okZ s (dg 4294967296 d) = decide ((dg 4294967296 d).length ≤ 128) := by
  have e := okZ_g (sg s d)
  rw [sg_abs, sg_negd, decide_eq_true h, Bool.and_true] at e
  exact e
end Go.Proofs.NatL
namespace Go.Proofs.Ytlefdhkjbbdijaa
set_option linter.unusedSimpArgs false
set_option linter.unusedVariables false
open Go.Abs Go.Proofs.NatL

theorem as_sgQ {F : FuncId} {a : Int} {r : Int → AV} {l : List (C ⊕ List C)} (h : ∀ (s : Bool) (m : Nat), sg s m = a → (s = true → 0 < m) → s = decide (a < 0) → m = a.natAbs → Ret Try.prog F false (.inr [.b s, .ints .u32 (dg 4294967296 m)] :: l) (r (sg s m))) : Ret Try.prog F false (.inr (gI a) :: l) (r a) := by
  have e := sg_self a
  have := h (decide (a < 0)) a.natAbs e (fun h => by have := of_decide_eq_true h; omega) rfl rfl
  rw [e] at this
  exact this
def ipowCT : CT := mkCT [nP] false fun l K => match l with
  | [.inr [.b s, .ints .u32 xs], .inl (.i .i64 n)] => (okZ s xs = true ∧ InB 4294967296 xs ∧ 0 ≤ n ∧ n ≤ 10000) ∧ K (rCl (sv 4294967296 s xs ^ n.natAbs))
  | _ => False
def qp1 : Cfg := addT 88 ipowCT qt20
theorem qp1_ok : TblOk Try.prog qp1 := q_I qt20_ok Try.func88 fun l K h => by
  split at h
  · rename_i s xs n
    obtain ⟨⟨h1, h2, h3, h4⟩, h⟩ := h
    obtain ⟨e1, f1, l1⟩ := gI_ofQ' h1 h2
    have e3 : [C.b s, C.ints .u32 xs] = gI (sv 4294967296 s xs) := by rw [gI, ← e1, ← f1]
    have oa := (okZ_g (sv 4294967296 s xs)).trans (decide_eq_true l1)
    rw [e3]
    clear e3 e1 f1
    generalize sv 4294967296 s xs = a at *
    obtain ⟨k, rfl⟩ : ∃ k : Nat, n = k := ⟨n.toNat, by omega⟩
    refine ⟨_, as_sgQ (r := fun z => rPw (z ^ k)) (fun s m e1 e2 e3 e4 => ?_), by rw [Int.natAbs_natCast] at h; exact h⟩
    subst e3; subst e4
    cases hs : decide (a < 0)
    · exact iPow_false a.natAbs k (fun h => by cases h) (by omega) (by rw [hs] at oa; exact oa) l1
    · exact iPow_true a.natAbs k (fun h => e2 hs) (by omega) (by rw [hs] at oa; exact oa) l1
  · exact h.elim
attribute [go_sem] ipowCT
def qb14 : Cfg := listT [(63, atCT), (71, qcheckCT), (88, ipowCT)] [30]
theorem qb14_ok : TblOk Try.prog qb14 := listE_ok (by simp only [List.mem_singleton, forall_eq]; exact flt) ⟨⟨qt2, qt2_ok, rfl⟩, ⟨qt3, qt3_ok, rfl⟩, ⟨qp1, qp1_ok, rfl⟩, trivial⟩
attribute [go_sem] qb14
set_option maxHeartbeats 3200000 in
theorem qpow_pos (z : Int) (d : Nat) (k : Nat) (hx : RT z d) (hk : k ≤ 10000) :
    Ret Try.prog 45 false [.inr (gQ z d), .inl (.i .i64 (k : Int))] (rF (z ^ k) (d ^ k)) := by
  have o1 := okQ_g hx
  obtain ⟨hd, lz, ld⟩ := RT_parts hx
  have o2 := (okZ_g z).trans (decide_eq_true lz)
  have o3 := (okZ_n d).trans (decide_eq_true ld)
  have e1 : ((d : Int) ^ k).natAbs = d ^ k := by rw [abs_pow, Int.natAbs_natCast]
  have e2 : decide ((d : Int) ^ k < 0) = false := decide_eq_false (by have : 0 ≤ (d : Int) ^ k := Int.pow_nonneg (by omega); omega)
  have e3 : (k : Int).natAbs = k := Int.natAbs_natCast k
  unfold rF
  by_cases h1 : (dg 4294967296 (z ^ k).natAbs).length ≤ 128
  · obtain ⟨c1, c2, c3⟩ := cl_fit h1
    by_cases h2 : (dg 4294967296 (d ^ k)).length ≤ 128
    · obtain ⟨c4, c5, c6⟩ := cl_fit (z := (d : Int) ^ k) (k := 128) (by rw [e1]; exact h2)
      obtain ⟨f1, f2, f3, f4⟩ := f_fit (z := z ^ k) (d := d ^ k) ⟨h1, h2⟩
      rw [f1, f2, f3, f4]
      clear hx
      (refine q_H Try.func45 (fun F => ?_); simp only [q_z,q_y,Try.ntmps45,Try.results45])
      repeat' (first|(with_reducible first|apply q_a|apply q_b|apply q_c|apply q_d|apply q_e|apply q_f|apply q_g|apply q_h|apply q_i|apply q_j|apply q_k|apply q_m|apply q_n|apply q_o|apply q_p|refine q_l ?_)|((with_reducible first|refine q_q qb14_ok fun K hK=>?_|refine q_r qb14_ok fun K hK=>?_);simp (maxSteps:=2000000) only [go_sem,↓reduceIte,reduceCtorEq,Nat.reduceLeDiff,Nat.reduceLT,Nat.reduceBEq,Nat.reduceAdd,o1, o2, o3, sv32, sv32n, e3, c1, c2, c3, c4, c5, c6, e1, e2];(repeat1' with_reducible first|apply And.intro|(intro _;try exact q_v)|(refine hK _ ?_;clear hK K))<;>(try (clear hK K;exact q_u)))|(with_reducible refine q_s ?_;(first|apply q_J|apply q_K|apply q_L|apply q_M|apply q_N|apply q_O)<;>try (intro _;try exact q_v))|with_reducible refine q_t ?_)
      all_goals first | omega | exact q_A rfl | skip
    · obtain ⟨c4, c5, c6⟩ := cl_big (z := (d : Int) ^ k) (k := 128) (by rw [e1]; exact h2)
      obtain ⟨f1, f2, f3, f4⟩ := f_big (z := z ^ k) (d := d ^ k) (fun h => h2 h.2)
      rw [f1, f2, f3, f4]
      clear hx
      (refine q_H Try.func45 (fun F => ?_); simp only [q_z,q_y,Try.ntmps45,Try.results45])
      repeat' (first|(with_reducible first|apply q_a|apply q_b|apply q_c|apply q_d|apply q_e|apply q_f|apply q_g|apply q_h|apply q_i|apply q_j|apply q_k|apply q_m|apply q_n|apply q_o|apply q_p|refine q_l ?_)|((with_reducible first|refine q_q qb14_ok fun K hK=>?_|refine q_r qb14_ok fun K hK=>?_);simp (maxSteps:=2000000) only [go_sem,↓reduceIte,reduceCtorEq,Nat.reduceLeDiff,Nat.reduceLT,Nat.reduceBEq,Nat.reduceAdd,o1, o2, o3, sv32, sv32n, e3, c1, c2, c3, c4, c5, c6, e1, e2];(repeat1' with_reducible first|apply And.intro|(intro _;try exact q_v)|(refine hK _ ?_;clear hK K))<;>(try (clear hK K;exact q_u)))|(with_reducible refine q_s ?_;(first|apply q_J|apply q_K|apply q_L|apply q_M|apply q_N|apply q_O)<;>try (intro _;try exact q_v))|with_reducible refine q_t ?_)
      all_goals first | omega | exact q_B [nQ] rfl rfl | skip
  · obtain ⟨c1, c2, c3⟩ := cl_big h1
    obtain ⟨f1, f2, f3, f4⟩ := f_big (z := z ^ k) (d := d ^ k) (fun h => h1 h.1)
    rw [f1, f2, f3, f4]
    clear hx
    (refine q_H Try.func45 (fun F => ?_); simp only [q_z,q_y,Try.ntmps45,Try.results45])
    repeat' (first|(with_reducible first|apply q_a|apply q_b|apply q_c|apply q_d|apply q_e|apply q_f|apply q_g|apply q_h|apply q_i|apply q_j|apply q_k|apply q_m|apply q_n|apply q_o|apply q_p|refine q_l ?_)|((with_reducible first|refine q_q qb14_ok fun K hK=>?_|refine q_r qb14_ok fun K hK=>?_);simp (maxSteps:=2000000) only [go_sem,↓reduceIte,reduceCtorEq,Nat.reduceLeDiff,Nat.reduceLT,Nat.reduceBEq,Nat.reduceAdd,o1, o2, o3, sv32, sv32n, e3, c1, c2, c3, e1, e2];(repeat1' with_reducible first|apply And.intro|(intro _;try exact q_v)|(refine hK _ ?_;clear hK K))<;>(try (clear hK K;exact q_u)))|(with_reducible refine q_s ?_;(first|apply q_J|apply q_K|apply q_L|apply q_M|apply q_N|apply q_O)<;>try (intro _;try exact q_v))|with_reducible refine q_t ?_)
    all_goals first | omega | exact q_B [nQ] rfl rfl | skip
set_option maxHeartbeats 3200000 in
theorem qpow_neg (z : Int) (d : Nat) (n : Int) (hx : RT z d) (hz : z ≠ 0) (hn : n < 0) (hk : -10000 ≤ n) :
    Ret Try.prog 45 false [.inr (gQ z d), .inl (.i .i64 n)] (rF (sg (decide (z < 0)) d ^ n.natAbs) (z.natAbs ^ n.natAbs)) := by
  have o1 := okQ_g hx
  obtain ⟨hd, lz, ld⟩ := RT_parts hx
  have hza : 0 < z.natAbs := by omega
  have hl := (dg_len_pos 4294967296 z.natAbs (by omega)).2 hza
  have o2 := (okZ_n z.natAbs).trans (decide_eq_true lz)
  have o3 := (okZ_sd (decide (z < 0)) hd).trans (decide_eq_true ld)
  have e3 : (0 - n).natAbs = n.natAbs := by omega
  have e4 : (-n).natAbs = n.natAbs := by omega
  simp only [gQ] at o1 ⊢
  generalize hkk : n.natAbs = k at *
  generalize z.natAbs = a at *
  generalize hzz : decide (z < 0) = s at *
  have hsf := sgf a
  have e1 : ((a : Int) ^ k).natAbs = a ^ k := by rw [abs_pow, Int.natAbs_natCast]
  have e2 : decide ((a : Int) ^ k < 0) = false := decide_eq_false (by have : 0 ≤ (a : Int) ^ k := Int.pow_nonneg (by omega); omega)
  unfold rF
  by_cases h1 : (dg 4294967296 (sg s d ^ k).natAbs).length ≤ 128
  · obtain ⟨c1, c2, c3⟩ := cl_fit h1
    by_cases h2 : (dg 4294967296 (a ^ k)).length ≤ 128
    · obtain ⟨c4, c5, c6⟩ := cl_fit (z := (a : Int) ^ k) (k := 128) (by rw [e1]; exact h2)
      obtain ⟨f1, f2, f3, f4⟩ := f_fit (z := sg s d ^ k) (d := a ^ k) ⟨h1, h2⟩
      rw [f1, f2, f3, f4]
      clear hx
      (refine q_H Try.func45 (fun F => ?_); simp only [q_z,q_y,Try.ntmps45,Try.results45])
      repeat' (first|(with_reducible first|apply q_a|apply q_b|apply q_c|apply q_d|apply q_e|apply q_f|apply q_g|apply q_h|apply q_i|apply q_j|apply q_k|apply q_m|apply q_n|apply q_o|apply q_p|refine q_l ?_)|((with_reducible first|refine q_q qb14_ok fun K hK=>?_|refine q_r qb14_ok fun K hK=>?_);simp (maxSteps:=2000000) only [go_sem,↓reduceIte,reduceCtorEq,Nat.reduceLeDiff,Nat.reduceLT,Nat.reduceBEq,Nat.reduceAdd,o1, o2, o3, hzz, sv32n, sv32d, hsf, e3, e4, c1, c2, c3, c4, c5, c6, e1, e2];(repeat1' with_reducible first|apply And.intro|(intro _;try exact q_v)|(refine hK _ ?_;clear hK K))<;>(try (clear hK K;exact q_u)))|(with_reducible refine q_s ?_;(first|apply q_J|apply q_K|apply q_L|apply q_M|apply q_N|apply q_O)<;>try (intro _;try exact q_v))|with_reducible refine q_t ?_)
      all_goals first | omega | exact q_A rfl | skip
    · obtain ⟨c4, c5, c6⟩ := cl_big (z := (a : Int) ^ k) (k := 128) (by rw [e1]; exact h2)
      obtain ⟨f1, f2, f3, f4⟩ := f_big (z := sg s d ^ k) (d := a ^ k) (fun h => h2 h.2)
      rw [f1, f2, f3, f4]
      clear hx
      (refine q_H Try.func45 (fun F => ?_); simp only [q_z,q_y,Try.ntmps45,Try.results45])
      repeat' (first|(with_reducible first|apply q_a|apply q_b|apply q_c|apply q_d|apply q_e|apply q_f|apply q_g|apply q_h|apply q_i|apply q_j|apply q_k|apply q_m|apply q_n|apply q_o|apply q_p|refine q_l ?_)|((with_reducible first|refine q_q qb14_ok fun K hK=>?_|refine q_r qb14_ok fun K hK=>?_);simp (maxSteps:=2000000) only [go_sem,↓reduceIte,reduceCtorEq,Nat.reduceLeDiff,Nat.reduceLT,Nat.reduceBEq,Nat.reduceAdd,o1, o2, o3, hzz, sv32n, sv32d, hsf, e3, e4, c1, c2, c3, c4, c5, c6, e1, e2];(repeat1' with_reducible first|apply And.intro|(intro _;try exact q_v)|(refine hK _ ?_;clear hK K))<;>(try (clear hK K;exact q_u)))|(with_reducible refine q_s ?_;(first|apply q_J|apply q_K|apply q_L|apply q_M|apply q_N|apply q_O)<;>try (intro _;try exact q_v))|with_reducible refine q_t ?_)
      all_goals first | omega | exact q_B [nQ] rfl rfl | skip
  · obtain ⟨c1, c2, c3⟩ := cl_big h1
    obtain ⟨f1, f2, f3, f4⟩ := f_big (z := sg s d ^ k) (d := a ^ k) (fun h => h1 h.1)
    rw [f1, f2, f3, f4]
    clear hx
    (refine q_H Try.func45 (fun F => ?_); simp only [q_z,q_y,Try.ntmps45,Try.results45])
    repeat' (first|(with_reducible first|apply q_a|apply q_b|apply q_c|apply q_d|apply q_e|apply q_f|apply q_g|apply q_h|apply q_i|apply q_j|apply q_k|apply q_m|apply q_n|apply q_o|apply q_p|refine q_l ?_)|((with_reducible first|refine q_q qb14_ok fun K hK=>?_|refine q_r qb14_ok fun K hK=>?_);simp (maxSteps:=2000000) only [go_sem,↓reduceIte,reduceCtorEq,Nat.reduceLeDiff,Nat.reduceLT,Nat.reduceBEq,Nat.reduceAdd,o1, o2, o3, hzz, sv32n, sv32d, hsf, e3, e4, c1, c2, c3, e1, e2];(repeat1' with_reducible first|apply And.intro|(intro _;try exact q_v)|(refine hK _ ?_;clear hK K))<;>(try (clear hK K;exact q_u)))|(with_reducible refine q_s ?_;(first|apply q_J|apply q_K|apply q_L|apply q_M|apply q_N|apply q_O)<;>try (intro _;try exact q_v))|with_reducible refine q_t ?_)
    all_goals first | omega | exact q_B [nQ] rfl rfl | skip
set_option maxHeartbeats 3200000 in
theorem qpow_zero (d : Nat) (n : Int) (hx : RT 0 d) (hn : n < 0) (hk : -10000 ≤ n) :
    Ret Try.prog 45 false [.inr (gQ 0 d), .inl (.i .i64 n)] (.t [zQ, fltQ 22 (-1)]) := by
  have o1 := okQ_g hx
  obtain ⟨_, _, ld⟩ := RT_parts hx
  have e0 : (dg 4294967296 (0 : Int).natAbs) = [] := dg_zeroA _
  clear hx
  simp only [gQ, e0] at o1 ⊢
  (refine q_H Try.func45 (fun F => ?_); simp only [q_z,q_y,Try.ntmps45,Try.results45])
  repeat' (first|(with_reducible first|apply q_a|apply q_b|apply q_c|apply q_d|apply q_e|apply q_f|apply q_g|apply q_h|apply q_i|apply q_j|apply q_k|apply q_m|apply q_n|apply q_o|apply q_p|refine q_l ?_)|((with_reducible first|refine q_q qb14_ok fun K hK=>?_|refine q_r qb14_ok fun K hK=>?_);simp (maxSteps:=2000000) only [go_sem,↓reduceIte,reduceCtorEq,Nat.reduceLeDiff,Nat.reduceLT,Nat.reduceBEq,Nat.reduceAdd,o1];(repeat1' with_reducible first|apply And.intro|(intro _;try exact q_v)|(refine hK _ ?_;clear hK K))<;>(try (clear hK K;exact q_u)))|(with_reducible refine q_s ?_;(first|apply q_J|apply q_K|apply q_L|apply q_M|apply q_N|apply q_O)<;>try (intro _;try exact q_v))|with_reducible refine q_t ?_)
  all_goals first | omega | exact q_B [nQ] rfl rfl | skip
set_option maxHeartbeats 3200000 in
theorem qpow_range (z : Int) (d : Nat) (n : Int) (hx : RT z d) (hn : n < -10000 ∨ 10000 < n) :
    Ret Try.prog 45 false [.inr (gQ z d), .inl (.i .i64 n)] (.t [zQ, fltQ 4 (-2)]) := by
  have o1 := okQ_g hx
  obtain ⟨_, lz, ld⟩ := RT_parts hx
  clear hx
  (refine q_H Try.func45 (fun F => ?_); simp only [q_z,q_y,Try.ntmps45,Try.results45])
  repeat' (first|(with_reducible first|apply q_a|apply q_b|apply q_c|apply q_d|apply q_e|apply q_f|apply q_g|apply q_h|apply q_i|apply q_j|apply q_k|apply q_m|apply q_n|apply q_o|apply q_p|refine q_l ?_)|((with_reducible first|refine q_q qb14_ok fun K hK=>?_|refine q_r qb14_ok fun K hK=>?_);simp (maxSteps:=2000000) only [go_sem,↓reduceIte,reduceCtorEq,Nat.reduceLeDiff,Nat.reduceLT,Nat.reduceBEq,Nat.reduceAdd,o1];(repeat1' with_reducible first|apply And.intro|(intro _;try exact q_v)|(refine hK _ ?_;clear hK K))<;>(try (clear hK K;exact q_u)))|(with_reducible refine q_s ?_;(first|apply q_J|apply q_K|apply q_L|apply q_M|apply q_N|apply q_O)<;>try (intro _;try exact q_v))|with_reducible refine q_t ?_)
  all_goals first | omega | exact q_B [nQ] rfl rfl | skip
set_option maxHeartbeats 3200000 in
theorem qpow_bad (s t : Bool) (xs ys : List Int) (n : Int) (h1 : xs.length ≤ 140737488355328) (h2 : ys.length ≤ 140737488355328) (b1 : InB 4294967296 xs) (b2 : InB 4294967296 ys) (h : okQ s xs t ys = false) :
    Ret Try.prog 45 false [.inr [.b s, .ints .u32 xs, .b t, .ints .u32 ys], .inl (.i .i64 n)] (.t [zQ, fltQ 6 (-1)]) := by
  (refine q_H Try.func45 (fun F => ?_); simp only [q_z,q_y,Try.ntmps45,Try.results45])
  repeat' (first|(with_reducible first|apply q_a|apply q_b|apply q_c|apply q_d|apply q_e|apply q_f|apply q_g|apply q_h|apply q_i|apply q_j|apply q_k|apply q_m|apply q_n|apply q_o|apply q_p|refine q_l ?_)|((with_reducible first|refine q_q qb14_ok fun K hK=>?_|refine q_r qb14_ok fun K hK=>?_);simp (maxSteps:=2000000) only [go_sem,↓reduceIte,reduceCtorEq,Nat.reduceLeDiff,Nat.reduceLT,Nat.reduceBEq,Nat.reduceAdd,h];(repeat1' with_reducible first|apply And.intro|(intro _;try exact q_v)|(refine hK _ ?_;clear hK K))<;>(try (clear hK K;exact q_u)))|(with_reducible refine q_s ?_;(first|apply q_J|apply q_K|apply q_L|apply q_M|apply q_N|apply q_O)<;>try (intro _;try exact q_v))|with_reducible refine q_t ?_)
  all_goals first | omega | assumption | exact q_B [nQ] rfl rfl | skip

def poN (s : Bool) (xs : List Int) (t : Bool) (ys : List Int) (n : Int) : Int := if okQ s xs t ys = true ∧ ¬ (n < -10000 ∨ 10000 < n) ∧ ¬ (n < 0 ∧ sv 4294967296 s xs = 0) then fN (pwB (sv 4294967296 s xs) (V 4294967296 ys) n) (pwE (sv 4294967296 s xs) (V 4294967296 ys) n) else 0
def poD (s : Bool) (xs : List Int) (t : Bool) (ys : List Int) (n : Int) : Nat := if okQ s xs t ys = true ∧ ¬ (n < -10000 ∨ 10000 < n) ∧ ¬ (n < 0 ∧ sv 4294967296 s xs = 0) then fD (pwB (sv 4294967296 s xs) (V 4294967296 ys) n) (pwE (sv 4294967296 s xs) (V 4294967296 ys) n) else 0
def poC (s : Bool) (xs : List Int) (t : Bool) (ys : List Int) (n : Int) : Int := if okQ s xs t ys = true then (if n < -10000 ∨ 10000 < n then 4 else if n < 0 ∧ sv 4294967296 s xs = 0 then 22 else fC (pwB (sv 4294967296 s xs) (V 4294967296 ys) n) (pwE (sv 4294967296 s xs) (V 4294967296 ys) n)) else 6
def poI (s : Bool) (xs : List Int) (t : Bool) (ys : List Int) (n : Int) : Int := if okQ s xs t ys = true then (if n < -10000 ∨ 10000 < n then -2 else if n < 0 ∧ sv 4294967296 s xs = 0 then -1 else fI (pwB (sv 4294967296 s xs) (V 4294967296 ys) n) (pwE (sv 4294967296 s xs) (V 4294967296 ys) n)) else -1
def rPo (s : Bool) (xs : List Int) (t : Bool) (ys : List Int) (n : Int) : AV := .t [.inr (gQ (poN s xs t ys n) (poD s xs t ys n)), fltQ (poC s xs t ys n) (poI s xs t ys n)]
def qpowCT : CT := mkCT [nQ] false fun l K => match l with
  | [.inr [.b s, .ints .u32 xs, .b t, .ints .u32 ys], .inl (.i .i64 n)] => (xs.length ≤ 140737488355328 ∧ ys.length ≤ 140737488355328 ∧ InB 4294967296 xs ∧ InB 4294967296 ys) ∧ K (rPo s xs t ys n)
  | _ => False
def qp2 : Cfg := addT 45 qpowCT qp1
theorem qp2_ok : TblOk Try.prog qp2 := q_I qp1_ok Try.func45 fun l K h => by
  split at h
  · rename_i s xs t ys n
    obtain ⟨⟨h1, h2, b1, b2⟩, h⟩ := h
    refine ⟨_, ?_, h⟩
    unfold rPo poN poD poC poI
    cases o1 : okQ s xs t ys
    · simp only [Bool.false_eq_true, if_false, false_and]
      exact qpow_bad s t xs ys n h1 h2 b1 b2 o1
    · obtain ⟨e1, r1⟩ := gQ_of o1 b1 b2
      rw [e1]
      simp only [true_and, if_true]
      generalize sv 4294967296 s xs = z at *
      generalize V 4294967296 ys = d at *
      by_cases c1 : n < -10000 ∨ 10000 < n
      · simp only [c1, not_true_eq_false, false_and, if_false, if_true]
        exact qpow_range z d n r1 c1
      · by_cases c2 : n < 0 ∧ z = 0
        · simp only [c1, c2, not_true_eq_false, and_false, if_false, if_true]
          obtain ⟨c2, rfl⟩ := c2
          exact qpow_zero d n r1 c2 (by omega)
        · simp only [c1, c2, not_false_eq_true, and_self, if_false, if_true]
          unfold pwB pwE
          by_cases c3 : n < 0
          · simp only [c3, if_true]
            exact qpow_neg z d n r1 (fun h => c2 ⟨c3, h⟩) c3 (by omega)
          · simp only [c3, if_false]
            obtain ⟨k, rfl⟩ : ∃ k : Nat, n = k := ⟨n.toNat, by omega⟩
            rw [Int.natAbs_natCast]
            exact qpow_pos z d k r1 (by omega)
  · exact h.elim
attribute [go_sem] qpowCT rPo
end Go.Proofs.Ytlefdhkjbbdijaa
