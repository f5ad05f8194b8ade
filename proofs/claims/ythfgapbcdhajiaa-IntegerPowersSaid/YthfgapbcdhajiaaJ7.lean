import Derived.Test.YthfgapbcdhajiaaJ5
import Derived.Test.YthfgapbcdhajiaaP5
namespace Go.Proofs.Ythfgapbcdhajiaa
set_option linter.unusedSimpArgs false
set_option linter.unusedVariables false
open Go.Abs Go.Proofs.NatL

def jb9 : Cfg := listT [(80, smallCT), (72, rcmpCT), (35, (rI2CT 1048576 mulF)), (82, fitsCT)] [27]
theorem jb9_ok : TblOk Try.prog jb9 := listT_ok (big := jt15) jt15_ok ⟨rfl, rfl, rfl, rfl, trivial⟩
attribute [go_sem] jb9
theorem cmp3_one (m : Nat) : cmp3 m 1 = 0 ↔ m = 1 := by
  unfold cmp3
  repeat' split
  all_goals omega
theorem toNat1 : Int.toNat 1 = 1 := rfl
set_option maxRecDepth 100000 in
set_option maxHeartbeats 3200000 in
theorem raised_ex (s : Bool) (m n : Nat) (hn : n ≤ 10000) (lm : (dg 65536 m).length ≤ 256) :
    ∃ c, Ret Try.prog 51 false [.inr [.b s, .ints .i64 (dg 65536 m)], .inl (.i .i64 (n : Int))] (.t [.inr (gRz (cl 128 (sg s m ^ n)) c), .inl (.b (decide ((dg 4294967296 (sg s m ^ n).natAbs).length ≤ 128)))]) := by
  have hl := dg_len_pos 65536 m (by omega)
  have l1 : (dg 65536 1).length ≤ 256 := Nat.le_trans (dg_len_le (B := 65536) (by omega) _ 1 (by decide)) (by omega)
  have e65 : sv 65536 s (dg 65536 m) = sg s m := sv_d (by omega) s m
  have hc := cmp3_one m
  have hodd := tmod2 n
  by_cases h0 : m = 0 ∧ 0 < n
  · obtain ⟨rfl, hn0⟩ := h0
    refine ⟨false, ?_⟩
    have ez : sg s 0 ^ n = 0 := by rw [sg_zero, Int.zero_pow (by omega)]
    simp only [ez, show cl 128 0 = 0 by decide, show (dg 4294967296 (0 : Int).natAbs).length = 0 by decide, dg_zero, List.length_nil] at hl ⊢
    (refine q_H Try.func51 (fun F => ?_); simp only [q_z,q_y,Try.ntmps51,Try.results51])
    repeat' (first|(with_reducible first|apply q_a|apply q_b|apply q_c|apply q_d|apply q_e|apply q_f|apply q_g|apply q_h|apply q_i|apply q_j|apply q_k|apply q_m|apply q_n|apply q_o|apply q_p|refine q_l ?_)|((with_reducible first|refine q_q jb9_ok fun K hK=>?_|refine q_r jb9_ok fun K hK=>?_);simp (maxSteps:=2000000) only [go_sem,↓reduceIte,reduceCtorEq,Nat.reduceLeDiff,Nat.reduceLT,Nat.reduceBEq,Nat.reduceAdd];(repeat1' with_reducible first|apply And.intro|(intro _;try exact q_v)|(refine hK _ ?_;clear hK K))<;>(try (clear hK K;exact q_u)))|(with_reducible refine q_s ?_;(first|apply q_J|apply q_K|apply q_L|apply q_M|apply q_N|apply q_O)<;>try (intro _;try exact q_v))|with_reducible refine q_t ?_)
    all_goals first | omega | exact q_B [nR, .inl none] rfl rfl
  · by_cases h1 : m = 1
    · subst h1
      have hp := sg_pow s 1 n
      rw [Nat.one_pow] at hp
      refine ⟨s && decide (n % 2 = 1), ?_⟩
      have hlen : (dg 4294967296 (sg s 1 ^ n).natAbs).length ≤ 128 := by
        rw [← hp, sg_abs]; exact Nat.le_trans (dg_len_le (B := 4294967296) (by omega) _ 1 (by decide)) (by omega)
      obtain ⟨e1, e2, e3⟩ := cl_fit hlen
      rw [decide_eq_true hlen, e1, ← hp, gRz_eq]
      have hc1 : cmp3 1 1 = 0 := by decide
      have hodd2 : ((n % 2 : Nat) : Int) = 1 ↔ n % 2 = 1 := by omega
      cases s
      all_goals
        (refine q_H Try.func51 (fun F => ?_); simp only [q_z,q_y,Try.ntmps51,Try.results51])
        repeat' (first|(with_reducible first|apply q_a|apply q_b|apply q_c|apply q_d|apply q_e|apply q_f|apply q_g|apply q_h|apply q_i|apply q_j|apply q_k|apply q_m|apply q_n|apply q_o|apply q_p|refine q_l ?_)|((with_reducible first|refine q_q jb9_ok fun K hK=>?_|refine q_r jb9_ok fun K hK=>?_);simp (maxSteps:=2000000) only [go_sem,↓reduceIte,reduceCtorEq,Nat.reduceLeDiff,Nat.reduceLT,Nat.reduceBEq,Nat.reduceAdd,hc1, toNat1, hodd];(repeat1' with_reducible first|apply And.intro|(intro _;try exact q_v)|(refine hK _ ?_;clear hK K))<;>(try (clear hK K;exact q_u)))|(with_reducible refine q_s ?_;(first|apply q_J|apply q_K|apply q_L|apply q_M|apply q_N|apply q_O)<;>try (intro _;try exact q_v))|with_reducible refine q_t ?_)
      all_goals first | omega | contradiction | exact q_A (by simp only [resAV, Bool.false_and, Bool.true_and, decide_eq_decide.2 hodd2]) | skip
    · have hz : sg s m ≠ 0 ∨ n = 0 ∨ 0 < n := by omega
      have hc1 : ¬ cmp3 m 1 = 0 := fun h => h1 (hc.1 h)
      have hm0 : ¬ (dg 65536 m).length = 0 ∨ n = 0 := by omega
      generalize hzz : sg s m = z at *
      have g0 : [C.b false, C.ints .i64 (dg 65536 1)] = gR (z ^ 0) := by rw [Int.pow_zero]; rfl
      refine ⟨false, ?_⟩
      rcases Nat.eq_zero_or_pos m with hm | hm
      all_goals
        (refine q_H Try.func51 (fun F => ?_); simp only [q_z,q_y,Try.ntmps51,Try.results51])
        repeat' (first|(with_reducible first|apply q_a|apply q_b|apply q_c|apply q_d|apply q_e|apply q_f|apply q_g|apply q_h|apply q_i|apply q_j|apply q_k|apply q_m|apply q_n|apply q_o|apply q_p|refine q_l ?_)|((with_reducible first|refine q_q jb9_ok fun K hK=>?_|refine q_r jb9_ok fun K hK=>?_);simp (maxSteps:=2000000) only [go_sem,↓reduceIte,reduceCtorEq,Nat.reduceLeDiff,Nat.reduceLT,Nat.reduceBEq,Nat.reduceAdd,toNat1];(repeat1' with_reducible first|apply And.intro|(intro _;try exact q_v)|(refine hK _ ?_;clear hK K))<;>(try (clear hK K;exact q_u)))|(with_reducible refine q_s ?_;(first|apply q_J|apply q_K|apply q_L|apply q_M|apply q_N|apply q_O)<;>try (intro _;try exact q_v))|with_reducible refine q_t ?_)
        all_goals try omega
        refine q_G (ι := { k : Nat // k ≤ n ∧ (dg 65536 (z ^ k).natAbs).length ≤ 256 }) (fun k => ⟨44, [(1, .c (.i .i64 ((n : Int) - (k.1 : Nat)))), (2, .bx 0 0), (4, .bx 1 0), (6, .bx 2 0)], ⟨[(2, [.c (.b (decide (z ^ k.1 < 0))), .c (.ints .i64 (dg 65536 (z ^ k.1).natAbs))]), (1, [.c (.b false), .c .nil]), (0, [.c (.b s), .c (.ints .i64 (dg 65536 m))])], [], []⟩, 3⟩) (fun k => n - k.1) ⟨0, by omega, by rw [Int.pow_zero]; exact l1⟩ ?_ ?_
        · simp only [Int.pow_zero]
          exact q_D
        rintro ⟨k, g1, g2⟩
        simp only at g1 g2 ⊢
        have g3 := zmul_len (by omega) g2 (show (dg 65536 z.natAbs).length ≤ 256 by rw [← hzz, sg_abs]; exact lm)
        rcases Nat.lt_or_ge k n with hk | hk
        · by_cases hf : (dg 65536 (z ^ (k + 1)).natAbs).length ≤ 256
          · have hf2 : ((dg 65536 (z ^ (k + 1)).natAbs).length : Int) ≤ 2 * 128 := by omega
            repeat' (first|(with_reducible first|apply q_a|apply q_b|apply q_c|apply q_d|apply q_e|apply q_f|apply q_g|apply q_h|apply q_i|apply q_j|apply q_k|apply q_m|apply q_n|apply q_o|apply q_p|refine q_l ?_)|((with_reducible first|refine q_q jb9_ok fun K hK=>?_|refine q_r jb9_ok fun K hK=>?_);simp (maxSteps:=2000000) only [go_sem,↓reduceIte,reduceCtorEq,Nat.reduceLeDiff,Nat.reduceLT,Nat.reduceBEq,Nat.reduceAdd,e65, ← Int.pow_succ, decide_eq_true hf2];(repeat1' with_reducible first|apply And.intro|(intro _;try exact q_v)|(refine hK _ ?_;clear hK K))<;>(try (clear hK K;exact q_u)))|(with_reducible refine q_s ?_;(first|apply q_J|apply q_K|apply q_L|apply q_M|apply q_N|apply q_O)<;>try (intro _;try exact q_v))|with_reducible refine q_t ?_)
            all_goals first | omega | skip
            all_goals
              refine q_F ⟨k + 1, hk, hf⟩ ?_ (by simp only; omega)
              exact q_D
          · have hf2 : ¬ ((dg 65536 (z ^ (k + 1)).natAbs).length : Int) ≤ 2 * 128 := by omega
            have hbad : ¬ (dg 4294967296 (z ^ n).natAbs).length ≤ 128 := fun h => hf ((dg_half' _ 128).2 (pow_len (k := k + 1) (n := n) hk (by omega) h))
            obtain ⟨e1, e2, e3⟩ := cl_big hbad
            repeat' (first|(with_reducible first|apply q_a|apply q_b|apply q_c|apply q_d|apply q_e|apply q_f|apply q_g|apply q_h|apply q_i|apply q_j|apply q_k|apply q_m|apply q_n|apply q_o|apply q_p|refine q_l ?_)|((with_reducible first|refine q_q jb9_ok fun K hK=>?_|refine q_r jb9_ok fun K hK=>?_);simp (maxSteps:=2000000) only [go_sem,↓reduceIte,reduceCtorEq,Nat.reduceLeDiff,Nat.reduceLT,Nat.reduceBEq,Nat.reduceAdd,e65, ← Int.pow_succ, decide_eq_false hf2];(repeat1' with_reducible first|apply And.intro|(intro _;try exact q_v)|(refine hK _ ?_;clear hK K))<;>(try (clear hK K;exact q_u)))|(with_reducible refine q_s ?_;(first|apply q_J|apply q_K|apply q_L|apply q_M|apply q_N|apply q_O)<;>try (intro _;try exact q_v))|with_reducible refine q_t ?_)
            all_goals first | omega | exact q_B [nR, .inl none] rfl (by simp only [norm, nz, nzL, resAV, e1, decide_eq_false hbad]; rfl)
        · have hk' : k = n := by omega
          subst hk'
          have hgood := (dg_half' _ 128).1 g2
          obtain ⟨e1, e2, e3⟩ := cl_fit hgood
          repeat' (first|(with_reducible first|apply q_a|apply q_b|apply q_c|apply q_d|apply q_e|apply q_f|apply q_g|apply q_h|apply q_i|apply q_j|apply q_k|apply q_m|apply q_n|apply q_o|apply q_p|refine q_l ?_)|((with_reducible first|refine q_q jb9_ok fun K hK=>?_|refine q_r jb9_ok fun K hK=>?_);simp (maxSteps:=2000000) only [go_sem,↓reduceIte,reduceCtorEq,Nat.reduceLeDiff,Nat.reduceLT,Nat.reduceBEq,Nat.reduceAdd];(repeat1' with_reducible first|apply And.intro|(intro _;try exact q_v)|(refine hK _ ?_;clear hK K))<;>(try (clear hK K;exact q_u)))|(with_reducible refine q_s ?_;(first|apply q_J|apply q_K|apply q_L|apply q_M|apply q_N|apply q_O)<;>try (intro _;try exact q_v))|with_reducible refine q_t ?_)
          all_goals first | omega | exact q_A (by simp only [resAV, e1, decide_eq_true hgood, gRz, sgz_false])
def raisedCT : CT := mkCT [nR] false fun l K => match l with
  | [.inr [.b s, .ints .i64 ys], .inl (.i .i64 n)] => (InB 65536 ys ∧ Trd ys ∧ ys.length ≤ 256 ∧ 0 ≤ n ∧ n ≤ 10000) ∧ ∀ c : Bool, K (.t [.inr (gRz (cl 128 (sv 65536 s ys ^ n.toNat)) c), .inl (.b (decide ((dg 4294967296 (sv 65536 s ys ^ n.toNat).natAbs).length ≤ 128)))])
  | _ => False
def jt16 : Cfg := addT 51 raisedCT jt15
theorem jt16_ok : TblOk Try.prog jt16 := q_I jt15_ok Try.func51 fun l K h => by
  split at h
  · rename_i s ys n
    obtain ⟨⟨h1, h2, h3, h4, h5⟩, h⟩ := h
    obtain ⟨e1, e2⟩ := sv_ys (s := s) h1 h2
    rw [e2] at h
    obtain ⟨k, rfl⟩ : ∃ k : Nat, n = k := ⟨n.toNat, by omega⟩
    obtain ⟨c, this⟩ := raised_ex s (V 65536 ys) k (by omega) (by rw [← e1]; exact h3)
    rw [← e1] at this
    exact ⟨_, this, by simpa using h c⟩
  · exact h.elim
attribute [go_sem] raisedCT

end Go.Proofs.Ythfgapbcdhajiaa
