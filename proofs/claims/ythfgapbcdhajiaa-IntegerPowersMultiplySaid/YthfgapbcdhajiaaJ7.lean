/- The reference's powers and shifts of integers. -/
import Derived.Test.YthfgapbcdhajiaaJ5
import Derived.Test.YthfgapbcdhajiaaP5
namespace Go.Proofs.Ythfgapbcdhajiaa
set_option linter.unusedSimpArgs false
set_option linter.unusedVariables false
open Go.Abs Go.Proofs.NatL

def jb9 : Cfg := listT [(80, smallCT), (72, rcmpCT), (35, (rI2CT 1048576 mulF)), (82, fitsCT)] [27]
theorem jb9_ok : TblOk Try.prog jb9 := listT_ok (big := jt15) jt15_ok ⟨rfl, rfl, rfl, rfl, trivial⟩
attribute [go_sem] jb9
theorem cmp3_one (m : Nat) : cmp3 m 1 = 0 ↔ m = 1 := by
  unfold cmp3
  repeat' split
  all_goals omega
theorem toNat1 : Int.toNat 1 = 1 := rfl
set_option maxRecDepth 100000 in
set_option maxHeartbeats 3200000 in
theorem raised_ex (s : Bool) (m n : Nat) (hn : n ≤ 10000) (lm : (dg 65536 m).length ≤ 256) :
    ∃ c, Ret Try.prog 51 false [.inr [.b s, .ints .i64 (dg 65536 m)], .inl (.i .i64 (n : Int))] (.t [.inr (gRz (cl 128 (sg s m ^ n)) c), .inl (.b (decide ((dg 4294967296 (sg s m ^ n).natAbs).length ≤ 128)))]) := by
  have hl := dg_len_pos 65536 m (by omega)
  have l1 : (dg 65536 1).length ≤ 256 := Nat.le_trans (dg_len_le (B := 65536) (by omega) _ 1 (by decide)) (by omega)
  have e65 : sv 65536 s (dg 65536 m) = sg s m := sv_d (by omega) s m
  have hc := cmp3_one m
  have hodd := tmod2 n
  by_cases h0 : m = 0 ∧ 0 < n
  · obtain ⟨rfl, hn0⟩ := h0
    refine ⟨false, ?_⟩
    have ez : sg s 0 ^ n = 0 := by rw [sg_zero, Int.zero_pow (by omega)]
    simp only [ez, show cl 128 0 = 0 by decide, show (dg 4294967296 (0 : Int).natAbs).length = 0 by decide, dg_zero, List.length_nil] at hl ⊢
    (refine q_w Try.func51 rfl (Nat.le_of_ble_eq_true rfl) (fun F => ?_); simp only [q_z, q_y, Try.ntmps51, Try.results51])
    repeat' (first|(with_reducible first|apply q_a|apply q_b|apply q_c|apply q_d|apply q_e|apply q_f|apply q_g|apply q_h|apply q_i|apply q_j|apply q_k|apply q_m|apply q_n|apply q_o|apply q_p|refine q_l (by decide) ?_)|((with_reducible first|refine q_q jb9_ok fun K hK=>?_|refine q_r jb9_ok q_D (by kernel_rfl) fun K hK=>?_);(simp (maxSteps:=2000000) only [go_sem,↓reduceIte,reduceCtorEq,Nat.reduceLeDiff,Nat.reduceLT,Nat.reduceBEq,Nat.reduceAdd]);(repeat1' (with_reducible first|apply And.intro|(intro _;try first|contradiction|(exfalso;omega))|(refine hK _ ?_;clear hK K)))<;>(try (clear hK K;first|omega|assumption|((simp (disch:=omega) only [q_H,q_I]);omega))))|((with_reducible refine q_s (by simp only [go_sem,↓reduceIte,reduceCtorEq,Nat.reduceBEq];rfl) ?_);(with_reducible first|apply q_J|apply q_K|refine q_L ?_ ?_|refine q_M ?_ ?_|refine q_N ?_ ?_|refine q_O ?_ ?_)<;>(try with_reducible (intro _;try first|contradiction|(exfalso;omega))))|with_reducible refine q_t (by simp only [go_sem,↓reduceIte,reduceCtorEq,Nat.reduceBEq,q_u,resO,q_v];rfl) ?_)
    all_goals first | omega | exact q_B [nR, .inl none] rfl rfl
  · by_cases h1 : m = 1
    · subst h1
      have hp := sg_pow s 1 n
      rw [Nat.one_pow] at hp
      refine ⟨s && decide (n % 2 = 1), ?_⟩
      have hlen : (dg 4294967296 (sg s 1 ^ n).natAbs).length ≤ 128 := by
        rw [← hp, sg_abs]; exact Nat.le_trans (dg_len_le (B := 4294967296) (by omega) _ 1 (by decide)) (by omega)
      obtain ⟨e1, e2, e3⟩ := cl_fit hlen
      rw [decide_eq_true hlen, e1, ← hp, gRz_eq]
      have hc1 : cmp3 1 1 = 0 := by decide
      have hodd2 : ((n % 2 : Nat) : Int) = 1 ↔ n % 2 = 1 := by omega
      cases s
      all_goals
        (refine q_w Try.func51 rfl (Nat.le_of_ble_eq_true rfl) (fun F => ?_); simp only [q_z, q_y, Try.ntmps51, Try.results51])
        repeat' (first|(with_reducible first|apply q_a|apply q_b|apply q_c|apply q_d|apply q_e|apply q_f|apply q_g|apply q_h|apply q_i|apply q_j|apply q_k|apply q_m|apply q_n|apply q_o|apply q_p|refine q_l (by decide) ?_)|((with_reducible first|refine q_q jb9_ok fun K hK=>?_|refine q_r jb9_ok q_D (by kernel_rfl) fun K hK=>?_);(simp (maxSteps:=2000000) only [go_sem,↓reduceIte,reduceCtorEq,Nat.reduceLeDiff,Nat.reduceLT,Nat.reduceBEq,Nat.reduceAdd,hc1, toNat1, hodd]);(repeat1' (with_reducible first|apply And.intro|(intro _;try first|contradiction|(exfalso;omega))|(refine hK _ ?_;clear hK K)))<;>(try (clear hK K;first|omega|assumption|((simp (disch:=omega) only [q_H,q_I]);omega))))|((with_reducible refine q_s (by simp only [go_sem,↓reduceIte,reduceCtorEq,Nat.reduceBEq];rfl) ?_);(with_reducible first|apply q_J|apply q_K|refine q_L ?_ ?_|refine q_M ?_ ?_|refine q_N ?_ ?_|refine q_O ?_ ?_)<;>(try with_reducible (intro _;try first|contradiction|(exfalso;omega))))|with_reducible refine q_t (by simp only [go_sem,↓reduceIte,reduceCtorEq,Nat.reduceBEq,q_u,resO,q_v];rfl) ?_)
      all_goals first | omega | contradiction | exact q_A (by simp only [resAV, Bool.false_and, Bool.true_and, decide_eq_decide.2 hodd2]) | skip
    · have hz : sg s m ≠ 0 ∨ n = 0 ∨ 0 < n := by omega
      have hc1 : ¬ cmp3 m 1 = 0 := fun h => h1 (hc.1 h)
      have hm0 : ¬ (dg 65536 m).length = 0 ∨ n = 0 := by omega
      generalize hzz : sg s m = z at *
      have g0 : [C.b false, C.ints .i64 (dg 65536 1)] = gR (z ^ 0) := by rw [Int.pow_zero]; rfl
      refine ⟨false, ?_⟩
      rcases Nat.eq_zero_or_pos m with hm | hm
      all_goals
        (refine q_w Try.func51 rfl (Nat.le_of_ble_eq_true rfl) (fun F => ?_); simp only [q_z, q_y, Try.ntmps51, Try.results51])
        repeat' (first|(with_reducible first|apply q_a|apply q_b|apply q_c|apply q_d|apply q_e|apply q_f|apply q_g|apply q_h|apply q_i|apply q_j|apply q_k|apply q_m|apply q_n|apply q_o|apply q_p|refine q_l (by decide) ?_)|((with_reducible first|refine q_q jb9_ok fun K hK=>?_|refine q_r jb9_ok q_D (by kernel_rfl) fun K hK=>?_);(simp (maxSteps:=2000000) only [go_sem,↓reduceIte,reduceCtorEq,Nat.reduceLeDiff,Nat.reduceLT,Nat.reduceBEq,Nat.reduceAdd,toNat1]);(repeat1' (with_reducible first|apply And.intro|(intro _;try first|contradiction|(exfalso;omega))|(refine hK _ ?_;clear hK K)))<;>(try (clear hK K;first|omega|assumption|((simp (disch:=omega) only [q_H,q_I]);omega))))|((with_reducible refine q_s (by simp only [go_sem,↓reduceIte,reduceCtorEq,Nat.reduceBEq];rfl) ?_);(with_reducible first|apply q_J|apply q_K|refine q_L ?_ ?_|refine q_M ?_ ?_|refine q_N ?_ ?_|refine q_O ?_ ?_)<;>(try with_reducible (intro _;try first|contradiction|(exfalso;omega))))|with_reducible refine q_t (by simp only [go_sem,↓reduceIte,reduceCtorEq,Nat.reduceBEq,q_u,resO,q_v];rfl) ?_)
        all_goals try omega
        refine q_G (ι := { k : Nat // k ≤ n ∧ (dg 65536 (z ^ k).natAbs).length ≤ 256 }) (fun k => ⟨44, [(1, .c (.i .i64 ((n : Int) - (k.1 : Nat)))), (2, .bx 0 0), (4, .bx 1 0), (6, .bx 2 0)], ⟨[(2, [.c (.b (decide (z ^ k.1 < 0))), .c (.ints .i64 (dg 65536 (z ^ k.1).natAbs))]), (1, [.c (.b false), .c .nil]), (0, [.c (.b s), .c (.ints .i64 (dg 65536 m))])], [], []⟩, 3⟩) (fun k => n - k.1) ⟨0, by omega, by rw [Int.pow_zero]; exact l1⟩ ?_ ?_
        · simp only [Int.pow_zero]
          ((simp only [go_sem,↓reduceIte,reduceCtorEq,Nat.reduceLeDiff,Nat.reduceLT,Nat.reduceBEq,Nat.reduceAdd])<;>(try (simp;done))<;>(try ((simp only [C.i.injEq,C.b.injEq,C.ints.injEq,C.bools.injEq,List.append_cancel_left_eq,List.cons.injEq,true_and,and_true]);(repeat' with_reducible apply And.intro)<;>(first|rfl|assumption|omega|(simp;omega)|(congr 1;omega)|(congr 2;omega)))))
        rintro ⟨k, g1, g2⟩
        simp only at g1 g2 ⊢
        have g3 := zmul_len (by omega) g2 (show (dg 65536 z.natAbs).length ≤ 256 by rw [← hzz, sg_abs]; exact lm)
        rcases Nat.lt_or_ge k n with hk | hk
        · by_cases hf : (dg 65536 (z ^ (k + 1)).natAbs).length ≤ 256
          · have hf2 : ((dg 65536 (z ^ (k + 1)).natAbs).length : Int) ≤ 2 * 128 := by omega
            repeat' (first|(with_reducible first|apply q_a|apply q_b|apply q_c|apply q_d|apply q_e|apply q_f|apply q_g|apply q_h|apply q_i|apply q_j|apply q_k|apply q_m|apply q_n|apply q_o|apply q_p|refine q_l (by decide) ?_)|((with_reducible first|refine q_q jb9_ok fun K hK=>?_|refine q_r jb9_ok q_D (by kernel_rfl) fun K hK=>?_);(simp (maxSteps:=2000000) only [go_sem,↓reduceIte,reduceCtorEq,Nat.reduceLeDiff,Nat.reduceLT,Nat.reduceBEq,Nat.reduceAdd,e65, ← Int.pow_succ, decide_eq_true hf2]);(repeat1' (with_reducible first|apply And.intro|(intro _;try first|contradiction|(exfalso;omega))|(refine hK _ ?_;clear hK K)))<;>(try (clear hK K;first|omega|assumption|((simp (disch:=omega) only [q_H,q_I]);omega))))|((with_reducible refine q_s (by simp only [go_sem,↓reduceIte,reduceCtorEq,Nat.reduceBEq];rfl) ?_);(with_reducible first|apply q_J|apply q_K|refine q_L ?_ ?_|refine q_M ?_ ?_|refine q_N ?_ ?_|refine q_O ?_ ?_)<;>(try with_reducible (intro _;try first|contradiction|(exfalso;omega))))|with_reducible refine q_t (by simp only [go_sem,↓reduceIte,reduceCtorEq,Nat.reduceBEq,q_u,resO,q_v];rfl) ?_)
            all_goals first | omega | skip
            all_goals
              refine q_F ⟨k + 1, hk, hf⟩ ?_ (by simp only; omega)
              ((simp only [go_sem,↓reduceIte,reduceCtorEq,Nat.reduceLeDiff,Nat.reduceLT,Nat.reduceBEq,Nat.reduceAdd])<;>(try (simp;done))<;>(try ((simp only [C.i.injEq,C.b.injEq,C.ints.injEq,C.bools.injEq,List.append_cancel_left_eq,List.cons.injEq,true_and,and_true]);(repeat' with_reducible apply And.intro)<;>(first|rfl|assumption|omega|(simp;omega)|(congr 1;omega)|(congr 2;omega)))))
          · have hf2 : ¬ ((dg 65536 (z ^ (k + 1)).natAbs).length : Int) ≤ 2 * 128 := by omega
            have hbad : ¬ (dg 4294967296 (z ^ n).natAbs).length ≤ 128 := fun h => hf ((dg_half' _ 128).2 (pow_len (k := k + 1) (n := n) hk (by omega) h))
            obtain ⟨e1, e2, e3⟩ := cl_big hbad
            repeat' (first|(with_reducible first|apply q_a|apply q_b|apply q_c|apply q_d|apply q_e|apply q_f|apply q_g|apply q_h|apply q_i|apply q_j|apply q_k|apply q_m|apply q_n|apply q_o|apply q_p|refine q_l (by decide) ?_)|((with_reducible first|refine q_q jb9_ok fun K hK=>?_|refine q_r jb9_ok q_D (by kernel_rfl) fun K hK=>?_);(simp (maxSteps:=2000000) only [go_sem,↓reduceIte,reduceCtorEq,Nat.reduceLeDiff,Nat.reduceLT,Nat.reduceBEq,Nat.reduceAdd,e65, ← Int.pow_succ, decide_eq_false hf2]);(repeat1' (with_reducible first|apply And.intro|(intro _;try first|contradiction|(exfalso;omega))|(refine hK _ ?_;clear hK K)))<;>(try (clear hK K;first|omega|assumption|((simp (disch:=omega) only [q_H,q_I]);omega))))|((with_reducible refine q_s (by simp only [go_sem,↓reduceIte,reduceCtorEq,Nat.reduceBEq];rfl) ?_);(with_reducible first|apply q_J|apply q_K|refine q_L ?_ ?_|refine q_M ?_ ?_|refine q_N ?_ ?_|refine q_O ?_ ?_)<;>(try with_reducible (intro _;try first|contradiction|(exfalso;omega))))|with_reducible refine q_t (by simp only [go_sem,↓reduceIte,reduceCtorEq,Nat.reduceBEq,q_u,resO,q_v];rfl) ?_)
            all_goals first | omega | exact q_B [nR, .inl none] rfl (by simp only [norm, nz, nzL, resAV, e1, decide_eq_false hbad]; rfl)
        · have hk' : k = n := by omega
          subst hk'
          have hgood := (dg_half' _ 128).1 g2
          obtain ⟨e1, e2, e3⟩ := cl_fit hgood
          repeat' (first|(with_reducible first|apply q_a|apply q_b|apply q_c|apply q_d|apply q_e|apply q_f|apply q_g|apply q_h|apply q_i|apply q_j|apply q_k|apply q_m|apply q_n|apply q_o|apply q_p|refine q_l (by decide) ?_)|((with_reducible first|refine q_q jb9_ok fun K hK=>?_|refine q_r jb9_ok q_D (by kernel_rfl) fun K hK=>?_);(simp (maxSteps:=2000000) only [go_sem,↓reduceIte,reduceCtorEq,Nat.reduceLeDiff,Nat.reduceLT,Nat.reduceBEq,Nat.reduceAdd]);(repeat1' (with_reducible first|apply And.intro|(intro _;try first|contradiction|(exfalso;omega))|(refine hK _ ?_;clear hK K)))<;>(try (clear hK K;first|omega|assumption|((simp (disch:=omega) only [q_H,q_I]);omega))))|((with_reducible refine q_s (by simp only [go_sem,↓reduceIte,reduceCtorEq,Nat.reduceBEq];rfl) ?_);(with_reducible first|apply q_J|apply q_K|refine q_L ?_ ?_|refine q_M ?_ ?_|refine q_N ?_ ?_|refine q_O ?_ ?_)<;>(try with_reducible (intro _;try first|contradiction|(exfalso;omega))))|with_reducible refine q_t (by simp only [go_sem,↓reduceIte,reduceCtorEq,Nat.reduceBEq,q_u,resO,q_v];rfl) ?_)
          all_goals first | omega | exact q_A (by simp only [resAV, e1, decide_eq_true hgood, gRz, sgz_false])
def raisedCT : CT := mkCT [nR] false fun l K => match l with
  | [.inr [.b s, .ints .i64 ys], .inl (.i .i64 n)] => (InB 65536 ys ∧ Trd ys ∧ ys.length ≤ 256 ∧ 0 ≤ n ∧ n ≤ 10000) ∧ ∀ c : Bool, K (.t [.inr (gRz (cl 128 (sv 65536 s ys ^ n.toNat)) c), .inl (.b (decide ((dg 4294967296 (sv 65536 s ys ^ n.toNat).natAbs).length ≤ 128)))])
  | _ => False
def jt16 : Cfg := addT 51 raisedCT jt15
theorem jt16_ok : TblOk Try.prog jt16 := q_E jt15_ok (q_C Try.func51 (by kernel_rfl) (by kernel_rfl)) rfl fun l K h => by
  split at h
  · rename_i s ys n
    obtain ⟨⟨h1, h2, h3, h4, h5⟩, h⟩ := h
    obtain ⟨e1, e2⟩ := sv_ys (s := s) h1 h2
    rw [e2] at h
    obtain ⟨k, rfl⟩ : ∃ k : Nat, n = k := ⟨n.toNat, by omega⟩
    obtain ⟨c, this⟩ := raised_ex s (V 65536 ys) k (by omega) (by rw [← e1]; exact h3)
    rw [← e1] at this
    exact ⟨_, this, by simpa using h c⟩
  · exact h.elim
attribute [go_sem] raisedCT

/-! ### shifts -/
def jb10 : Cfg := listT [(80, smallCT), (52, movedCT), (77, (rnumCT (fun _ _ => True) (· + ·))), (76, (rnumCT (fun xs ys => V 65536 ys ≤ V 65536 xs) (· - ·)))] [27]
theorem jb10_ok : TblOk Try.prog jb10 := listT_ok (big := jt16) jt16_ok ⟨rfl, rfl, rfl, rfl, trivial⟩
attribute [go_sem] jb10
theorem shf_len {m : Nat} {n : Int} (hn : n ≤ 4096) (lm : (dg 65536 m).length ≤ 256) : (dg 65536 (shf m n)).length ≤ 512 := by
  rcases Int.lt_or_le n 0 with h | h
  · exact Nat.le_trans (dg_len_mono (by omega) (shf_le h)) (by omega)
  · obtain ⟨k, hk⟩ : ∃ k, k = 256 := ⟨_, rfl⟩
    rw [← hk] at lm
    have h1 := lt_of_len (B := 65536) (by omega) lm
    have h2 : shf m n < 65536 ^ (k + k) := by
      unfold shf; rw [if_neg (by omega), Nat.pow_add]
      have h3 : (2 : Nat) ^ n.toNat ≤ 65536 ^ k := by
        rw [show (65536 : Nat) = 2 ^ 16 from rfl, ← Nat.pow_mul]
        exact Nat.pow_le_pow_right (by omega) (by omega)
      exact Nat.lt_of_lt_of_le (Nat.mul_lt_mul_of_pos_right h1 (pow2_pos _)) (Nat.mul_le_mul_left _ h3)
    have := dg_len_le (B := 65536) (by omega) _ _ h2
    omega
set_option maxHeartbeats 3200000 in
theorem imoved_ex (s : Bool) (m : Nat) (n : Int) (hs : s = true → 0 < m) (h1 : -9223372036854775808 ≤ n) (h2 : 0 < m → n ≤ 4096) (h3 : n ≤ 9223372036854775807) (lm : (dg 65536 m).length ≤ 256) :
    ∃ c, Ret Try.prog 59 false [.inr [.b s, .ints .i64 (dg 65536 m)], .inl (.i .i64 n)] (.g (gRz (shZ (sg s m) n) c)) := by
  have hbl := bl_zero_iff m
  by_cases hd : s = true ∧ n < 0
  · obtain ⟨rfl, hn⟩ := hd
    have hm := hs rfl
    have hd := bl_zero_iff (m - 1)
    refine ⟨true, ?_⟩
    rw [sgt, shZ_down hm hn, ← sgt, gRz_eq]
    have l1 := Nat.le_trans (dg_len_mono (B := 65536) (by omega) (Nat.sub_le m 1)) lm
    have l2 := Nat.le_trans (dg_len_mono (B := 65536) (by omega) (shf_le (m := m - 1) hn)) l1
    have l3 : (dg 65536 1).length ≤ 256 := Nat.le_trans (dg_len_le (B := 65536) (by omega) _ 1 (by decide)) (by omega)
    (refine q_w Try.func59 rfl (Nat.le_of_ble_eq_true rfl) (fun F => ?_); simp only [q_z, q_y, Try.ntmps59, Try.results59])
    repeat' (first|(with_reducible first|apply q_a|apply q_b|apply q_c|apply q_d|apply q_e|apply q_f|apply q_g|apply q_h|apply q_i|apply q_j|apply q_k|apply q_m|apply q_n|apply q_o|apply q_p|refine q_l (by decide) ?_)|((with_reducible first|refine q_q jb10_ok fun K hK=>?_|refine q_r jb10_ok q_D (by kernel_rfl) fun K hK=>?_);(simp (maxSteps:=2000000) only [go_sem,↓reduceIte,reduceCtorEq,Nat.reduceLeDiff,Nat.reduceLT,Nat.reduceBEq,Nat.reduceAdd,toNat1]);(repeat1' (with_reducible first|apply And.intro|(intro _;try first|contradiction|(exfalso;omega))|(refine hK _ ?_;clear hK K)))<;>(try (clear hK K;first|omega|assumption|((simp (disch:=omega) only [q_H,q_I]);omega))))|((with_reducible refine q_s (by simp only [go_sem,↓reduceIte,reduceCtorEq,Nat.reduceBEq];rfl) ?_);(with_reducible first|apply q_J|apply q_K|refine q_L ?_ ?_|refine q_M ?_ ?_|refine q_N ?_ ?_|refine q_O ?_ ?_)<;>(try with_reducible (intro _;try first|contradiction|(exfalso;omega))))|with_reducible refine q_t (by simp only [go_sem,↓reduceIte,reduceCtorEq,Nat.reduceBEq,q_u,resO,q_v];rfl) ?_)
    all_goals first | omega | exact q_A rfl
  · refine ⟨s, ?_⟩
    have e : shZ (sg s m) n = sg s (shf m n) := by
      cases s
      · rw [sgf, sgf]; exact shZ_nat m n
      · rw [sgt, sgt]; exact shZ_up m (fun h => hd ⟨rfl, h⟩)
    rw [e, gRz_eq]
    have hn : s = false ∨ ¬ n < 0 := by
      cases s
      · exact .inl rfl
      · exact .inr fun h => hd ⟨rfl, h⟩
    rcases hn with rfl | hn
    · (refine q_w Try.func59 rfl (Nat.le_of_ble_eq_true rfl) (fun F => ?_); simp only [q_z, q_y, Try.ntmps59, Try.results59])
      repeat' (first|(with_reducible first|apply q_a|apply q_b|apply q_c|apply q_d|apply q_e|apply q_f|apply q_g|apply q_h|apply q_i|apply q_j|apply q_k|apply q_m|apply q_n|apply q_o|apply q_p|refine q_l (by decide) ?_)|((with_reducible first|refine q_q jb10_ok fun K hK=>?_|refine q_r jb10_ok q_D (by kernel_rfl) fun K hK=>?_);(simp (maxSteps:=2000000) only [go_sem,↓reduceIte,reduceCtorEq,Nat.reduceLeDiff,Nat.reduceLT,Nat.reduceBEq,Nat.reduceAdd]);(repeat1' (with_reducible first|apply And.intro|(intro _;try first|contradiction|(exfalso;omega))|(refine hK _ ?_;clear hK K)))<;>(try (clear hK K;first|omega|assumption|((simp (disch:=omega) only [q_H,q_I]);omega))))|((with_reducible refine q_s (by simp only [go_sem,↓reduceIte,reduceCtorEq,Nat.reduceBEq];rfl) ?_);(with_reducible first|apply q_J|apply q_K|refine q_L ?_ ?_|refine q_M ?_ ?_|refine q_N ?_ ?_|refine q_O ?_ ?_)<;>(try with_reducible (intro _;try first|contradiction|(exfalso;omega))))|with_reducible refine q_t (by simp only [go_sem,↓reduceIte,reduceCtorEq,Nat.reduceBEq,q_u,resO,q_v];rfl) ?_)
      all_goals first | omega | exact q_A rfl
    · clear hd hs
      cases s
      all_goals
        (refine q_w Try.func59 rfl (Nat.le_of_ble_eq_true rfl) (fun F => ?_); simp only [q_z, q_y, Try.ntmps59, Try.results59])
        repeat' (first|(with_reducible first|apply q_a|apply q_b|apply q_c|apply q_d|apply q_e|apply q_f|apply q_g|apply q_h|apply q_i|apply q_j|apply q_k|apply q_m|apply q_n|apply q_o|apply q_p|refine q_l (by decide) ?_)|((with_reducible first|refine q_q jb10_ok fun K hK=>?_|refine q_r jb10_ok q_D (by kernel_rfl) fun K hK=>?_);(simp (maxSteps:=2000000) only [go_sem,↓reduceIte,reduceCtorEq,Nat.reduceLeDiff,Nat.reduceLT,Nat.reduceBEq,Nat.reduceAdd]);(repeat1' (with_reducible first|apply And.intro|(intro _;try first|contradiction|(exfalso;omega))|(refine hK _ ?_;clear hK K)))<;>(try (clear hK K;first|omega|assumption|((simp (disch:=omega) only [q_H,q_I]);omega))))|((with_reducible refine q_s (by simp only [go_sem,↓reduceIte,reduceCtorEq,Nat.reduceBEq];rfl) ?_);(with_reducible first|apply q_J|apply q_K|refine q_L ?_ ?_|refine q_M ?_ ?_|refine q_N ?_ ?_|refine q_O ?_ ?_)<;>(try with_reducible (intro _;try first|contradiction|(exfalso;omega))))|with_reducible refine q_t (by simp only [go_sem,↓reduceIte,reduceCtorEq,Nat.reduceBEq,q_u,resO,q_v];rfl) ?_)
      all_goals first | omega | exact q_A rfl
def imovedCT : CT := mkCT [nR] false fun l K => match l with
  | [.inr [.b s, .ints .i64 ys], .inl (.i .i64 n)] => ((InB 65536 ys ∧ Trd ys ∧ ys.length ≤ 256 ∧ -9223372036854775808 ≤ n ∧ n ≤ 9223372036854775807) ∧ (s = true → sv 65536 s ys ≠ 0) ∧ (sv 65536 s ys ≠ 0 → n ≤ 4096)) ∧ ∀ c : Bool, K (.g (gRz (shZ (sv 65536 s ys) n) c))
  | _ => False
def jt17 : Cfg := addT 59 imovedCT jt16
theorem jt17_ok : TblOk Try.prog jt17 := q_E jt16_ok (q_C Try.func59 (by kernel_rfl) (by kernel_rfl)) rfl fun l K h => by
  split at h
  · rename_i s ys n
    obtain ⟨⟨⟨h1, h2, h3, h4, h5⟩, h6, h7⟩, h⟩ := h
    obtain ⟨e1, e2⟩ := sv_ys (s := s) h1 h2
    rw [e2] at h h6 h7
    obtain ⟨c, this⟩ := imoved_ex s (V 65536 ys) n (fun hs => by
      have := h6 hs
      rcases Nat.eq_zero_or_pos (V 65536 ys) with h0 | h0
      · rw [h0, sg_zero] at this; exact absurd rfl this
      · exact h0) h4 (fun h0 => h7 (sg_ne0 h0)) h5 (by rw [← e1]; exact h3)
    rw [← e1] at this
    exact ⟨_, this, h c⟩
  · exact h.elim
attribute [go_sem] imovedCT

end Go.Proofs.Ythfgapbcdhajiaa
