/- The reference's shifts of integers. -/
import Derived.Test.YthfgapbcdhajiaaJ3
import Derived.Test.YthfgapbcdhajiaaP5
namespace Go.Proofs.Ythfgapbcdhajiaa
set_option linter.unusedSimpArgs false
set_option linter.unusedVariables false
open Go.Abs Go.Proofs.NatL

/-! ### shifts -/
theorem toNat1m : Int.toNat 1 = 1 := rfl
def jb10 : Cfg := listT [(80, smallCT), (52, movedCT), (77, (rnumCT (fun _ _ => True) (· + ·))), (76, (rnumCT (fun xs ys => V 65536 ys ≤ V 65536 xs) (· - ·)))] [27]
theorem jb10_ok : TblOk Try.prog jb10 := listT_ok (big := jt12) jt12_ok ⟨rfl, rfl, rfl, rfl, trivial⟩
attribute [go_sem] jb10
theorem shf_len {m : Nat} {n : Int} (hn : n ≤ 4096) (lm : (dg 65536 m).length ≤ 256) : (dg 65536 (shf m n)).length ≤ 512 := by
  rcases Int.lt_or_le n 0 with h | h
  · exact Nat.le_trans (dg_len_mono (by omega) (shf_le h)) (by omega)
  · obtain ⟨k, hk⟩ : ∃ k, k = 256 := ⟨_, rfl⟩
    rw [← hk] at lm
    have h1 := lt_of_len (B := 65536) (by omega) lm
    have h2 : shf m n < 65536 ^ (k + k) := by
      unfold shf; rw [if_neg (by omega), Nat.pow_add]
      have h3 : (2 : Nat) ^ n.toNat ≤ 65536 ^ k := by
        rw [show (65536 : Nat) = 2 ^ 16 from rfl, ← Nat.pow_mul]
        exact Nat.pow_le_pow_right (by omega) (by omega)
      exact Nat.lt_of_lt_of_le (Nat.mul_lt_mul_of_pos_right h1 (pow2_pos _)) (Nat.mul_le_mul_left _ h3)
    have := dg_len_le (B := 65536) (by omega) _ _ h2
    omega
set_option maxHeartbeats 3200000 in
theorem imoved_ex (s : Bool) (m : Nat) (n : Int) (hs : s = true → 0 < m) (h1 : -9223372036854775808 ≤ n) (h2 : 0 < m → n ≤ 4096) (h3 : n ≤ 9223372036854775807) (lm : (dg 65536 m).length ≤ 256) :
    ∃ c, Ret Try.prog 59 false [.inr [.b s, .ints .i64 (dg 65536 m)], .inl (.i .i64 n)] (.g (gRz (shZ (sg s m) n) c)) := by
  have hbl := bl_zero_iff m
  by_cases hd : s = true ∧ n < 0
  · obtain ⟨rfl, hn⟩ := hd
    have hm := hs rfl
    have hd := bl_zero_iff (m - 1)
    refine ⟨true, ?_⟩
    rw [sgt, shZ_down hm hn, ← sgt, gRz_eq]
    have l1 := Nat.le_trans (dg_len_mono (B := 65536) (by omega) (Nat.sub_le m 1)) lm
    have l2 := Nat.le_trans (dg_len_mono (B := 65536) (by omega) (shf_le (m := m - 1) hn)) l1
    have l3 : (dg 65536 1).length ≤ 256 := Nat.le_trans (dg_len_le (B := 65536) (by omega) _ 1 (by decide)) (by omega)
    (refine q_w Try.func59 rfl (Nat.le_of_ble_eq_true rfl) (fun F => ?_); simp only [q_z, q_y, Try.ntmps59, Try.results59])
    repeat' (first|(with_reducible first|apply q_a|apply q_b|apply q_c|apply q_d|apply q_e|apply q_f|apply q_g|apply q_h|apply q_i|apply q_j|apply q_k|apply q_m|apply q_n|apply q_o|apply q_p|refine q_l (by decide) ?_)|((with_reducible first|refine q_q jb10_ok fun K hK=>?_|refine q_r jb10_ok q_D (by kernel_rfl) fun K hK=>?_);(simp (maxSteps:=2000000) only [go_sem,↓reduceIte,reduceCtorEq,Nat.reduceLeDiff,Nat.reduceLT,Nat.reduceBEq,Nat.reduceAdd,toNat1m]);(repeat1' (with_reducible first|apply And.intro|(intro _;try first|contradiction|(exfalso;omega))|(refine hK _ ?_;clear hK K)))<;>(try (clear hK K;first|omega|assumption|((simp (disch:=omega) only [q_H,q_I]);omega))))|((with_reducible refine q_s (by simp only [go_sem,↓reduceIte,reduceCtorEq,Nat.reduceBEq];rfl) ?_);(with_reducible first|apply q_J|apply q_K|refine q_L ?_ ?_|refine q_M ?_ ?_|refine q_N ?_ ?_|refine q_O ?_ ?_)<;>(try with_reducible (intro _;try first|contradiction|(exfalso;omega))))|with_reducible refine q_t (by simp only [go_sem,↓reduceIte,reduceCtorEq,Nat.reduceBEq,q_u,resO,q_v];rfl) ?_)
    all_goals first | omega | exact q_A rfl
  · refine ⟨s, ?_⟩
    have e : shZ (sg s m) n = sg s (shf m n) := by
      cases s
      · rw [sgf, sgf]; exact shZ_nat m n
      · rw [sgt, sgt]; exact shZ_up m (fun h => hd ⟨rfl, h⟩)
    rw [e, gRz_eq]
    have hn : s = false ∨ ¬ n < 0 := by
      cases s
      · exact .inl rfl
      · exact .inr fun h => hd ⟨rfl, h⟩
    rcases hn with rfl | hn
    · (refine q_w Try.func59 rfl (Nat.le_of_ble_eq_true rfl) (fun F => ?_); simp only [q_z, q_y, Try.ntmps59, Try.results59])
      repeat' (first|(with_reducible first|apply q_a|apply q_b|apply q_c|apply q_d|apply q_e|apply q_f|apply q_g|apply q_h|apply q_i|apply q_j|apply q_k|apply q_m|apply q_n|apply q_o|apply q_p|refine q_l (by decide) ?_)|((with_reducible first|refine q_q jb10_ok fun K hK=>?_|refine q_r jb10_ok q_D (by kernel_rfl) fun K hK=>?_);(simp (maxSteps:=2000000) only [go_sem,↓reduceIte,reduceCtorEq,Nat.reduceLeDiff,Nat.reduceLT,Nat.reduceBEq,Nat.reduceAdd]);(repeat1' (with_reducible first|apply And.intro|(intro _;try first|contradiction|(exfalso;omega))|(refine hK _ ?_;clear hK K)))<;>(try (clear hK K;first|omega|assumption|((simp (disch:=omega) only [q_H,q_I]);omega))))|((with_reducible refine q_s (by simp only [go_sem,↓reduceIte,reduceCtorEq,Nat.reduceBEq];rfl) ?_);(with_reducible first|apply q_J|apply q_K|refine q_L ?_ ?_|refine q_M ?_ ?_|refine q_N ?_ ?_|refine q_O ?_ ?_)<;>(try with_reducible (intro _;try first|contradiction|(exfalso;omega))))|with_reducible refine q_t (by simp only [go_sem,↓reduceIte,reduceCtorEq,Nat.reduceBEq,q_u,resO,q_v];rfl) ?_)
      all_goals first | omega | exact q_A rfl
    · clear hd hs
      cases s
      all_goals
        (refine q_w Try.func59 rfl (Nat.le_of_ble_eq_true rfl) (fun F => ?_); simp only [q_z, q_y, Try.ntmps59, Try.results59])
        repeat' (first|(with_reducible first|apply q_a|apply q_b|apply q_c|apply q_d|apply q_e|apply q_f|apply q_g|apply q_h|apply q_i|apply q_j|apply q_k|apply q_m|apply q_n|apply q_o|apply q_p|refine q_l (by decide) ?_)|((with_reducible first|refine q_q jb10_ok fun K hK=>?_|refine q_r jb10_ok q_D (by kernel_rfl) fun K hK=>?_);(simp (maxSteps:=2000000) only [go_sem,↓reduceIte,reduceCtorEq,Nat.reduceLeDiff,Nat.reduceLT,Nat.reduceBEq,Nat.reduceAdd]);(repeat1' (with_reducible first|apply And.intro|(intro _;try first|contradiction|(exfalso;omega))|(refine hK _ ?_;clear hK K)))<;>(try (clear hK K;first|omega|assumption|((simp (disch:=omega) only [q_H,q_I]);omega))))|((with_reducible refine q_s (by simp only [go_sem,↓reduceIte,reduceCtorEq,Nat.reduceBEq];rfl) ?_);(with_reducible first|apply q_J|apply q_K|refine q_L ?_ ?_|refine q_M ?_ ?_|refine q_N ?_ ?_|refine q_O ?_ ?_)<;>(try with_reducible (intro _;try first|contradiction|(exfalso;omega))))|with_reducible refine q_t (by simp only [go_sem,↓reduceIte,reduceCtorEq,Nat.reduceBEq,q_u,resO,q_v];rfl) ?_)
      all_goals first | omega | exact q_A rfl
def imovedCT : CT := mkCT [nR] false fun l K => match l with
  | [.inr [.b s, .ints .i64 ys], .inl (.i .i64 n)] => ((InB 65536 ys ∧ Trd ys ∧ ys.length ≤ 256 ∧ -9223372036854775808 ≤ n ∧ n ≤ 9223372036854775807) ∧ (s = true → sv 65536 s ys ≠ 0) ∧ (sv 65536 s ys ≠ 0 → n ≤ 4096)) ∧ ∀ c : Bool, K (.g (gRz (shZ (sv 65536 s ys) n) c))
  | _ => False
def jt17 : Cfg := addT 59 imovedCT jt12
theorem jt17_ok : TblOk Try.prog jt17 := q_E jt12_ok (q_C Try.func59 (by kernel_rfl) (by kernel_rfl)) rfl fun l K h => by
  split at h
  · rename_i s ys n
    obtain ⟨⟨⟨h1, h2, h3, h4, h5⟩, h6, h7⟩, h⟩ := h
    obtain ⟨e1, e2⟩ := sv_ys (s := s) h1 h2
    rw [e2] at h h6 h7
    obtain ⟨c, this⟩ := imoved_ex s (V 65536 ys) n (fun hs => by
      have := h6 hs
      rcases Nat.eq_zero_or_pos (V 65536 ys) with h0 | h0
      · rw [h0, sg_zero] at this; exact absurd rfl this
      · exact h0) h4 (fun h0 => h7 (sg_ne0 h0)) h5 (by rw [← e1]; exact h3)
    rw [← e1] at this
    exact ⟨_, this, h c⟩
  · exact h.elim
attribute [go_sem] imovedCT

end Go.Proofs.Ythfgapbcdhajiaa
