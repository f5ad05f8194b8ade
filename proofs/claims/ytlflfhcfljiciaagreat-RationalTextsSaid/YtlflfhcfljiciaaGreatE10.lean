import Derived.Test.YtlflfhcfljiciaaGreatE5
import Derived.Test.YtlflfhcfljiciaaGreatE8
import Derived.Test.YtlflfhcfljiciaaGreatE9
namespace Go.Proofs.YtlflfhcfljiciaaGreat
set_option linter.unusedSimpArgs false
set_option linter.unusedVariables false
open Go.Abs Go.Proofs.NatL
attribute [go_sem] cf0 addT mkCT mkCTO norm nz nzL List.mem_singleton List.mem_cons true_or or_true rf1 rtrimCT rf2 ofCT
theorem mulC (x y : Int) (hx : 0 ≤ x ∧ x < 65536) (hy : 0 ≤ y ∧ y < 65536) : 0 ≤ x * y ∧ x * y ≤ 4294836225 := by
  constructor
  · exact Int.mul_nonneg hx.1 hy.1
  · have h1 : x * y ≤ 65535 * y := Int.mul_le_mul_of_nonneg_right (by omega) hy.1
    omega

set_option maxHeartbeats 3200000 in
theorem times_ret (xs ys : List Int) (hx : xs.length ≤ 4194304) (hy : ys.length ≤ 4194304) (bx : InB 65536 xs) (by' : InB 65536 ys) : Ret Tryz.prog 59 false [.inl (.ints .i64 xs), .inl (.ints .i64 ys)] (.c (.ints .i64 (dg 65536 (V 65536 xs * V 65536 ys)))) := by
  (refine q_H Tryz.func59 (fun F => ?_); simp only [q_z,q_y,Tryz.ntmps59,Tryz.results59])
  repeat' (first|(with_reducible first|apply q_a|apply q_b|apply q_c|apply q_d|apply q_e|apply q_f|apply q_g|apply q_h|apply q_i|apply q_j|apply q_k|apply q_m|apply q_n|apply q_o|apply q_p|refine q_l ?_)|((with_reducible first|refine q_q rf1_ok fun K hK=>?_|refine q_r rf1_ok fun K hK=>?_);simp (maxSteps:=2000000) only [go_sem,↓reduceIte,reduceCtorEq,Nat.reduceLeDiff,Nat.reduceLT,Nat.reduceBEq,Nat.reduceAdd];(repeat1' with_reducible first|apply And.intro|intro _|(refine hK _ ?_;clear hK K))<;>(try (clear hK K;exact q_u)))|(with_reducible refine q_s ?_;(first|apply q_J|apply q_K|apply q_L|apply q_M|apply q_N|apply q_O)<;>try intro _)|with_reducible refine q_t ?_)
  refine q_G (ι := { p : Nat × List Int // p.1 ≤ xs.length ∧ p.2.length = xs.length + ys.length + 1 ∧ InB 65536 p.2 ∧ (∀ j, p.1 + ys.length ≤ j → p.2.getD j 0 = 0) ∧ V 65536 p.2 = V 65536 (xs.take p.1) * V 65536 ys }) (fun p => ⟨67, [(0, .c (.ints .i64 xs)), (1, .c (.ints .i64 ys)), (5, .own 0 0), (6, .c (.i .i64 p.1.1))], ⟨[], [(0, ⟨0, 3, 1, .ints .i64 p.1.2⟩)], []⟩, 1⟩) (fun p => xs.length - p.1.1) ⟨(0, List.replicate (xs.length + ys.length + 1) 0), by simp, by simp, InB_replicate (by omega) _, fun j _ => getD_replicate _ j, by simp [V_replicate, V]⟩ ?_ ?_
  · exact q_D
  rintro ⟨⟨i, o⟩, g1, g2, g3, g4, g5⟩
  simp only at g1 g2 g3 g4 g5 ⊢
  have b1 := InB_getD (by omega) bx i
  repeat' (first|(with_reducible first|apply q_a|apply q_b|apply q_c|apply q_d|apply q_e|apply q_f|apply q_g|apply q_h|apply q_i|apply q_j|apply q_k|apply q_m|apply q_n|apply q_o|apply q_p|refine q_l ?_)|((with_reducible first|refine q_q rf1_ok fun K hK=>?_|refine q_r rf1_ok fun K hK=>?_);simp (maxSteps:=2000000) only [go_sem,↓reduceIte,reduceCtorEq,Nat.reduceLeDiff,Nat.reduceLT,Nat.reduceBEq,Nat.reduceAdd];(repeat1' with_reducible first|apply And.intro|intro _|(refine hK _ ?_;clear hK K))<;>(try (clear hK K;exact q_u)))|(with_reducible refine q_s ?_;(first|apply q_J|apply q_K|apply q_L|apply q_M|apply q_N|apply q_O)<;>try intro _)|with_reducible refine q_t ?_)
  · rename_i ha
    refine q_G (ι := { p : Nat × List Int × Int // p.1 ≤ ys.length + 1 ∧ (p.1 = ys.length + 1 → p.2.2 = 0) ∧ p.2.1.length = xs.length + ys.length + 1 ∧ InB 65536 p.2.1 ∧ (∀ j, p.1 ≤ ys.length → i + ys.length ≤ j → p.2.1.getD j 0 = 0) ∧ (∀ j, i + 1 + ys.length ≤ j → p.2.1.getD j 0 = 0) ∧ (0 ≤ p.2.2 ∧ p.2.2 < 65536) ∧ V 65536 p.2.1 + 65536 ^ (i + p.1) * p.2.2.toNat = V 65536 o + 65536 ^ i * ((xs.getD i 0).toNat * V 65536 (ys.take p.1)) }) (fun p => ⟨67, [(0, .c (.ints .i64 xs)), (1, .c (.ints .i64 ys)), (5, .own 0 0), (6, .c (.i .i64 i)), (7, .c (.i .i64 p.1.2.2)), (8, .c (.i .i64 p.1.1))], ⟨[], [(0, ⟨0, 3, 1, .ints .i64 p.1.2.1⟩)], []⟩, 1⟩) (fun p => ys.length + 1 - p.1.1) ⟨(0, o, 0), by simp, by simp, by simp [g2], g3, fun j _ hj => g4 j hj, fun j hj => g4 j (by omega), by simp, by simp [V]⟩ ?_ ?_
    · exact q_D
    rintro ⟨⟨k, o', c⟩, k1, k0, k2, k3, k4, k7, k5, k6⟩
    simp only at k1 k0 k2 k3 k4 k7 k5 k6 ⊢
    have b2 := InB_getD (by omega) by' k
    have b3 := InB_getD (by omega) k3 (i + k)
    have b4 := mulC _ _ b1 b2
    have e1 : ((i : Int) + (k : Int)).toNat = i + k := by omega
    have z2 : ¬ (k : Int) < ys.length → ys.getD k 0 = 0 := fun h => getD_ge ys k (by omega)
    have z3 : ¬ (k : Int) < ys.length → xs.getD i 0 * ys.getD k 0 = 0 := fun h => by rw [z2 h]; simp
    have z4 : ys.length ≤ k → k ≤ ys.length → o'.getD (i + k) 0 = 0 := fun h h2 => k4 _ h2 (by omega)
    have hm : (xs.getD i 0 * ys.getD k 0).toNat = (xs.getD i 0).toNat * (ys.getD k 0).toNat := Int.toNat_mul b1.1 b2.1
    repeat' (first|(with_reducible first|apply q_a|apply q_b|apply q_c|apply q_d|apply q_e|apply q_f|apply q_g|apply q_h|apply q_i|apply q_j|apply q_k|apply q_m|apply q_n|apply q_o|apply q_p|refine q_l ?_)|((with_reducible first|refine q_q rf1_ok fun K hK=>?_|refine q_r rf1_ok fun K hK=>?_);simp (maxSteps:=2000000) only [go_sem,↓reduceIte,reduceCtorEq,Nat.reduceLeDiff,Nat.reduceLT,Nat.reduceBEq,Nat.reduceAdd];(repeat1' with_reducible first|apply And.intro|intro _|(refine hK _ ?_;clear hK K))<;>(try (clear hK K;exact q_u)))|(with_reducible refine q_s ?_;(first|apply q_J|apply q_K|apply q_L|apply q_M|apply q_N|apply q_O)<;>try intro _)|with_reducible refine q_t ?_)
    all_goals first | (exfalso; omega) | skip
    all_goals (try simp only [e1])
    all_goals (try simp (disch := omega) only [Int.tdiv_eq_ediv_of_nonneg, Int.tmod_eq_emod_of_nonneg])
    all_goals first
      | (refine q_F ⟨(k + 1, o'.set (i + k) ((c + xs.getD i 0 * ys.getD k 0 + o'.getD (i + k) 0) % 65536), (c + xs.getD i 0 * ys.getD k 0 + o'.getD (i + k) 0) / 65536), by simp only; omega, by simp only; omega, by simp [k2], InB_set k3 _ (by omega) (by omega), (by
            intro j hj1 hj
            simp only at hj1 ⊢
            rw [NatL.getD_set_ne _ _ _ _ (by omega)]
            exact k4 j (by omega) hj), (by
            intro j hj
            simp only
            rw [NatL.getD_set_ne _ _ _ _ (by omega)]
            exact k7 j hj), by simp only; omega, (by
            simp only
            rw [V_take_getD]
            exact mul_inner 65536 i k _ _ _ _ _ _ _ _ _ _ _ k6 (V_set 65536 o' (i + k) _ (by omega)) rfl (by omega))⟩ ?_ (by show ys.length + 1 - (k + 1) < ys.length + 1 - k; omega); exact q_D; done)
      | skip
    · have hc : c = 0 := by omega
      refine q_F ⟨(i + 1, o'), by simp only; omega, k2, k3, k7, ?_⟩ ?_ ?_
      · simp only
        rw [V_take_getD, Nat.add_mul, ← g5, Nat.mul_assoc]
        rw [List.take_of_length_le (by omega), hc] at k6
        simp only [Int.toNat_zero, Nat.mul_zero, Nat.add_zero] at k6
        omega
      · exact q_D
      · show xs.length - (i + 1) < xs.length - i
        omega
  · rename_i ha
    have hi : i = xs.length := by omega
    refine q_A ?_
    simp only [resAV, q_y]
    rw [trimL_eq 65536 (by omega) _ g3, g5, hi, List.take_length]

theorem limb_step (j : Nat) (o xs : List Int) (h : V 4294967296 o = V 65536 (xs.take (2 * j))) (hl : o.length = j) (v : Int) (hr : v.toNat = (xs.getD (2 * j) 0).toNat + 65536 * (xs.getD (2 * j + 1) 0).toNat) : V 4294967296 (o ++ [v]) = V 65536 (xs.take (2 * (j + 1))) := by
  rw [V_snoc, show 2 * (j + 1) = 2 * j + 1 + 1 by omega, V_take_getD, V_take_getD, ← h, hl, hr]
  have e : (65536 : Nat) ^ (2 * j) = 4294967296 ^ j := by rw [Nat.pow_mul]
  rw [Nat.pow_succ, e, Nat.mul_add, Nat.mul_assoc]
  omega

set_option maxHeartbeats 1600000 in
theorem limbs_ret (xs : List Int) (hx : xs.length ≤ 4194304) (bx : InB 65536 xs) (tx : Trd xs) : Ret Tryz.prog 55 false [.inl (.ints .i64 xs)] (.c (.ints .u32 (dg 4294967296 (V 65536 xs)))) := by
  (refine q_H Tryz.func55 (fun F => ?_); simp only [q_z,q_y,Tryz.ntmps55,Tryz.results55])
  repeat' (first|(with_reducible first|apply q_a|apply q_b|apply q_c|apply q_d|apply q_e|apply q_f|apply q_g|apply q_h|apply q_i|apply q_j|apply q_k|apply q_m|apply q_n|apply q_o|apply q_p|refine q_l ?_)|((with_reducible first|refine q_q rf1_ok fun K hK=>?_|refine q_r rf1_ok fun K hK=>?_);simp (maxSteps:=2000000) only [go_sem,↓reduceIte,reduceCtorEq,Nat.reduceLeDiff,Nat.reduceLT,Nat.reduceBEq,Nat.reduceAdd];(repeat1' with_reducible first|apply And.intro|intro _|(refine hK _ ?_;clear hK K))<;>(try (clear hK K;exact q_u)))|(with_reducible refine q_s ?_;(first|apply q_J|apply q_K|apply q_L|apply q_M|apply q_N|apply q_O)<;>try intro _)|with_reducible refine q_t ?_)
  refine q_G (ι := { p : Nat × List Int // 2 * p.1 ≤ xs.length + 1 ∧ p.2.length = p.1 ∧ InB 4294967296 p.2 ∧ V 4294967296 p.2 = V 65536 (xs.take (2 * p.1)) }) (fun p => ⟨36, [(0, .c (.ints .i64 xs)), (3, .own 0 0), (4, .c (.i .i64 ((2 * p.1.1 : Nat) : Int)))], ⟨[], [(0, ⟨0, 56, 1, .ints .u32 p.1.2⟩)], []⟩, 1⟩) (fun p => xs.length + 1 - 2 * p.1.1) ⟨(0, []), by simp, by simp, InB_nil _, by simp [V]⟩ ?_ ?_
  · exact q_D
  rintro ⟨⟨j, o⟩, g1, g2, g3, g4⟩
  simp only at g1 g2 g3 g4 ⊢
  have b1 := InB_getD (by omega) bx (2 * j)
  have b2 := InB_getD (by omega) bx (2 * j + 1)
  have e1 : (((2 * j : Nat) : Int) + 1).toNat = 2 * j + 1 := by omega
  have z2 : ¬ ((2 * j : Nat) : Int) + 1 < xs.length → xs.getD (2 * j + 1) 0 = 0 := fun h => getD_ge xs _ (by omega)
  repeat' (first|(with_reducible first|apply q_a|apply q_b|apply q_c|apply q_d|apply q_e|apply q_f|apply q_g|apply q_h|apply q_i|apply q_j|apply q_k|apply q_m|apply q_n|apply q_o|apply q_p|refine q_l ?_)|((with_reducible first|refine q_q rf1_ok fun K hK=>?_|refine q_r rf1_ok fun K hK=>?_);simp (maxSteps:=2000000) only [go_sem,↓reduceIte,reduceCtorEq,Nat.reduceLeDiff,Nat.reduceLT,Nat.reduceBEq,Nat.reduceAdd];(repeat1' with_reducible first|apply And.intro|intro _|(refine hK _ ?_;clear hK K))<;>(try (clear hK K;exact q_u)))|(with_reducible refine q_s ?_;(first|apply q_J|apply q_K|apply q_L|apply q_M|apply q_N|apply q_O)<;>try intro _)|with_reducible refine q_t ?_)
  all_goals (try simp only [e1])
  all_goals first
    | (refine q_F ⟨(j + 1, o ++ [xs.getD (2 * j) 0 + 65536 * xs.getD (2 * j + 1) 0]), by simp only; omega, by simp [g2], InB_snoc g3 (by omega) (by omega), limb_step j o xs g4 g2 _ (by omega)⟩ ?_ (by show xs.length + 1 - 2 * (j + 1) < xs.length + 1 - 2 * j; omega); exact q_D; done)
    | skip
  · rename_i ha
    refine q_A ?_
    rw [List.take_of_length_le (by omega)] at g4
    simp only [resAV, q_y]
    rw [← g4, dg_V 4294967296 (by omega) o g3]
    by_cases h0 : xs.length = 0
    · have : j = 0 := by omega
      subst this
      have ho : o = [] := List.eq_nil_of_length_eq_zero g2
      have hxs : xs = [] := List.eq_nil_of_length_eq_zero h0
      subst ho
      exact .inl rfl
    · refine trd_of_ge (by omega) o g3 ?_
      have h1 := V_ge_of_trd (by omega) xs bx tx (by omega)
      rw [g4, g2]
      refine Nat.le_trans ?_ h1
      have e : (4294967296 : Nat) ^ (j - 1) = 65536 ^ (2 * (j - 1)) := by rw [Nat.pow_mul]
      rw [e]
      exact Nat.pow_le_pow_right (by omega) (by omega)

set_option maxHeartbeats 1600000 in
theorem sameLimbs_ret (xs ys : List Int) (hx : xs.length ≤ 16777216) (hy : ys.length ≤ 16777216) : Ret Tryz.prog 54 false [.inl (.ints .u32 xs), .inl (.ints .u32 ys)] (.c (.b (decide (xs = ys)))) := by
  (refine q_H Tryz.func54 (fun F => ?_); simp only [q_z,q_y,Tryz.ntmps54,Tryz.results54])
  repeat' (first|(with_reducible first|apply q_a|apply q_b|apply q_c|apply q_d|apply q_e|apply q_f|apply q_g|apply q_h|apply q_i|apply q_j|apply q_k|apply q_m|apply q_n|apply q_o|apply q_p|refine q_l ?_)|((with_reducible first|refine q_q rf1_ok fun K hK=>?_|refine q_r rf1_ok fun K hK=>?_);simp (maxSteps:=2000000) only [go_sem,↓reduceIte,reduceCtorEq,Nat.reduceLeDiff,Nat.reduceLT,Nat.reduceBEq,Nat.reduceAdd];(repeat1' with_reducible first|apply And.intro|intro _|(refine hK _ ?_;clear hK K))<;>(try (clear hK K;exact q_u)))|(with_reducible refine q_s ?_;(first|apply q_J|apply q_K|apply q_L|apply q_M|apply q_N|apply q_O)<;>try intro _)|with_reducible refine q_t ?_)
  · rename_i hl
    exact q_A (by simp only [resAV, q_y]; rw [decide_eq_false (fun h => hl (by rw [h]))])
  rename_i hl
  have hl : xs.length = ys.length := by omega
  refine q_G (ι := { i : Nat // i ≤ xs.length ∧ xs.take i = ys.take i }) (fun i => ⟨26, [(0, .c (.ints .u32 xs)), (1, .c (.ints .u32 ys)), (5, .c (.i .i64 i.1))], ⟨[], [], []⟩, 0⟩) (fun i => xs.length - i.1) ⟨0, by simp, by simp⟩ ?_ ?_
  · exact q_D
  rintro ⟨i, h1, h2⟩
  simp only
  repeat' (first|(with_reducible first|apply q_a|apply q_b|apply q_c|apply q_d|apply q_e|apply q_f|apply q_g|apply q_h|apply q_i|apply q_j|apply q_k|apply q_m|apply q_n|apply q_o|apply q_p|refine q_l ?_)|((with_reducible first|refine q_q rf1_ok fun K hK=>?_|refine q_r rf1_ok fun K hK=>?_);simp (maxSteps:=2000000) only [go_sem,↓reduceIte,reduceCtorEq,Nat.reduceLeDiff,Nat.reduceLT,Nat.reduceBEq,Nat.reduceAdd];(repeat1' with_reducible first|apply And.intro|intro _|(refine hK _ ?_;clear hK K))<;>(try (clear hK K;exact q_u)))|(with_reducible refine q_s ?_;(first|apply q_J|apply q_K|apply q_L|apply q_M|apply q_N|apply q_O)<;>try intro _)|with_reducible refine q_t ?_)
  · rename_i h3 hne
    exact q_A (by simp only [resAV, q_y]; rw [decide_eq_false (fun h => hne (by rw [h]))])
  · rename_i h3 he
    refine q_F ⟨i + 1, by omega, ?_⟩ ?_ ?_
    · rw [List.take_succ_eq_append_getElem (by omega), List.take_succ_eq_append_getElem (by omega), h2]
      have e : xs.getD i 0 = ys.getD i 0 := by omega
      rw [getD_eq xs i (by omega), getD_eq ys i (by omega)] at e
      rw [e]
    · exact q_D
    · show xs.length - (i + 1) < xs.length - i
      omega
  · rename_i h3
    rw [List.take_of_length_le (by omega), List.take_of_length_le (by omega)] at h2
    exact q_A (by simp only [resAV, q_y]; rw [decide_eq_true h2])

end Go.Proofs.YtlflfhcfljiciaaGreat

namespace Go.Proofs.YtlflfhcfljiciaaGreat
set_option linter.unusedSimpArgs false
set_option linter.unusedVariables false
open Go.Abs Go.Proofs.NatL

def bitsCT : CT := mkCT [.inl (some (.ints .u32 []))] true fun l K => match l with
  | [.inl (.ints .u32 xs)] => (xs.length ≤ 140737488355328 ∧ InB 4294967296 xs) ∧ K (.t [.inl (.i .i64 ((if okN xs then bl (V 4294967296 xs) else 0 : Nat) : Int)), .inr [.i .i64 (if okN xs then 0 else 6), .i .i64 (if okN xs then 0 else -1)]])
  | _ => False
def cg2 : Cfg := cf21
attribute [go_sem] cg2 bitsCT
attribute [go_sem] decide_true decide_false
def sameCT : CT := mkCT [.inl (some (.ints .u32 [])), .inl (some (.ints .u32 []))] true fun l K => match l with
  | [.inl (.ints .u32 xs), .inl (.ints .u32 ys)] => (xs.length ≤ 16777216 ∧ ys.length ≤ 16777216) ∧ K (.c (.b (decide (xs = ys))))
  | _ => False
def limbsCT : CT := mkCT [.inl (some (.ints .i64 []))] false fun l K => match l with
  | [.inl (.ints .i64 xs)] => (xs.length ≤ 4194304 ∧ InB 65536 xs ∧ Trd xs) ∧ K (.c (.ints .u32 (dg 4294967296 (V 65536 xs))))
  | _ => False
def ch1 : Cfg := addT 55 limbsCT cf8
theorem ch1_ok : TblOk Tryz.prog ch1 := q_I cf8_ok Tryz.func55 fun l K h => by
  split at h
  · exact ⟨_, limbs_ret _ h.1.1 h.1.2.1 h.1.2.2, h.2⟩
  · exact h.elim
def ch2 : Cfg := addT 54 sameCT ch1
theorem ch2_ok : TblOk Tryz.prog ch2 := q_I ch1_ok Tryz.func54 fun l K h => by
  split at h
  · exact ⟨_, (sameLimbs_ret _ _ h.1.1 h.1.2).plain rfl, h.2⟩
  · exact h.elim
attribute [go_sem] ch1 limbsCT ch2 sameCT
theorem dg_len_iff {B : Nat} (hB : 2 ≤ B) (n k : Nat) : (dg B n).length ≤ k ↔ n < B ^ k := by
  constructor
  · intro h
    rcases Nat.lt_or_ge n (B ^ k) with h1 | h1
    · exact h1
    · have := dg_len_gt hB n k h1; omega
  · exact dg_len_le hB n k
theorem dg_half (n k : Nat) : (dg 65536 n).length ≤ 2 * k ↔ (dg 4294967296 n).length ≤ k := by
  rw [dg_len_iff (by omega), dg_len_iff (by omega), Nat.pow_mul]
theorem dg_half_le (n k : Nat) (h : (dg 65536 n).length ≤ k) : (dg 4294967296 n).length ≤ k := (dg_half n k).1 (by omega)

theorem chkC_zero {xs ys : List Int} (h : okN xs = true) (k : okN ys = true) : chkC xs ys = 0 ∧ chkI xs ys = 0 := by simp [chkC, chkI, h, k]
theorem okN_parts {xs : List Int} (h : okN xs = true) : xs.length ≤ 600 ∧ Trd xs := by simpa [okN] using h
def goodCT (n : List Int → List Int → List Int) (c i : List Int → List Int → Int) : CT := mkCT [.inl (some (.ints .u32 [])), .inl (some (.ints .u32 []))] false fun l K => match l with
  | [.inl (.ints .u32 xs), .inl (.ints .u32 ys)] => (okN xs = true ∧ okN ys = true ∧ InB 4294967296 xs ∧ InB 4294967296 ys) ∧ K (.t [.inl (.ints .u32 (n xs ys)), .inr [.i .i64 (c xs ys), .i .i64 (i xs ys)]])
  | _ => False
theorem oneF_good {xs ys n : List Int} {c i : Int} (h : okN xs = true) (k : okN ys = true) : oneF xs ys n c i = .t [.inl (.ints .u32 n), .inr [.i .i64 c, .i .i64 i]] := by
  unfold oneF; rw [if_neg]; simp [(chkC_zero h k).1]
theorem okN_LB {xs : List Int} (h : okN xs = true) : xs.length ≤ 140737488355328 := Nat.le_trans (okN_parts h).1 (by omega)
def subO (xs ys : List Int) : List Int := if V 4294967296 xs < V 4294967296 ys then [] else subN xs ys
def subC (xs ys : List Int) : Int := if V 4294967296 xs < V 4294967296 ys then 4 else 0
def subI (xs ys : List Int) : Int := if V 4294967296 xs < V 4294967296 ys then -2 else 0
def db1 : Cfg := addT 90 (goodCT (fun xs ys => fitN (addN xs ys)) (fun xs ys => fitC (addN xs ys)) (fun xs ys => fitI (addN xs ys))) ch2
theorem db1_ok : TblOk Tryz.prog db1 := q_I ch2_ok Tryz.func90 fun l K h => by
  split at h
  · obtain ⟨⟨h1, h2, h3, h4⟩, h⟩ := h
    have := Add_ret _ _ (okN_LB h1) (okN_LB h2) h3 h4
    rw [oneF_good h1 h2] at this
    exact ⟨_, this, h⟩
  · exact h.elim
def db2 : Cfg := addT 88 (goodCT (fun xs ys => fitN (mulN xs ys)) (fun xs ys => fitC (mulN xs ys)) (fun xs ys => fitI (mulN xs ys))) db1
theorem db2_ok : TblOk Tryz.prog db2 := q_I db1_ok Tryz.func88 fun l K h => by
  split at h
  · obtain ⟨⟨h1, h2, h3, h4⟩, h⟩ := h
    have := Mul_ret _ _ (okN_LB h1) (okN_LB h2) h3 h4
    rw [oneF_good h1 h2] at this
    exact ⟨_, this, h⟩
  · exact h.elim
def db3 : Cfg := addT 91 (goodCT subO subC subI) db2
theorem db3_ok : TblOk Tryz.prog db3 := q_I db2_ok Tryz.func91 fun l K h => by
  split at h
  · obtain ⟨⟨h1, h2, h3, h4⟩, h⟩ := h
    have := Sub_ret _ _ (okN_LB h1) (okN_LB h2) h3 h4
    rw [oneF_good h1 h2] at this
    exact ⟨_, this, h⟩
  · exact h.elim
def CmpCT : CT := mkCT [.inl (some (.ints .u32 [])), .inl (some (.ints .u32 []))] true fun l K => match l with
  | [.inl (.ints .u32 xs), .inl (.ints .u32 ys)] => (okN xs = true ∧ okN ys = true ∧ InB 4294967296 xs ∧ InB 4294967296 ys) ∧ K (.t [.inl (.i .i64 (cmp3 (V 4294967296 xs) (V 4294967296 ys))), .inr [.i .i64 0, .i .i64 0]])
  | _ => False
def db4 : Cfg := addT 74 CmpCT db3
theorem db4_ok : TblOk Tryz.prog db4 := q_I db3_ok Tryz.func74 fun l K h => by
  split at h
  · obtain ⟨⟨h1, h2, h3, h4⟩, h⟩ := h
    have := Cmp_ret _ _ (okN_LB h1) (okN_LB h2) h3 h4
    rw [(chkC_zero h1 h2).1, (chkC_zero h1 h2).2, if_neg (by simp)] at this
    exact ⟨_, this.plain rfl, h⟩
  · exact h.elim
def db6 : Cfg := addT 32 ofCT db4
theorem db6_ok : TblOk Tryz.prog db6 := q_I db4_ok Tryz.func32 fun l K h => by
  split at h
  · exact ⟨_, of_ret _ h.1.1 h.1.2, h.2⟩
  · exact h.elim
attribute [go_sem] V65 I65 T65 V32 I32 T32 I0 T0 V0
def rnumCT (p : List Int → List Int → Prop) (f : Nat → Nat → Nat) : CT := mkCT [.inl (some (.ints .i64 [])), .inl (some (.ints .i64 []))] false fun l K => match l with
  | [.inl (.ints .i64 xs), .inl (.ints .i64 ys)] => (xs.length ≤ 4194304 ∧ ys.length ≤ 4194304 ∧ InB 65536 xs ∧ InB 65536 ys ∧ Trd xs ∧ Trd ys ∧ p xs ys) ∧ K (.c (.ints .i64 (dg 65536 (f (V 65536 xs) (V 65536 ys)))))
  | _ => False
def rcmpCT : CT := mkCT [.inl (some (.ints .i64 [])), .inl (some (.ints .i64 []))] true fun l K => match l with
  | [.inl (.ints .i64 xs), .inl (.ints .i64 ys)] => (xs.length ≤ 4194304 ∧ ys.length ≤ 4194304 ∧ InB 65536 xs ∧ InB 65536 ys ∧ Trd xs ∧ Trd ys) ∧ K (.c (.i .i64 (cmp3 (V 65536 xs) (V 65536 ys))))
  | _ => False
def db7 : Cfg := addT 10 rcmpCT db6
theorem db7_ok : TblOk Tryz.prog db7 := q_I db6_ok Tryz.func10 fun l K h => by
  split at h
  · obtain ⟨⟨h1, h2, h3, h4, h5, h6⟩, h⟩ := h
    exact ⟨_, (rcompare_ret _ _ h1 h2 h3 h4 h5 h6).plain rfl, h⟩
  · exact h.elim
def db8 : Cfg := addT 40 (rnumCT (fun _ _ => True) (· + ·)) db7
theorem db8_ok : TblOk Tryz.prog db8 := q_I db7_ok Tryz.func40 fun l K h => by
  split at h
  · obtain ⟨⟨h1, h2, h3, h4, h5, h6, h7⟩, h⟩ := h
    exact ⟨_, plus_ret _ _ h1 h2 h3 h4, h⟩
  · exact h.elim
def db9 : Cfg := addT 59 (rnumCT (fun _ _ => True) (· * ·)) db8
theorem db9_ok : TblOk Tryz.prog db9 := q_I db8_ok Tryz.func59 fun l K h => by
  split at h
  · obtain ⟨⟨h1, h2, h3, h4, h5, h6, h7⟩, h⟩ := h
    exact ⟨_, times_ret _ _ h1 h2 h3 h4, h⟩
  · exact h.elim
def db10 : Cfg := addT 39 (rnumCT (fun xs ys => V 65536 ys ≤ V 65536 xs) (· - ·)) db9
theorem db10_ok : TblOk Tryz.prog db10 := q_I db9_ok Tryz.func39 fun l K h => by
  split at h
  · obtain ⟨⟨h1, h2, h3, h4, h5, h6, h7⟩, h⟩ := h
    exact ⟨_, minus_ret _ _ h1 (V_le_len (by omega) h3 h4 h6 h7) h3 h4 h7, h⟩
  · exact h.elim
def okTCT : CT := mkCT [.inl (some (.ints .u32 []))] true fun l K => match l with
  | [.inl (.ints .u32 xs)] => okN xs = true ∧ K (.c (.b true))
  | _ => False
def db12 : Cfg := addT 60 okTCT db10
theorem db12_ok : TblOk Tryz.prog db12 := q_I db10_ok Tryz.func60 fun l K h => by
  split at h
  · obtain ⟨h1, h⟩ := h
    have := valid_ret _ (okN_LB h1)
    rw [h1] at this
    exact ⟨_, this.plain rfl, h⟩
  · exact h.elim
def db13 : Cfg := db12
theorem db13_ok : TblOk Tryz.prog db13 := db12_ok
attribute [go_sem] db1 db2 db3 db4 db6 db7 db8 db9 db10 db12 db13 goodCT CmpCT rnumCT rcmpCT okTCT
theorem fit_dg (n : Nat) : fitN (dg 4294967296 n) = (if (dg 4294967296 n).length ≤ 600 then dg 4294967296 n else []) ∧ fitC (dg 4294967296 n) = (if (dg 4294967296 n).length ≤ 600 then 0 else 14) ∧ fitI (dg 4294967296 n) = (if (dg 4294967296 n).length ≤ 600 then 0 else -1) := by
  have e : trimL (dg 4294967296 n) = dg 4294967296 n := trimL_stop _ (dg_trd 4294967296 (by omega) n)
  simp only [fitN, fitC, fitI, e, and_self]
end Go.Proofs.YtlflfhcfljiciaaGreat

namespace Go.Proofs.YtlflfhcfljiciaaGreat
set_option linter.unusedSimpArgs false
set_option linter.unusedVariables false
open Go.Abs Go.Proofs.NatL

def bitsGoodCT : CT := mkCT [.inl (some (.ints .u32 []))] true fun l K => match l with
  | [.inl (.ints .u32 xs)] => (okN xs = true ∧ InB 4294967296 xs) ∧ K (.t [.inl (.i .i64 (bl (V 4294967296 xs) : Nat)), .inr [.i .i64 0, .i .i64 0]])
  | _ => False
def bitsBadCT : CT := mkCT [.inl (some (.ints .u32 []))] true fun l K => match l with
  | [.inl (.ints .u32 xs)] => (xs.length ≤ 140737488355328 ∧ InB 4294967296 xs ∧ okN xs = false) ∧ K (.t [.inl (.i .i64 0), .inr [.i .i64 6, .i .i64 (-1)]])
  | _ => False
theorem okN_LB' {xs : List Int} (h : okN xs = true) : xs.length ≤ 140737488355328 := by
  have : xs.length ≤ 600 ∧ Trd xs := by simpa [okN] using h
  omega
def cf25 : Cfg := cf24
theorem cf25_ok : TblOk Tryz.prog cf25 := cf24_ok
attribute [go_sem] bitsGoodCT bitsBadCT
def tb17 : Cfg := listT [(61, atCT), (97, leftCT), (99, rightCT), (72, divModCT), (86, compareCT), (66, (numCT (fun _ _ => True) addN))] [28]
attribute [go_sem] tb17
def tb17b : Cfg := listT [(61, atCT)] [28]
attribute [go_sem] tb17b
theorem bl_ok {xs : List Int} (h : okN xs = true) (bx : InB 4294967296 xs) : bl (V 4294967296 xs) ≤ 19200 := by
  have ox' : xs.length ≤ 600 ∧ Trd xs := by simpa [okN] using h
  obtain ⟨m, hm⟩ : ∃ m, m = 19200 := ⟨_, rfl⟩
  have h3 : 32 * xs.length ≤ m := by omega
  rw [← hm]
  refine bl_lt _ _ ?_
  have := V_lt _ (by omega) xs bx
  have h2 : (4294967296 : Nat) ^ xs.length = 2 ^ (32 * xs.length) := by
    rw [show (4294967296 : Nat) = 2 ^ 32 from rfl, ← Nat.pow_mul]
  rw [h2] at this
  exact Nat.lt_of_lt_of_le this (Nat.pow_le_pow_right (by omega) h3)
theorem v1d : V 4294967296 [1] = 1 := rfl
attribute [go_sem] v1d V32 I32 T32 I0 T0 V0
theorem lt_bl (n : Nat) : n < 2 ^ bl n := by
  rcases Nat.eq_zero_or_pos n with h | h
  · subst h; exact Nat.pow_pos (by omega)
  · exact (bl_spec n h).2.1
end Go.Proofs.YtlflfhcfljiciaaGreat

namespace Go.Proofs.YtlflfhcfljiciaaGreat
set_option linter.unusedSimpArgs false
set_option linter.unusedVariables false
open Go.Abs Go.Proofs.NatL

def chunkCT : CT := mkCT [] true fun l K => match l with
  | [.inl (.i .i64 b)] => (2 ≤ b ∧ b ≤ 36) ∧ ∀ n : Nat, 0 < n ∧ n ≤ 32 ∧ b.toNat ^ n < 4294967296 → K (.t [.inl (.i .u32 ((b.toNat ^ n : Nat) : Int)), .inl (.i .i64 (n : Int))])
  | _ => False

theorem chunk_ex (b : Nat) (h1 : 2 ≤ b) (h2 : b ≤ 36) : ∀ m, 4294967296 ≤ b ^ (m + 2) → ∃ n, b ^ (n + 1) < 4294967296 ∧ 4294967296 ≤ b ^ (n + 2)
  | 0, h => ⟨0, by simp only [Nat.zero_add, Nat.pow_one]; omega, h⟩
  | m + 1, h => by
    rcases Nat.lt_or_ge (b ^ (m + 2)) 4294967296 with h3 | h3
    · exact ⟨m + 1, h3, h⟩
    · exact chunk_ex b h1 h2 m h3

set_option maxHeartbeats 800000 in
theorem chunk_ret (b : Nat) (h1 : 2 ≤ b) (h2 : b ≤ 36) : ∃ n : Nat, (0 < n ∧ n ≤ 32 ∧ b ^ n < 4294967296) ∧ Ret Tryz.prog 62 false [.inl (.i .i64 b)] (.t [.inl (.i .u32 ((b ^ n : Nat) : Int)), .inl (.i .i64 (n : Int))]) := by
  obtain ⟨n, hn1, hn2⟩ := chunk_ex b h1 h2 30 (by
    have : 2 ^ 32 ≤ b ^ 32 := Nat.pow_le_pow_left h1 _
    exact this)
  have hn32 : n + 1 ≤ 32 := by
    have h3 : 2 ^ (n + 1) ≤ b ^ (n + 1) := Nat.pow_le_pow_left h1 _
    have h4 : 2 ^ (n + 1) < 2 ^ 32 := by simp only [show (2 : Nat) ^ 32 = 4294967296 from rfl]; omega
    have := (Nat.pow_lt_pow_iff_right (a := 2) (by omega)).1 h4
    omega
  refine ⟨n + 1, ⟨by omega, hn32, hn1⟩, ?_⟩
  (refine q_H Tryz.func62 (fun F => ?_); simp only [q_z,q_y,Tryz.ntmps62,Tryz.results62])
  repeat' (first|(with_reducible first|apply q_a|apply q_b|apply q_c|apply q_d|apply q_e|apply q_f|apply q_g|apply q_h|apply q_i|apply q_j|apply q_k|apply q_m|apply q_n|apply q_o|apply q_p|refine q_l ?_)|((with_reducible first|refine q_q cf0_ok fun K hK=>?_|refine q_r cf0_ok fun K hK=>?_);simp (maxSteps:=2000000) only [go_sem,↓reduceIte,reduceCtorEq,Nat.reduceLeDiff,Nat.reduceLT,Nat.reduceBEq,Nat.reduceAdd];(repeat1' with_reducible first|apply And.intro|intro _|(refine hK _ ?_;clear hK K))<;>(try (clear hK K;exact q_u)))|(with_reducible refine q_s ?_;(first|apply q_J|apply q_K|apply q_L|apply q_M|apply q_N|apply q_O)<;>try intro _)|with_reducible refine q_t ?_)
  refine q_G (ι := { p : Nat × Nat // p.1 ≤ n ∧ p.2 = b ^ (p.1 + 1) }) (fun p => ⟨22, [(0, .c (.i .i64 b)), (4, .c (.i .u64 (p.1.2 : Nat))), (5, .c (.i .i64 ((p.1.1 : Int) + 1)))], ⟨[], [], []⟩, 0⟩) (fun p => n - p.1.1) ⟨(0, b), by simp, by simp⟩ ?_ ?_
  · exact q_D
  rintro ⟨⟨k, P⟩, hk, hP⟩
  simp only at hk hP ⊢
  have hPn : P < 4294967296 := Nat.lt_of_le_of_lt (by rw [hP]; exact Nat.pow_le_pow_right (by omega) (by omega)) hn1
  have hQ : P * b = b ^ (k + 2) := by rw [hP, ← Nat.pow_succ]
  have hQl : P * b ≤ 4294967295 * 36 := Nat.mul_le_mul (by omega) h2
  have e1 : ((P : Int) * ((b : Int) % 18446744073709551616)) % 18446744073709551616 = ((P * b : Nat) : Int) := by
    rw [show (b : Int) % 18446744073709551616 = b by omega, ← Int.natCast_mul]; omega
  have hk1 : P * b < 4294967296 → k + 1 ≤ n := fun h => by
    rcases Nat.lt_or_ge k n with h3 | h3
    · omega
    · have : k = n := by omega
      subst this; omega
  have hk2 : ¬ P * b < 4294967296 → k = n := fun h => by
    rcases Nat.lt_or_ge k n with h3 | h3
    · have : b ^ (k + 2) ≤ b ^ (n + 1) := Nat.pow_le_pow_right (by omega) (by omega)
      omega
    · omega
  generalize P * b = Q at *
  repeat' (first|(with_reducible first|apply q_a|apply q_b|apply q_c|apply q_d|apply q_e|apply q_f|apply q_g|apply q_h|apply q_i|apply q_j|apply q_k|apply q_m|apply q_n|apply q_o|apply q_p|refine q_l ?_)|((with_reducible first|refine q_q cf0_ok fun K hK=>?_|refine q_r cf0_ok fun K hK=>?_);simp (maxSteps:=2000000) only [go_sem,↓reduceIte,reduceCtorEq,Nat.reduceLeDiff,Nat.reduceLT,Nat.reduceBEq,Nat.reduceAdd];(repeat1' with_reducible first|apply And.intro|intro _|(refine hK _ ?_;clear hK K))<;>(try (clear hK K;exact q_u)))|(with_reducible refine q_s ?_;(first|apply q_J|apply q_K|apply q_L|apply q_M|apply q_N|apply q_O)<;>try intro _)|with_reducible refine q_t ?_)
  all_goals (try simp only [e1] at *)
  · rename_i h
    refine q_F ⟨(k + 1, Q), hk1 (by omega), hQ⟩ ?_ (by simp only; have := hk1 (by omega); omega)
    exact q_D
  · rename_i h
    have hkn := hk2 (by omega)
    subst hkn
    refine q_A ?_
    simp only [resAV, ← hP]
    rw [show (P : Int) % 4294967296 = P by omega]; rfl

def ck1 : Cfg := addT 62 chunkCT cf25
theorem ck1_ok : TblOk Tryz.prog ck1 := q_I cf25_ok Tryz.func62 fun l K h => by
  split at h
  · rename_i b
    obtain ⟨⟨h1, h2⟩, h⟩ := h
    obtain ⟨m, rfl⟩ : ∃ m : Nat, b = m := ⟨b.toNat, by omega⟩
    obtain ⟨n, hn, hr⟩ := chunk_ret m (by omega) (by omega)
    exact ⟨_, hr.plain rfl, by simpa using h n hn⟩
  · exact h.elim
attribute [go_sem] chunkCT
theorem getD_set_self (xs : List Int) (i : Nat) (v : Int) (h : i < xs.length) : (xs.set i v).getD i 0 = v := by
  simp [List.getD_eq_getElem?_getD, h]

set_option maxHeartbeats 800000 in
theorem reverse_ret (xs : List Int) (hx : xs.length ≤ 16777216) : RetW Tryz.prog 64 3 (.ints .i64 xs) 0 xs.length [] (.ints .i64 xs.reverse) [] := by
  (refine ret_win Tryz.func64 rfl (Nat.le_of_ble_eq_true rfl) rfl (fun F => ?_); simp only [q_z, q_y, Tryz.ntmps64, Tryz.results64])
  repeat' (first|(with_reducible first|apply q_a|apply q_b|apply q_c|apply q_d|apply q_e|apply q_f|apply q_g|apply q_h|apply q_i|apply q_j|apply q_k|apply q_m|apply q_n|apply q_o|apply q_p|refine q_l ?_)|((with_reducible first|refine q_q cf0_ok fun K hK=>?_|refine q_r cf0_ok fun K hK=>?_);simp (maxSteps:=2000000) only [go_sem,↓reduceIte,reduceCtorEq,Nat.reduceLeDiff,Nat.reduceLT,Nat.reduceBEq,Nat.reduceAdd];(repeat1' with_reducible first|apply And.intro|intro _|(refine hK _ ?_;clear hK K))<;>(try (clear hK K;exact q_u)))|(with_reducible refine q_s ?_;(first|apply q_J|apply q_K|apply q_L|apply q_M|apply q_N|apply q_O)<;>try intro _)|with_reducible refine endsW_ret (by ((simp only [go_sem,↓reduceIte,reduceCtorEq,Nat.reduceLeDiff,Nat.reduceLT,Nat.reduceBEq,Nat.reduceAdd,ressO,resO,argsC]);rfl)) (by ((simp (maxSteps:=2000000) only [go_sem,↓reduceIte,reduceCtorEq,Nat.reduceLeDiff,Nat.reduceLT,Nat.reduceBEq,Nat.reduceAdd]);rfl)) rfl rfl rfl ?_ ?_)
  refine q_G (ι := { p : Nat × List Int // 2 * p.1 ≤ xs.length + 1 ∧ p.2.length = xs.length ∧ ∀ k, k < xs.length → p.2.getD k 0 = if k < p.1 ∨ xs.length - p.1 ≤ k then xs.getD (xs.length - 1 - k) 0 else xs.getD k 0 })
    (fun p => ⟨28, [(0, .bw 0 0 xs.length), (2, .c (.i .i64 (p.1.1 : Nat))), (3, .c (.i .i64 ((xs.length : Int) - 1 - (p.1.1 : Nat))))], ⟨[], [], [(0, ⟨3, .ints .i64 p.1.2⟩)]⟩, 0⟩) (fun p => xs.length + 1 - 2 * p.1.1) ⟨(0, xs), by simp, rfl, fun k hk => by simp only [Nat.not_lt_zero, Nat.sub_zero, false_or]; rw [if_neg (by omega)]⟩ ?_ ?_
  · exact q_D
  rintro ⟨⟨i, c⟩, g1, g2, g3⟩
  simp only at g1 g2 g3 ⊢
  have e1 : ((xs.length : Int) - 1 - (i : Int)).toNat = xs.length - 1 - i := by omega
  repeat' (first|(with_reducible first|apply q_a|apply q_b|apply q_c|apply q_d|apply q_e|apply q_f|apply q_g|apply q_h|apply q_i|apply q_j|apply q_k|apply q_m|apply q_n|apply q_o|apply q_p|refine q_l ?_)|((with_reducible first|refine q_q cf0_ok fun K hK=>?_|refine q_r cf0_ok fun K hK=>?_);simp (maxSteps:=2000000) only [go_sem,↓reduceIte,reduceCtorEq,Nat.reduceLeDiff,Nat.reduceLT,Nat.reduceBEq,Nat.reduceAdd];(repeat1' with_reducible first|apply And.intro|(intro _;try exact q_v)|(refine hK _ ?_;clear hK K))<;>(try (clear hK K;exact q_u)))|(with_reducible refine q_s ?_;(first|apply q_J|apply q_K|apply q_L|apply q_M|apply q_N|apply q_O)<;>try (intro _;try exact q_v))|with_reducible refine endsW_ret (by ((simp only [go_sem,↓reduceIte,reduceCtorEq,Nat.reduceLeDiff,Nat.reduceLT,Nat.reduceBEq,Nat.reduceAdd,ressO,resO,argsC]);rfl)) (by ((simp (maxSteps:=2000000) only [go_sem,↓reduceIte,reduceCtorEq,Nat.reduceLeDiff,Nat.reduceLT,Nat.reduceBEq,Nat.reduceAdd]);rfl)) rfl rfl rfl ?_ ?_)
  · rename_i h
    rw [e1]
    refine q_F ⟨(i + 1, (c.set i (c.getD (xs.length - 1 - i) 0)).set (xs.length - 1 - i) (c.getD i 0)), by simp only; omega, by simp [g2], ?_⟩ ?_ (by simp only; omega)
    · intro k hk
      simp only
      have hij : xs.length - 1 - i ≠ i := by omega
      by_cases hk1 : k = xs.length - 1 - i
      · subst hk1
        rw [getD_set_self _ _ _ (by simp; omega), g3 i (by omega), if_neg (by omega), if_pos (by omega)]
        congr 1; omega
      · rw [NatL.getD_set_ne _ _ _ _ (fun e => hk1 e.symm)]
        by_cases hk2 : k = i
        · subst hk2
          rw [getD_set_self _ _ _ (by omega), g3 (xs.length - 1 - k) (by omega), if_neg (by omega), if_pos (by omega)]
        · rw [NatL.getD_set_ne _ _ _ _ (fun e => hk2 e.symm), g3 k hk]
          by_cases h3 : k < i ∨ xs.length - i ≤ k
          · rw [if_pos h3, if_pos (by omega)]
          · rw [if_neg h3, if_neg (by omega)]
    · exact q_D
  · rename_i h
    refine endsW_n rfl rfl rfl rfl rfl rfl ?_
    congr 1
    refine List.ext_getElem (by simp [g2]) fun k h1 h2 => ?_
    have := g3 k (by omega)
    rw [getD_eq _ _ h1] at this
    rw [this, List.getElem_reverse, ← getD_eq _ _ (by omega)]
    split
    · rfl
    · congr 1; omega

def reverseCT : CT := mkCTW [] 3 fun con lo len l K => match con, l with
  | .ints .i64 xs, [] => (lo = 0 ∧ len = xs.length ∧ xs.length ≤ 16777216) ∧ K (.ints .i64 xs.reverse) []
  | _, _ => False
def ck2 : Cfg := addT 64 reverseCT ck1
theorem ck2_ok : TblOk Tryz.prog ck2 := mkCTW_ok ck1_ok (q_C Tryz.func64 (by kernel_rfl) (by kernel_rfl)) rfl fun con lo len al K h => by
  split at h
  · rename_i xs
    obtain ⟨⟨rfl, rfl, h1⟩, h⟩ := h
    exact ⟨0, xs.length, _, _, rfl, rfl, reverse_ret xs h1, h⟩
  · exact h.elim
attribute [go_sem] reverseCT
end Go.Proofs.YtlflfhcfljiciaaGreat

namespace Go.Proofs.YtlflfhcfljiciaaGreat
set_option linter.unusedSimpArgs false
set_option linter.unusedVariables false
open Go.Abs Go.Proofs.NatL

set_option maxHeartbeats 800000 in
theorem small_ret (n : Nat) (hn : n ≤ 9223372036854775807) : Ret Tryz.prog 11 false [.inl (.i .i64 n)] (.c (.ints .i64 (dg 65536 n))) := by
  (refine q_H Tryz.func11 (fun F => ?_); simp only [q_z,q_y,Tryz.ntmps11,Tryz.results11])
  repeat' (first|(with_reducible first|apply q_a|apply q_b|apply q_c|apply q_d|apply q_e|apply q_f|apply q_g|apply q_h|apply q_i|apply q_j|apply q_k|apply q_m|apply q_n|apply q_o|apply q_p|refine q_l ?_)|((with_reducible first|refine q_q rf1_ok fun K hK=>?_|refine q_r rf1_ok fun K hK=>?_);simp (maxSteps:=2000000) only [go_sem,↓reduceIte,reduceCtorEq,Nat.reduceLeDiff,Nat.reduceLT,Nat.reduceBEq,Nat.reduceAdd];(repeat1' with_reducible first|apply And.intro|intro _|(refine hK _ ?_;clear hK K))<;>(try (clear hK K;exact q_u)))|(with_reducible refine q_s ?_;(first|apply q_J|apply q_K|apply q_L|apply q_M|apply q_N|apply q_O)<;>try intro _)|with_reducible refine q_t ?_)
  refine q_G (ι := { p : List Int × Nat // p.2 ≤ n ∧ p.1 ++ dg 65536 p.2 = dg 65536 n }) (fun p => ⟨14, [(0, .c (.i .i64 (p.1.2 : Nat))), (3, .own 0 0)], ⟨[], [(0, ⟨0, 3, 1, .ints .i64 p.1.1⟩)], []⟩, 1⟩) (fun p => p.1.2) ⟨([], n), Nat.le_refl _, rfl⟩ ?_ ?_
  · exact q_D
  rintro ⟨⟨o, m⟩, g1, g2⟩
  simp only at g1 g2 ⊢
  have hlen : o.length ≤ 4 := by
    have h1 := congrArg List.length g2
    rw [List.length_append] at h1
    have h2 := dg_len_le (B := 65536) (by omega) n 4 (by omega)
    omega
  repeat' (first|(with_reducible first|apply q_a|apply q_b|apply q_c|apply q_d|apply q_e|apply q_f|apply q_g|apply q_h|apply q_i|apply q_j|apply q_k|apply q_m|apply q_n|apply q_o|apply q_p|refine q_l ?_)|((with_reducible first|refine q_q rf1_ok fun K hK=>?_|refine q_r rf1_ok fun K hK=>?_);simp (maxSteps:=2000000) only [go_sem,↓reduceIte,reduceCtorEq,Nat.reduceLeDiff,Nat.reduceLT,Nat.reduceBEq,Nat.reduceAdd];(repeat1' with_reducible first|apply And.intro|(intro _;try exact q_v)|(refine hK _ ?_;clear hK K))<;>(try (clear hK K;exact q_u)))|(with_reducible refine q_s ?_;(first|apply q_J|apply q_K|apply q_L|apply q_M|apply q_N|apply q_O)<;>try (intro _;try exact q_v))|with_reducible refine q_t ?_)
  · rename_i h
    have e1 : ((m : Int)).tdiv 65536 = ((m / 65536 : Nat) : Int) := by rw [Int.tdiv_eq_ediv_of_nonneg (by omega)]; omega
    have e2 : ((m : Int)).tmod 65536 = ((m % 65536 : Nat) : Int) := by rw [Int.tmod_eq_emod_of_nonneg (by omega)]; omega
    rw [e1, e2]
    refine q_F ⟨(o ++ [((m % 65536 : Nat) : Int)], m / 65536), by simp only; omega, ?_⟩ ?_ (by simp only; omega)
    · simp only
      rw [← g2, dg_pos 65536 m (by omega) (by omega)]; simp
    · exact q_D
  · rename_i h
    have hm : m = 0 := by omega
    subst hm
    rw [dg_zero, List.append_nil] at g2
    exact q_A (by rw [g2]; rfl)

set_option maxRecDepth 100000 in
set_option maxHeartbeats 1600000 in
theorem binary_ret (l : List Bool) (hl : l.length ≤ 16777216) : Ret Tryz.prog 37 false [.inl (.bools l)] (.c (.ints .i64 (dg 65536 (B2 l)))) := by
  (refine q_H Tryz.func37 (fun F => ?_); simp only [q_z,q_y,Tryz.ntmps37,Tryz.results37])
  repeat' (first|(with_reducible first|apply q_a|apply q_b|apply q_c|apply q_d|apply q_e|apply q_f|apply q_g|apply q_h|apply q_i|apply q_j|apply q_k|apply q_m|apply q_n|apply q_o|apply q_p|refine q_l ?_)|((with_reducible first|refine q_q rf1_ok fun K hK=>?_|refine q_r rf1_ok fun K hK=>?_);simp (maxSteps:=2000000) only [go_sem,↓reduceIte,reduceCtorEq,Nat.reduceLeDiff,Nat.reduceLT,Nat.reduceBEq,Nat.reduceAdd];(repeat1' with_reducible first|apply And.intro|intro _|(refine hK _ ?_;clear hK K))<;>(try (clear hK K;exact q_u)))|(with_reducible refine q_s ?_;(first|apply q_J|apply q_K|apply q_L|apply q_M|apply q_N|apply q_O)<;>try intro _)|with_reducible refine q_t ?_)
  refine q_G (ι := { p : Nat × List Int // 16 * p.1 ≤ l.length + 15 ∧ p.2.length = p.1 ∧ InB 65536 p.2 ∧ V 65536 p.2 = B2 (l.take (16 * p.1)) }) (fun p => ⟨41, [(0, .c (.bools l)), (3, .own 0 0), (4, .c (.i .i64 ((16 * p.1.1 : Nat) : Int)))], ⟨[], [(0, ⟨0, 3, 1, .ints .i64 p.1.2⟩)], []⟩, 1⟩) (fun p => l.length + 15 - 16 * p.1.1) ⟨(0, []), by simp, rfl, InB_nil _, by simp [B2, bI, V]⟩ ?_ ?_
  · exact q_D
  rintro ⟨⟨j, o⟩, g1, g2, g3, g4⟩
  simp only at g1 g2 g3 g4 ⊢
  repeat' (first|(with_reducible first|apply q_a|apply q_b|apply q_c|apply q_d|apply q_e|apply q_f|apply q_g|apply q_h|apply q_i|apply q_j|apply q_k|apply q_m|apply q_n|apply q_o|apply q_p|refine q_l ?_)|((with_reducible first|refine q_q rf1_ok fun K hK=>?_|refine q_r rf1_ok fun K hK=>?_);simp (maxSteps:=2000000) only [go_sem,↓reduceIte,reduceCtorEq,Nat.reduceLeDiff,Nat.reduceLT,Nat.reduceBEq,Nat.reduceAdd];(repeat1' with_reducible first|apply And.intro|(intro _;try exact q_v)|(refine hK _ ?_;clear hK K))<;>(try (clear hK K;exact q_u)))|(with_reducible refine q_s ?_;(first|apply q_J|apply q_K|apply q_L|apply q_M|apply q_N|apply q_O)<;>try (intro _;try exact q_v))|with_reducible refine q_t ?_)
  · rename_i hj
    refine q_G (ι := { p : Nat × Nat // p.1 ≤ 16 ∧ p.2 = B2 ((l.drop (16 * j + p.1)).take (16 - p.1)) }) (fun p => ⟨41, [(0, .c (.bools l)), (3, .own 0 0), (4, .c (.i .i64 ((16 * j : Nat) : Int))), (5, .c (.i .i64 (p.1.2 : Nat))), (6, .c (.i .i64 ((p.1.1 : Int) - 1)))], ⟨[], [(0, ⟨0, 3, 1, .ints .i64 o⟩)], []⟩, 1⟩) (fun p => p.1.1) ⟨(16, 0), by simp, by simp [B2, bI, V]⟩ ?_ ?_
    · exact q_D
    rintro ⟨⟨k, x⟩, q1, q2⟩
    simp only at q1 q2 ⊢
    have hx : x < 65536 := by
      rw [q2]
      refine Nat.lt_of_lt_of_le (B2_lt _) ?_
      have : (2 : Nat) ^ ((l.drop (16 * j + k)).take (16 - k)).length ≤ 2 ^ 16 := Nat.pow_le_pow_right (by omega) (by simp; omega)
      exact this
    have hnx : 0 < k → B2 ((l.drop (16 * j + (k - 1))).take (16 - (k - 1))) = 2 * x + (if l.getD (16 * j + (k - 1)) false then 1 else 0) := fun h => by
      rcases Nat.lt_or_ge (16 * j + (k - 1)) l.length with h1 | h1
      · rw [show 16 - (k - 1) = 16 - k + 1 by omega, group_step l _ _ h1, show 16 * j + (k - 1) + 1 = 16 * j + k by omega, ← q2]
      · rw [group_end l _ _ h1, q2, group_end l _ _ (by omega), List.getD_eq_getElem?_getD, List.getElem?_eq_none h1]; simp
    have e1 : 0 < k → (((16 * j : Nat) : Int) + ((k : Int) - 1)).toNat = 16 * j + (k - 1) := fun h => by omega
    repeat' (first|(with_reducible first|apply q_a|apply q_b|apply q_c|apply q_d|apply q_e|apply q_f|apply q_g|apply q_h|apply q_i|apply q_j|apply q_k|apply q_m|apply q_n|apply q_o|apply q_p|refine q_l ?_)|((with_reducible first|refine q_q rf1_ok fun K hK=>?_|refine q_r rf1_ok fun K hK=>?_);simp (maxSteps:=2000000) only [go_sem,↓reduceIte,reduceCtorEq,Nat.reduceLeDiff,Nat.reduceLT,Nat.reduceBEq,Nat.reduceAdd];(repeat1' with_reducible first|apply And.intro|(intro _;try exact q_v)|(refine hK _ ?_;clear hK K))<;>(try (clear hK K;exact q_u)))|(with_reducible refine q_s ?_;(first|apply q_J|apply q_K|apply q_L|apply q_M|apply q_N|apply q_O)<;>try (intro _;try exact q_v))|with_reducible refine q_t ?_)
    · rename_i h1 h2 h3
      rw [e1 (by omega)] at h3
      have h4 := hnx (by omega)
      rw [h3, if_pos rfl] at h4
      refine q_F ⟨(k - 1, 2 * x + 1), by simp only; omega, h4.symm⟩ ?_ (by simp only; omega)
      exact q_D
    · rename_i h1 h2 h3
      rw [e1 (by omega)] at h3
      have h4 := hnx (by omega)
      rw [h3] at h4
      refine q_F ⟨(k - 1, 2 * x), by simp only; omega, by simpa using h4.symm⟩ ?_ (by simp only; omega)
      exact q_D
    · rename_i h1 h2
      have h4 := hnx (by omega)
      rw [List.getD_eq_getElem?_getD, List.getElem?_eq_none (by omega)] at h4
      refine q_F ⟨(k - 1, 2 * x), by simp only; omega, by simpa using h4.symm⟩ ?_ (by simp only; omega)
      exact q_D
    · rename_i h1
      have hk : k = 0 := by omega
      subst hk
      refine q_F ⟨(j + 1, o ++ [(x : Int)]), by simp only; omega, by simp [g2], InB_snoc g3 (by omega) (by omega), digit_group j o l g4 g2 x (by simpa using q2) (by omega)⟩ ?_ (by simp only; omega)
      exact q_D
  · rename_i hj
    refine q_A ?_
    rw [List.take_of_length_le (by omega)] at g4
    simp only [resAV, q_y]
    rw [trimL_eq 65536 (by omega) _ g3, g4]

def smallCT : CT := mkCT [] false fun l K => match l with
  | [.inl (.i .i64 n)] => (0 ≤ n ∧ n ≤ 9223372036854775807) ∧ K (.c (.ints .i64 (dg 65536 n.toNat)))
  | _ => False
def rh1 : Cfg := addT 11 smallCT rf1
def onesCT : CT := mkCT [.inl (some (.ints .i64 []))] false fun l K => match l with
  | [.inl (.ints .i64 xs)] => (xs.length ≤ 1048576 ∧ InB 65536 xs ∧ Trd xs) ∧ K (.c (.bools (bs (V 65536 xs))))
  | _ => False
def rh2 : Cfg := rh1
def binaryCT : CT := mkCT [.inl (some (.bools []))] false fun l K => match l with
  | [.inl (.bools l)] => l.length ≤ 16777216 ∧ K (.c (.ints .i64 (dg 65536 (B2 l))))
  | _ => False
def rh3 : Cfg := addT 37 binaryCT rh2
attribute [go_sem] rh1 rh2 rh3 smallCT onesCT binaryCT V65 I65 T65
def movedCT : CT := mkCT [.inl (some (.ints .i64 []))] false fun l K => match l with
  | [.inl (.ints .i64 xs), .inl (.i .i64 n)] => ((xs.length ≤ 65536 ∧ InB 65536 xs ∧ Trd xs ∧ -9223372036854775808 ≤ n ∧ n ≤ 9223372036854775807) ∧ (0 < bl (V 65536 xs) → n ≤ 1048576)) ∧ K (.c (.ints .i64 (dg 65536 (shf (V 65536 xs) n))))
  | _ => False
end Go.Proofs.YtlflfhcfljiciaaGreat
