import Derived.Test.YtneecniebhhhlaaH10
import Derived.Test.YtneecniebhhhlaaH13
namespace Go.Proofs.Ytneecniebhhhlaa
set_option linter.unusedSimpArgs false
set_option linter.unusedVariables false
open Go.Abs Go.Proofs.NatL
attribute [go_sem] cf0 addT mkCT mkCTO norm nz nzL List.mem_singleton List.mem_cons true_or or_true rf1 rtrimCT rf2 ofCT

theorem mulC (x y : Int) (hx : 0 ≤ x ∧ x < 65536) (hy : 0 ≤ y ∧ y < 65536) : 0 ≤ x * y ∧ x * y ≤ 4294836225 := by
  constructor
  · exact Int.mul_nonneg hx.1 hy.1
  · have h1 : x * y ≤ 65535 * y := Int.mul_le_mul_of_nonneg_right (by omega) hy.1
    omega

set_option maxHeartbeats 3200000 in
theorem times_ret (xs ys : List Int) (hx : xs.length ≤ 4194304) (hy : ys.length ≤ 4194304) (bx : InB 65536 xs) (by' : InB 65536 ys) : Ret Try.prog 113 false [.inl (.ints .i64 xs), .inl (.ints .i64 ys)] (.c (.ints .i64 (dg 65536 (V 65536 xs * V 65536 ys)))) := by
  (refine q_H Try.func113 (fun F => ?_); simp only [q_z,q_y,Try.ntmps113,Try.results113])
  repeat' (first|(with_reducible first|apply q_a|apply q_b|apply q_c|apply q_d|apply q_e|apply q_f|apply q_g|apply q_h|apply q_i|apply q_j|apply q_k|apply q_m|apply q_n|apply q_o|apply q_p|refine q_l ?_)|((with_reducible first|refine q_q rf1_ok fun K hK=>?_|refine q_r rf1_ok fun K hK=>?_);simp (maxSteps:=2000000) only [go_sem,↓reduceIte,reduceCtorEq,Nat.reduceLeDiff,Nat.reduceLT,Nat.reduceBEq,Nat.reduceAdd];(repeat1' with_reducible first|apply And.intro|intro _|(refine hK _ ?_;clear hK K))<;>(try (clear hK K;exact q_u)))|(with_reducible refine q_s ?_;(first|apply q_J|apply q_K|apply q_L|apply q_M|apply q_N|apply q_O)<;>try intro _)|with_reducible refine q_t ?_)
  refine q_G (ι := { p : Nat × List Int // p.1 ≤ xs.length ∧ p.2.length = xs.length + ys.length + 1 ∧ InB 65536 p.2 ∧ (∀ j, p.1 + ys.length ≤ j → p.2.getD j 0 = 0) ∧ V 65536 p.2 = V 65536 (xs.take p.1) * V 65536 ys }) (fun p => ⟨67, [(0, .c (.ints .i64 xs)), (1, .c (.ints .i64 ys)), (5, .own 0 0), (6, .c (.i .i64 p.1.1))], ⟨[], [(0, ⟨0, 3, 1, .ints .i64 p.1.2⟩)], []⟩, 1⟩) (fun p => xs.length - p.1.1) ⟨(0, List.replicate (xs.length + ys.length + 1) 0), by simp, by simp, InB_replicate (by omega) _, fun j _ => getD_replicate _ j, by simp [V_replicate, V]⟩ ?_ ?_
  · exact q_D
  rintro ⟨⟨i, o⟩, g1, g2, g3, g4, g5⟩
  simp only at g1 g2 g3 g4 g5 ⊢
  have b1 := InB_getD (by omega) bx i
  repeat' (first|(with_reducible first|apply q_a|apply q_b|apply q_c|apply q_d|apply q_e|apply q_f|apply q_g|apply q_h|apply q_i|apply q_j|apply q_k|apply q_m|apply q_n|apply q_o|apply q_p|refine q_l ?_)|((with_reducible first|refine q_q rf1_ok fun K hK=>?_|refine q_r rf1_ok fun K hK=>?_);simp (maxSteps:=2000000) only [go_sem,↓reduceIte,reduceCtorEq,Nat.reduceLeDiff,Nat.reduceLT,Nat.reduceBEq,Nat.reduceAdd];(repeat1' with_reducible first|apply And.intro|intro _|(refine hK _ ?_;clear hK K))<;>(try (clear hK K;exact q_u)))|(with_reducible refine q_s ?_;(first|apply q_J|apply q_K|apply q_L|apply q_M|apply q_N|apply q_O)<;>try intro _)|with_reducible refine q_t ?_)
  · rename_i ha
    refine q_G (ι := { p : Nat × List Int × Int // p.1 ≤ ys.length + 1 ∧ (p.1 = ys.length + 1 → p.2.2 = 0) ∧ p.2.1.length = xs.length + ys.length + 1 ∧ InB 65536 p.2.1 ∧ (∀ j, p.1 ≤ ys.length → i + ys.length ≤ j → p.2.1.getD j 0 = 0) ∧ (∀ j, i + 1 + ys.length ≤ j → p.2.1.getD j 0 = 0) ∧ (0 ≤ p.2.2 ∧ p.2.2 < 65536) ∧ V 65536 p.2.1 + 65536 ^ (i + p.1) * p.2.2.toNat = V 65536 o + 65536 ^ i * ((xs.getD i 0).toNat * V 65536 (ys.take p.1)) }) (fun p => ⟨67, [(0, .c (.ints .i64 xs)), (1, .c (.ints .i64 ys)), (5, .own 0 0), (6, .c (.i .i64 i)), (7, .c (.i .i64 p.1.2.2)), (8, .c (.i .i64 p.1.1))], ⟨[], [(0, ⟨0, 3, 1, .ints .i64 p.1.2.1⟩)], []⟩, 1⟩) (fun p => ys.length + 1 - p.1.1) ⟨(0, o, 0), by simp, by simp, by simp [g2], g3, fun j _ hj => g4 j hj, fun j hj => g4 j (by omega), by simp, by simp [V]⟩ ?_ ?_
    · exact q_D
    rintro ⟨⟨k, o', c⟩, k1, k0, k2, k3, k4, k7, k5, k6⟩
    simp only at k1 k0 k2 k3 k4 k7 k5 k6 ⊢
    have b2 := InB_getD (by omega) by' k
    have b3 := InB_getD (by omega) k3 (i + k)
    have b4 := mulC _ _ b1 b2
    have e1 : ((i : Int) + (k : Int)).toNat = i + k := by omega
    have z2 : ¬ (k : Int) < ys.length → ys.getD k 0 = 0 := fun h => getD_ge ys k (by omega)
    have z3 : ¬ (k : Int) < ys.length → xs.getD i 0 * ys.getD k 0 = 0 := fun h => by rw [z2 h]; simp
    have z4 : ys.length ≤ k → k ≤ ys.length → o'.getD (i + k) 0 = 0 := fun h h2 => k4 _ h2 (by omega)
    have hm : (xs.getD i 0 * ys.getD k 0).toNat = (xs.getD i 0).toNat * (ys.getD k 0).toNat := Int.toNat_mul b1.1 b2.1
    repeat' (first|(with_reducible first|apply q_a|apply q_b|apply q_c|apply q_d|apply q_e|apply q_f|apply q_g|apply q_h|apply q_i|apply q_j|apply q_k|apply q_m|apply q_n|apply q_o|apply q_p|refine q_l ?_)|((with_reducible first|refine q_q rf1_ok fun K hK=>?_|refine q_r rf1_ok fun K hK=>?_);simp (maxSteps:=2000000) only [go_sem,↓reduceIte,reduceCtorEq,Nat.reduceLeDiff,Nat.reduceLT,Nat.reduceBEq,Nat.reduceAdd];(repeat1' with_reducible first|apply And.intro|intro _|(refine hK _ ?_;clear hK K))<;>(try (clear hK K;exact q_u)))|(with_reducible refine q_s ?_;(first|apply q_J|apply q_K|apply q_L|apply q_M|apply q_N|apply q_O)<;>try intro _)|with_reducible refine q_t ?_)
    all_goals first | (exfalso; omega) | skip
    all_goals (try simp only [e1])
    all_goals (try simp (disch := omega) only [Int.tdiv_eq_ediv_of_nonneg, Int.tmod_eq_emod_of_nonneg])
    all_goals first
      | (refine q_F ⟨(k + 1, o'.set (i + k) ((c + xs.getD i 0 * ys.getD k 0 + o'.getD (i + k) 0) % 65536), (c + xs.getD i 0 * ys.getD k 0 + o'.getD (i + k) 0) / 65536), by simp only; omega, by simp only; omega, by simp [k2], InB_set k3 _ (by omega) (by omega), (by
            intro j hj1 hj
            simp only at hj1 ⊢
            rw [NatL.getD_set_ne _ _ _ _ (by omega)]
            exact k4 j (by omega) hj), (by
            intro j hj
            simp only
            rw [NatL.getD_set_ne _ _ _ _ (by omega)]
            exact k7 j hj), by simp only; omega, (by
            simp only
            rw [V_take_getD]
            exact mul_inner 65536 i k _ _ _ _ _ _ _ _ _ _ _ k6 (V_set 65536 o' (i + k) _ (by omega)) rfl (by omega))⟩ ?_ (by show ys.length + 1 - (k + 1) < ys.length + 1 - k; omega); exact q_D; done)
      | skip
    · have hc : c = 0 := by omega
      refine q_F ⟨(i + 1, o'), by simp only; omega, k2, k3, k7, ?_⟩ ?_ ?_
      · simp only
        rw [V_take_getD, Nat.add_mul, ← g5, Nat.mul_assoc]
        rw [List.take_of_length_le (by omega), hc] at k6
        simp only [Int.toNat_zero, Nat.mul_zero, Nat.add_zero] at k6
        omega
      · exact q_D
      · show xs.length - (i + 1) < xs.length - i
        omega
  · rename_i ha
    have hi : i = xs.length := by omega
    refine q_A ?_
    simp only [resAV, q_y]
    rw [trimL_eq 65536 (by omega) _ g3, g5, hi, List.take_length]

theorem limb_step (j : Nat) (o xs : List Int) (h : V 4294967296 o = V 65536 (xs.take (2 * j))) (hl : o.length = j) (v : Int) (hr : v.toNat = (xs.getD (2 * j) 0).toNat + 65536 * (xs.getD (2 * j + 1) 0).toNat) : V 4294967296 (o ++ [v]) = V 65536 (xs.take (2 * (j + 1))) := by
  rw [V_snoc, show 2 * (j + 1) = 2 * j + 1 + 1 by omega, V_take_getD, V_take_getD, ← h, hl, hr]
  have e : (65536 : Nat) ^ (2 * j) = 4294967296 ^ j := by rw [Nat.pow_mul]
  rw [Nat.pow_succ, e, Nat.mul_add, Nat.mul_assoc]
  omega

set_option maxHeartbeats 1600000 in
theorem limbs_ret (xs : List Int) (hx : xs.length ≤ 4194304) (bx : InB 65536 xs) (tx : Trd xs) : Ret Try.prog 65 false [.inl (.ints .i64 xs)] (.c (.ints .u32 (dg 4294967296 (V 65536 xs)))) := by
  (refine q_H Try.func65 (fun F => ?_); simp only [q_z,q_y,Try.ntmps65,Try.results65])
  repeat' (first|(with_reducible first|apply q_a|apply q_b|apply q_c|apply q_d|apply q_e|apply q_f|apply q_g|apply q_h|apply q_i|apply q_j|apply q_k|apply q_m|apply q_n|apply q_o|apply q_p|refine q_l ?_)|((with_reducible first|refine q_q rf1_ok fun K hK=>?_|refine q_r rf1_ok fun K hK=>?_);simp (maxSteps:=2000000) only [go_sem,↓reduceIte,reduceCtorEq,Nat.reduceLeDiff,Nat.reduceLT,Nat.reduceBEq,Nat.reduceAdd];(repeat1' with_reducible first|apply And.intro|intro _|(refine hK _ ?_;clear hK K))<;>(try (clear hK K;exact q_u)))|(with_reducible refine q_s ?_;(first|apply q_J|apply q_K|apply q_L|apply q_M|apply q_N|apply q_O)<;>try intro _)|with_reducible refine q_t ?_)
  refine q_G (ι := { p : Nat × List Int // 2 * p.1 ≤ xs.length + 1 ∧ p.2.length = p.1 ∧ InB 4294967296 p.2 ∧ V 4294967296 p.2 = V 65536 (xs.take (2 * p.1)) }) (fun p => ⟨36, [(0, .c (.ints .i64 xs)), (3, .own 0 0), (4, .c (.i .i64 ((2 * p.1.1 : Nat) : Int)))], ⟨[], [(0, ⟨0, 91, 1, .ints .u32 p.1.2⟩)], []⟩, 1⟩) (fun p => xs.length + 1 - 2 * p.1.1) ⟨(0, []), by simp, by simp, InB_nil _, by simp [V]⟩ ?_ ?_
  · exact q_D
  rintro ⟨⟨j, o⟩, g1, g2, g3, g4⟩
  simp only at g1 g2 g3 g4 ⊢
  have b1 := InB_getD (by omega) bx (2 * j)
  have b2 := InB_getD (by omega) bx (2 * j + 1)
  have e1 : (((2 * j : Nat) : Int) + 1).toNat = 2 * j + 1 := by omega
  have z2 : ¬ ((2 * j : Nat) : Int) + 1 < xs.length → xs.getD (2 * j + 1) 0 = 0 := fun h => getD_ge xs _ (by omega)
  repeat' (first|(with_reducible first|apply q_a|apply q_b|apply q_c|apply q_d|apply q_e|apply q_f|apply q_g|apply q_h|apply q_i|apply q_j|apply q_k|apply q_m|apply q_n|apply q_o|apply q_p|refine q_l ?_)|((with_reducible first|refine q_q rf1_ok fun K hK=>?_|refine q_r rf1_ok fun K hK=>?_);simp (maxSteps:=2000000) only [go_sem,↓reduceIte,reduceCtorEq,Nat.reduceLeDiff,Nat.reduceLT,Nat.reduceBEq,Nat.reduceAdd];(repeat1' with_reducible first|apply And.intro|intro _|(refine hK _ ?_;clear hK K))<;>(try (clear hK K;exact q_u)))|(with_reducible refine q_s ?_;(first|apply q_J|apply q_K|apply q_L|apply q_M|apply q_N|apply q_O)<;>try intro _)|with_reducible refine q_t ?_)
  all_goals (try simp only [e1])
  all_goals first
    | (refine q_F ⟨(j + 1, o ++ [xs.getD (2 * j) 0 + 65536 * xs.getD (2 * j + 1) 0]), by simp only; omega, by simp [g2], InB_snoc g3 (by omega) (by omega), limb_step j o xs g4 g2 _ (by omega)⟩ ?_ (by show xs.length + 1 - 2 * (j + 1) < xs.length + 1 - 2 * j; omega); exact q_D; done)
    | skip
  · rename_i ha
    refine q_A ?_
    rw [List.take_of_length_le (by omega)] at g4
    simp only [resAV, q_y]
    rw [← g4, dg_V 4294967296 (by omega) o g3]
    by_cases h0 : xs.length = 0
    · have : j = 0 := by omega
      subst this
      have ho : o = [] := List.eq_nil_of_length_eq_zero g2
      have hxs : xs = [] := List.eq_nil_of_length_eq_zero h0
      subst ho
      exact .inl rfl
    · refine trd_of_ge (by omega) o g3 ?_
      have h1 := V_ge_of_trd (by omega) xs bx tx (by omega)
      rw [g4, g2]
      refine Nat.le_trans ?_ h1
      have e : (4294967296 : Nat) ^ (j - 1) = 65536 ^ (2 * (j - 1)) := by rw [Nat.pow_mul]
      rw [e]
      exact Nat.pow_le_pow_right (by omega) (by omega)

set_option maxHeartbeats 1600000 in
theorem sameLimbs_ret (xs ys : List Int) (hx : xs.length ≤ 16777216) (hy : ys.length ≤ 16777216) : Ret Try.prog 110 false [.inl (.ints .u32 xs), .inl (.ints .u32 ys)] (.c (.b (decide (xs = ys)))) := by
  (refine q_H Try.func110 (fun F => ?_); simp only [q_z,q_y,Try.ntmps110,Try.results110])
  repeat' (first|(with_reducible first|apply q_a|apply q_b|apply q_c|apply q_d|apply q_e|apply q_f|apply q_g|apply q_h|apply q_i|apply q_j|apply q_k|apply q_m|apply q_n|apply q_o|apply q_p|refine q_l ?_)|((with_reducible first|refine q_q rf1_ok fun K hK=>?_|refine q_r rf1_ok fun K hK=>?_);simp (maxSteps:=2000000) only [go_sem,↓reduceIte,reduceCtorEq,Nat.reduceLeDiff,Nat.reduceLT,Nat.reduceBEq,Nat.reduceAdd];(repeat1' with_reducible first|apply And.intro|intro _|(refine hK _ ?_;clear hK K))<;>(try (clear hK K;exact q_u)))|(with_reducible refine q_s ?_;(first|apply q_J|apply q_K|apply q_L|apply q_M|apply q_N|apply q_O)<;>try intro _)|with_reducible refine q_t ?_)
  · rename_i hl
    exact q_A (by simp only [resAV, q_y]; rw [decide_eq_false (fun h => hl (by rw [h]))])
  rename_i hl
  have hl : xs.length = ys.length := by omega
  refine q_G (ι := { i : Nat // i ≤ xs.length ∧ xs.take i = ys.take i }) (fun i => ⟨26, [(0, .c (.ints .u32 xs)), (1, .c (.ints .u32 ys)), (5, .c (.i .i64 i.1))], ⟨[], [], []⟩, 0⟩) (fun i => xs.length - i.1) ⟨0, by simp, by simp⟩ ?_ ?_
  · exact q_D
  rintro ⟨i, h1, h2⟩
  simp only
  repeat' (first|(with_reducible first|apply q_a|apply q_b|apply q_c|apply q_d|apply q_e|apply q_f|apply q_g|apply q_h|apply q_i|apply q_j|apply q_k|apply q_m|apply q_n|apply q_o|apply q_p|refine q_l ?_)|((with_reducible first|refine q_q rf1_ok fun K hK=>?_|refine q_r rf1_ok fun K hK=>?_);simp (maxSteps:=2000000) only [go_sem,↓reduceIte,reduceCtorEq,Nat.reduceLeDiff,Nat.reduceLT,Nat.reduceBEq,Nat.reduceAdd];(repeat1' with_reducible first|apply And.intro|intro _|(refine hK _ ?_;clear hK K))<;>(try (clear hK K;exact q_u)))|(with_reducible refine q_s ?_;(first|apply q_J|apply q_K|apply q_L|apply q_M|apply q_N|apply q_O)<;>try intro _)|with_reducible refine q_t ?_)
  · rename_i h3 hne
    exact q_A (by simp only [resAV, q_y]; rw [decide_eq_false (fun h => hne (by rw [h]))])
  · rename_i h3 he
    refine q_F ⟨i + 1, by omega, ?_⟩ ?_ ?_
    · rw [List.take_succ_eq_append_getElem (by omega), List.take_succ_eq_append_getElem (by omega), h2]
      have e : xs.getD i 0 = ys.getD i 0 := by omega
      rw [getD_eq xs i (by omega), getD_eq ys i (by omega)] at e
      rw [e]
    · exact q_D
    · show xs.length - (i + 1) < xs.length - i
      omega
  · rename_i h3
    rw [List.take_of_length_le (by omega), List.take_of_length_le (by omega)] at h2
    exact q_A (by simp only [resAV, q_y]; rw [decide_eq_true h2])

end Go.Proofs.Ytneecniebhhhlaa

namespace Go.Proofs.Ytneecniebhhhlaa
set_option linter.unusedSimpArgs false
set_option linter.unusedVariables false
open Go.Abs Go.Proofs.NatL

theorem bl_V (xs : List Int) (h0 : 0 < xs.length) (bx : InB 4294967296 xs) (tx : Trd xs) : 32 * (xs.length - 1) + bl (xs.getD (xs.length - 1) 0).toNat = bl (V 4294967296 xs) := by
  have h1 := V_ge_of_trd (by omega) xs bx tx h0
  have e : (4294967296 : Nat) ^ (xs.length - 1) = 2 ^ (32 * (xs.length - 1)) := by rw [show (4294967296 : Nat) = 2 ^ 32 from rfl, ← Nat.pow_mul]
  rw [e] at h1
  rw [bl_shr _ _ h1, ← e, ← V_drop_div 4294967296 (by omega) xs bx, V_drop 4294967296 xs _ (by omega), List.drop_eq_nil_of_le (by omega)]
  simp [V]

set_option maxHeartbeats 1600000 in
theorem Bits_ret (xs : List Int) (hx : xs.length ≤ 140737488355328) (bx : InB 4294967296 xs) :
    Ret Try.prog 127 false [.inl (.ints .u32 xs)] (.t [.inl (.i .i64 ((if okN xs then bl (V 4294967296 xs) else 0 : Nat) : Int)), .inr [.i .i64 (if okN xs then 0 else 6), .i .i64 (if okN xs then 0 else -1)]]) := by
  by_cases ho : okN xs = true
  · have ox' : xs.length ≤ 600 ∧ Trd xs := by simpa [okN] using ho
    have b1 := InB_getD (by omega) bx (xs.length - 1)
    have hl : bl (xs.getD (xs.length - 1) 0).toNat ≤ 32 := bl_lt _ _ (by simp only [show (2 : Nat) ^ 32 = 4294967296 from rfl]; omega)
    have e0 : ((xs.length : Int) - 1).toNat = xs.length - 1 := by omega
    (refine q_H Try.func127 (fun F => ?_); simp only [q_z,q_y,Try.ntmps127,Try.results127])
    repeat' (first|(with_reducible first|apply q_a|apply q_b|apply q_c|apply q_d|apply q_e|apply q_f|apply q_g|apply q_h|apply q_i|apply q_j|apply q_k|apply q_m|apply q_n|apply q_o|apply q_p|refine q_l ?_)|((with_reducible first|refine q_q cf21_ok fun K hK=>?_|refine q_r cf21_ok fun K hK=>?_);simp (maxSteps:=2000000) only [go_sem,↓reduceIte,reduceCtorEq,Nat.reduceLeDiff,Nat.reduceLT,Nat.reduceBEq,Nat.reduceAdd];(repeat1' with_reducible first|apply And.intro|intro _|(refine hK _ ?_;clear hK K))<;>(try (clear hK K;exact q_u)))|(with_reducible refine q_s ?_;(first|apply q_J|apply q_K|apply q_L|apply q_M|apply q_N|apply q_O)<;>try intro _)|with_reducible refine q_t ?_)
    all_goals try (rw [e0])
    all_goals try (exact b1.1)
    all_goals try (exact b1.2)
    all_goals try omega
    · exfalso; simp_all
    · rename_i h0
      have : xs = [] := List.eq_nil_of_length_eq_zero (by omega)
      subst this
      exact q_A (by simp [resAV, okN, Trd, V, bl])
    · rename_i h0
      have h1 := bl_V xs (by omega) bx ox'.2
      refine q_A ?_
      simp only [resAV, if_pos ho, AV.t.injEq, List.cons.injEq, Sum.inl.injEq, C.i.injEq, true_and, and_true]
      omega
  · (refine q_H Try.func127 (fun F => ?_); simp only [q_z,q_y,Try.ntmps127,Try.results127])
    repeat' (first|(with_reducible first|apply q_a|apply q_b|apply q_c|apply q_d|apply q_e|apply q_f|apply q_g|apply q_h|apply q_i|apply q_j|apply q_k|apply q_m|apply q_n|apply q_o|apply q_p|refine q_l ?_)|((with_reducible first|refine q_q cf21_ok fun K hK=>?_|refine q_r cf21_ok fun K hK=>?_);simp (maxSteps:=2000000) only [go_sem,↓reduceIte,reduceCtorEq,Nat.reduceLeDiff,Nat.reduceLT,Nat.reduceBEq,Nat.reduceAdd];(repeat1' with_reducible first|apply And.intro|intro _|(refine hK _ ?_;clear hK K))<;>(try (clear hK K;exact q_u)))|(with_reducible refine q_s ?_;(first|apply q_J|apply q_K|apply q_L|apply q_M|apply q_N|apply q_O)<;>try intro _)|with_reducible refine q_t ?_)
    · exact q_A (by simp [resAV, ho])
    all_goals (exfalso; simp_all)

def bitsCT : CT := mkCT [.inl (some (.ints .u32 []))] true fun l K => match l with
  | [.inl (.ints .u32 xs)] => (xs.length ≤ 140737488355328 ∧ InB 4294967296 xs) ∧ K (.t [.inl (.i .i64 ((if okN xs then bl (V 4294967296 xs) else 0 : Nat) : Int)), .inr [.i .i64 (if okN xs then 0 else 6), .i .i64 (if okN xs then 0 else -1)]])
  | _ => False
def cg2 : Cfg := addT 127 bitsCT cf21
attribute [go_sem] cg2 bitsCT

attribute [go_sem] decide_true decide_false
def sameCT : CT := mkCT [.inl (some (.ints .u32 [])), .inl (some (.ints .u32 []))] true fun l K => match l with
  | [.inl (.ints .u32 xs), .inl (.ints .u32 ys)] => (xs.length ≤ 16777216 ∧ ys.length ≤ 16777216) ∧ K (.c (.b (decide (xs = ys))))
  | _ => False
def limbsCT : CT := mkCT [.inl (some (.ints .i64 []))] false fun l K => match l with
  | [.inl (.ints .i64 xs)] => (xs.length ≤ 4194304 ∧ InB 65536 xs ∧ Trd xs) ∧ K (.c (.ints .u32 (dg 4294967296 (V 65536 xs))))
  | _ => False
def ch1 : Cfg := addT 65 limbsCT cf8
theorem ch1_ok : TblOk Try.prog ch1 := q_I cf8_ok Try.func65 fun l K h => by
  split at h
  · exact ⟨_, limbs_ret _ h.1.1 h.1.2.1 h.1.2.2, h.2⟩
  · exact h.elim
def ch2 : Cfg := addT 110 sameCT ch1
theorem ch2_ok : TblOk Try.prog ch2 := q_I ch1_ok Try.func110 fun l K h => by
  split at h
  · exact ⟨_, (sameLimbs_ret _ _ h.1.1 h.1.2).plain rfl, h.2⟩
  · exact h.elim
attribute [go_sem] ch1 limbsCT ch2 sameCT

theorem dg_len_iff {B : Nat} (hB : 2 ≤ B) (n k : Nat) : (dg B n).length ≤ k ↔ n < B ^ k := by
  constructor
  · intro h
    rcases Nat.lt_or_ge n (B ^ k) with h1 | h1
    · exact h1
    · have := dg_len_gt hB n k h1; omega
  · exact dg_len_le hB n k
theorem dg_half (n k : Nat) : (dg 65536 n).length ≤ 2 * k ↔ (dg 4294967296 n).length ≤ k := by
  rw [dg_len_iff (by omega), dg_len_iff (by omega), Nat.pow_mul]
theorem dg_half_le (n k : Nat) (h : (dg 65536 n).length ≤ k) : (dg 4294967296 n).length ≤ k := (dg_half n k).1 (by omega)

theorem chkC_zero {xs ys : List Int} (h : okN xs = true) (k : okN ys = true) : chkC xs ys = 0 ∧ chkI xs ys = 0 := by simp [chkC, chkI, h, k]
theorem okN_parts {xs : List Int} (h : okN xs = true) : xs.length ≤ 600 ∧ Trd xs := by simpa [okN] using h
def goodCT (n : List Int → List Int → List Int) (c i : List Int → List Int → Int) : CT := mkCT [.inl (some (.ints .u32 [])), .inl (some (.ints .u32 []))] false fun l K => match l with
  | [.inl (.ints .u32 xs), .inl (.ints .u32 ys)] => (okN xs = true ∧ okN ys = true ∧ InB 4294967296 xs ∧ InB 4294967296 ys) ∧ K (.t [.inl (.ints .u32 (n xs ys)), .inr [.i .i64 (c xs ys), .i .i64 (i xs ys)]])
  | _ => False
theorem oneF_good {xs ys n : List Int} {c i : Int} (h : okN xs = true) (k : okN ys = true) : oneF xs ys n c i = .t [.inl (.ints .u32 n), .inr [.i .i64 c, .i .i64 i]] := by
  unfold oneF; rw [if_neg]; simp [(chkC_zero h k).1]
theorem okN_LB {xs : List Int} (h : okN xs = true) : xs.length ≤ 140737488355328 := Nat.le_trans (okN_parts h).1 (by omega)
def subO (xs ys : List Int) : List Int := if V 4294967296 xs < V 4294967296 ys then [] else subN xs ys
def subC (xs ys : List Int) : Int := if V 4294967296 xs < V 4294967296 ys then 4 else 0
def subI (xs ys : List Int) : Int := if V 4294967296 xs < V 4294967296 ys then -2 else 0
def db1 : Cfg := addT 104 (goodCT (fun xs ys => fitN (addN xs ys)) (fun xs ys => fitC (addN xs ys)) (fun xs ys => fitI (addN xs ys))) ch2
theorem db1_ok : TblOk Try.prog db1 := q_I ch2_ok Try.func104 fun l K h => by
  split at h
  · obtain ⟨⟨h1, h2, h3, h4⟩, h⟩ := h
    have := Add_ret _ _ (okN_LB h1) (okN_LB h2) h3 h4
    rw [oneF_good h1 h2] at this
    exact ⟨_, this, h⟩
  · exact h.elim
def db2 : Cfg := addT 129 (goodCT (fun xs ys => fitN (mulN xs ys)) (fun xs ys => fitC (mulN xs ys)) (fun xs ys => fitI (mulN xs ys))) db1
theorem db2_ok : TblOk Try.prog db2 := q_I db1_ok Try.func129 fun l K h => by
  split at h
  · obtain ⟨⟨h1, h2, h3, h4⟩, h⟩ := h
    have := Mul_ret _ _ (okN_LB h1) (okN_LB h2) h3 h4
    rw [oneF_good h1 h2] at this
    exact ⟨_, this, h⟩
  · exact h.elim
def db3 : Cfg := addT 105 (goodCT subO subC subI) db2
theorem db3_ok : TblOk Try.prog db3 := q_I db2_ok Try.func105 fun l K h => by
  split at h
  · obtain ⟨⟨h1, h2, h3, h4⟩, h⟩ := h
    have := Sub_ret _ _ (okN_LB h1) (okN_LB h2) h3 h4
    rw [oneF_good h1 h2] at this
    exact ⟨_, this, h⟩
  · exact h.elim
def CmpCT : CT := mkCT [.inl (some (.ints .u32 [])), .inl (some (.ints .u32 []))] true fun l K => match l with
  | [.inl (.ints .u32 xs), .inl (.ints .u32 ys)] => (okN xs = true ∧ okN ys = true ∧ InB 4294967296 xs ∧ InB 4294967296 ys) ∧ K (.t [.inl (.i .i64 (cmp3 (V 4294967296 xs) (V 4294967296 ys))), .inr [.i .i64 0, .i .i64 0]])
  | _ => False
def db4 : Cfg := addT 126 CmpCT db3
theorem db4_ok : TblOk Try.prog db4 := q_I db3_ok Try.func126 fun l K h => by
  split at h
  · obtain ⟨⟨h1, h2, h3, h4⟩, h⟩ := h
    have := Cmp_ret _ _ (okN_LB h1) (okN_LB h2) h3 h4
    rw [(chkC_zero h1 h2).1, (chkC_zero h1 h2).2, if_neg (by simp)] at this
    exact ⟨_, this.plain rfl, h⟩
  · exact h.elim
def db6 : Cfg := addT 41 ofCT db4
theorem db6_ok : TblOk Try.prog db6 := q_I db4_ok Try.func41 fun l K h => by
  split at h
  · exact ⟨_, of_ret _ h.1.1 h.1.2, h.2⟩
  · exact h.elim
attribute [go_sem] V65 I65 T65 V32 I32 T32 I0 T0 V0
def rnumCT (p : List Int → List Int → Prop) (f : Nat → Nat → Nat) : CT := mkCT [.inl (some (.ints .i64 [])), .inl (some (.ints .i64 []))] false fun l K => match l with
  | [.inl (.ints .i64 xs), .inl (.ints .i64 ys)] => (xs.length ≤ 4194304 ∧ ys.length ≤ 4194304 ∧ InB 65536 xs ∧ InB 65536 ys ∧ Trd xs ∧ Trd ys ∧ p xs ys) ∧ K (.c (.ints .i64 (dg 65536 (f (V 65536 xs) (V 65536 ys)))))
  | _ => False
def rcmpCT : CT := mkCT [.inl (some (.ints .i64 [])), .inl (some (.ints .i64 []))] true fun l K => match l with
  | [.inl (.ints .i64 xs), .inl (.ints .i64 ys)] => (xs.length ≤ 4194304 ∧ ys.length ≤ 4194304 ∧ InB 65536 xs ∧ InB 65536 ys ∧ Trd xs ∧ Trd ys) ∧ K (.c (.i .i64 (cmp3 (V 65536 xs) (V 65536 ys))))
  | _ => False
def db7 : Cfg := addT 112 rcmpCT db6
theorem db7_ok : TblOk Try.prog db7 := q_I db6_ok Try.func112 fun l K h => by
  split at h
  · obtain ⟨⟨h1, h2, h3, h4, h5, h6⟩, h⟩ := h
    exact ⟨_, (rcompare_ret _ _ h1 h2 h3 h4 h5 h6).plain rfl, h⟩
  · exact h.elim
def db8 : Cfg := addT 117 (rnumCT (fun _ _ => True) (· + ·)) db7
theorem db8_ok : TblOk Try.prog db8 := q_I db7_ok Try.func117 fun l K h => by
  split at h
  · obtain ⟨⟨h1, h2, h3, h4, h5, h6, h7⟩, h⟩ := h
    exact ⟨_, plus_ret _ _ h1 h2 h3 h4, h⟩
  · exact h.elim
def db9 : Cfg := addT 113 (rnumCT (fun _ _ => True) (· * ·)) db8
theorem db9_ok : TblOk Try.prog db9 := q_I db8_ok Try.func113 fun l K h => by
  split at h
  · obtain ⟨⟨h1, h2, h3, h4, h5, h6, h7⟩, h⟩ := h
    exact ⟨_, times_ret _ _ h1 h2 h3 h4, h⟩
  · exact h.elim
def db10 : Cfg := addT 116 (rnumCT (fun xs ys => V 65536 ys ≤ V 65536 xs) (· - ·)) db9
theorem db10_ok : TblOk Try.prog db10 := q_I db9_ok Try.func116 fun l K h => by
  split at h
  · obtain ⟨⟨h1, h2, h3, h4, h5, h6, h7⟩, h⟩ := h
    exact ⟨_, minus_ret _ _ h1 (V_le_len (by omega) h3 h4 h6 h7) h3 h4 h7, h⟩
  · exact h.elim
def okTCT : CT := mkCT [.inl (some (.ints .u32 []))] true fun l K => match l with
  | [.inl (.ints .u32 xs)] => okN xs = true ∧ K (.c (.b true))
  | _ => False
def db12 : Cfg := addT 166 okTCT db10
theorem db12_ok : TblOk Try.prog db12 := q_I db10_ok Try.func166 fun l K h => by
  split at h
  · obtain ⟨h1, h⟩ := h
    have := valid_ret _ (okN_LB h1)
    rw [h1] at this
    exact ⟨_, this.plain rfl, h⟩
  · exact h.elim
def db13 : Cfg := db12
theorem db13_ok : TblOk Try.prog db13 := db12_ok
attribute [go_sem] db1 db2 db3 db4 db6 db7 db8 db9 db10 db12 db13 goodCT CmpCT rnumCT rcmpCT okTCT

theorem fit_dg (n : Nat) : fitN (dg 4294967296 n) = (if (dg 4294967296 n).length ≤ 600 then dg 4294967296 n else []) ∧ fitC (dg 4294967296 n) = (if (dg 4294967296 n).length ≤ 600 then 0 else 14) ∧ fitI (dg 4294967296 n) = (if (dg 4294967296 n).length ≤ 600 then 0 else -1) := by
  have e : trimL (dg 4294967296 n) = dg 4294967296 n := trimL_stop _ (dg_trd 4294967296 (by omega) n)
  simp only [fitN, fitC, fitI, e, and_self]
end Go.Proofs.Ytneecniebhhhlaa
