import Derived.Test.YtneecniebhhhlaaH7
namespace Go.Proofs.Ytneecniebhhhlaa
set_option linter.unusedSimpArgs false
set_option linter.unusedVariables false
open Go.Abs Go.Proofs.NatL
attribute [go_sem] cf0 addT mkCT mkCTO norm nz nzL List.mem_singleton List.mem_cons true_or or_true cf1 cf2 atCT cf3 trimCT cf4 cf5 okCT cf6 checkCT cf8 fitCT cf9 compareCT cf10 cloneCT cf11 sub32CT shr32 cf12 cf13 numCT

theorem mulB (x y : Int) (hx : 0 ≤ x ∧ x < 4294967296) (hy : 0 ≤ y ∧ y < 4294967296) : 0 ≤ x * y ∧ x * y ≤ 18446744065119617025 := by
  constructor
  · exact Int.mul_nonneg hx.1 hy.1
  · have h1 : x * y ≤ 4294967295 * y := Int.mul_le_mul_of_nonneg_right (by omega) hy.1
    omega

set_option maxHeartbeats 1600000 in
theorem mul_ret (xs ys : List Int) (hx : xs.length ≤ 16777216) (hy : ys.length ≤ 16777216) (bx : InB 4294967296 xs) (by' : InB 4294967296 ys) : Ret Try.prog 170 false [.inl (.ints .u32 xs), .inl (.ints .u32 ys)] (.c (.ints .u32 (dg 4294967296 (V 4294967296 xs * V 4294967296 ys)))) := by
  (refine q_H Try.func170 (fun F => ?_); simp only [q_z,q_y,Try.ntmps170,Try.results170])
  repeat' (first|(with_reducible first|apply q_a|apply q_b|apply q_c|apply q_d|apply q_e|apply q_f|apply q_g|apply q_h|apply q_i|apply q_j|apply q_k|apply q_m|apply q_n|apply q_o|apply q_p|refine q_l ?_)|((with_reducible first|refine q_q cf13_ok fun K hK=>?_|refine q_r cf13_ok fun K hK=>?_);simp (maxSteps:=2000000) only [go_sem,↓reduceIte,reduceCtorEq,Nat.reduceLeDiff,Nat.reduceLT,Nat.reduceBEq,Nat.reduceAdd];(repeat1' with_reducible first|apply And.intro|intro _|(refine hK _ ?_;clear hK K))<;>(try (clear hK K;exact q_u)))|(with_reducible refine q_s ?_;(first|apply q_J|apply q_K|apply q_L|apply q_M|apply q_N|apply q_O)<;>try intro _)|with_reducible refine q_t ?_)
  refine q_G (ι := { p : Nat × List Int // p.1 ≤ xs.length ∧ p.2.length = xs.length + ys.length ∧ InB 4294967296 p.2 ∧ (∀ j, p.1 + ys.length ≤ j → p.2.getD j 0 = 0) ∧ V 4294967296 p.2 = V 4294967296 (xs.take p.1) * V 4294967296 ys }) (fun p => ⟨67, [(0, .c (.ints .u32 xs)), (1, .c (.ints .u32 ys)), (5, .own 0 0), (17, .c (.ints .u32 xs)), (18, .c (.i .i64 xs.length)), (19, .c (.i .i64 p.1.1))], ⟨[], [(0, ⟨0, 91, 1, .ints .u32 p.1.2⟩)], []⟩, 1⟩) (fun p => xs.length - p.1.1) ⟨(0, List.replicate (xs.length + ys.length) 0), by simp, by simp, InB_replicate (by omega) _, fun j _ => getD_replicate _ j, by simp [V_replicate, V]⟩ ?_ ?_
  · exact q_D
  rintro ⟨⟨i, o⟩, g1, g2, g3, g4, g5⟩
  simp only at g1 g2 g3 g4 g5 ⊢
  have b1 := InB_getD (by omega) bx i
  repeat' (first|(with_reducible first|apply q_a|apply q_b|apply q_c|apply q_d|apply q_e|apply q_f|apply q_g|apply q_h|apply q_i|apply q_j|apply q_k|apply q_m|apply q_n|apply q_o|apply q_p|refine q_l ?_)|((with_reducible first|refine q_q cf13_ok fun K hK=>?_|refine q_r cf13_ok fun K hK=>?_);simp (maxSteps:=2000000) only [go_sem,↓reduceIte,reduceCtorEq,Nat.reduceLeDiff,Nat.reduceLT,Nat.reduceBEq,Nat.reduceAdd];(repeat1' with_reducible first|apply And.intro|intro _|(refine hK _ ?_;clear hK K))<;>(try (clear hK K;exact q_u)))|(with_reducible refine q_s ?_;(first|apply q_J|apply q_K|apply q_L|apply q_M|apply q_N|apply q_O)<;>try intro _)|with_reducible refine q_t ?_)
  · rename_i ha
    refine q_G (ι := { p : Nat × List Int × Int // p.1 ≤ ys.length ∧ p.2.1.length = xs.length + ys.length ∧ InB 4294967296 p.2.1 ∧ (∀ j, i + ys.length ≤ j → p.2.1.getD j 0 = 0) ∧ (0 ≤ p.2.2 ∧ p.2.2 < 4294967296) ∧ V 4294967296 p.2.1 + 4294967296 ^ (i + p.1) * p.2.2.toNat = V 4294967296 o + 4294967296 ^ i * ((xs.getD i 0).toNat * V 4294967296 (ys.take p.1)) }) (fun p => ⟨67, [(0, .c (.ints .u32 xs)), (1, .c (.ints .u32 ys)), (5, .own 0 0), (17, .c (.ints .u32 xs)), (18, .c (.i .i64 xs.length)), (19, .c (.i .i64 i)), (6, .c (.i .i64 i)), (7, .c (.i .u32 (xs.getD i 0))), (8, .c (.i .u64 p.1.2.2)), (24, .c (.ints .u32 ys)), (25, .c (.i .i64 ys.length)), (26, .c (.i .i64 p.1.1))], ⟨[], [(0, ⟨0, 91, 1, .ints .u32 p.1.2.1⟩)], []⟩, 1⟩) (fun p => ys.length - p.1.1) ⟨(0, o, 0), by simp, by simp [g2], g3, g4, by simp, by simp [V]⟩ ?_ ?_
    · exact q_D
    rintro ⟨⟨k, o', c⟩, k1, k2, k3, k4, k5, k6⟩
    simp only at k1 k2 k3 k4 k5 k6 ⊢
    have b2 := InB_getD (by omega) by' k
    have b3 := InB_getD (by omega) k3 (i + k)
    have b4 := mulB _ _ b1 b2
    have e1 : ((i : Int) + (k : Int)).toNat = i + k := by omega
    have m1 : xs.getD i 0 % 18446744073709551616 = xs.getD i 0 := by omega
    have m2 : ys.getD k 0 % 18446744073709551616 = ys.getD k 0 := by omega
    have e2 : ((i : Int) + (ys.length : Int)).toNat = i + ys.length := by omega
    repeat' (first|(with_reducible first|apply q_a|apply q_b|apply q_c|apply q_d|apply q_e|apply q_f|apply q_g|apply q_h|apply q_i|apply q_j|apply q_k|apply q_m|apply q_n|apply q_o|apply q_p|refine q_l ?_)|((with_reducible first|refine q_q cf13_ok fun K hK=>?_|refine q_r cf13_ok fun K hK=>?_);simp (maxSteps:=2000000) only [go_sem,↓reduceIte,reduceCtorEq,Nat.reduceLeDiff,Nat.reduceLT,Nat.reduceBEq,Nat.reduceAdd];(repeat1' with_reducible first|apply And.intro|intro _|(refine hK _ ?_;clear hK K))<;>(try (clear hK K;exact q_u)))|(with_reducible refine q_s ?_;(first|apply q_J|apply q_K|apply q_L|apply q_M|apply q_N|apply q_O)<;>try intro _)|with_reducible refine q_t ?_)
    · rename_i hb
      simp only [e1, m1, m2]
      refine q_F ⟨(k + 1, o'.set (i + k) ((c + xs.getD i 0 * ys.getD k 0 + o'.getD (i + k) 0) % 4294967296), (c + xs.getD i 0 * ys.getD k 0 + o'.getD (i + k) 0) / 4294967296), by simp only; omega, by simp [k2], InB_set k3 _ (by omega) (by omega), ?_, by simp only; omega, ?_⟩ ?_ ?_
      · intro j hj
        simp only
        rw [NatL.getD_set_ne _ _ _ _ (by omega)]
        exact k4 j hj
      · simp only
        rw [V_take_getD]
        have hm : (xs.getD i 0 * ys.getD k 0).toNat = (xs.getD i 0).toNat * (ys.getD k 0).toNat := Int.toNat_mul b1.1 b2.1
        exact mul_inner 4294967296 i k _ _ _ _ _ _ _ _ _ _ _ k6 (V_set 4294967296 o' (i + k) _ (by omega)) rfl (by omega)
      · exact q_D
      · show ys.length - (k + 1) < ys.length - k
        omega
    · rename_i hb
      have hk : k = ys.length := by omega
      subst hk
      try rw [e2]
      have hz := k4 (i + ys.length) (Nat.le_refl _)
      have hset := V_set 4294967296 o' (i + ys.length) (c % 4294967296) (by omega)
      have hc : c % 4294967296 = c := by omega
      rw [hz, hc] at hset
      rw [hc]
      refine q_F ⟨(i + 1, o'.set (i + ys.length) c), by simp only; omega, by simp [k2], InB_set k3 _ k5.1 k5.2, ?_, ?_⟩ ?_ ?_
      · intro j hj
        simp only at hj ⊢
        rw [NatL.getD_set_ne _ _ _ _ (by omega)]
        exact k4 j (by omega)
      · simp only
        rw [V_take_getD, Nat.add_mul, ← g5, Nat.mul_assoc]
        rw [List.take_length] at k6
        simp at hset
        omega
      · exact q_D
      · show xs.length - (i + 1) < xs.length - i
        omega
  · rename_i ha
    have hi : i = xs.length := by omega
    refine q_A ?_
    simp only [resAV, q_y]
    rw [trimL_eq 4294967296 (by omega) _ g3, g5, hi, List.take_length]

def mulN (xs ys : List Int) : List Int := dg 4294967296 (V 4294967296 xs * V 4294967296 ys)
def cf14 : Cfg := addT 170 (numCT (fun _ _ => True) mulN) cf13
theorem cf14_ok : TblOk Try.prog cf14 := q_I cf13_ok Try.func170 fun l K h => by
  split at h
  · exact ⟨_, mul_ret _ _ h.1.1.1 h.1.1.2.1 h.1.1.2.2.1 h.1.1.2.2.2, h.2⟩
  · exact h.elim
attribute [go_sem] cf14 listT
def tb3 : Cfg := listT [(158, atCT), (157, checkCT), (160, fitCT), (162, compareCT), (161, (numCT (fun _ _ => True) addN)), (163, (numCT (fun xs ys => ys.length ≤ xs.length ∧ V 4294967296 ys ≤ V 4294967296 xs) subN)), (170, (numCT (fun _ _ => True) mulN))] [28]
theorem tb3_ok : TblOk Try.prog tb3 := listT_ok (big := cf14) cf14_ok ⟨rfl, rfl, rfl, rfl, rfl, rfl, rfl, trivial⟩
attribute [go_sem] tb3

theorem chkC_ok {xs ys : List Int} (h : ¬ chkC xs ys ≠ 0) : (xs.length ≤ 600 ∧ Trd xs) ∧ (ys.length ≤ 600 ∧ Trd ys) := by
  unfold chkC at h
  split at h
  · rename_i hh
    simpa [okN] using hh
  · simp at h

def oneF (xs ys : List Int) (n : List Int) (c i : Int) : AV := if chkC xs ys ≠ 0 then .t [.inl (.ints .u32 []), .inr [.i .i64 (chkC xs ys), .i .i64 (chkI xs ys)]] else .t [.inl (.ints .u32 n), .inr [.i .i64 c, .i .i64 i]]

theorem addN_len (xs ys : List Int) (bx : InB 4294967296 xs) (by' : InB 4294967296 ys) (n : Nat) (hx : xs.length ≤ n) (hy : ys.length ≤ n) : (addN xs ys).length ≤ n + 1 := by
  refine dg_len_le (by omega) _ _ ?_
  have h1 := V_lt 4294967296 (by omega) xs bx
  have h2 := V_lt 4294967296 (by omega) ys by'
  have h3 : 4294967296 ^ xs.length ≤ 4294967296 ^ n := Nat.pow_le_pow_right (by omega) hx
  have h4 : 4294967296 ^ ys.length ≤ 4294967296 ^ n := Nat.pow_le_pow_right (by omega) hy
  rw [Nat.pow_succ]
  omega
theorem mulN_len (xs ys : List Int) (bx : InB 4294967296 xs) (by' : InB 4294967296 ys) : (mulN xs ys).length ≤ xs.length + ys.length := by
  refine dg_len_le (by omega) _ _ ?_
  have h1 := V_lt 4294967296 (by omega) xs bx
  have h2 := V_lt 4294967296 (by omega) ys by'
  rw [Nat.pow_add]
  exact Nat.mul_lt_mul'' h1 h2

set_option maxHeartbeats 1600000 in
theorem Add_ret (xs ys : List Int) (hx : xs.length ≤ 140737488355328) (hy : ys.length ≤ 140737488355328) (bx : InB 4294967296 xs) (by' : InB 4294967296 ys) : Ret Try.prog 104 false [.inl (.ints .u32 xs), .inl (.ints .u32 ys)] (oneF xs ys (fitN (addN xs ys)) (fitC (addN xs ys)) (fitI (addN xs ys))) := by
  by_cases hc : chkC xs ys = 0
  · obtain ⟨⟨l1, t1⟩, l2, t2⟩ := chkC_ok (by simpa using hc)
    have l3 := addN_len xs ys bx by' 600 l1 l2
    (refine q_H Try.func104 (fun F => ?_); simp only [q_z,q_y,Try.ntmps104,Try.results104])
    repeat' (first|(with_reducible first|apply q_a|apply q_b|apply q_c|apply q_d|apply q_e|apply q_f|apply q_g|apply q_h|apply q_i|apply q_j|apply q_k|apply q_m|apply q_n|apply q_o|apply q_p|refine q_l ?_)|((with_reducible first|refine q_q tb3_ok fun K hK=>?_|refine q_r tb3_ok fun K hK=>?_);simp (maxSteps:=2000000) only [go_sem,↓reduceIte,reduceCtorEq,Nat.reduceLeDiff,Nat.reduceLT,Nat.reduceBEq,Nat.reduceAdd];(repeat1' with_reducible first|apply And.intro|intro _|(refine hK _ ?_;clear hK K))<;>(try (clear hK K;exact q_u)))|(with_reducible refine q_s ?_;(first|apply q_J|apply q_K|apply q_L|apply q_M|apply q_N|apply q_O)<;>try intro _)|with_reducible refine q_t ?_)
    · contradiction
    · exact q_A (by simp [resAV, q_y, oneF, hc])
  · (refine q_H Try.func104 (fun F => ?_); simp only [q_z,q_y,Try.ntmps104,Try.results104])
    repeat' (first|(with_reducible first|apply q_a|apply q_b|apply q_c|apply q_d|apply q_e|apply q_f|apply q_g|apply q_h|apply q_i|apply q_j|apply q_k|apply q_m|apply q_n|apply q_o|apply q_p|refine q_l ?_)|((with_reducible first|refine q_q tb3_ok fun K hK=>?_|refine q_r tb3_ok fun K hK=>?_);simp (maxSteps:=2000000) only [go_sem,↓reduceIte,reduceCtorEq,Nat.reduceLeDiff,Nat.reduceLT,Nat.reduceBEq,Nat.reduceAdd];(repeat1' with_reducible first|apply And.intro|intro _|(refine hK _ ?_;clear hK K))<;>(try (clear hK K;exact q_u)))|(with_reducible refine q_s ?_;(first|apply q_J|apply q_K|apply q_L|apply q_M|apply q_N|apply q_O)<;>try intro _)|with_reducible refine q_t ?_)
    · exact q_B [.inl (some (.ints .u32 []))] rfl (by simp [resAV, norm, nz, oneF, hc])
    all_goals contradiction
set_option maxHeartbeats 1600000 in
theorem Mul_ret (xs ys : List Int) (hx : xs.length ≤ 140737488355328) (hy : ys.length ≤ 140737488355328) (bx : InB 4294967296 xs) (by' : InB 4294967296 ys) : Ret Try.prog 129 false [.inl (.ints .u32 xs), .inl (.ints .u32 ys)] (oneF xs ys (fitN (mulN xs ys)) (fitC (mulN xs ys)) (fitI (mulN xs ys))) := by
  by_cases hc : chkC xs ys = 0
  · obtain ⟨⟨l1, t1⟩, l2, t2⟩ := chkC_ok (by simpa using hc)
    have l3 := mulN_len xs ys bx by'
    (refine q_H Try.func129 (fun F => ?_); simp only [q_z,q_y,Try.ntmps129,Try.results129])
    repeat' (first|(with_reducible first|apply q_a|apply q_b|apply q_c|apply q_d|apply q_e|apply q_f|apply q_g|apply q_h|apply q_i|apply q_j|apply q_k|apply q_m|apply q_n|apply q_o|apply q_p|refine q_l ?_)|((with_reducible first|refine q_q tb3_ok fun K hK=>?_|refine q_r tb3_ok fun K hK=>?_);simp (maxSteps:=2000000) only [go_sem,↓reduceIte,reduceCtorEq,Nat.reduceLeDiff,Nat.reduceLT,Nat.reduceBEq,Nat.reduceAdd];(repeat1' with_reducible first|apply And.intro|intro _|(refine hK _ ?_;clear hK K))<;>(try (clear hK K;exact q_u)))|(with_reducible refine q_s ?_;(first|apply q_J|apply q_K|apply q_L|apply q_M|apply q_N|apply q_O)<;>try intro _)|with_reducible refine q_t ?_)
    · contradiction
    · exact q_A (by simp [resAV, q_y, oneF, hc])
  · (refine q_H Try.func129 (fun F => ?_); simp only [q_z,q_y,Try.ntmps129,Try.results129])
    repeat' (first|(with_reducible first|apply q_a|apply q_b|apply q_c|apply q_d|apply q_e|apply q_f|apply q_g|apply q_h|apply q_i|apply q_j|apply q_k|apply q_m|apply q_n|apply q_o|apply q_p|refine q_l ?_)|((with_reducible first|refine q_q tb3_ok fun K hK=>?_|refine q_r tb3_ok fun K hK=>?_);simp (maxSteps:=2000000) only [go_sem,↓reduceIte,reduceCtorEq,Nat.reduceLeDiff,Nat.reduceLT,Nat.reduceBEq,Nat.reduceAdd];(repeat1' with_reducible first|apply And.intro|intro _|(refine hK _ ?_;clear hK K))<;>(try (clear hK K;exact q_u)))|(with_reducible refine q_s ?_;(first|apply q_J|apply q_K|apply q_L|apply q_M|apply q_N|apply q_O)<;>try intro _)|with_reducible refine q_t ?_)
    · exact q_B [.inl (some (.ints .u32 []))] rfl (by simp [resAV, norm, nz, oneF, hc])
    all_goals contradiction

theorem cmpL_le {xs ys : List Int} (bx : InB 4294967296 xs) (by' : InB 4294967296 ys) (tx : Trd xs) (ty : Trd ys) : (cmpL xs ys < 0 ↔ V 4294967296 xs < V 4294967296 ys) ∧ (cmpL xs ys = 0 ↔ V 4294967296 xs = V 4294967296 ys) ∧ (¬ cmpL xs ys < 0 → ys.length ≤ xs.length) := by
  unfold cmpL
  rcases Nat.lt_trichotomy xs.length ys.length with h | h | h
  · have := len_lt (by omega) bx by' ty h
    rw [if_pos (by omega)]; omega
  · rw [if_neg (by omega)]
    unfold cmp3
    split
    · omega
    · split <;> omega
  · have := len_lt (by omega) by' bx tx h
    rw [if_pos (by omega)]; omega

set_option maxHeartbeats 1600000 in
theorem Sub_ret (xs ys : List Int) (hx : xs.length ≤ 140737488355328) (hy : ys.length ≤ 140737488355328) (bx : InB 4294967296 xs) (by' : InB 4294967296 ys) : Ret Try.prog 105 false [.inl (.ints .u32 xs), .inl (.ints .u32 ys)] (oneF xs ys (if V 4294967296 xs < V 4294967296 ys then [] else subN xs ys) (if V 4294967296 xs < V 4294967296 ys then 4 else 0) (if V 4294967296 xs < V 4294967296 ys then -2 else 0)) := by
  by_cases hc : chkC xs ys = 0
  · obtain ⟨⟨l1, t1⟩, l2, t2⟩ := chkC_ok (by simpa using hc)
    obtain ⟨c1, c2, c3⟩ := cmpL_le bx by' t1 t2
    (refine q_H Try.func105 (fun F => ?_); simp only [q_z,q_y,Try.ntmps105,Try.results105])
    repeat' (first|(with_reducible first|apply q_a|apply q_b|apply q_c|apply q_d|apply q_e|apply q_f|apply q_g|apply q_h|apply q_i|apply q_j|apply q_k|apply q_m|apply q_n|apply q_o|apply q_p|refine q_l ?_)|((with_reducible first|refine q_q tb3_ok fun K hK=>?_|refine q_r tb3_ok fun K hK=>?_);simp (maxSteps:=2000000) only [go_sem,↓reduceIte,reduceCtorEq,Nat.reduceLeDiff,Nat.reduceLT,Nat.reduceBEq,Nat.reduceAdd];(repeat1' with_reducible first|apply And.intro|intro _|(refine hK _ ?_;clear hK K))<;>(try (clear hK K;exact q_u)))|(with_reducible refine q_s ?_;(first|apply q_J|apply q_K|apply q_L|apply q_M|apply q_N|apply q_O)<;>try intro _)|with_reducible refine q_t ?_)
    · contradiction
    · rename_i hl
      exact q_B [.inl (some (.ints .u32 []))] rfl (by simp [resAV, norm, nz, oneF, hc, c1.1 hl])
    · rename_i hl
      have hn : ¬ V 4294967296 xs < V 4294967296 ys := fun h => hl (c1.2 h)
      exact q_A (by simp only [resAV, q_y, oneF, hc, ne_eq, not_true_eq_false, if_false, if_neg hn])
  · (refine q_H Try.func105 (fun F => ?_); simp only [q_z,q_y,Try.ntmps105,Try.results105])
    repeat' (first|(with_reducible first|apply q_a|apply q_b|apply q_c|apply q_d|apply q_e|apply q_f|apply q_g|apply q_h|apply q_i|apply q_j|apply q_k|apply q_m|apply q_n|apply q_o|apply q_p|refine q_l ?_)|((with_reducible first|refine q_q tb3_ok fun K hK=>?_|refine q_r tb3_ok fun K hK=>?_);simp (maxSteps:=2000000) only [go_sem,↓reduceIte,reduceCtorEq,Nat.reduceLeDiff,Nat.reduceLT,Nat.reduceBEq,Nat.reduceAdd];(repeat1' with_reducible first|apply And.intro|intro _|(refine hK _ ?_;clear hK K))<;>(try (clear hK K;exact q_u)))|(with_reducible refine q_s ?_;(first|apply q_J|apply q_K|apply q_L|apply q_M|apply q_N|apply q_O)<;>try intro _)|with_reducible refine q_t ?_)
    · exact q_B [.inl (some (.ints .u32 []))] rfl (by simp [resAV, norm, nz, oneF, hc])
    all_goals contradiction
set_option maxHeartbeats 1600000 in
theorem Cmp_ret (xs ys : List Int) (hx : xs.length ≤ 140737488355328) (hy : ys.length ≤ 140737488355328) (bx : InB 4294967296 xs) (by' : InB 4294967296 ys) : Ret Try.prog 126 false [.inl (.ints .u32 xs), .inl (.ints .u32 ys)] (.t [.inl (.i .i64 (if chkC xs ys ≠ 0 then 0 else cmp3 (V 4294967296 xs) (V 4294967296 ys))), .inr [.i .i64 (chkC xs ys), .i .i64 (chkI xs ys)]]) := by
  by_cases hc : chkC xs ys = 0
  · obtain ⟨⟨l1, t1⟩, l2, t2⟩ := chkC_ok (by simpa using hc)
    obtain ⟨c1, c2, c3⟩ := cmpL_le bx by' t1 t2
    have hi : chkI xs ys = 0 := by
      have : okN xs = true ∧ okN ys = true := by simp [okN, l1, t1, l2, t2]
      simp [chkI, this.1, this.2]
    (refine q_H Try.func126 (fun F => ?_); simp only [q_z,q_y,Try.ntmps126,Try.results126])
    repeat' (first|(with_reducible first|apply q_a|apply q_b|apply q_c|apply q_d|apply q_e|apply q_f|apply q_g|apply q_h|apply q_i|apply q_j|apply q_k|apply q_m|apply q_n|apply q_o|apply q_p|refine q_l ?_)|((with_reducible first|refine q_q tb3_ok fun K hK=>?_|refine q_r tb3_ok fun K hK=>?_);simp (maxSteps:=2000000) only [go_sem,↓reduceIte,reduceCtorEq,Nat.reduceLeDiff,Nat.reduceLT,Nat.reduceBEq,Nat.reduceAdd];(repeat1' with_reducible first|apply And.intro|intro _|(refine hK _ ?_;clear hK K))<;>(try (clear hK K;exact q_u)))|(with_reducible refine q_s ?_;(first|apply q_J|apply q_K|apply q_L|apply q_M|apply q_N|apply q_O)<;>try intro _)|with_reducible refine q_t ?_)
    · contradiction
    · exact q_A (by simp only [resAV, hc, hi, ne_eq, not_true_eq_false, if_false, cmp3]; congr 4; split <;> (try split) <;> omega)
  · (refine q_H Try.func126 (fun F => ?_); simp only [q_z,q_y,Try.ntmps126,Try.results126])
    repeat' (first|(with_reducible first|apply q_a|apply q_b|apply q_c|apply q_d|apply q_e|apply q_f|apply q_g|apply q_h|apply q_i|apply q_j|apply q_k|apply q_m|apply q_n|apply q_o|apply q_p|refine q_l ?_)|((with_reducible first|refine q_q tb3_ok fun K hK=>?_|refine q_r tb3_ok fun K hK=>?_);simp (maxSteps:=2000000) only [go_sem,↓reduceIte,reduceCtorEq,Nat.reduceLeDiff,Nat.reduceLT,Nat.reduceBEq,Nat.reduceAdd];(repeat1' with_reducible first|apply And.intro|intro _|(refine hK _ ?_;clear hK K))<;>(try (clear hK K;exact q_u)))|(with_reducible refine q_s ?_;(first|apply q_J|apply q_K|apply q_L|apply q_M|apply q_N|apply q_O)<;>try intro _)|with_reducible refine q_t ?_)
    · exact q_A (by simp [resAV, hc])
    all_goals contradiction

end Go.Proofs.Ytneecniebhhhlaa
