import Derived.Test.YtlflfhcfljiciaaGreatE5
import Derived.Test.YtlflfhcfljiciaaGreatE6
namespace Go.Proofs.YtlflfhcfljiciaaGreat
set_option linter.unusedSimpArgs false
set_option linter.unusedVariables false
open Go.Abs Go.Proofs.NatL
attribute [go_sem] cf0 addT mkCT mkCTO norm nz nzL List.mem_singleton List.mem_cons true_or or_true cf1 cf2 atCT cf3 trimCT cf4 cf5 okCT cf6 checkCT cf8 fitCT cf9 compareCT cf10 cloneCT cf11 sub32CT shr32 cf12 cf13 numCT
theorem mulB (x y : Int) (hx : 0 ≤ x ∧ x < 4294967296) (hy : 0 ≤ y ∧ y < 4294967296) : 0 ≤ x * y ∧ x * y ≤ 18446744065119617025 := by
  constructor
  · exact Int.mul_nonneg hx.1 hy.1
  · have h1 : x * y ≤ 4294967295 * y := Int.mul_le_mul_of_nonneg_right (by omega) hy.1
    omega

set_option maxHeartbeats 1600000 in
theorem mul_ret (xs ys : List Int) (hx : xs.length ≤ 16777216) (hy : ys.length ≤ 16777216) (bx : InB 4294967296 xs) (by' : InB 4294967296 ys) : Ret Tryz.prog 67 false [.inl (.ints .u32 xs), .inl (.ints .u32 ys)] (.c (.ints .u32 (dg 4294967296 (V 4294967296 xs * V 4294967296 ys)))) := by
  (refine q_H Tryz.func67 (fun F => ?_); simp only [q_z,q_y,Tryz.ntmps67,Tryz.results67])
  repeat' (first|(with_reducible first|apply q_a|apply q_b|apply q_c|apply q_d|apply q_e|apply q_f|apply q_g|apply q_h|apply q_i|apply q_j|apply q_k|apply q_m|apply q_n|apply q_o|apply q_p|refine q_l ?_)|((with_reducible first|refine q_q cf13_ok fun K hK=>?_|refine q_r cf13_ok fun K hK=>?_);simp (maxSteps:=2000000) only [go_sem,↓reduceIte,reduceCtorEq,Nat.reduceLeDiff,Nat.reduceLT,Nat.reduceBEq,Nat.reduceAdd];(repeat1' with_reducible first|apply And.intro|intro _|(refine hK _ ?_;clear hK K))<;>(try (clear hK K;exact q_u)))|(with_reducible refine q_s ?_;(first|apply q_J|apply q_K|apply q_L|apply q_M|apply q_N|apply q_O)<;>try intro _)|with_reducible refine q_t ?_)
  refine q_G (ι := { p : Nat × List Int // p.1 ≤ xs.length ∧ p.2.length = xs.length + ys.length ∧ InB 4294967296 p.2 ∧ (∀ j, p.1 + ys.length ≤ j → p.2.getD j 0 = 0) ∧ V 4294967296 p.2 = V 4294967296 (xs.take p.1) * V 4294967296 ys }) (fun p => ⟨67, [(0, .c (.ints .u32 xs)), (1, .c (.ints .u32 ys)), (5, .own 0 0), (17, .c (.ints .u32 xs)), (18, .c (.i .i64 xs.length)), (19, .c (.i .i64 p.1.1))], ⟨[], [(0, ⟨0, 56, 1, .ints .u32 p.1.2⟩)], []⟩, 1⟩) (fun p => xs.length - p.1.1) ⟨(0, List.replicate (xs.length + ys.length) 0), by simp, by simp, InB_replicate (by omega) _, fun j _ => getD_replicate _ j, by simp [V_replicate, V]⟩ ?_ ?_
  · exact q_D
  rintro ⟨⟨i, o⟩, g1, g2, g3, g4, g5⟩
  simp only at g1 g2 g3 g4 g5 ⊢
  have b1 := InB_getD (by omega) bx i
  repeat' (first|(with_reducible first|apply q_a|apply q_b|apply q_c|apply q_d|apply q_e|apply q_f|apply q_g|apply q_h|apply q_i|apply q_j|apply q_k|apply q_m|apply q_n|apply q_o|apply q_p|refine q_l ?_)|((with_reducible first|refine q_q cf13_ok fun K hK=>?_|refine q_r cf13_ok fun K hK=>?_);simp (maxSteps:=2000000) only [go_sem,↓reduceIte,reduceCtorEq,Nat.reduceLeDiff,Nat.reduceLT,Nat.reduceBEq,Nat.reduceAdd];(repeat1' with_reducible first|apply And.intro|intro _|(refine hK _ ?_;clear hK K))<;>(try (clear hK K;exact q_u)))|(with_reducible refine q_s ?_;(first|apply q_J|apply q_K|apply q_L|apply q_M|apply q_N|apply q_O)<;>try intro _)|with_reducible refine q_t ?_)
  · rename_i ha
    refine q_G (ι := { p : Nat × List Int × Int // p.1 ≤ ys.length ∧ p.2.1.length = xs.length + ys.length ∧ InB 4294967296 p.2.1 ∧ (∀ j, i + ys.length ≤ j → p.2.1.getD j 0 = 0) ∧ (0 ≤ p.2.2 ∧ p.2.2 < 4294967296) ∧ V 4294967296 p.2.1 + 4294967296 ^ (i + p.1) * p.2.2.toNat = V 4294967296 o + 4294967296 ^ i * ((xs.getD i 0).toNat * V 4294967296 (ys.take p.1)) }) (fun p => ⟨67, [(0, .c (.ints .u32 xs)), (1, .c (.ints .u32 ys)), (5, .own 0 0), (17, .c (.ints .u32 xs)), (18, .c (.i .i64 xs.length)), (19, .c (.i .i64 i)), (6, .c (.i .i64 i)), (7, .c (.i .u32 (xs.getD i 0))), (8, .c (.i .u64 p.1.2.2)), (24, .c (.ints .u32 ys)), (25, .c (.i .i64 ys.length)), (26, .c (.i .i64 p.1.1))], ⟨[], [(0, ⟨0, 56, 1, .ints .u32 p.1.2.1⟩)], []⟩, 1⟩) (fun p => ys.length - p.1.1) ⟨(0, o, 0), by simp, by simp [g2], g3, g4, by simp, by simp [V]⟩ ?_ ?_
    · exact q_D
    rintro ⟨⟨k, o', c⟩, k1, k2, k3, k4, k5, k6⟩
    simp only at k1 k2 k3 k4 k5 k6 ⊢
    have b2 := InB_getD (by omega) by' k
    have b3 := InB_getD (by omega) k3 (i + k)
    have b4 := mulB _ _ b1 b2
    have e1 : ((i : Int) + (k : Int)).toNat = i + k := by omega
    have m1 : xs.getD i 0 % 18446744073709551616 = xs.getD i 0 := by omega
    have m2 : ys.getD k 0 % 18446744073709551616 = ys.getD k 0 := by omega
    have e2 : ((i : Int) + (ys.length : Int)).toNat = i + ys.length := by omega
    repeat' (first|(with_reducible first|apply q_a|apply q_b|apply q_c|apply q_d|apply q_e|apply q_f|apply q_g|apply q_h|apply q_i|apply q_j|apply q_k|apply q_m|apply q_n|apply q_o|apply q_p|refine q_l ?_)|((with_reducible first|refine q_q cf13_ok fun K hK=>?_|refine q_r cf13_ok fun K hK=>?_);simp (maxSteps:=2000000) only [go_sem,↓reduceIte,reduceCtorEq,Nat.reduceLeDiff,Nat.reduceLT,Nat.reduceBEq,Nat.reduceAdd];(repeat1' with_reducible first|apply And.intro|intro _|(refine hK _ ?_;clear hK K))<;>(try (clear hK K;exact q_u)))|(with_reducible refine q_s ?_;(first|apply q_J|apply q_K|apply q_L|apply q_M|apply q_N|apply q_O)<;>try intro _)|with_reducible refine q_t ?_)
    · rename_i hb
      simp only [e1, m1, m2]
      refine q_F ⟨(k + 1, o'.set (i + k) ((c + xs.getD i 0 * ys.getD k 0 + o'.getD (i + k) 0) % 4294967296), (c + xs.getD i 0 * ys.getD k 0 + o'.getD (i + k) 0) / 4294967296), by simp only; omega, by simp [k2], InB_set k3 _ (by omega) (by omega), ?_, by simp only; omega, ?_⟩ ?_ ?_
      · intro j hj
        simp only
        rw [NatL.getD_set_ne _ _ _ _ (by omega)]
        exact k4 j hj
      · simp only
        rw [V_take_getD]
        have hm : (xs.getD i 0 * ys.getD k 0).toNat = (xs.getD i 0).toNat * (ys.getD k 0).toNat := Int.toNat_mul b1.1 b2.1
        exact mul_inner 4294967296 i k _ _ _ _ _ _ _ _ _ _ _ k6 (V_set 4294967296 o' (i + k) _ (by omega)) rfl (by omega)
      · exact q_D
      · show ys.length - (k + 1) < ys.length - k
        omega
    · rename_i hb
      have hk : k = ys.length := by omega
      subst hk
      try rw [e2]
      have hz := k4 (i + ys.length) (Nat.le_refl _)
      have hset := V_set 4294967296 o' (i + ys.length) (c % 4294967296) (by omega)
      have hc : c % 4294967296 = c := by omega
      rw [hz, hc] at hset
      rw [hc]
      refine q_F ⟨(i + 1, o'.set (i + ys.length) c), by simp only; omega, by simp [k2], InB_set k3 _ k5.1 k5.2, ?_, ?_⟩ ?_ ?_
      · intro j hj
        simp only at hj ⊢
        rw [NatL.getD_set_ne _ _ _ _ (by omega)]
        exact k4 j (by omega)
      · simp only
        rw [V_take_getD, Nat.add_mul, ← g5, Nat.mul_assoc]
        rw [List.take_length] at k6
        simp at hset
        omega
      · exact q_D
      · show xs.length - (i + 1) < xs.length - i
        omega
  · rename_i ha
    have hi : i = xs.length := by omega
    refine q_A ?_
    simp only [resAV, q_y]
    rw [trimL_eq 4294967296 (by omega) _ g3, g5, hi, List.take_length]

def mulN (xs ys : List Int) : List Int := dg 4294967296 (V 4294967296 xs * V 4294967296 ys)
def cf14 : Cfg := addT 67 (numCT (fun _ _ => True) mulN) cf13
theorem cf14_ok : TblOk Tryz.prog cf14 := q_I cf13_ok Tryz.func67 fun l K h => by
  split at h
  · exact ⟨_, mul_ret _ _ h.1.1.1 h.1.1.2.1 h.1.1.2.2.1 h.1.1.2.2.2, h.2⟩
  · exact h.elim
attribute [go_sem] cf14 listT
def tb3 : Cfg := listT [(61, atCT), (70, checkCT), (69, fitCT), (86, compareCT), (66, (numCT (fun _ _ => True) addN)), (100, (numCT (fun xs ys => ys.length ≤ xs.length ∧ V 4294967296 ys ≤ V 4294967296 xs) subN)), (67, (numCT (fun _ _ => True) mulN))] [28]
theorem tb3_ok : TblOk Tryz.prog tb3 := listT_ok (big := cf14) cf14_ok ⟨rfl, rfl, rfl, rfl, rfl, rfl, rfl, trivial⟩
attribute [go_sem] tb3
theorem chkC_ok {xs ys : List Int} (h : ¬ chkC xs ys ≠ 0) : (xs.length ≤ 600 ∧ Trd xs) ∧ (ys.length ≤ 600 ∧ Trd ys) := by
  unfold chkC at h
  split at h
  · rename_i hh
    simpa [okN] using hh
  · simp at h

def oneF (xs ys : List Int) (n : List Int) (c i : Int) : AV := if chkC xs ys ≠ 0 then .t [.inl (.ints .u32 []), .inr [.i .i64 (chkC xs ys), .i .i64 (chkI xs ys)]] else .t [.inl (.ints .u32 n), .inr [.i .i64 c, .i .i64 i]]

theorem addN_len (xs ys : List Int) (bx : InB 4294967296 xs) (by' : InB 4294967296 ys) (n : Nat) (hx : xs.length ≤ n) (hy : ys.length ≤ n) : (addN xs ys).length ≤ n + 1 := by
  refine dg_len_le (by omega) _ _ ?_
  have h1 := V_lt 4294967296 (by omega) xs bx
  have h2 := V_lt 4294967296 (by omega) ys by'
  have h3 : 4294967296 ^ xs.length ≤ 4294967296 ^ n := Nat.pow_le_pow_right (by omega) hx
  have h4 : 4294967296 ^ ys.length ≤ 4294967296 ^ n := Nat.pow_le_pow_right (by omega) hy
  rw [Nat.pow_succ]
  omega
theorem mulN_len (xs ys : List Int) (bx : InB 4294967296 xs) (by' : InB 4294967296 ys) : (mulN xs ys).length ≤ xs.length + ys.length := by
  refine dg_len_le (by omega) _ _ ?_
  have h1 := V_lt 4294967296 (by omega) xs bx
  have h2 := V_lt 4294967296 (by omega) ys by'
  rw [Nat.pow_add]
  exact Nat.mul_lt_mul'' h1 h2

set_option maxHeartbeats 1600000 in
theorem Add_ret (xs ys : List Int) (hx : xs.length ≤ 140737488355328) (hy : ys.length ≤ 140737488355328) (bx : InB 4294967296 xs) (by' : InB 4294967296 ys) : Ret Tryz.prog 90 false [.inl (.ints .u32 xs), .inl (.ints .u32 ys)] (oneF xs ys (fitN (addN xs ys)) (fitC (addN xs ys)) (fitI (addN xs ys))) := by
  by_cases hc : chkC xs ys = 0
  · obtain ⟨⟨l1, t1⟩, l2, t2⟩ := chkC_ok (by simpa using hc)
    have l3 := addN_len xs ys bx by' 600 l1 l2
    (refine q_H Tryz.func90 (fun F => ?_); simp only [q_z,q_y,Tryz.ntmps90,Tryz.results90])
    repeat' (first|(with_reducible first|apply q_a|apply q_b|apply q_c|apply q_d|apply q_e|apply q_f|apply q_g|apply q_h|apply q_i|apply q_j|apply q_k|apply q_m|apply q_n|apply q_o|apply q_p|refine q_l ?_)|((with_reducible first|refine q_q tb3_ok fun K hK=>?_|refine q_r tb3_ok fun K hK=>?_);simp (maxSteps:=2000000) only [go_sem,↓reduceIte,reduceCtorEq,Nat.reduceLeDiff,Nat.reduceLT,Nat.reduceBEq,Nat.reduceAdd];(repeat1' with_reducible first|apply And.intro|intro _|(refine hK _ ?_;clear hK K))<;>(try (clear hK K;exact q_u)))|(with_reducible refine q_s ?_;(first|apply q_J|apply q_K|apply q_L|apply q_M|apply q_N|apply q_O)<;>try intro _)|with_reducible refine q_t ?_)
    · contradiction
    · exact q_A (by simp [resAV, q_y, oneF, hc])
  · (refine q_H Tryz.func90 (fun F => ?_); simp only [q_z,q_y,Tryz.ntmps90,Tryz.results90])
    repeat' (first|(with_reducible first|apply q_a|apply q_b|apply q_c|apply q_d|apply q_e|apply q_f|apply q_g|apply q_h|apply q_i|apply q_j|apply q_k|apply q_m|apply q_n|apply q_o|apply q_p|refine q_l ?_)|((with_reducible first|refine q_q tb3_ok fun K hK=>?_|refine q_r tb3_ok fun K hK=>?_);simp (maxSteps:=2000000) only [go_sem,↓reduceIte,reduceCtorEq,Nat.reduceLeDiff,Nat.reduceLT,Nat.reduceBEq,Nat.reduceAdd];(repeat1' with_reducible first|apply And.intro|intro _|(refine hK _ ?_;clear hK K))<;>(try (clear hK K;exact q_u)))|(with_reducible refine q_s ?_;(first|apply q_J|apply q_K|apply q_L|apply q_M|apply q_N|apply q_O)<;>try intro _)|with_reducible refine q_t ?_)
    · exact q_B [.inl (some (.ints .u32 []))] rfl (by simp [resAV, norm, nz, oneF, hc])
    all_goals contradiction
set_option maxHeartbeats 1600000 in
theorem Mul_ret (xs ys : List Int) (hx : xs.length ≤ 140737488355328) (hy : ys.length ≤ 140737488355328) (bx : InB 4294967296 xs) (by' : InB 4294967296 ys) : Ret Tryz.prog 88 false [.inl (.ints .u32 xs), .inl (.ints .u32 ys)] (oneF xs ys (fitN (mulN xs ys)) (fitC (mulN xs ys)) (fitI (mulN xs ys))) := by
  by_cases hc : chkC xs ys = 0
  · obtain ⟨⟨l1, t1⟩, l2, t2⟩ := chkC_ok (by simpa using hc)
    have l3 := mulN_len xs ys bx by'
    (refine q_H Tryz.func88 (fun F => ?_); simp only [q_z,q_y,Tryz.ntmps88,Tryz.results88])
    repeat' (first|(with_reducible first|apply q_a|apply q_b|apply q_c|apply q_d|apply q_e|apply q_f|apply q_g|apply q_h|apply q_i|apply q_j|apply q_k|apply q_m|apply q_n|apply q_o|apply q_p|refine q_l ?_)|((with_reducible first|refine q_q tb3_ok fun K hK=>?_|refine q_r tb3_ok fun K hK=>?_);simp (maxSteps:=2000000) only [go_sem,↓reduceIte,reduceCtorEq,Nat.reduceLeDiff,Nat.reduceLT,Nat.reduceBEq,Nat.reduceAdd];(repeat1' with_reducible first|apply And.intro|intro _|(refine hK _ ?_;clear hK K))<;>(try (clear hK K;exact q_u)))|(with_reducible refine q_s ?_;(first|apply q_J|apply q_K|apply q_L|apply q_M|apply q_N|apply q_O)<;>try intro _)|with_reducible refine q_t ?_)
    · contradiction
    · exact q_A (by simp [resAV, q_y, oneF, hc])
  · (refine q_H Tryz.func88 (fun F => ?_); simp only [q_z,q_y,Tryz.ntmps88,Tryz.results88])
    repeat' (first|(with_reducible first|apply q_a|apply q_b|apply q_c|apply q_d|apply q_e|apply q_f|apply q_g|apply q_h|apply q_i|apply q_j|apply q_k|apply q_m|apply q_n|apply q_o|apply q_p|refine q_l ?_)|((with_reducible first|refine q_q tb3_ok fun K hK=>?_|refine q_r tb3_ok fun K hK=>?_);simp (maxSteps:=2000000) only [go_sem,↓reduceIte,reduceCtorEq,Nat.reduceLeDiff,Nat.reduceLT,Nat.reduceBEq,Nat.reduceAdd];(repeat1' with_reducible first|apply And.intro|intro _|(refine hK _ ?_;clear hK K))<;>(try (clear hK K;exact q_u)))|(with_reducible refine q_s ?_;(first|apply q_J|apply q_K|apply q_L|apply q_M|apply q_N|apply q_O)<;>try intro _)|with_reducible refine q_t ?_)
    · exact q_B [.inl (some (.ints .u32 []))] rfl (by simp [resAV, norm, nz, oneF, hc])
    all_goals contradiction

theorem cmpL_le {xs ys : List Int} (bx : InB 4294967296 xs) (by' : InB 4294967296 ys) (tx : Trd xs) (ty : Trd ys) : (cmpL xs ys < 0 ↔ V 4294967296 xs < V 4294967296 ys) ∧ (cmpL xs ys = 0 ↔ V 4294967296 xs = V 4294967296 ys) ∧ (¬ cmpL xs ys < 0 → ys.length ≤ xs.length) := by
  unfold cmpL
  rcases Nat.lt_trichotomy xs.length ys.length with h | h | h
  · have := len_lt (by omega) bx by' ty h
    rw [if_pos (by omega)]; omega
  · rw [if_neg (by omega)]
    unfold cmp3
    split
    · omega
    · split <;> omega
  · have := len_lt (by omega) by' bx tx h
    rw [if_pos (by omega)]; omega

set_option maxHeartbeats 1600000 in
theorem Sub_ret (xs ys : List Int) (hx : xs.length ≤ 140737488355328) (hy : ys.length ≤ 140737488355328) (bx : InB 4294967296 xs) (by' : InB 4294967296 ys) : Ret Tryz.prog 91 false [.inl (.ints .u32 xs), .inl (.ints .u32 ys)] (oneF xs ys (if V 4294967296 xs < V 4294967296 ys then [] else subN xs ys) (if V 4294967296 xs < V 4294967296 ys then 4 else 0) (if V 4294967296 xs < V 4294967296 ys then -2 else 0)) := by
  by_cases hc : chkC xs ys = 0
  · obtain ⟨⟨l1, t1⟩, l2, t2⟩ := chkC_ok (by simpa using hc)
    obtain ⟨c1, c2, c3⟩ := cmpL_le bx by' t1 t2
    (refine q_H Tryz.func91 (fun F => ?_); simp only [q_z,q_y,Tryz.ntmps91,Tryz.results91])
    repeat' (first|(with_reducible first|apply q_a|apply q_b|apply q_c|apply q_d|apply q_e|apply q_f|apply q_g|apply q_h|apply q_i|apply q_j|apply q_k|apply q_m|apply q_n|apply q_o|apply q_p|refine q_l ?_)|((with_reducible first|refine q_q tb3_ok fun K hK=>?_|refine q_r tb3_ok fun K hK=>?_);simp (maxSteps:=2000000) only [go_sem,↓reduceIte,reduceCtorEq,Nat.reduceLeDiff,Nat.reduceLT,Nat.reduceBEq,Nat.reduceAdd];(repeat1' with_reducible first|apply And.intro|intro _|(refine hK _ ?_;clear hK K))<;>(try (clear hK K;exact q_u)))|(with_reducible refine q_s ?_;(first|apply q_J|apply q_K|apply q_L|apply q_M|apply q_N|apply q_O)<;>try intro _)|with_reducible refine q_t ?_)
    · contradiction
    · rename_i hl
      exact q_B [.inl (some (.ints .u32 []))] rfl (by simp [resAV, norm, nz, oneF, hc, c1.1 hl])
    · rename_i hl
      have hn : ¬ V 4294967296 xs < V 4294967296 ys := fun h => hl (c1.2 h)
      exact q_A (by simp only [resAV, q_y, oneF, hc, ne_eq, not_true_eq_false, if_false, if_neg hn])
  · (refine q_H Tryz.func91 (fun F => ?_); simp only [q_z,q_y,Tryz.ntmps91,Tryz.results91])
    repeat' (first|(with_reducible first|apply q_a|apply q_b|apply q_c|apply q_d|apply q_e|apply q_f|apply q_g|apply q_h|apply q_i|apply q_j|apply q_k|apply q_m|apply q_n|apply q_o|apply q_p|refine q_l ?_)|((with_reducible first|refine q_q tb3_ok fun K hK=>?_|refine q_r tb3_ok fun K hK=>?_);simp (maxSteps:=2000000) only [go_sem,↓reduceIte,reduceCtorEq,Nat.reduceLeDiff,Nat.reduceLT,Nat.reduceBEq,Nat.reduceAdd];(repeat1' with_reducible first|apply And.intro|intro _|(refine hK _ ?_;clear hK K))<;>(try (clear hK K;exact q_u)))|(with_reducible refine q_s ?_;(first|apply q_J|apply q_K|apply q_L|apply q_M|apply q_N|apply q_O)<;>try intro _)|with_reducible refine q_t ?_)
    · exact q_B [.inl (some (.ints .u32 []))] rfl (by simp [resAV, norm, nz, oneF, hc])
    all_goals contradiction
set_option maxHeartbeats 1600000 in
theorem Cmp_ret (xs ys : List Int) (hx : xs.length ≤ 140737488355328) (hy : ys.length ≤ 140737488355328) (bx : InB 4294967296 xs) (by' : InB 4294967296 ys) : Ret Tryz.prog 74 false [.inl (.ints .u32 xs), .inl (.ints .u32 ys)] (.t [.inl (.i .i64 (if chkC xs ys ≠ 0 then 0 else cmp3 (V 4294967296 xs) (V 4294967296 ys))), .inr [.i .i64 (chkC xs ys), .i .i64 (chkI xs ys)]]) := by
  by_cases hc : chkC xs ys = 0
  · obtain ⟨⟨l1, t1⟩, l2, t2⟩ := chkC_ok (by simpa using hc)
    obtain ⟨c1, c2, c3⟩ := cmpL_le bx by' t1 t2
    have hi : chkI xs ys = 0 := by
      have : okN xs = true ∧ okN ys = true := by simp [okN, l1, t1, l2, t2]
      simp [chkI, this.1, this.2]
    (refine q_H Tryz.func74 (fun F => ?_); simp only [q_z,q_y,Tryz.ntmps74,Tryz.results74])
    repeat' (first|(with_reducible first|apply q_a|apply q_b|apply q_c|apply q_d|apply q_e|apply q_f|apply q_g|apply q_h|apply q_i|apply q_j|apply q_k|apply q_m|apply q_n|apply q_o|apply q_p|refine q_l ?_)|((with_reducible first|refine q_q tb3_ok fun K hK=>?_|refine q_r tb3_ok fun K hK=>?_);simp (maxSteps:=2000000) only [go_sem,↓reduceIte,reduceCtorEq,Nat.reduceLeDiff,Nat.reduceLT,Nat.reduceBEq,Nat.reduceAdd];(repeat1' with_reducible first|apply And.intro|intro _|(refine hK _ ?_;clear hK K))<;>(try (clear hK K;exact q_u)))|(with_reducible refine q_s ?_;(first|apply q_J|apply q_K|apply q_L|apply q_M|apply q_N|apply q_O)<;>try intro _)|with_reducible refine q_t ?_)
    · contradiction
    · exact q_A (by simp only [resAV, hc, hi, ne_eq, not_true_eq_false, if_false, cmp3]; congr 4; split <;> (try split) <;> omega)
  · (refine q_H Tryz.func74 (fun F => ?_); simp only [q_z,q_y,Tryz.ntmps74,Tryz.results74])
    repeat' (first|(with_reducible first|apply q_a|apply q_b|apply q_c|apply q_d|apply q_e|apply q_f|apply q_g|apply q_h|apply q_i|apply q_j|apply q_k|apply q_m|apply q_n|apply q_o|apply q_p|refine q_l ?_)|((with_reducible first|refine q_q tb3_ok fun K hK=>?_|refine q_r tb3_ok fun K hK=>?_);simp (maxSteps:=2000000) only [go_sem,↓reduceIte,reduceCtorEq,Nat.reduceLeDiff,Nat.reduceLT,Nat.reduceBEq,Nat.reduceAdd];(repeat1' with_reducible first|apply And.intro|intro _|(refine hK _ ?_;clear hK K))<;>(try (clear hK K;exact q_u)))|(with_reducible refine q_s ?_;(first|apply q_J|apply q_K|apply q_L|apply q_M|apply q_N|apply q_O)<;>try intro _)|with_reducible refine q_t ?_)
    · exact q_A (by simp [resAV, hc])
    all_goals contradiction

end Go.Proofs.YtlflfhcfljiciaaGreat

namespace Go.Proofs.YtlflfhcfljiciaaGreat
set_option linter.unusedSimpArgs false
set_option linter.unusedVariables false
open Go.Abs Go.Proofs.NatL

theorem div32_ret (h l y : Int) (h0 : 0 ≤ h) (hy : h < y) (hy1 : y < 4294967296) (l0 : 0 ≤ l) (l1 : l < 4294967296) :
    Ret Tryz.prog 81 false [.inl (.i .u32 h), .inl (.i .u32 l), .inl (.i .u32 y)] (.t [.inl (.i .u32 ((h * 4294967296 + l) / y)), .inl (.i .u32 ((h * 4294967296 + l) % y))]) := by
  have e : bitI .or .u64 (shlI .u64 (h % 18446744073709551616) 32) (l % 18446744073709551616) = h * 4294967296 + l := by
    rw [show h % 18446744073709551616 = h by omega, show l % 18446744073709551616 = l by omega, shl64_32 h (by omega) (by omega), or64_hi h l (by omega) (by omega) l0 l1]
  have ey : y % 18446744073709551616 = y := by omega
  have q1 : (h * 4294967296 + l) / y < 4294967296 := Int.ediv_lt_of_lt_mul (by omega) (by omega)
  have q0 : 0 ≤ (h * 4294967296 + l) / y := Int.ediv_nonneg (by omega) (by omega)
  have r0 : 0 ≤ (h * 4294967296 + l) % y := Int.emod_nonneg _ (by omega)
  have r1 : (h * 4294967296 + l) % y < y := Int.emod_lt_of_pos _ (by omega)
  (refine q_H Tryz.func81 (fun F => ?_); simp only [q_z,q_y,Tryz.ntmps81,Tryz.results81])
  repeat' (first|(with_reducible first|apply q_a|apply q_b|apply q_c|apply q_d|apply q_e|apply q_f|apply q_g|apply q_h|apply q_i|apply q_j|apply q_k|apply q_m|apply q_n|apply q_o|apply q_p|refine q_l ?_)|((with_reducible first|refine q_q cf14_ok fun K hK=>?_|refine q_r cf14_ok fun K hK=>?_);simp (maxSteps:=2000000) only [go_sem,↓reduceIte,reduceCtorEq,Nat.reduceLeDiff,Nat.reduceLT,Nat.reduceBEq,Nat.reduceAdd];(repeat1' with_reducible first|apply And.intro|intro _|(refine hK _ ?_;clear hK K))<;>(try (clear hK K;exact q_u)))|(with_reducible refine q_s ?_;(first|apply q_J|apply q_K|apply q_L|apply q_M|apply q_N|apply q_O)<;>try intro _)|with_reducible refine q_t ?_)
  all_goals try omega
  all_goals try rw [e]
  all_goals try rw [ey]
  all_goals try omega
  · refine q_A ?_
    simp only [resAV]
    rw [show (h * 4294967296 + l) / y % 4294967296 = (h * 4294967296 + l) / y by omega, show (h * 4294967296 + l) % y % 4294967296 = (h * 4294967296 + l) % y by omega]

def div32CT : CT := mkCT [] true fun l K => match l with
  | [.inl (.i .u32 h), .inl (.i .u32 l), .inl (.i .u32 y)] => (0 ≤ h ∧ h < y ∧ y < 4294967296 ∧ 0 ≤ l ∧ l < 4294967296) ∧ K (.t [.inl (.i .u32 ((h * 4294967296 + l) / y)), .inl (.i .u32 ((h * 4294967296 + l) % y))])
  | _ => False
def cf15 : Cfg := addT 81 div32CT cf14
theorem cf15_ok : TblOk Tryz.prog cf15 := q_I cf14_ok Tryz.func81 fun l K h => by
  split at h
  · exact ⟨_, (div32_ret _ _ _ h.1.1 h.1.2.1 h.1.2.2.1 h.1.2.2.2.1 h.1.2.2.2.2).plain rfl, h.2⟩
  · exact h.elim
attribute [go_sem] cf15 div32CT
theorem add32_ret (x y c : Int) (x0 : 0 ≤ x) (x1 : x < 4294967296) (y0 : 0 ≤ y) (y1 : y < 4294967296) (c0 : 0 ≤ c) (c1 : c ≤ 1) :
    Ret Tryz.prog 103 false [.inl (.i .u32 x), .inl (.i .u32 y), .inl (.i .u32 c)] (.t [.inl (.i .u32 ((x + y + c) % 4294967296)), .inl (.i .u32 ((x + y + c) / 4294967296))]) := by
  (refine q_H Tryz.func103 (fun F => ?_); simp only [q_z,q_y,Tryz.ntmps103,Tryz.results103])
  repeat' (first|(with_reducible first|apply q_a|apply q_b|apply q_c|apply q_d|apply q_e|apply q_f|apply q_g|apply q_h|apply q_i|apply q_j|apply q_k|apply q_m|apply q_n|apply q_o|apply q_p|refine q_l ?_)|((with_reducible first|refine q_q cf14_ok fun K hK=>?_|refine q_r cf14_ok fun K hK=>?_);simp (maxSteps:=2000000) only [go_sem,↓reduceIte,reduceCtorEq,Nat.reduceLeDiff,Nat.reduceLT,Nat.reduceBEq,Nat.reduceAdd];(repeat1' with_reducible first|apply And.intro|intro _|(refine hK _ ?_;clear hK K))<;>(try (clear hK K;exact q_u)))|(with_reducible refine q_s ?_;(first|apply q_J|apply q_K|apply q_L|apply q_M|apply q_N|apply q_O)<;>try intro _)|with_reducible refine q_t ?_)
  refine q_A ?_
  simp only [resAV, AV.t.injEq, List.cons.injEq, Sum.inl.injEq, C.i.injEq, true_and, and_true]
  omega
def add32CT : CT := mkCT [] true fun l K => match l with
  | [.inl (.i .u32 x), .inl (.i .u32 y), .inl (.i .u32 c)] => (0 ≤ x ∧ x < 4294967296 ∧ 0 ≤ y ∧ y < 4294967296 ∧ 0 ≤ c ∧ c ≤ 1) ∧ K (.t [.inl (.i .u32 ((x + y + c) % 4294967296)), .inl (.i .u32 ((x + y + c) / 4294967296))])
  | _ => False
def cf16 : Cfg := addT 103 add32CT cf15
theorem cf16_ok : TblOk Tryz.prog cf16 := q_I cf15_ok Tryz.func103 fun l K h => by
  split at h
  · exact ⟨_, (add32_ret _ _ _ h.1.1 h.1.2.1 h.1.2.2.1 h.1.2.2.2.1 h.1.2.2.2.2.1 h.1.2.2.2.2.2).plain rfl, h.2⟩
  · exact h.elim
attribute [go_sem] cf16 add32CT
set_option maxHeartbeats 800000 in
theorem short_ret (xs : List Int) (d : Nat) (hx : xs.length ≤ 16777216) (bx : InB 4294967296 xs) (d0 : 0 < d) (d1 : d < 4294967296) :
    Ret Tryz.prog 63 false [.inl (.ints .u32 xs), .inl (.i .u32 d)] (.t [.inl (.ints .u32 (dg 4294967296 (V 4294967296 xs / d))), .inl (.i .u32 ((V 4294967296 xs % d : Nat) : Int))]) := by
  (refine q_H Tryz.func63 (fun F => ?_); simp only [q_z,q_y,Tryz.ntmps63,Tryz.results63])
  repeat' (first|(with_reducible first|apply q_a|apply q_b|apply q_c|apply q_d|apply q_e|apply q_f|apply q_g|apply q_h|apply q_i|apply q_j|apply q_k|apply q_m|apply q_n|apply q_o|apply q_p|refine q_l ?_)|((with_reducible first|refine q_q cf16_ok fun K hK=>?_|refine q_r cf16_ok fun K hK=>?_);simp (maxSteps:=2000000) only [go_sem,↓reduceIte,reduceCtorEq,Nat.reduceLeDiff,Nat.reduceLT,Nat.reduceBEq,Nat.reduceAdd];(repeat1' with_reducible first|apply And.intro|intro _|(refine hK _ ?_;clear hK K))<;>(try (clear hK K;exact q_u)))|(with_reducible refine q_s ?_;(first|apply q_J|apply q_K|apply q_L|apply q_M|apply q_N|apply q_O)<;>try intro _)|with_reducible refine q_t ?_)
  refine q_G (ι := { p : Nat × List Int × Nat // p.1 ≤ xs.length ∧ p.2.1.length = xs.length ∧ InB 4294967296 p.2.1 ∧ p.2.2 < d ∧ V 4294967296 (p.2.1.drop p.1) * d + p.2.2 = V 4294967296 (xs.drop p.1) }) (fun p => ⟨35, [(0, .c (.ints .u32 xs)), (1, .c (.i .u32 d)), (6, .own 0 0), (7, .c (.i .u32 (p.1.2.2 : Nat))), (8, .c (.i .i64 ((p.1.1 : Int) - 1)))], ⟨[], [(0, ⟨0, 56, 1, .ints .u32 p.1.2.1⟩)], []⟩, 1⟩) (fun p => p.1.1) ⟨(xs.length, List.replicate xs.length 0, 0), by simp, by simp, InB_replicate (by omega) _, d0, by simp [V]⟩ ?_ ?_
  · exact q_D
  rintro ⟨⟨k, o, r⟩, g1, g2, g3, g4, g5⟩
  simp only at g1 g2 g3 g4 g5 ⊢
  have b1 := InB_getD (by omega) bx ((k : Int) - 1).toNat
  have e : 0 < k → ((k : Int) - 1).toNat = k - 1 := fun _ => by omega
  repeat' (first|(with_reducible first|apply q_a|apply q_b|apply q_c|apply q_d|apply q_e|apply q_f|apply q_g|apply q_h|apply q_i|apply q_j|apply q_k|apply q_m|apply q_n|apply q_o|apply q_p|refine q_l ?_)|((with_reducible first|refine q_q cf16_ok fun K hK=>?_|refine q_r cf16_ok fun K hK=>?_);simp (maxSteps:=2000000) only [go_sem,↓reduceIte,reduceCtorEq,Nat.reduceLeDiff,Nat.reduceLT,Nat.reduceBEq,Nat.reduceAdd];(repeat1' with_reducible first|apply And.intro|intro _|(refine hK _ ?_;clear hK K))<;>(try (clear hK K;exact q_u)))|(with_reducible refine q_s ?_;(first|apply q_J|apply q_K|apply q_L|apply q_M|apply q_N|apply q_O)<;>try intro _)|with_reducible refine q_t ?_)
  · rename_i ha
    obtain ⟨x, hxx⟩ : ∃ x : Nat, xs.getD ((k : Int) - 1).toNat 0 = x := ⟨(xs.getD ((k : Int) - 1).toNat 0).toNat, by omega⟩
    have hq : ((r : Int) * 4294967296 + xs.getD ((k : Int) - 1).toNat 0) / (d : Int) = (((r * 4294967296 + x) / d : Nat) : Int) := by rw [hxx]; simp
    have hr : ((r : Int) * 4294967296 + xs.getD ((k : Int) - 1).toNat 0) % (d : Int) = (((r * 4294967296 + x) % d : Nat) : Int) := by rw [hxx]; simp
    have hx2 : x < 4294967296 := by omega
    rw [hq, hr, e (by omega)]
    rw [e (by omega)] at hxx
    have hlt : (r * 4294967296 + x) / d < 4294967296 := by
      rw [Nat.div_lt_iff_lt_mul d0]
      have h1 : (r + 1) * 4294967296 ≤ d * 4294967296 := Nat.mul_le_mul_right _ g4
      omega
    refine q_F ⟨(k - 1, o.set (k - 1) (((r * 4294967296 + x) / d : Nat) : Int), (r * 4294967296 + x) % d), by simp only; omega, by simp [g2], InB_set g3 _ (Int.natCast_nonneg _) (by exact_mod_cast hlt), Nat.mod_lt _ d0, ?_⟩ ?_ ?_
    · simp only
      refine short_step 4294967296 (k - 1) d o xs r _ _ x (by omega) g2 (by rw [show k - 1 + 1 = k by omega]; exact g5) (by rw [hxx]; simp) ?_
      rw [Nat.mul_comm]; exact Nat.div_add_mod _ _
    · exact q_D
    · show k - 1 < k
      omega
  · rename_i ha
    have hk : k = 0 := by omega
    subst hk
    simp only [List.drop_zero] at g5
    refine q_A ?_
    simp only [resAV]
    rw [trimL_eq 4294967296 (by omega) _ g3, ← g5]
    have h1 : (V 4294967296 o * d + r) / d = V 4294967296 o := by rw [Nat.mul_comm, Nat.mul_add_div d0, Nat.div_eq_of_lt g4]; simp
    have h2 : (V 4294967296 o * d + r) % d = r := by rw [Nat.mul_comm, Nat.mul_add_mod]; exact Nat.mod_eq_of_lt g4
    rw [h1, h2]

def shortCT : CT := mkCT [.inl (some (.ints .u32 []))] false fun l K => match l with
  | [.inl (.ints .u32 xs), .inl (.i .u32 d)] => (xs.length ≤ 16777216 ∧ InB 4294967296 xs ∧ 0 < d ∧ d < 4294967296) ∧ K (.t [.inl (.ints .u32 (dg 4294967296 (V 4294967296 xs / d.toNat))), .inl (.i .u32 ((V 4294967296 xs % d.toNat : Nat) : Int))])
  | _ => False
def cf17 : Cfg := addT 63 shortCT cf16
theorem cf17_ok : TblOk Tryz.prog cf17 := q_I cf16_ok Tryz.func63 fun l K h => by
  split at h
  · rename_i xs d
    obtain ⟨d, rfl⟩ : ∃ n : Nat, d = n := ⟨d.toNat, by omega⟩
    exact ⟨_, short_ret _ d h.1.1 h.1.2.1 (by omega) (by omega), by simpa using h.2⟩
  · exact h.elim
attribute [go_sem] cf17 shortCT
def bl (n : Nat) : Nat := if n = 0 then 0 else n.log2 + 1
theorem bl_shr (n k : Nat) (h : 2 ^ k ≤ n) : bl n = k + bl (n / 2 ^ k) := by
  have h1 : 0 < 2 ^ k := Nat.pow_pos (by omega)
  have h2 : n / 2 ^ k ≠ 0 := by
    have := Nat.div_pos h h1; omega
  have h3 : n ≠ 0 := by omega
  unfold bl
  rw [if_neg h3, if_neg h2]
  have h4 := Nat.log2_self_le h2
  have h5 := @Nat.lt_log2_self (n / 2 ^ k)
  generalize (n / 2 ^ k).log2 = j at *
  have h6 : n.log2 = k + j := by
    rw [Nat.log2_eq_iff h3, Nat.pow_add, Nat.add_assoc, Nat.pow_add]
    have h7 := Nat.div_add_mod n (2 ^ k)
    have h8 := Nat.mod_lt n h1
    constructor
    · exact Nat.le_trans (Nat.mul_le_mul_left _ h4) (by omega)
    · have : 2 ^ k * (n / 2 ^ k + 1) ≤ 2 ^ k * 2 ^ (j + 1) := Nat.mul_le_mul_left _ h5
      rw [Nat.mul_add] at this
      omega
  omega
theorem bl_lt (n k : Nat) (h : n < 2 ^ k) : bl n ≤ k := by
  unfold bl
  split
  · omega
  · rename_i h0
    have := (Nat.log2_lt h0).2 h
    omega
theorem bl_spec (n : Nat) (h : 0 < n) : 2 ^ (bl n - 1) ≤ n ∧ n < 2 ^ (bl n) ∧ 0 < bl n := by
  have h0 : n ≠ 0 := by omega
  unfold bl
  rw [if_neg h0]
  exact ⟨by simpa using Nat.log2_self_le h0, Nat.lt_log2_self, by omega⟩

def tabOk (L : List UInt8) : Bool := (List.range 256).all fun m => (L.getD m 0).toNat == bl m
theorem tab_at (L : List UInt8) (h : tabOk L = true) (z : Nat) (hz : z < 256) : (L.getD z 0).toNat = bl z := by
  have := List.all_eq_true.1 h z (List.mem_range.2 hz)
  simpa using this
theorem tab_a (L : List UInt8) (m : Nat) : ((L.getD m 0).toNat : Int) ≤ 9223372036854775807 := by
  have := (L.getD m 0).toNat_lt
  omega
theorem tab_b (L : List UInt8) (m k : Nat) (h : k ≤ 24) : (k : Int) + ((L.getD m 0).toNat : Int) ≤ 9223372036854775807 := by
  have := (L.getD m 0).toNat_lt
  omega
theorem tab_len {T : List UInt8} {i : Int} (h : (T.length == 256) = true) (hi : i < 256) : i < (T.length : Int) := by
  have : T.length = 256 := by simpa using h
  omega
theorem tab_size {T : ByteArray} {i : Int} (h : (T.size == 256) = true) (hi : i < 256) : i < (T.size : Int) := by
  have : T.size = 256 := by simpa using h
  omega

set_option maxHeartbeats 800000 in
set_option maxRecDepth 100000 in
theorem len32_ret (x : Nat) (hx : x < 4294967296) : Ret Tryz.prog 101 false [.inl (.i .u32 x)] (.c (.i .i64 (bl x))) := by
  have s16 : shrI .u32 (x : Int) 16 = ((x / 65536 : Nat) : Int) := by rw [show (16 : Int) = ((16 : Nat) : Int) from rfl, shrI_lit .u32 x 16 (by decide)]; omega
  have s8 : ∀ y : Nat, shrI .u32 (y : Int) 8 = ((y / 256 : Nat) : Int) := fun y => by rw [show (8 : Int) = ((8 : Nat) : Int) from rfl, shrI_lit .u32 y 8 (by decide)]; omega
  (refine q_H Tryz.func101 (fun F => ?_); simp only [q_z,q_y,Tryz.ntmps101,Tryz.results101])
  refine q_a ?_
  ((first | with_reducible refine q_q cf16_ok (fun K hK => ?_) | with_reducible refine awp_region_draw cf16_ok mixed (by kernel_rfl) (fun K hK => ?_)); (simp (maxSteps:=2000000) only [go_sem,↓reduceIte,reduceCtorEq,Nat.reduceLeDiff,Nat.reduceLT,Nat.reduceBEq,Nat.reduceAdd]); (first | with_reducible apply And.intro | with_reducible intro _ | (with_reducible refine hK _ ?_; clear hK K)) <;> (repeat' (first | with_reducible apply And.intro | with_reducible intro _ | (with_reducible refine hK _ ?_; clear hK K))) <;> (try (clear hK K; first | omega | assumption | ((simp (disch := omega) only [Int.tdiv_eq_ediv_of_nonneg, Int.tmod_eq_emod_of_nonneg]); omega))))
  refine q_b ?_
  refine seq_join (ι := { p : Nat × Nat // p.1 < 65536 ∧ bl x = p.2 + bl p.1 ∧ p.2 ≤ 16 }) (fun p => ⟨19, [(0, .c (.i .u32 (p.1.1 : Nat))), (2, .c (.i .i64 (p.1.2 : Nat)))], ⟨[], [], []⟩, 0⟩) ?_ ?_
  · repeat' (first|(with_reducible first|apply q_a|apply q_b|apply q_c|apply q_d|apply q_e|apply q_f|apply q_g|apply q_h|apply q_i|apply q_j|apply q_k|apply q_m|apply q_n|apply q_o|apply q_p|refine q_l ?_)|((with_reducible first|refine q_q cf16_ok fun K hK=>?_|refine q_r cf16_ok fun K hK=>?_);simp (maxSteps:=2000000) only [go_sem,↓reduceIte,reduceCtorEq,Nat.reduceLeDiff,Nat.reduceLT,Nat.reduceBEq,Nat.reduceAdd];(repeat1' with_reducible first|apply And.intro|intro _|(refine hK _ ?_;clear hK K))<;>(try (clear hK K;exact q_u)))|(with_reducible refine q_s ?_;(first|apply q_J|apply q_K|apply q_L|apply q_M|apply q_N|apply q_O)<;>try intro _)|with_reducible refine q_t ?_)
    · rename_i h
      refine join_n ⟨(x / 65536, 16), by simp only; omega, bl_shr x 16 (by simp; omega), by simp⟩ ?_
      rw [s16]
      exact q_D
    · rename_i h
      refine join_n ⟨(x, 0), by simp only; omega, by simp, by simp⟩ ?_
      exact q_D
  rintro ⟨⟨y, n⟩, g1, g2, g3⟩
  simp only at g1 g2 g3 ⊢
  refine seq_join (ι := { p : Nat × Nat // p.1 < 256 ∧ bl x = p.2 + bl p.1 ∧ p.2 ≤ 24 }) (fun p => ⟨19, [(0, .c (.i .u32 (p.1.1 : Nat))), (2, .c (.i .i64 (p.1.2 : Nat)))], ⟨[], [], []⟩, 0⟩) ?_ ?_
  · repeat' (first|(with_reducible first|apply q_a|apply q_b|apply q_c|apply q_d|apply q_e|apply q_f|apply q_g|apply q_h|apply q_i|apply q_j|apply q_k|apply q_m|apply q_n|apply q_o|apply q_p|refine q_l ?_)|((with_reducible first|refine q_q cf16_ok fun K hK=>?_|refine q_r cf16_ok fun K hK=>?_);simp (maxSteps:=2000000) only [go_sem,↓reduceIte,reduceCtorEq,Nat.reduceLeDiff,Nat.reduceLT,Nat.reduceBEq,Nat.reduceAdd];(repeat1' with_reducible first|apply And.intro|intro _|(refine hK _ ?_;clear hK K))<;>(try (clear hK K;exact q_u)))|(with_reducible refine q_s ?_;(first|apply q_J|apply q_K|apply q_L|apply q_M|apply q_N|apply q_O)<;>try intro _)|with_reducible refine q_t ?_)
    · rename_i h
      refine join_n ⟨(y / 256, n + 8), by simp only; omega, by have := bl_shr y 8 (by simp; omega); simp only [show (2 : Nat) ^ 8 = 256 from rfl] at this ⊢; omega, by simp only; omega⟩ ?_
      rw [s8]
      exact q_D
    · rename_i h
      refine join_n ⟨(y, n), by simp only; omega, g2, by simp only; omega⟩ ?_
      exact q_D
  rintro ⟨⟨z, k⟩, g4, g5, g6⟩
  simp only at g4 g5 g6 ⊢
  have hz : ((z : Int) % 256).toNat = z := by omega
  have hb := bl_lt z 8 (by simpa using g4)
  repeat' (first|(with_reducible first|apply q_a|apply q_b|apply q_c|apply q_d|apply q_e|apply q_f|apply q_g|apply q_h|apply q_i|apply q_j|apply q_k|apply q_m|apply q_n|apply q_o|apply q_p|refine q_l ?_)|((with_reducible first|refine q_q cf16_ok fun K hK=>?_|refine q_r cf16_ok fun K hK=>?_);simp (maxSteps:=2000000) only [go_sem,↓reduceIte,reduceCtorEq,Nat.reduceLeDiff,Nat.reduceLT,Nat.reduceBEq,Nat.reduceAdd];(repeat1' with_reducible first|apply And.intro|intro _|(refine hK _ ?_;clear hK K))<;>(try (clear hK K;exact q_u)))|(with_reducible refine q_s ?_;(first|apply q_J|apply q_K|apply q_L|apply q_M|apply q_N|apply q_O)<;>try intro _)|with_reducible refine q_t ?_)
  · first | exact tab_len (by decide +kernel) (by omega) | exact tab_size (by decide +kernel) (by omega)
  · exact tab_a _ _
  · exact tab_b _ _ _ g6
  · refine q_A ?_
    simp only [resAV, q_y]
    rw [hz, tab_at _ (by decide +kernel) z g4, g5]
    simp

def len32CT : CT := mkCT [] true fun l K => match l with
  | [.inl (.i .u32 x)] => (0 ≤ x ∧ x < 4294967296) ∧ K (.c (.i .i64 (bl x.toNat)))
  | _ => False
def cf18 : Cfg := addT 101 len32CT cf17
theorem cf18_ok : TblOk Tryz.prog cf18 := q_I cf17_ok Tryz.func101 fun l K h => by
  split at h
  · rename_i x
    obtain ⟨x, rfl⟩ : ∃ n : Nat, x = n := ⟨x.toNat, by omega⟩
    exact ⟨_, (len32_ret x (by omega)).plain rfl, by simpa using h.2⟩
  · exact h.elim
attribute [go_sem] cf18 len32CT
theorem lz32_ret (x : Nat) (hx : x < 4294967296) : Ret Tryz.prog 96 false [.inl (.i .u32 x)] (.c (.i .i64 ((32 - bl x : Nat) : Int))) := by
  have hb := bl_lt x 32 (by simpa using hx)
  (refine q_H Tryz.func96 (fun F => ?_); simp only [q_z,q_y,Tryz.ntmps96,Tryz.results96])
  repeat' (first|(with_reducible first|apply q_a|apply q_b|apply q_c|apply q_d|apply q_e|apply q_f|apply q_g|apply q_h|apply q_i|apply q_j|apply q_k|apply q_m|apply q_n|apply q_o|apply q_p|refine q_l ?_)|((with_reducible first|refine q_q cf18_ok fun K hK=>?_|refine q_r cf18_ok fun K hK=>?_);simp (maxSteps:=2000000) only [go_sem,↓reduceIte,reduceCtorEq,Nat.reduceLeDiff,Nat.reduceLT,Nat.reduceBEq,Nat.reduceAdd];(repeat1' with_reducible first|apply And.intro|intro _|(refine hK _ ?_;clear hK K))<;>(try (clear hK K;exact q_u)))|(with_reducible refine q_s ?_;(first|apply q_J|apply q_K|apply q_L|apply q_M|apply q_N|apply q_O)<;>try intro _)|with_reducible refine q_t ?_)
  refine q_A ?_
  simp only [resAV, q_y, AV.c.injEq, C.i.injEq, true_and]
  omega
def lz32CT : CT := mkCT [] true fun l K => match l with
  | [.inl (.i .u32 x)] => (0 ≤ x ∧ x < 4294967296) ∧ K (.c (.i .i64 ((32 - bl x.toNat : Nat) : Int)))
  | _ => False
def cf19 : Cfg := addT 96 lz32CT cf18
theorem cf19_ok : TblOk Tryz.prog cf19 := q_I cf18_ok Tryz.func96 fun l K h => by
  split at h
  · rename_i x
    obtain ⟨x, rfl⟩ : ∃ n : Nat, x = n := ⟨x.toNat, by omega⟩
    exact ⟨_, (lz32_ret x (by omega)).plain rfl, by simpa using h.2⟩
  · exact h.elim
attribute [go_sem] cf19 lz32CT
end Go.Proofs.YtlflfhcfljiciaaGreat
