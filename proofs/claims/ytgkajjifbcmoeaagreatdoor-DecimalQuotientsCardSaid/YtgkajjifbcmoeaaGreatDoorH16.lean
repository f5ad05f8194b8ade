import Derived.Test.YtgkajjifbcmoeaaGreatDoorH11
import Derived.Test.YtgkajjifbcmoeaaGreatDoorH13
import Derived.Test.YtgkajjifbcmoeaaGreatDoorH15
namespace Go.Proofs.NatL
set_option linter.unusedSimpArgs false
set_option linter.unusedVariables false
theorem PF_div {m n : Nat} {e f : Int} (hn : 0 < n) (h1 : ds m ≤ 120) (h2 : ds n ≤ 120) (he : -1200 ≤ e ∧ e ≤ 1200) (hf : -1200 ≤ f ∧ f ≤ 1200) : PF m n (e - f) := ⟨hn, by omega, by omega, by omega, by omega⟩
theorem PF_one {m : Nat} {e : Int} (h1 : ds m ≤ 120) (he : -1200 ≤ e ∧ e ≤ 1200) : PF m 1 e := ⟨by omega, by omega, by have := one_ds; omega, by omega, by omega⟩
theorem rem_len {A B : Dc} (hA : OkD A) (hB : OkD B) (h : 0 < B.coef) : ds (A.coef * 10 ^ (A.exp - min A.exp B.exp).toNat) ≤ 2520 ∧ ds (B.coef * 10 ^ (B.exp - min A.exp B.exp).toNat) ≤ 2520 ∧ 0 < B.coef * 10 ^ (B.exp - min A.exp B.exp).toNat ∧ ds (remN A B) ≤ 2520 := by
 obtain ⟨a1, a2, a3⟩ := okd_exp hA
 obtain ⟨b1, b2, b3⟩ := okd_exp hB
 have h1 : ds (A.coef * 10 ^ (A.exp - min A.exp B.exp).toNat) ≤ 2520 := ds_mul10 (by omega)
 refine ⟨h1, ds_mul10 (by omega), Nat.mul_pos h (Nat.pow_pos (by omega)), ?_⟩
 exact ds_le_of_le (Nat.mod_le _ _) h1
theorem PF_rem {A B : Dc} (hA : OkD A) (hB : OkD B) (h : 0 < B.coef) : PF (remN A B) 1 (min A.exp B.exp) := by
 obtain ⟨a1, a2, a3⟩ := okd_exp hA
 obtain ⟨b1, b2, b3⟩ := okd_exp hB
 obtain ⟨_, _, _, h4⟩ := rem_len hA hB h
 have := one_ds
 exact ⟨by omega, by omega, by omega, by omega, by omega⟩
end Go.Proofs.NatL
namespace Go.Proofs.YtgkajjifbcmoeaaGreatDoor
set_option linter.unusedSimpArgs false
set_option linter.unusedVariables false
open Go.Abs Go.Proofs.NatL

set_option maxHeartbeats 3200000 in
theorem dDiv_ok (A B : Dc) (c : Cx) (hA : OkD A) (hB : OkD B) (hc : OkC c) : Ret Tryz.prog 16 false [.inr (gDc A), .inr (gDc B), .inr (gCx c)] (rDS (divD A B c) (divS A B c)) := by
 have o0 := okCx_c hc
 have o1 := okD_g hA
 have o2 := okD_g hB
 have ka := OkD_kind hA
 have kb := OkD_kind hB
 obtain ⟨a1, a2, a3⟩ := okd_exp hA
 obtain ⟨b1, b2, b3⟩ := okd_exp hB
 have l1 := coef_len a1
 have l2 := coef_len b1
 have hP := fun h => PF_div (n := B.coef) h a1 b1 ⟨a2, a3⟩ ⟨b2, b3⟩
 have z1 := dg_nil_iff A.coef
 have z2 := dg_nil_iff B.coef
 unfold divD divS
 obtain ⟨k, s, m, e⟩ := A
 obtain ⟨l, t, n, f⟩ := B
 obtain ⟨p, r, mn, mx⟩ := c
 simp only at o0 o1 o2 ka kb a1 a2 a3 b1 b2 b3 l1 l2 hP z1 z2 ⊢
 clear hA hB hc
 by_cases h1 : k = 2 ∨ l = 2
 ·rw [if_pos h1, if_pos h1]
  clear hP
  (refine q_H Tryz.func16 (fun F => ?_); simp only [q_z,q_y,Tryz.ntmps16,Tryz.results16])
  repeat' (first|(with_reducible first|apply q_a|apply q_b|apply q_c|apply q_d|apply q_e|apply q_f|apply q_g|apply q_h|apply q_i|apply q_j|apply q_k|apply q_m|apply q_n|apply q_o|apply q_p|refine q_l ?_)|((with_reducible first|refine q_q dba_ok fun K hK=>?_|refine q_r dba_ok fun K hK=>?_);simp (maxSteps:=2000000) only [go_sem,↓reduceIte,reduceCtorEq,Nat.reduceLeDiff,Nat.reduceLT,Nat.reduceBEq,Nat.reduceAdd,o0, o1, o2, V32];(repeat1' with_reducible first|apply And.intro|(intro _;try exact q_v)|(refine hK _ ?_;clear hK K))<;>(try (clear hK K;exact q_u)))|(with_reducible refine q_s ?_;(first|apply q_J|apply q_K|apply q_L|apply q_M|apply q_N|apply q_O)<;>try (intro _;try exact q_v))|with_reducible refine q_t ?_)
  all_goals first | omega | assumption | exact q_A rfl | skip
 rw [if_neg h1, if_neg h1]
 by_cases h2 : (k = 1 ∧ l = 1) ∨ ((k = 0 ∧ m = 0) ∧ (l = 0 ∧ n = 0))
 ·rw [if_pos h2, if_pos h2]
  clear hP
  (refine q_H Tryz.func16 (fun F => ?_); simp only [q_z,q_y,Tryz.ntmps16,Tryz.results16])
  repeat' (first|(with_reducible first|apply q_a|apply q_b|apply q_c|apply q_d|apply q_e|apply q_f|apply q_g|apply q_h|apply q_i|apply q_j|apply q_k|apply q_m|apply q_n|apply q_o|apply q_p|refine q_l ?_)|((with_reducible first|refine q_q dba_ok fun K hK=>?_|refine q_r dba_ok fun K hK=>?_);simp (maxSteps:=2000000) only [go_sem,↓reduceIte,reduceCtorEq,Nat.reduceLeDiff,Nat.reduceLT,Nat.reduceBEq,Nat.reduceAdd,o0, o1, o2, V32];(repeat1' with_reducible first|apply And.intro|(intro _;try exact q_v)|(refine hK _ ?_;clear hK K))<;>(try (clear hK K;exact q_u)))|(with_reducible refine q_s ?_;(first|apply q_J|apply q_K|apply q_L|apply q_M|apply q_N|apply q_O)<;>try (intro _;try exact q_v))|with_reducible refine q_t ?_)
  all_goals first | omega | assumption | exact q_A rfl | skip
 rw [if_neg h2, if_neg h2]
 by_cases h3 : k = 1
 ·rw [if_pos h3, if_pos h3]
  clear hP
  (refine q_H Tryz.func16 (fun F => ?_); simp only [q_z,q_y,Tryz.ntmps16,Tryz.results16])
  repeat' (first|(with_reducible first|apply q_a|apply q_b|apply q_c|apply q_d|apply q_e|apply q_f|apply q_g|apply q_h|apply q_i|apply q_j|apply q_k|apply q_m|apply q_n|apply q_o|apply q_p|refine q_l ?_)|((with_reducible first|refine q_q dba_ok fun K hK=>?_|refine q_r dba_ok fun K hK=>?_);simp (maxSteps:=2000000) only [go_sem,↓reduceIte,reduceCtorEq,Nat.reduceLeDiff,Nat.reduceLT,Nat.reduceBEq,Nat.reduceAdd,o0, o1, o2, V32];(repeat1' with_reducible first|apply And.intro|(intro _;try exact q_v)|(refine hK _ ?_;clear hK K))<;>(try (clear hK K;exact q_u)))|(with_reducible refine q_s ?_;(first|apply q_J|apply q_K|apply q_L|apply q_M|apply q_N|apply q_O)<;>try (intro _;try exact q_v))|with_reducible refine q_t ?_)
  all_goals first | omega | assumption | exact q_A rfl | skip
 rw [if_neg h3, if_neg h3]
 by_cases h4 : l = 1
 ·rw [if_pos h4, if_pos h4]
  clear hP
  (refine q_H Tryz.func16 (fun F => ?_); simp only [q_z,q_y,Tryz.ntmps16,Tryz.results16])
  repeat' (first|(with_reducible first|apply q_a|apply q_b|apply q_c|apply q_d|apply q_e|apply q_f|apply q_g|apply q_h|apply q_i|apply q_j|apply q_k|apply q_m|apply q_n|apply q_o|apply q_p|refine q_l ?_)|((with_reducible first|refine q_q dba_ok fun K hK=>?_|refine q_r dba_ok fun K hK=>?_);simp (maxSteps:=2000000) only [go_sem,↓reduceIte,reduceCtorEq,Nat.reduceLeDiff,Nat.reduceLT,Nat.reduceBEq,Nat.reduceAdd,o0, o1, o2, V32];(repeat1' with_reducible first|apply And.intro|(intro _;try exact q_v)|(refine hK _ ?_;clear hK K))<;>(try (clear hK K;exact q_u)))|(with_reducible refine q_s ?_;(first|apply q_J|apply q_K|apply q_L|apply q_M|apply q_N|apply q_O)<;>try (intro _;try exact q_v))|with_reducible refine q_t ?_)
  all_goals first | omega | assumption | exact q_A rfl | skip
 rw [if_neg h4, if_neg h4]
 by_cases h5 : n = 0
 ·rw [if_pos h5, if_pos h5]
  clear hP
  (refine q_H Tryz.func16 (fun F => ?_); simp only [q_z,q_y,Tryz.ntmps16,Tryz.results16])
  repeat' (first|(with_reducible first|apply q_a|apply q_b|apply q_c|apply q_d|apply q_e|apply q_f|apply q_g|apply q_h|apply q_i|apply q_j|apply q_k|apply q_m|apply q_n|apply q_o|apply q_p|refine q_l ?_)|((with_reducible first|refine q_q dba_ok fun K hK=>?_|refine q_r dba_ok fun K hK=>?_);simp (maxSteps:=2000000) only [go_sem,↓reduceIte,reduceCtorEq,Nat.reduceLeDiff,Nat.reduceLT,Nat.reduceBEq,Nat.reduceAdd,o0, o1, o2, V32];(repeat1' with_reducible first|apply And.intro|(intro _;try exact q_v)|(refine hK _ ?_;clear hK K))<;>(try (clear hK K;exact q_u)))|(with_reducible refine q_s ?_;(first|apply q_J|apply q_K|apply q_L|apply q_M|apply q_N|apply q_O)<;>try (intro _;try exact q_v))|with_reducible refine q_t ?_)
  all_goals first | omega | assumption | exact q_A rfl | skip
 rw [if_neg h5, if_neg h5]
 have hP := hP (by omega)
 have k0 : k = 0 := by omega
 have l0 : l = 0 := by omega
 subst k0 l0
 (refine q_H Tryz.func16 (fun F => ?_); simp only [q_z,q_y,Tryz.ntmps16,Tryz.results16])
 repeat' (first|(with_reducible first|apply q_a|apply q_b|apply q_c|apply q_d|apply q_e|apply q_f|apply q_g|apply q_h|apply q_i|apply q_j|apply q_k|apply q_m|apply q_n|apply q_o|apply q_p|refine q_l ?_)|((with_reducible first|refine q_q dba_ok fun K hK=>?_|refine q_r dba_ok fun K hK=>?_);simp (maxSteps:=2000000) only [go_sem,↓reduceIte,reduceCtorEq,Nat.reduceLeDiff,Nat.reduceLT,Nat.reduceBEq,Nat.reduceAdd,o0, o1, o2, V32];(repeat1' with_reducible first|apply And.intro|(intro _;try exact q_v)|(refine hK _ ?_;clear hK K))<;>(try (clear hK K;exact q_u)))|(with_reducible refine q_s ?_;(first|apply q_J|apply q_K|apply q_L|apply q_M|apply q_N|apply q_O)<;>try (intro _;try exact q_v))|with_reducible refine q_t ?_)
 all_goals first | omega | assumption | exact q_A rfl | skip
def dg4x : Cfg := addT 16 (op2CT divD divS) cf0
theorem dg4x_ok : TblOk Tryz.prog dg4x := q_I cf0_ok Tryz.func16 fun l K h =>
 op2_tr (f := divD) (g := divS) (fun A B c hA hB hc => dDiv_ok A B c hA hB hc) (fun k l s t a b xs ys e e' p r mn mx h1 h2 h3 h4 => dDiv_bad k l s t a b xs ys e e' p r mn mx h1 h2 h3 h4) l K h
set_option maxHeartbeats 3200000 in
theorem dRem_ok (A B : Dc) (c : Cx) (hA : OkD A) (hB : OkD B) (hc : OkC c) : Ret Tryz.prog 37 false [.inr (gDc A), .inr (gDc B), .inr (gCx c)] (rDS (remD A B c) (remS A B c)) := by
 have o0 := okCx_c hc
 have e1 : ([1] : List Int) = dg 4294967296 1 := rfl
 have o1 := okD_g hA
 have o2 := okD_g hB
 have ka := OkD_kind hA
 have kb := OkD_kind hB
 obtain ⟨a1, a2, a3⟩ := okd_exp hA
 obtain ⟨b1, b2, b3⟩ := okd_exp hB
 have l1 := coef_len a1
 have l2 := coef_len b1
 have hP1 := PF_one a1 ⟨a2, a3⟩
 have hP := fun h => PF_rem hA hB h
 have hL := fun h => rem_len hA hB h
 have z1 := dg_nil_iff A.coef
 have z2 := dg_nil_iff B.coef
 have hR : remN A B = (A.coef * 10 ^ (A.exp - min A.exp B.exp).toNat) % (B.coef * 10 ^ (B.exp - min A.exp B.exp).toNat) := rfl
 unfold remD remS
 generalize hN : remN A B = N at *
 obtain ⟨k, s, m, e⟩ := A
 obtain ⟨l, t, n, f⟩ := B
 obtain ⟨p, r, mn, mx⟩ := c
 simp only at o0 o1 o2 ka kb a1 a2 a3 b1 b2 b3 l1 l2 hP hP1 hL hR z1 z2 ⊢
 clear hA hB hc hN
 by_cases h1 : k = 2 ∨ l = 2
 ·rw [if_pos h1, if_pos h1]
  clear hP hL hR hP1
  (refine q_H Tryz.func37 (fun F => ?_); simp only [q_z,q_y,Tryz.ntmps37,Tryz.results37])
  repeat' (first|(with_reducible first|apply q_a|apply q_b|apply q_c|apply q_d|apply q_e|apply q_f|apply q_g|apply q_h|apply q_i|apply q_j|apply q_k|apply q_m|apply q_n|apply q_o|apply q_p|refine q_l ?_)|((with_reducible first|refine q_q dba_ok fun K hK=>?_|refine q_r dba_ok fun K hK=>?_);simp (maxSteps:=2000000) only [go_sem,↓reduceIte,reduceCtorEq,Nat.reduceLeDiff,Nat.reduceLT,Nat.reduceBEq,Nat.reduceAdd,o0, o1, o2, e1, V32];(repeat1' with_reducible first|apply And.intro|(intro _;try exact q_v)|(refine hK _ ?_;clear hK K))<;>(try (clear hK K;exact q_u)))|(with_reducible refine q_s ?_;(first|apply q_J|apply q_K|apply q_L|apply q_M|apply q_N|apply q_O)<;>try (intro _;try exact q_v))|with_reducible refine q_t ?_)
  all_goals first | omega | assumption | exact q_A rfl | skip
 rw [if_neg h1, if_neg h1]
 by_cases h2 : k = 1 ∨ (l = 0 ∧ n = 0)
 ·rw [if_pos h2, if_pos h2]
  clear hP hL hR hP1
  (refine q_H Tryz.func37 (fun F => ?_); simp only [q_z,q_y,Tryz.ntmps37,Tryz.results37])
  repeat' (first|(with_reducible first|apply q_a|apply q_b|apply q_c|apply q_d|apply q_e|apply q_f|apply q_g|apply q_h|apply q_i|apply q_j|apply q_k|apply q_m|apply q_n|apply q_o|apply q_p|refine q_l ?_)|((with_reducible first|refine q_q dba_ok fun K hK=>?_|refine q_r dba_ok fun K hK=>?_);simp (maxSteps:=2000000) only [go_sem,↓reduceIte,reduceCtorEq,Nat.reduceLeDiff,Nat.reduceLT,Nat.reduceBEq,Nat.reduceAdd,o0, o1, o2, e1, V32];(repeat1' with_reducible first|apply And.intro|(intro _;try exact q_v)|(refine hK _ ?_;clear hK K))<;>(try (clear hK K;exact q_u)))|(with_reducible refine q_s ?_;(first|apply q_J|apply q_K|apply q_L|apply q_M|apply q_N|apply q_O)<;>try (intro _;try exact q_v))|with_reducible refine q_t ?_)
  all_goals first | omega | assumption | exact q_A rfl | skip
 rw [if_neg h2, if_neg h2]
 by_cases h4 : l = 1
 ·rw [if_pos h4, if_pos h4]
  clear hP hL hR
  (refine q_H Tryz.func37 (fun F => ?_); simp only [q_z,q_y,Tryz.ntmps37,Tryz.results37])
  repeat' (first|(with_reducible first|apply q_a|apply q_b|apply q_c|apply q_d|apply q_e|apply q_f|apply q_g|apply q_h|apply q_i|apply q_j|apply q_k|apply q_m|apply q_n|apply q_o|apply q_p|refine q_l ?_)|((with_reducible first|refine q_q dba_ok fun K hK=>?_|refine q_r dba_ok fun K hK=>?_);simp (maxSteps:=2000000) only [go_sem,↓reduceIte,reduceCtorEq,Nat.reduceLeDiff,Nat.reduceLT,Nat.reduceBEq,Nat.reduceAdd,o0, o1, o2, e1, V32];(repeat1' with_reducible first|apply And.intro|(intro _;try exact q_v)|(refine hK _ ?_;clear hK K))<;>(try (clear hK K;exact q_u)))|(with_reducible refine q_s ?_;(first|apply q_J|apply q_K|apply q_L|apply q_M|apply q_N|apply q_O)<;>try (intro _;try exact q_v))|with_reducible refine q_t ?_)
  all_goals first | omega | assumption | exact q_A rfl | skip
 rw [if_neg h4, if_neg h4]
 have hP := hP (by omega)
 obtain ⟨q1, q2, q3, q4⟩ := hL (by omega)
 have k0 : k = 0 := by omega
 have l0 : l = 0 := by omega
 subst k0 l0
 have q5 := ds_600 (n := m * 10 ^ (e - min e f).toNat) (by omega)
 have q6 := ds_600 (n := n * 10 ^ (f - min e f).toNat) (by omega)
 have j1 : 0 ≤ e - min e f ∧ e - min e f < 4096 := by omega
 have j2 : 0 ≤ f - min e f ∧ f - min e f < 4096 := by omega
 obtain ⟨j1, j3⟩ := j1
 obtain ⟨j2, j4⟩ := j2
 have w1 : min e f ≤ 1200 ∧ -1200 ≤ min e f := by omega
 obtain ⟨w1, w2⟩ := w1
 generalize hM : m * 10 ^ (e - min e f).toNat = M at *
 generalize hM2 : n * 10 ^ (f - min e f).toNat = M2 at *
 generalize hX : min e f = X at *
 have hR := hR.symm
 (refine q_H Tryz.func37 (fun F => ?_); simp only [q_z,q_y,Tryz.ntmps37,Tryz.results37])
 repeat' (first|(with_reducible first|apply q_a|apply q_b|apply q_c|apply q_d|apply q_e|apply q_f|apply q_g|apply q_h|apply q_i|apply q_j|apply q_k|apply q_m|apply q_n|apply q_o|apply q_p|refine q_l ?_)|((with_reducible first|refine q_q dba_ok fun K hK=>?_|refine q_r dba_ok fun K hK=>?_);simp (maxSteps:=2000000) only [go_sem,↓reduceIte,reduceCtorEq,Nat.reduceLeDiff,Nat.reduceLT,Nat.reduceBEq,Nat.reduceAdd,o0, o1, o2, e1, V32, hX, hM, hM2, hR];(repeat1' with_reducible first|apply And.intro|(intro _;try exact q_v)|(refine hK _ ?_;clear hK K))<;>(try (clear hK K;exact q_u)))|(with_reducible refine q_s ?_;(first|apply q_J|apply q_K|apply q_L|apply q_M|apply q_N|apply q_O)<;>try (intro _;try exact q_v))|with_reducible refine q_t ?_)
 all_goals first | omega | assumption | exact q_A rfl | skip
def dg5x : Cfg := addT 37 (op2CT remD remS) cf0
theorem dg5x_ok : TblOk Tryz.prog dg5x := q_I cf0_ok Tryz.func37 fun l K h =>
 op2_tr (f := remD) (g := remS) (fun A B c hA hB hc => dRem_ok A B c hA hB hc) (fun k l s t a b xs ys e e' p r mn mx h1 h2 h3 h4 => dRem_bad k l s t a b xs ys e e' p r mn mx h1 h2 h3 h4) l K h
end Go.Proofs.YtgkajjifbcmoeaaGreatDoor

namespace Go.Proofs.NatL
set_option linter.unusedSimpArgs false
set_option linter.unusedVariables false
theorem pt_down {num den : Nat} (exp : Int) {f : Int} (h : ptD den exp f ≤ ptN num exp f) : ∀ k : Nat, ptD den exp (f - k) ≤ ptN num exp (f - k)
 | 0 => by simpa using h
 | k + 1 => by
  have ih := pt_down exp h k
  have s := pt_step num den exp (f - ((k + 1 : Nat) : Int))
  rw [show f - ((k + 1 : Nat) : Int) + 1 = f - (k : Int) by omega] at s
  have := s.1 ih
  omega
theorem q_pos {num den : Nat} (hn : 0 < num) (hd : 0 < den) {exp x : Int} (h : x ≤ firstE num den exp) : 0 < qE num den exp x := by
 have h1 := pt_down exp (first_is hn hd exp).1 (firstE num den exp - x).toNat
 rw [show firstE num den exp - ((firstE num den exp - x).toNat : Int) = x by omega] at h1
 exact Nat.div_pos h1 (ptD_pos hd _ _)
theorem rdE_ge (neg : Bool) (num den : Nat) (exp e r : Int) : qE num den exp e ≤ rdE neg num den exp e r := by
 unfold rdE; (repeat' split) <;> omega
theorem ce_zero {neg : Bool} {num den : Nat} {exp ideal p r mn : Int} (hn : 0 < num) (hd : 0 < den) (hp : 1 ≤ p) (h : (fitCE neg num den exp ideal p r mn).1 = 0) : (fitCE neg num den exp ideal p r mn).2 ≤ tinyE p mn + 1 := by
 have key : fitEx num den exp p mn = tinyE p mn ∨ 0 < qE num den exp (fitEx num den exp p mn) := by
  by_cases hx : firstE num den exp - p + 1 ≤ tinyE p mn
  ·left; unfold fitEx; omega
  ·right
   refine q_pos hn hd ?_
   unfold fitEx; omega
 have hge := rdE_ge neg num den exp (fitEx num den exp p mn) r
 have hnum : 0 < ptN num exp (fitEx num den exp p mn) := Nat.lt_of_lt_of_le hn (ptN_ge _ _ _)
 by_cases hs : sE num den exp (fitEx num den exp p mn) = 0
 ·-- exact: the coefficient is not none
  exfalso
  have hq : 0 < qE num den exp (fitEx num den exp p mn) := by
   unfold qE sE at *
   have := Nat.div_add_mod (ptN num exp (fitEx num den exp p mn)) (ptD den exp (fitEx num den exp p mn))
   rw [hs] at this
   rcases Nat.eq_zero_or_pos (ptN num exp (fitEx num den exp p mn) / ptD den exp (fitEx num den exp p mn)) with h0 | h0
   ·rw [h0] at this; omega
   ·exact h0
  rw [ce_exact hs] at h
  have tpos : ∀ (k c : Nat) (e : Int), 0 < c → 0 < (twd k c e).1 := by
   intro k
   induction k with
   | zero => intro c e hc; exact hc
   | succ k ih =>
    intro c e hc
    unfold twd; split
    ·exact ih _ _ (by omega)
    ·exact hc
  have := tpos (ideal - fitEx num den exp p mn).toNat _ (fitEx num den exp p mn) (show 0 < rdE neg num den exp (fitEx num den exp p mn) r by omega)
  omega
 ·by_cases hl : p < (ds (rdE neg num den exp (fitEx num den exp p mn) r) : Int)
  ·rw [ce_long hs hl] at h ⊢
   simp only at h ⊢
   rcases key with k | k
   ·omega
   ·have h1 : rdE neg num den exp (fitEx num den exp p mn) r < 10 := by omega
    have h2 := ds_le (n := rdE neg num den exp (fitEx num den exp p mn) r) (k := 1) (by omega)
    omega
  ·rw [ce_short hs hl] at h ⊢
   simp only at h ⊢
   rcases key with k | k <;> omega
theorem ce_low {neg : Bool} {num den : Nat} {exp ideal p r mn : Int} : tinyE p mn ≤ (fitCE neg num den exp ideal p r mn).2 := by
 have hx : tinyE p mn ≤ fitEx num den exp p mn := by unfold fitEx; omega
 by_cases hs : sE num den exp (fitEx num den exp p mn) = 0
 ·rw [ce_exact hs]
  have := (twd_le (ideal - fitEx num den exp p mn).toNat (rdE neg num den exp (fitEx num den exp p mn) r) (fitEx num den exp p mn)).2
  omega
 ·by_cases hl : p < (ds (rdE neg num den exp (fitEx num den exp p mn) r) : Int)
  ·rw [ce_long hs hl]; simp only; omega
  ·rw [ce_short hs hl]; exact hx
theorem ce_len {neg : Bool} {num den : Nat} {exp ideal p r mn : Int} (hn : 0 < num) (hd : 0 < den) (hp : 1 ≤ p) : ds (fitCE neg num den exp ideal p r mn).1 ≤ p.toNat := by
 by_cases hs : sE num den exp (fitEx num den exp p mn) = 0
 ·rw [ce_exact hs]
  exact fit_exact_len hn hd hp hs _
 ·have hle := fit_round_le (neg := neg) (r := r) (mn := mn) hn hd (exp := exp) hp
  by_cases hl : p < (ds (rdE neg num den exp (fitEx num den exp p mn) r) : Int)
  ·rw [ce_long hs hl]
   simp only
   rw [ds_div10]
   have := ds_le_of_le hle (k := p.toNat + 1) (by rw [ds_ten]; omega)
   omega
  ·rw [ce_short hs hl]; simp only; omega
theorem fit_ok {neg : Bool} {num den : Nat} {exp ideal : Int} {c : Cx} (hd : 0 < den) (hc : OkC c) : OkD (fitD neg num den exp ideal c.p c.r c.mn c.mx) := by
 obtain ⟨c1, c2, c3, c4, c5, c6, c7, c8⟩ := hc
 have ht : tinyE c.p c.mn = c.mn - c.p + 1 := rfl
 by_cases h0 : num = 0
 ·rw [(fit_zero neg den exp ideal c.p c.r c.mn c.mx h0).1]
  exact .inl ⟨rfl, by simp only; omega, by simp only; omega, by simp⟩
 ·have hn : 0 < num := by omega
  have hz := ce_zero (neg := neg) (num := num) (den := den) (exp := exp) (ideal := ideal) (p := c.p) (r := c.r) (mn := c.mn) hn hd c1
  have hw := ce_low (neg := neg) (num := num) (den := den) (exp := exp) (ideal := ideal) (p := c.p) (r := c.r) (mn := c.mn)
  have hl := ce_len (neg := neg) (num := num) (den := den) (exp := exp) (ideal := ideal) (p := c.p) (r := c.r) (mn := c.mn) hn hd c1
  generalize hCE : fitCE neg num den exp ideal c.p c.r c.mn = CE at *
  obtain ⟨x, y⟩ := CE
  simp only at hz hw hl
  by_cases ho : 0 < x ∧ c.mx < (ds x : Int) - 1 + y
  ·rw [(fit_over hn hCE ho).1]
   unfold ovf
   split
   ·exact .inr (.inl ⟨rfl, rfl, rfl⟩)
   ·refine .inl ⟨rfl, by simp only; omega, by simp only; omega, ?_⟩
    have : 10 ^ c.p.toNat ≤ 10 ^ 60 := Nat.pow_le_pow_right (by omega) (by omega)
    have h2 : (10 : Nat) ^ 60 < 10 ^ 120 := Nat.pow_lt_pow_right (by omega) (by omega)
    simp only; omega
  ·rw [(fit_fine hn hCE ho).1]
   refine .inl ⟨rfl, by simp only; omega, ?_, lt120.2 (by simp only; omega)⟩
   simp only
   rcases Nat.eq_zero_or_pos x with h | h
   ·have := hz h; omega
   ·have := ds_pos.2 h
    have h2 : ¬ c.mx < (ds x : Int) - 1 + y := fun h3 => ho ⟨h, h3⟩
    omega
theorem none_ok : OkD dNone := .inr (.inr ⟨rfl, rfl, rfl, rfl⟩)
theorem inf_ok (s : Bool) : OkD (dInf s) := .inr (.inl ⟨rfl, rfl, rfl⟩)
theorem div_ok {A B : Dc} {c : Cx} (hc : OkC c) : OkD (divD A B c) := by
 obtain ⟨c1, c2, c3, c4, c5, c6, c7, c8⟩ := hc
 unfold divD
 split
 ·exact none_ok
 split
 ·exact none_ok
 split
 ·exact inf_ok _
 split
 ·have ht : tinyE c.p c.mn = c.mn - c.p + 1 := rfl
  exact .inl ⟨rfl, by simp only; omega, by simp only; omega, by simp⟩
 split
 ·exact inf_ok _
 ·rename_i h; exact fit_ok (Nat.pos_of_ne_zero h) ⟨c1, c2, c3, c4, c5, c6, c7, c8⟩
theorem rem_ok {A B : Dc} {c : Cx} (hc : OkC c) : OkD (remD A B c) := by
 unfold remD
 split
 ·exact none_ok
 split
 ·exact none_ok
 split
 ·exact fit_ok (by omega) hc
 ·exact fit_ok (by omega) hc
theorem okd_len {A : Dc} (h : OkD A) : (dg 4294967296 A.coef).length ≤ 13 := coef_len (okd_exp h).1
end Go.Proofs.NatL

namespace Go.Proofs.NatL
set_option linter.unusedSimpArgs false
set_option linter.unusedVariables false
def stCE (n : Nat) (exp : Int) (inex : Bool) (ideal p : Int) : Nat × Int :=
 let q := if inex then (n, exp) else twd (ideal - exp).toNat n exp
 if p < (ds q.1 : Int) then (q.1 / 10, q.2 + 1) else q
def stO (n : Nat) (exp : Int) (inex : Bool) (ideal p mx : Int) : Prop := 0 < (stCE n exp inex ideal p).1 ∧ mx < (ds (stCE n exp inex ideal p).1 : Int) - 1 + (stCE n exp inex ideal p).2
instance decStO (n : Nat) (exp : Int) (inex : Bool) (ideal p mx : Int) : Decidable (stO n exp inex ideal p mx) := by unfold stO; infer_instance
def stD (neg : Bool) (n : Nat) (exp : Int) (inex : Bool) (ideal p r mx : Int) : Dc := if stO n exp inex ideal p mx then ovf neg p r mx else ⟨0, neg, (stCE n exp inex ideal p).1, (stCE n exp inex ideal p).2⟩
def stS (n : Nat) (exp first : Int) (inex : Bool) (ideal p mn mx : Int) : Int := if stO n exp inex ideal p mx then 9 else (if first < mn then 2 else 0) + (if inex then 1 + (if first < mn then 4 else 0) else 0)
theorem fit_st {neg : Bool} {num den : Nat} (hn : 0 < num) (hd : 0 < den) {exp ideal p r mn mx : Int} (hp : 1 ≤ p) :
  fitD neg num den exp ideal p r mn mx = stD neg (rdE neg num den exp (fitEx num den exp p mn) r) (fitEx num den exp p mn) (decide (sE num den exp (fitEx num den exp p mn) ≠ 0)) ideal p r mx ∧
  fitS neg num den exp ideal p r mn mx = stS (rdE neg num den exp (fitEx num den exp p mn) r) (fitEx num den exp p mn) (firstE num den exp) (decide (sE num den exp (fitEx num den exp p mn) ≠ 0)) ideal p mn mx := by
 have h0 : ¬ num = 0 := by omega
 have hce : fitCE neg num den exp ideal p r mn = stCE (rdE neg num den exp (fitEx num den exp p mn) r) (fitEx num den exp p mn) (decide (sE num den exp (fitEx num den exp p mn) ≠ 0)) ideal p := by
  unfold stCE
  by_cases hs : sE num den exp (fitEx num den exp p mn) = 0
  ·have hl := fit_exact_len (neg := neg) (r := r) hn hd hp hs (ideal - fitEx num den exp p mn).toNat
   rw [ce_exact hs, decide_eq_false (by simpa using hs)]
   simp only [Bool.false_eq_true, if_false]
   rw [if_neg (by omega)]
  ·rw [decide_eq_true (by simpa using hs)]
   simp only [if_true]
   by_cases h2 : p < (ds (rdE neg num den exp (fitEx num den exp p mn) r) : Int)
   ·rw [ce_long hs h2, if_pos h2]
   ·rw [ce_short hs h2, if_neg h2]
 unfold fitD fitS stD stS stO
 rw [if_neg h0, if_neg h0, hce]
 refine ⟨rfl, ?_⟩
 congr 1
 ·unfold sigE
  by_cases hs : sE num den exp (fitEx num den exp p mn) = 0
  ·rw [if_pos hs, decide_eq_false (by simpa using hs)]; rfl
  ·rw [if_neg hs, decide_eq_true (by simpa using hs)]; rfl
end Go.Proofs.NatL
namespace Go.Proofs.YtgkajjifbcmoeaaGreatDoor
set_option linter.unusedSimpArgs false
set_option linter.unusedVariables false
open Go.Abs Go.Proofs.NatL

def eb8 : Cfg := listT [(106, ofCT), (15, smallCT), (70, limbsCT)] [34]
theorem eb8_ok : TblOk Tryz.prog eb8 := listE_ok (by simp only [List.mem_singleton, forall_eq]; exact flt) ⟨⟨db6, db6_ok, rfl⟩, ⟨nt7, nt7_ok, rfl⟩, ⟨ch1, ch1_ok, rfl⟩, trivial⟩
attribute [go_sem] eb8
def valueCT : CT := mkCT [nDc] false fun l K => match l with
 | [.inr [.i .i64 k, .b s, .b t, .ints .u32 xs, .i .i64 e]] => (InB 4294967296 xs ∧ xs.length ≤ 600) ∧ K (.g (gE s (V 4294967296 xs) 1 e))
 | _ => False
def es1 : Cfg := addT 67 valueCT cf0
theorem es1_ok : TblOk Tryz.prog es1 := q_I cf0_ok Tryz.func67 fun l K h => by
 split at h
 ·rename_i k s t xs e
  obtain ⟨⟨h1, h2⟩, h⟩ := h
  refine ⟨_, ?_, h⟩
  have t0 : (1 : Int).toNat = 1 := rfl
  (refine q_H Tryz.func67 (fun F => ?_); simp only [q_z,q_y,Tryz.ntmps67,Tryz.results67])
  repeat' (first|(with_reducible first|apply q_a|apply q_b|apply q_c|apply q_d|apply q_e|apply q_f|apply q_g|apply q_h|apply q_i|apply q_j|apply q_k|apply q_m|apply q_n|apply q_o|apply q_p|refine q_l ?_)|((with_reducible first|refine q_q eb8_ok fun K hK=>?_|refine q_r eb8_ok fun K hK=>?_);simp (maxSteps:=2000000) only [go_sem,↓reduceIte,reduceCtorEq,Nat.reduceLeDiff,Nat.reduceLT,Nat.reduceBEq,Nat.reduceAdd,t0];(repeat1' with_reducible first|apply And.intro|(intro _;try exact q_v)|(refine hK _ ?_;clear hK K))<;>(try (clear hK K;exact q_u)))|(with_reducible refine q_s ?_;(first|apply q_J|apply q_K|apply q_L|apply q_M|apply q_N|apply q_O)<;>try (intro _;try exact q_v))|with_reducible refine q_t ?_)
  all_goals first | omega | assumption | exact q_A rfl | skip
 ·exact h.elim
def rfiniteCT : CT := mkCT [.inl none, .inl (some (.ints .i64 []))] false fun l K => match l with
 | [.inl (.b s), .inl (.ints .i64 xs), .inl (.i .i64 e)] => (InB 65536 xs ∧ Trd xs ∧ xs.length ≤ 5000) ∧ K (.g (gDc ⟨0, s, V 65536 xs, e⟩))
 | _ => False
def es2 : Cfg := addT 14 rfiniteCT cf0
theorem es2_ok : TblOk Tryz.prog es2 := q_I cf0_ok Tryz.func14 fun l K h => by
 split at h
 ·rename_i s xs e
  obtain ⟨⟨h1, h2, h3⟩, h⟩ := h
  refine ⟨_, ?_, h⟩
  (refine q_H Tryz.func14 (fun F => ?_); simp only [q_z,q_y,Tryz.ntmps14,Tryz.results14])
  repeat' (first|(with_reducible first|apply q_a|apply q_b|apply q_c|apply q_d|apply q_e|apply q_f|apply q_g|apply q_h|apply q_i|apply q_j|apply q_k|apply q_m|apply q_n|apply q_o|apply q_p|refine q_l ?_)|((with_reducible first|refine q_q eb8_ok fun K hK=>?_|refine q_r eb8_ok fun K hK=>?_);simp (maxSteps:=2000000) only [go_sem,↓reduceIte,reduceCtorEq,Nat.reduceLeDiff,Nat.reduceLT,Nat.reduceBEq,Nat.reduceAdd];(repeat1' with_reducible first|apply And.intro|(intro _;try exact q_v)|(refine hK _ ?_;clear hK K))<;>(try (clear hK K;exact q_u)))|(with_reducible refine q_s ?_;(first|apply q_J|apply q_K|apply q_L|apply q_M|apply q_N|apply q_O)<;>try (intro _;try exact q_v))|with_reducible refine q_t ?_)
  all_goals first | omega | assumption | exact q_A rfl | skip
 ·exact h.elim
def es3 : Cfg := addT 111 infiniteCT cf0
theorem es3_ok : TblOk Tryz.prog es3 := q_I cf0_ok Tryz.func111 fun l K h => by
 split at h
 ·refine ⟨_, ?_, h⟩
  (refine q_H Tryz.func111 (fun F => ?_); simp only [q_z,q_y,Tryz.ntmps111,Tryz.results111])
  repeat' (first|(with_reducible first|apply q_a|apply q_b|apply q_c|apply q_d|apply q_e|apply q_f|apply q_g|apply q_h|apply q_i|apply q_j|apply q_k|apply q_m|apply q_n|apply q_o|apply q_p|refine q_l ?_)|((with_reducible first|refine q_q eb8_ok fun K hK=>?_|refine q_r eb8_ok fun K hK=>?_);simp (maxSteps:=2000000) only [go_sem,↓reduceIte,reduceCtorEq,Nat.reduceLeDiff,Nat.reduceLT,Nat.reduceBEq,Nat.reduceAdd];(repeat1' with_reducible first|apply And.intro|(intro _;try exact q_v)|(refine hK _ ?_;clear hK K))<;>(try (clear hK K;exact q_u)))|(with_reducible refine q_s ?_;(first|apply q_J|apply q_K|apply q_L|apply q_M|apply q_N|apply q_O)<;>try (intro _;try exact q_v))|with_reducible refine q_t ?_)
  all_goals first | omega | exact q_B [nDc] rfl rfl | exact q_A rfl | skip
 ·exact h.elim
def es4 : Cfg := addT 110 noneDCT cf0
theorem es4_ok : TblOk Tryz.prog es4 := q_I cf0_ok Tryz.func110 fun l K h => by
 split at h
 ·refine ⟨_, ?_, h⟩
  (refine q_H Tryz.func110 (fun F => ?_); simp only [q_z,q_y,Tryz.ntmps110,Tryz.results110])
  repeat' (first|(with_reducible first|apply q_a|apply q_b|apply q_c|apply q_d|apply q_e|apply q_f|apply q_g|apply q_h|apply q_i|apply q_j|apply q_k|apply q_m|apply q_n|apply q_o|apply q_p|refine q_l ?_)|((with_reducible first|refine q_q eb8_ok fun K hK=>?_|refine q_r eb8_ok fun K hK=>?_);simp (maxSteps:=2000000) only [go_sem,↓reduceIte,reduceCtorEq,Nat.reduceLeDiff,Nat.reduceLT,Nat.reduceBEq,Nat.reduceAdd];(repeat1' with_reducible first|apply And.intro|(intro _;try exact q_v)|(refine hK _ ?_;clear hK K))<;>(try (clear hK K;exact q_u)))|(with_reducible refine q_s ?_;(first|apply q_J|apply q_K|apply q_L|apply q_M|apply q_N|apply q_O)<;>try (intro _;try exact q_v))|with_reducible refine q_t ?_)
  all_goals first | omega | exact q_B [nDc] rfl rfl | exact q_A rfl | skip
 ·exact h.elim
def es5 : Cfg := addT 114 isZeroCT cf0
theorem es5_ok : TblOk Tryz.prog es5 := q_I cf0_ok Tryz.func114 fun l K h => by
 split at h
 ·rename_i k s t xs e
  refine ⟨_, Ret.plain ?_ rfl, h⟩
  by_cases h : k = 0
  ·(refine q_H Tryz.func114 (fun F => ?_); simp only [q_z,q_y,Tryz.ntmps114,Tryz.results114])
   repeat' (first|(with_reducible first|apply q_a|apply q_b|apply q_c|apply q_d|apply q_e|apply q_f|apply q_g|apply q_h|apply q_i|apply q_j|apply q_k|apply q_m|apply q_n|apply q_o|apply q_p|refine q_l ?_)|((with_reducible first|refine q_q eb8_ok fun K hK=>?_|refine q_r eb8_ok fun K hK=>?_);simp (maxSteps:=2000000) only [go_sem,↓reduceIte,reduceCtorEq,Nat.reduceLeDiff,Nat.reduceLT,Nat.reduceBEq,Nat.reduceAdd];(repeat1' with_reducible first|apply And.intro|(intro _;try exact q_v)|(refine hK _ ?_;clear hK K))<;>(try (clear hK K;exact q_u)))|(with_reducible refine q_s ?_;(first|apply q_J|apply q_K|apply q_L|apply q_M|apply q_N|apply q_O)<;>try (intro _;try exact q_v))|with_reducible refine q_t ?_)
   all_goals first | omega | exact q_A (by simp [resAV, q_y, h]) | skip
  ·(refine q_H Tryz.func114 (fun F => ?_); simp only [q_z,q_y,Tryz.ntmps114,Tryz.results114])
   repeat' (first|(with_reducible first|apply q_a|apply q_b|apply q_c|apply q_d|apply q_e|apply q_f|apply q_g|apply q_h|apply q_i|apply q_j|apply q_k|apply q_m|apply q_n|apply q_o|apply q_p|refine q_l ?_)|((with_reducible first|refine q_q eb8_ok fun K hK=>?_|refine q_r eb8_ok fun K hK=>?_);simp (maxSteps:=2000000) only [go_sem,↓reduceIte,reduceCtorEq,Nat.reduceLeDiff,Nat.reduceLT,Nat.reduceBEq,Nat.reduceAdd];(repeat1' with_reducible first|apply And.intro|(intro _;try exact q_v)|(refine hK _ ?_;clear hK K))<;>(try (clear hK K;exact q_u)))|(with_reducible refine q_s ?_;(first|apply q_J|apply q_K|apply q_L|apply q_M|apply q_N|apply q_O)<;>try (intro _;try exact q_v))|with_reducible refine q_t ?_)
   all_goals first | omega | exact q_A (by simp [resAV, q_y, h]) | skip
 ·exact h.elim
def leastCT : CT := mkCT [] true fun l K => match l with
 | [.inl (.i .i64 a), .inl (.i .i64 b)] => K (.c (.i .i64 (min a b)))
 | _ => False
def es6 : Cfg := addT 115 leastCT cf0
theorem es6_ok : TblOk Tryz.prog es6 := q_I cf0_ok Tryz.func115 fun l K h => by
 split at h
 ·rename_i a b
  refine ⟨_, Ret.plain ?_ rfl, h⟩
  by_cases h : a < b
  ·have e : min a b = a := by omega
   rw [e]
   (refine q_H Tryz.func115 (fun F => ?_); simp only [q_z,q_y,Tryz.ntmps115,Tryz.results115])
   repeat' (first|(with_reducible first|apply q_a|apply q_b|apply q_c|apply q_d|apply q_e|apply q_f|apply q_g|apply q_h|apply q_i|apply q_j|apply q_k|apply q_m|apply q_n|apply q_o|apply q_p|refine q_l ?_)|((with_reducible first|refine q_q eb8_ok fun K hK=>?_|refine q_r eb8_ok fun K hK=>?_);simp (maxSteps:=2000000) only [go_sem,↓reduceIte,reduceCtorEq,Nat.reduceLeDiff,Nat.reduceLT,Nat.reduceBEq,Nat.reduceAdd];(repeat1' with_reducible first|apply And.intro|(intro _;try exact q_v)|(refine hK _ ?_;clear hK K))<;>(try (clear hK K;exact q_u)))|(with_reducible refine q_s ?_;(first|apply q_J|apply q_K|apply q_L|apply q_M|apply q_N|apply q_O)<;>try (intro _;try exact q_v))|with_reducible refine q_t ?_)
   all_goals first | omega | exact q_A rfl | skip
  ·have e : min a b = b := by omega
   rw [e]
   (refine q_H Tryz.func115 (fun F => ?_); simp only [q_z,q_y,Tryz.ntmps115,Tryz.results115])
   repeat' (first|(with_reducible first|apply q_a|apply q_b|apply q_c|apply q_d|apply q_e|apply q_f|apply q_g|apply q_h|apply q_i|apply q_j|apply q_k|apply q_m|apply q_n|apply q_o|apply q_p|refine q_l ?_)|((with_reducible first|refine q_q eb8_ok fun K hK=>?_|refine q_r eb8_ok fun K hK=>?_);simp (maxSteps:=2000000) only [go_sem,↓reduceIte,reduceCtorEq,Nat.reduceLeDiff,Nat.reduceLT,Nat.reduceBEq,Nat.reduceAdd];(repeat1' with_reducible first|apply And.intro|(intro _;try exact q_v)|(refine hK _ ?_;clear hK K))<;>(try (clear hK K;exact q_u)))|(with_reducible refine q_s ?_;(first|apply q_J|apply q_K|apply q_L|apply q_M|apply q_N|apply q_O)<;>try (intro _;try exact q_v))|with_reducible refine q_t ?_)
   all_goals first | omega | exact q_A rfl | skip
 ·exact h.elim
attribute [go_sem] valueCT rfiniteCT leastCT


end Go.Proofs.YtgkajjifbcmoeaaGreatDoor

namespace Go.Abs
set_option linter.unusedSimpArgs false
set_option linter.unusedVariables false
theorem join_told {Q : Exit → St → Prop} {st : St} {ι : Type} {mid : ι → St} (i : ι) (h : FitP st (mid i)) : Join mid Q .normal st := ⟨i, h⟩
end Go.Abs
namespace Go.Proofs.YtgkajjifbcmoeaaGreatDoor
set_option linter.unusedSimpArgs false
set_option linter.unusedVariables false
open Go.Abs Go.Proofs.NatL

def eba : Cfg := listT [(121, halveCT), (105, figCT), (56, rtenCT), (15, smallCT), (181, (rnumCT (fun xs ys => V 65536 ys ≤ V 65536 xs) (· - ·))), (14, rfiniteCT), (111, infiniteCT)] [34]
theorem eba_ok : TblOk Tryz.prog eba := listE_ok (by simp only [List.mem_singleton, forall_eq]; exact flt) ⟨⟨rg1, rg1_ok, rfl⟩, ⟨nt11, nt11_ok, rfl⟩, ⟨er1, er1_ok, rfl⟩, ⟨nt7, nt7_ok, rfl⟩, ⟨db10, db10_ok, rfl⟩, ⟨es2, es2_ok, rfl⟩, ⟨es3, es3_ok, rfl⟩, trivial⟩
attribute [go_sem] eba
abbrev z5 : List AV := [.c (.i .i64 0), .c (.b false), .c (.b false), .c .nil, .c (.i .i64 0)]
abbrev cx4 (p r mn mx : Int) : List AV := [.c (.i .i64 p), .c (.i .i64 r), .c (.i .i64 mn), .c (.i .i64 mx)]
attribute [go_sem] z5 cx4
set_option maxRecDepth 100000 in
set_option maxHeartbeats 6400000 in
theorem settle_ret (s : Bool) (n : Nat) (e f : Int) (inex : Bool) (ideal p r mn mx : Int) (hn : ds n ≤ 5000) (he : -10000 ≤ e ∧ e ≤ 10000) (hi : -10000 ≤ ideal ∧ ideal ≤ 10000) (hc : okCx p r mn mx = true) :
  Ret Tryz.prog 132 false [.inl (.b s), .inl (.ints .i64 (dg 65536 n)), .inl (.i .i64 e), .inl (.i .i64 f), .inl (.b inex), .inl (.i .i64 ideal), .inr [.i .i64 p, .i .i64 r, .i .i64 mn, .i .i64 mx]]
   (.t [.inr (gDc (stD s n e inex ideal p r mx)), .inl (.i .i64 (stS n e f inex ideal p mn mx))]) := by
 obtain ⟨c1, c2, c3, c4, c5, c6, c7, c8⟩ := okCx_p hc
 have ten : (10 : Int).toNat = 10 := rfl
 have t0 : (1 : Int).toNat = 1 := rfl
 have hl := ds_65b (n := n) (by omega)
 obtain ⟨e1, e2⟩ := he
 obtain ⟨i1, i2⟩ := hi
 generalize hsg : (if f < mn then (2 : Int) else 0) + (if inex then 1 + (if f < mn then (4 : Int) else 0) else 0) = sg0
 have hsS : stS n e f inex ideal p mn mx = if stO n e inex ideal p mx then 9 else sg0 := by rw [← hsg]; rfl
 rw [hsS]
 have hq : stCE n e inex ideal p = (if p < (ds (if inex then (n, e) else twd (ideal - e).toNat n e).1 : Int) then ((if inex then (n, e) else twd (ideal - e).toNat n e).1 / 10, (if inex then (n, e) else twd (ideal - e).toNat n e).2 + 1) else (if inex then (n, e) else twd (ideal - e).toNat n e)) := rfl
 have hqb : ds (if inex then (n, e) else twd (ideal - e).toNat n e).1 ≤ 5000 ∧ -10000 ≤ (if inex then (n, e) else twd (ideal - e).toNat n e).2 ∧ (if inex then (n, e) else twd (ideal - e).toNat n e).2 ≤ 20000 := by
  cases inex
  ·simp only [Bool.false_eq_true, if_false]
   have w1 := (twd_le (ideal - e).toNat n e)
   have w2 := twd_exp (ideal - e).toNat n e
   have w3 := twd_len (ideal - e).toNat n e
   omega
  ·simp only [if_true]; omega
 generalize hQ : (if inex then (n, e) else twd (ideal - e).toNat n e) = Q at *
 have hO : stO n e inex ideal p mx ↔ (0 < (stCE n e inex ideal p).1 ∧ mx < (ds (stCE n e inex ideal p).1 : Int) - 1 + (stCE n e inex ideal p).2) := Iff.rfl
 unfold stD
 generalize hCE : stCE n e inex ideal p = CE at *
 obtain ⟨Cn, Ce⟩ := CE
 simp only at hO hq ⊢
 (refine q_H Tryz.func132 (fun F => ?_); simp only [q_z,q_y,Tryz.ntmps132,Tryz.results132])
 refine seq_cut4 (ι := Unit) (fun _ => ⟨124, [(0, .c (.b s)), (1, .c (.ints .i64 (dg 65536 n))), (2, .c (.i .i64 e)), (4, .c (.b inex)), (5, .c (.i .i64 ideal)), (13, .bx 0 0), (14, .bx 1 0), (16, .c (.i .i64 sg0))], ⟨[(1, z5), (0, cx4 p r mn mx)], [], []⟩, 2⟩) (fun Y hY => ?_) ?_
 ·by_cases hf : f < mn
  ·simp only [if_pos hf] at hsg
   cases inex
   ·simp only [Bool.false_eq_true, if_false] at hsg
    repeat' (first|(with_reducible first|apply q_a|apply q_b|apply q_c|apply q_d|apply q_e|apply q_f|apply q_g|apply q_h|apply q_i|apply q_j|apply q_k|apply q_m|apply q_n|apply q_o|apply q_p|refine q_l ?_)|((with_reducible first|refine q_q eba_ok fun K hK=>?_|refine q_r eba_ok fun K hK=>?_);simp (maxSteps:=2000000) only [go_sem,↓reduceIte,reduceCtorEq,Nat.reduceLeDiff,Nat.reduceLT,Nat.reduceBEq,Nat.reduceAdd];(repeat1' with_reducible first|apply And.intro|(intro _;try exact q_v)|(refine hK _ ?_;clear hK K))<;>(try (clear hK K;exact q_u)))|(with_reducible refine q_s ?_;(first|apply q_J|apply q_K|apply q_L|apply q_M|apply q_N|apply q_O)<;>try (intro _;try exact q_v))|with_reducible refine q_t ?_)
    all_goals first | omega | exact cut_fit hY () (by subst hsg; exact q_D) | skip
   ·simp only [if_true] at hsg
    repeat' (first|(with_reducible first|apply q_a|apply q_b|apply q_c|apply q_d|apply q_e|apply q_f|apply q_g|apply q_h|apply q_i|apply q_j|apply q_k|apply q_m|apply q_n|apply q_o|apply q_p|refine q_l ?_)|((with_reducible first|refine q_q eba_ok fun K hK=>?_|refine q_r eba_ok fun K hK=>?_);simp (maxSteps:=2000000) only [go_sem,↓reduceIte,reduceCtorEq,Nat.reduceLeDiff,Nat.reduceLT,Nat.reduceBEq,Nat.reduceAdd];(repeat1' with_reducible first|apply And.intro|(intro _;try exact q_v)|(refine hK _ ?_;clear hK K))<;>(try (clear hK K;exact q_u)))|(with_reducible refine q_s ?_;(first|apply q_J|apply q_K|apply q_L|apply q_M|apply q_N|apply q_O)<;>try (intro _;try exact q_v))|with_reducible refine q_t ?_)
    all_goals first | omega | exact cut_fit hY () (by subst hsg; exact q_D) | skip
  ·simp only [if_neg hf] at hsg
   cases inex
   ·simp only [Bool.false_eq_true, if_false] at hsg
    repeat' (first|(with_reducible first|apply q_a|apply q_b|apply q_c|apply q_d|apply q_e|apply q_f|apply q_g|apply q_h|apply q_i|apply q_j|apply q_k|apply q_m|apply q_n|apply q_o|apply q_p|refine q_l ?_)|((with_reducible first|refine q_q eba_ok fun K hK=>?_|refine q_r eba_ok fun K hK=>?_);simp (maxSteps:=2000000) only [go_sem,↓reduceIte,reduceCtorEq,Nat.reduceLeDiff,Nat.reduceLT,Nat.reduceBEq,Nat.reduceAdd];(repeat1' with_reducible first|apply And.intro|(intro _;try exact q_v)|(refine hK _ ?_;clear hK K))<;>(try (clear hK K;exact q_u)))|(with_reducible refine q_s ?_;(first|apply q_J|apply q_K|apply q_L|apply q_M|apply q_N|apply q_O)<;>try (intro _;try exact q_v))|with_reducible refine q_t ?_)
    all_goals first | omega | exact cut_fit hY () (by subst hsg; exact q_D) | skip
   ·simp only [if_true] at hsg
    repeat' (first|(with_reducible first|apply q_a|apply q_b|apply q_c|apply q_d|apply q_e|apply q_f|apply q_g|apply q_h|apply q_i|apply q_j|apply q_k|apply q_m|apply q_n|apply q_o|apply q_p|refine q_l ?_)|((with_reducible first|refine q_q eba_ok fun K hK=>?_|refine q_r eba_ok fun K hK=>?_);simp (maxSteps:=2000000) only [go_sem,↓reduceIte,reduceCtorEq,Nat.reduceLeDiff,Nat.reduceLT,Nat.reduceBEq,Nat.reduceAdd];(repeat1' with_reducible first|apply And.intro|(intro _;try exact q_v)|(refine hK _ ?_;clear hK K))<;>(try (clear hK K;exact q_u)))|(with_reducible refine q_s ?_;(first|apply q_J|apply q_K|apply q_L|apply q_M|apply q_N|apply q_O)<;>try (intro _;try exact q_v))|with_reducible refine q_t ?_)
    all_goals first | omega | exact cut_fit hY () (by subst hsg; exact q_D) | skip
 intro _
 clear hsg
 refine seq_join (ι := Unit) (fun _ => ⟨124, [(0, .c (.b s)), (1, .c (.ints .i64 (dg 65536 Q.1))), (2, .c (.i .i64 Q.2)), (13, .bx 0 0), (14, .bx 1 0), (16, .c (.i .i64 sg0))], ⟨[(1, z5), (0, cx4 p r mn mx)], [], []⟩, 2⟩) ?_ ?_
 ·with_reducible apply q_e
  refine q_G (ι := { q : Nat × Int // (if inex then q else twd (ideal - q.2).toNat q.1 q.2) = Q ∧ ds q.1 ≤ 5000 ∧ -10000 ≤ q.2 ∧ q.2 ≤ 20000 }) (fun q => ⟨124, [(0, .c (.b s)), (1, .c (.ints .i64 (dg 65536 q.1.1))), (2, .c (.i .i64 q.1.2)), (4, .c (.b inex)), (5, .c (.i .i64 ideal)), (13, .bx 0 0), (14, .bx 1 0), (16, .c (.i .i64 sg0))], ⟨[(1, z5), (0, cx4 p r mn mx)], [], []⟩, 2⟩) (fun q => (ideal - q.1.2).toNat) ⟨(n, e), hQ, hn, by simp only; omega, by simp only; omega⟩ ?_ ?_
  ·exact q_D
  clear hqb hq hO
  rintro ⟨⟨k, x⟩, g1, g2, g3, g4⟩
  simp only at g1 g2 g3 g4 ⊢
  have lk := ds_65b (n := k) (by omega)
  cases inex
  ·simp only [Bool.false_eq_true, if_false] at g1
   by_cases hx : x < ideal
   ·obtain ⟨j, hj⟩ : ∃ j, (ideal - x).toNat = j + 1 := ⟨(ideal - x).toNat - 1, by omega⟩
    have hj2 : (ideal - (x + 1)).toNat = j := by omega
    rw [hj] at g1
    have ht : twd (j + 1) k x = if k % 10 = 0 then twd j (k / 10) (x + 1) else (k, x) := rfl
    rw [ht] at g1
    by_cases hk : k % 10 = 0
    ·rw [if_pos hk] at g1
     have hd := ds_div10 k
     have hk2 : ((k % 10 : Nat) : Int) = 0 := by omega
     repeat' (first|(with_reducible first|apply q_a|apply q_b|apply q_c|apply q_d|apply q_e|apply q_f|apply q_g|apply q_h|apply q_i|apply q_j|apply q_k|apply q_m|apply q_n|apply q_o|apply q_p|refine q_l ?_)|((with_reducible first|refine q_q eba_ok fun K hK=>?_|refine q_r eba_ok fun K hK=>?_);simp (maxSteps:=2000000) only [go_sem,↓reduceIte,reduceCtorEq,Nat.reduceLeDiff,Nat.reduceLT,Nat.reduceBEq,Nat.reduceAdd,V65, ten, hk2];(repeat1' with_reducible first|apply And.intro|(intro _;try exact q_v)|(refine hK _ ?_;clear hK K))<;>(try (clear hK K;exact q_u)))|(with_reducible refine q_s ?_;(first|apply q_J|apply q_K|apply q_L|apply q_M|apply q_N|apply q_O)<;>try (intro _;try exact q_v))|with_reducible refine q_t ?_)
     all_goals first | omega | skip
     refine q_F ⟨(k / 10, x + 1), by simp only [Bool.false_eq_true, if_false]; rw [hj2]; exact g1, by simp only; omega, by simp only; omega, by simp only; omega⟩ ?_ (by simp only; omega)
     exact q_D
    ·rw [if_neg hk] at g1
     subst g1
     have hk2 : ¬ ((k % 10 : Nat) : Int) = 0 := by omega
     repeat' (first|(with_reducible first|apply q_a|apply q_b|apply q_c|apply q_d|apply q_e|apply q_f|apply q_g|apply q_h|apply q_i|apply q_j|apply q_k|apply q_m|apply q_n|apply q_o|apply q_p|refine q_l ?_)|((with_reducible first|refine q_q eba_ok fun K hK=>?_|refine q_r eba_ok fun K hK=>?_);simp (maxSteps:=2000000) only [go_sem,↓reduceIte,reduceCtorEq,Nat.reduceLeDiff,Nat.reduceLT,Nat.reduceBEq,Nat.reduceAdd,V65, ten];(repeat1' with_reducible first|apply And.intro|(intro _;try exact q_v)|(refine hK _ ?_;clear hK K))<;>(try (clear hK K;exact q_u)))|(with_reducible refine q_s ?_;(first|apply q_J|apply q_K|apply q_L|apply q_M|apply q_N|apply q_O)<;>try (intro _;try exact q_v))|with_reducible refine q_t ?_)
     all_goals first | omega | exact join_told () q_D | skip
   ·have hj : (ideal - x).toNat = 0 := by omega
    rw [hj] at g1
    have ht : twd 0 k x = (k, x) := rfl
    rw [ht] at g1
    subst g1
    repeat' (first|(with_reducible first|apply q_a|apply q_b|apply q_c|apply q_d|apply q_e|apply q_f|apply q_g|apply q_h|apply q_i|apply q_j|apply q_k|apply q_m|apply q_n|apply q_o|apply q_p|refine q_l ?_)|((with_reducible first|refine q_q eba_ok fun K hK=>?_|refine q_r eba_ok fun K hK=>?_);simp (maxSteps:=2000000) only [go_sem,↓reduceIte,reduceCtorEq,Nat.reduceLeDiff,Nat.reduceLT,Nat.reduceBEq,Nat.reduceAdd];(repeat1' with_reducible first|apply And.intro|(intro _;try exact q_v)|(refine hK _ ?_;clear hK K))<;>(try (clear hK K;exact q_u)))|(with_reducible refine q_s ?_;(first|apply q_J|apply q_K|apply q_L|apply q_M|apply q_N|apply q_O)<;>try (intro _;try exact q_v))|with_reducible refine q_t ?_)
    all_goals first | omega | exact join_told () q_D | skip
  ·simp only [if_true] at g1
   subst g1
   repeat' (first|(with_reducible first|apply q_a|apply q_b|apply q_c|apply q_d|apply q_e|apply q_f|apply q_g|apply q_h|apply q_i|apply q_j|apply q_k|apply q_m|apply q_n|apply q_o|apply q_p|refine q_l ?_)|((with_reducible first|refine q_q eba_ok fun K hK=>?_|refine q_r eba_ok fun K hK=>?_);simp (maxSteps:=2000000) only [go_sem,↓reduceIte,reduceCtorEq,Nat.reduceLeDiff,Nat.reduceLT,Nat.reduceBEq,Nat.reduceAdd];(repeat1' with_reducible first|apply And.intro|(intro _;try exact q_v)|(refine hK _ ?_;clear hK K))<;>(try (clear hK K;exact q_u)))|(with_reducible refine q_s ?_;(first|apply q_J|apply q_K|apply q_L|apply q_M|apply q_N|apply q_O)<;>try (intro _;try exact q_v))|with_reducible refine q_t ?_)
   all_goals first | omega | exact join_told () q_D | skip
 intro _
 clear hQ
 obtain ⟨Qn, Qe⟩ := Q
 simp only at hq hqb ⊢
 obtain ⟨qb1, qb2, qb3⟩ := hqb
 have lq := ds_65b (n := Qn) (by omega)
 have hd10 := ds_div10 Qn
 refine seq_join (ι := Unit) (fun _ => ⟨124, [(0, .c (.b s)), (1, .c (.ints .i64 (dg 65536 Cn))), (2, .c (.i .i64 Ce)), (13, .bx 0 0), (14, .bx 1 0), (16, .c (.i .i64 sg0))], ⟨[(1, z5), (0, cx4 p r mn mx)], [], []⟩, 2⟩) ?_ ?_
 ·by_cases hl : p < (ds Qn : Int)
  ·rw [if_pos hl] at hq
   obtain ⟨rfl, rfl⟩ := Prod.mk.inj hq
   repeat' (first|(with_reducible first|apply q_a|apply q_b|apply q_c|apply q_d|apply q_e|apply q_f|apply q_g|apply q_h|apply q_i|apply q_j|apply q_k|apply q_m|apply q_n|apply q_o|apply q_p|refine q_l ?_)|((with_reducible first|refine q_q eba_ok fun K hK=>?_|refine q_r eba_ok fun K hK=>?_);simp (maxSteps:=2000000) only [go_sem,↓reduceIte,reduceCtorEq,Nat.reduceLeDiff,Nat.reduceLT,Nat.reduceBEq,Nat.reduceAdd,V65, ten, fig_len];(repeat1' with_reducible first|apply And.intro|(intro _;try exact q_v)|(refine hK _ ?_;clear hK K))<;>(try (clear hK K;exact q_u)))|(with_reducible refine q_s ?_;(first|apply q_J|apply q_K|apply q_L|apply q_M|apply q_N|apply q_O)<;>try (intro _;try exact q_v))|with_reducible refine q_t ?_)
   all_goals first | omega | exact join_told () q_D | skip
  ·rw [if_neg hl] at hq
   obtain ⟨rfl, rfl⟩ := Prod.mk.inj hq
   repeat' (first|(with_reducible first|apply q_a|apply q_b|apply q_c|apply q_d|apply q_e|apply q_f|apply q_g|apply q_h|apply q_i|apply q_j|apply q_k|apply q_m|apply q_n|apply q_o|apply q_p|refine q_l ?_)|((with_reducible first|refine q_q eba_ok fun K hK=>?_|refine q_r eba_ok fun K hK=>?_);simp (maxSteps:=2000000) only [go_sem,↓reduceIte,reduceCtorEq,Nat.reduceLeDiff,Nat.reduceLT,Nat.reduceBEq,Nat.reduceAdd,V65, ten, fig_len];(repeat1' with_reducible first|apply And.intro|(intro _;try exact q_v)|(refine hK _ ?_;clear hK K))<;>(try (clear hK K;exact q_u)))|(with_reducible refine q_s ?_;(first|apply q_J|apply q_K|apply q_L|apply q_M|apply q_N|apply q_O)<;>try (intro _;try exact q_v))|with_reducible refine q_t ?_)
   all_goals first | omega | exact join_told () q_D | skip
 intro _
 have hcb : ds Cn ≤ 5000 ∧ -10000 ≤ Ce ∧ Ce ≤ 20001 := by
  split at hq
  ·obtain ⟨rfl, rfl⟩ := Prod.mk.inj hq; omega
  ·obtain ⟨rfl, rfl⟩ := Prod.mk.inj hq; omega
 clear hq
 obtain ⟨cb1, cb2, cb3⟩ := hcb
 have lc := ds_65b (n := Cn) (by omega)
 have hd0 := ds_pos (n := Cn)
 by_cases ho : stO n e inex ideal p mx
 ·obtain ⟨o1, o2⟩ := hO.1 ho
  rw [if_pos ho, if_pos ho]
  have o3 := hd0.2 o1
  have p0 : 10 ^ p.toNat - 1 ≤ 10 ^ p.toNat := Nat.sub_le _ _
  have l10 := ds_65b (n := 10 ^ p.toNat) (by rw [ds_ten]; omega)
  have l11 := Nat.le_trans (dg_len_mono (B := 65536) (by omega) p0) l10
  have d1 : (dg 65536 1).length ≤ 1 := by decide
  have p1 : 1 ≤ 10 ^ p.toNat := Nat.pow_pos (by omega)
  have hr : r = 0 ∨ r = 1 ∨ r = 2 ∨ r = 3 ∨ r = 4 ∨ r = 5 ∨ r = 6 := by omega
  clear hO hd0
  have cases2 : ∀ b : Bool, awayB r s true 1 = b → ovf s p r mx = if b = true then ⟨1, s, 0, 0⟩ else ⟨0, s, 10 ^ p.toNat - 1, mx - p + 1⟩ := fun b hb => by unfold ovf; rw [hb]
  rcases hr with rfl | rfl | rfl | rfl | rfl | rfl | rfl <;> cases s
  all_goals
   first
   | (rw [cases2 true rfl, if_pos rfl]; clear cases2)
   | (rw [cases2 false rfl, if_neg Bool.false_ne_true]; clear cases2)
  all_goals
   generalize hT : 10 ^ p.toNat = T at *
   repeat' (first|(with_reducible first|apply q_a|apply q_b|apply q_c|apply q_d|apply q_e|apply q_f|apply q_g|apply q_h|apply q_i|apply q_j|apply q_k|apply q_m|apply q_n|apply q_o|apply q_p|refine q_l ?_)|((with_reducible first|refine q_q eba_ok fun K hK=>?_|refine q_r eba_ok fun K hK=>?_);simp (maxSteps:=2000000) only [go_sem,↓reduceIte,reduceCtorEq,Nat.reduceLeDiff,Nat.reduceLT,Nat.reduceBEq,Nat.reduceAdd,V65, ten, t0, fig_len, hT];(repeat1' with_reducible first|apply And.intro|(intro _;try exact q_v)|(refine hK _ ?_;clear hK K))<;>(try (clear hK K;exact q_u)))|(with_reducible refine q_s ?_;(first|apply q_J|apply q_K|apply q_L|apply q_M|apply q_N|apply q_O)<;>try (intro _;try exact q_v))|with_reducible refine q_t ?_)
   all_goals first | omega | assumption | exact q_A rfl | skip
 ·rw [if_neg ho, if_neg ho]
  have ho' : ¬ (0 < Cn ∧ mx < (ds Cn : Int) - 1 + Ce) := fun h => ho (hO.2 h)
  clear hO
  by_cases hc0 : 0 < Cn
  ·have o3 := hd0.2 hc0
   repeat' (first|(with_reducible first|apply q_a|apply q_b|apply q_c|apply q_d|apply q_e|apply q_f|apply q_g|apply q_h|apply q_i|apply q_j|apply q_k|apply q_m|apply q_n|apply q_o|apply q_p|refine q_l ?_)|((with_reducible first|refine q_q eba_ok fun K hK=>?_|refine q_r eba_ok fun K hK=>?_);simp (maxSteps:=2000000) only [go_sem,↓reduceIte,reduceCtorEq,Nat.reduceLeDiff,Nat.reduceLT,Nat.reduceBEq,Nat.reduceAdd,V65, ten, fig_len];(repeat1' with_reducible first|apply And.intro|(intro _;try exact q_v)|(refine hK _ ?_;clear hK K))<;>(try (clear hK K;exact q_u)))|(with_reducible refine q_s ?_;(first|apply q_J|apply q_K|apply q_L|apply q_M|apply q_N|apply q_O)<;>try (intro _;try exact q_v))|with_reducible refine q_t ?_)
   all_goals first | omega | assumption | exact q_A rfl | skip
  ·have o3 : ds Cn = 0 := by omega
   repeat' (first|(with_reducible first|apply q_a|apply q_b|apply q_c|apply q_d|apply q_e|apply q_f|apply q_g|apply q_h|apply q_i|apply q_j|apply q_k|apply q_m|apply q_n|apply q_o|apply q_p|refine q_l ?_)|((with_reducible first|refine q_q eba_ok fun K hK=>?_|refine q_r eba_ok fun K hK=>?_);simp (maxSteps:=2000000) only [go_sem,↓reduceIte,reduceCtorEq,Nat.reduceLeDiff,Nat.reduceLT,Nat.reduceBEq,Nat.reduceAdd,V65, ten, fig_len];(repeat1' with_reducible first|apply And.intro|(intro _;try exact q_v)|(refine hK _ ?_;clear hK K))<;>(try (clear hK K;exact q_u)))|(with_reducible refine q_s ?_;(first|apply q_J|apply q_K|apply q_L|apply q_M|apply q_N|apply q_O)<;>try (intro _;try exact q_v))|with_reducible refine q_t ?_)
   all_goals first | omega | assumption | exact q_A rfl | skip
def settleCT : CT := mkCT [.inl none, .inl (some (.ints .i64 []))] false fun l K => match l with
 | [.inl (.b s), .inl (.ints .i64 xs), .inl (.i .i64 e), .inl (.i .i64 f), .inl (.b inex), .inl (.i .i64 ideal), .inr [.i .i64 p, .i .i64 r, .i .i64 mn, .i .i64 mx]] =>
   (InB 65536 xs ∧ Trd xs ∧ ds (V 65536 xs) ≤ 5000 ∧ (-10000 ≤ e ∧ e ≤ 10000) ∧ (-10000 ≤ ideal ∧ ideal ≤ 10000) ∧ okCx p r mn mx = true) ∧
   K (.t [.inr (gDc (stD s (V 65536 xs) e inex ideal p r mx)), .inl (.i .i64 (stS (V 65536 xs) e f inex ideal p mn mx))])
 | _ => False
def es9 : Cfg := addT 132 settleCT cf0
theorem es9_ok : TblOk Tryz.prog es9 := q_I cf0_ok Tryz.func132 fun l K h => by
 split at h
 ·rename_i s xs e f inex ideal p r mn mx
  obtain ⟨⟨h1, h2, h3, h4, h5, h6⟩, h⟩ := h
  have e1 := dg_V 65536 (by omega) xs h1 h2
  have := settle_ret s (V 65536 xs) e f inex ideal p r mn mx h3 h4 h5 h6
  rw [e1] at this
  exact ⟨_, this, h⟩
 ·exact h.elim
attribute [go_sem] settleCT
end Go.Proofs.YtgkajjifbcmoeaaGreatDoor
