import Derived.Test.YtgkajjifbcmoeaaGreatDoorM42
import Derived.Test.YtgkajjifbcmoeaaGreatDoorM43
namespace Go.Proofs.NatL
set_option linter.unusedSimpArgs false
set_option linter.unusedVariables false
theorem rem_len {A B : Dc} (hA : OkD A) (hB : OkD B) (h : 0 < B.coef) : ds (A.coef * 10 ^ (A.exp - min A.exp B.exp).toNat) ≤ 2520 ∧ ds (B.coef * 10 ^ (B.exp - min A.exp B.exp).toNat) ≤ 2520 ∧ 0 < B.coef * 10 ^ (B.exp - min A.exp B.exp).toNat ∧ ds (remN A B) ≤ 2520:=by
 obtain ⟨a1,a2,a3⟩:=okd_exp hA
 obtain ⟨b1,b2,b3⟩:=okd_exp hB
 have h1 : ds (A.coef * 10 ^ (A.exp - min A.exp B.exp).toNat) ≤ 2520:=ds_mul10 (by omega)
 refine ⟨h1,ds_mul10 (by omega),Nat.mul_pos h (Nat.pow_pos (by omega)),?_⟩
 exact ds_le_of_le (Nat.mod_le _ _) h1
theorem PF_rem {A B : Dc} (hA : OkD A) (hB : OkD B) (h : 0 < B.coef) : PF (remN A B) 1 (min A.exp B.exp):=by
 obtain ⟨a1,a2,a3⟩:=okd_exp hA
 obtain ⟨b1,b2,b3⟩:=okd_exp hB
 obtain ⟨_,_,_,h4⟩:=rem_len hA hB h
 have:=one_ds
 exact ⟨by omega,by omega,by omega,by omega,by omega⟩
end Go.Proofs.NatL
namespace Go.Proofs.YtgkajjifbcmoeaaGreatDoor
set_option linter.unusedSimpArgs false
set_option linter.unusedVariables false
open Go.Abs Go.Proofs.NatL

set_option maxHeartbeats 3200000 in
theorem dRem_ok (A B : Dc) (c : Cx) (hA : OkD A) (hB : OkD B) (hc : OkC c) : Ret Tryz.prog 37 false [.inr (gDc A),.inr (gDc B),.inr (gCx c)] (rDS (remD A B c) (remS A B c)):=by
 have o0:=okCx_c hc
 have e1 : ([1] : List Int) = dg 4294967296 1:=rfl
 have o1:=okD_g hA
 have o2:=okD_g hB
 have ka:=OkD_kind hA
 have kb:=OkD_kind hB
 obtain ⟨a1,a2,a3⟩:=okd_exp hA
 obtain ⟨b1,b2,b3⟩:=okd_exp hB
 have l1:=coef_len a1
 have l2:=coef_len b1
 have hP1:=PF_one a1 ⟨a2,a3⟩
 have hP:=fun h=>PF_rem hA hB h
 have hL:=fun h=>rem_len hA hB h
 have z1:=dg_nil_iff A.coef
 have z2:=dg_nil_iff B.coef
 have hR : remN A B = (A.coef * 10 ^ (A.exp - min A.exp B.exp).toNat) % (B.coef * 10 ^ (B.exp - min A.exp B.exp).toNat):=rfl
 unfold remD remS
 generalize hN : remN A B = N at *
 obtain ⟨k,s,m,e⟩:=A
 obtain ⟨l,t,n,f⟩:=B
 obtain ⟨p,r,mn,mx⟩:=c
 simp only at o0 o1 o2 ka kb a1 a2 a3 b1 b2 b3 l1 l2 hP hP1 hL hR z1 z2 ⊢
 clear hA hB hc hN
 by_cases h1 : k = 2 ∨ l = 2
 ·rw [if_pos h1,if_pos h1]
  clear hP hL hR hP1
  (refine q_H Tryz.func37 (fun F=>?_); simp only [q_z,q_y,Tryz.ntmps37,Tryz.results37])
  repeat' (first|(with_reducible first|apply q_a|apply q_b|apply q_c|apply q_d|apply q_e|apply q_f|apply q_g|apply q_h|apply q_i|apply q_j|apply q_k|apply q_m|apply q_n|apply q_o|apply q_p|refine q_l ?_)|((with_reducible first|refine q_q dba_ok fun K hK=>?_|refine q_r dba_ok fun K hK=>?_);simp (maxSteps:=2000000) only [go_sem,↓reduceIte,reduceCtorEq,Nat.reduceLeDiff,Nat.reduceLT,Nat.reduceBEq,Nat.reduceAdd,o0,o1,o2,e1,V32];(repeat1' with_reducible first|apply And.intro|(intro _;try exact q_v)|(refine hK _ ?_;clear hK K))<;>(try (clear hK K;exact q_u)))|(with_reducible refine q_s ?_;(first|apply q_J|apply q_K|apply q_L|apply q_M|apply q_N|apply q_O)<;>try (intro _;try exact q_v))|with_reducible refine q_t ?_)
  all_goals first | omega | assumption | exact q_A rfl | skip
 rw [if_neg h1,if_neg h1]
 by_cases h2 : k = 1 ∨ (l = 0 ∧ n = 0)
 ·rw [if_pos h2,if_pos h2]
  clear hP hL hR hP1
  (refine q_H Tryz.func37 (fun F=>?_); simp only [q_z,q_y,Tryz.ntmps37,Tryz.results37])
  repeat' (first|(with_reducible first|apply q_a|apply q_b|apply q_c|apply q_d|apply q_e|apply q_f|apply q_g|apply q_h|apply q_i|apply q_j|apply q_k|apply q_m|apply q_n|apply q_o|apply q_p|refine q_l ?_)|((with_reducible first|refine q_q dba_ok fun K hK=>?_|refine q_r dba_ok fun K hK=>?_);simp (maxSteps:=2000000) only [go_sem,↓reduceIte,reduceCtorEq,Nat.reduceLeDiff,Nat.reduceLT,Nat.reduceBEq,Nat.reduceAdd,o0,o1,o2,e1,V32];(repeat1' with_reducible first|apply And.intro|(intro _;try exact q_v)|(refine hK _ ?_;clear hK K))<;>(try (clear hK K;exact q_u)))|(with_reducible refine q_s ?_;(first|apply q_J|apply q_K|apply q_L|apply q_M|apply q_N|apply q_O)<;>try (intro _;try exact q_v))|with_reducible refine q_t ?_)
  all_goals first | omega | assumption | exact q_A rfl | skip
 rw [if_neg h2,if_neg h2]
 by_cases h4 : l = 1
 ·rw [if_pos h4,if_pos h4]
  clear hP hL hR
  (refine q_H Tryz.func37 (fun F=>?_); simp only [q_z,q_y,Tryz.ntmps37,Tryz.results37])
  repeat' (first|(with_reducible first|apply q_a|apply q_b|apply q_c|apply q_d|apply q_e|apply q_f|apply q_g|apply q_h|apply q_i|apply q_j|apply q_k|apply q_m|apply q_n|apply q_o|apply q_p|refine q_l ?_)|((with_reducible first|refine q_q dba_ok fun K hK=>?_|refine q_r dba_ok fun K hK=>?_);simp (maxSteps:=2000000) only [go_sem,↓reduceIte,reduceCtorEq,Nat.reduceLeDiff,Nat.reduceLT,Nat.reduceBEq,Nat.reduceAdd,o0,o1,o2,e1,V32];(repeat1' with_reducible first|apply And.intro|(intro _;try exact q_v)|(refine hK _ ?_;clear hK K))<;>(try (clear hK K;exact q_u)))|(with_reducible refine q_s ?_;(first|apply q_J|apply q_K|apply q_L|apply q_M|apply q_N|apply q_O)<;>try (intro _;try exact q_v))|with_reducible refine q_t ?_)
  all_goals first | omega | assumption | exact q_A rfl | skip
 rw [if_neg h4,if_neg h4]
 have hP:=hP (by omega)
 obtain ⟨q1,q2,q3,q4⟩:=hL (by omega)
 have k0 : k = 0:=by omega
 have l0 : l = 0:=by omega
 subst k0 l0
 have q5:=ds_600 (n:=m * 10 ^ (e - min e f).toNat) (by omega)
 have q6:=ds_600 (n:=n * 10 ^ (f - min e f).toNat) (by omega)
 have j1 : 0 ≤ e - min e f ∧ e - min e f < 4096:=by omega
 have j2 : 0 ≤ f - min e f ∧ f - min e f < 4096:=by omega
 obtain ⟨j1,j3⟩:=j1
 obtain ⟨j2,j4⟩:=j2
 have w1 : min e f ≤ 1200 ∧ -1200 ≤ min e f:=by omega
 obtain ⟨w1,w2⟩:=w1
 generalize hM : m * 10 ^ (e - min e f).toNat = M at *
 generalize hM2 : n * 10 ^ (f - min e f).toNat = M2 at *
 generalize hX : min e f = X at *
 have hR:=hR.symm
 (refine q_H Tryz.func37 (fun F=>?_); simp only [q_z,q_y,Tryz.ntmps37,Tryz.results37])
 repeat' (first|(with_reducible first|apply q_a|apply q_b|apply q_c|apply q_d|apply q_e|apply q_f|apply q_g|apply q_h|apply q_i|apply q_j|apply q_k|apply q_m|apply q_n|apply q_o|apply q_p|refine q_l ?_)|((with_reducible first|refine q_q dba_ok fun K hK=>?_|refine q_r dba_ok fun K hK=>?_);simp (maxSteps:=2000000) only [go_sem,↓reduceIte,reduceCtorEq,Nat.reduceLeDiff,Nat.reduceLT,Nat.reduceBEq,Nat.reduceAdd,o0,o1,o2,e1,V32,hX,hM,hM2,hR];(repeat1' with_reducible first|apply And.intro|(intro _;try exact q_v)|(refine hK _ ?_;clear hK K))<;>(try (clear hK K;exact q_u)))|(with_reducible refine q_s ?_;(first|apply q_J|apply q_K|apply q_L|apply q_M|apply q_N|apply q_O)<;>try (intro _;try exact q_v))|with_reducible refine q_t ?_)
 all_goals first | omega | assumption | exact q_A rfl | skip
def dg5x : Cfg:=addT 37 (op2CT remD remS) cf0
theorem dg5x_ok : TblOk Tryz.prog dg5x:=q_I cf0_ok Tryz.func37 fun l K h =>
 op2_tr (f:=remD) (g:=remS) (fun A B c hA hB hc=>dRem_ok A B c hA hB hc) (fun k l s t a b xs ys e e' p r mn mx h1 h2 h3 h4=>dRem_bad k l s t a b xs ys e e' p r mn mx h1 h2 h3 h4) l K h
end Go.Proofs.YtgkajjifbcmoeaaGreatDoor
