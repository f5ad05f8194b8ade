import Derived.Test.YtgkajjifbcmoeaaGreatDoorM69
import Derived.Test.YtgkajjifbcmoeaaGreatDoorM70
namespace Go.Proofs.NatL
set_option linter.unusedSimpArgs false
set_option linter.unusedVariables false
theorem sp_one {D : Dc} (h : OkD D) (hk : D.kind ≠ 0) : spD D d00 = D ∧ spS D d00 = 0:=by
 obtain ⟨k,s,m,e⟩:=D
 unfold spD spS dNone dInf d00
 rcases h with ⟨a1,_⟩ | ⟨a1,a2,a3⟩ | ⟨a1,a2,a3,a4⟩ <;> simp only at * <;> subst_vars <;> first | omega | simp
end Go.Proofs.NatL
namespace Go.Proofs.YtgkajjifbcmoeaaGreatDoor
set_option linter.unusedSimpArgs false
set_option linter.unusedVariables false
open Go.Abs Go.Proofs.NatL

def ebq : Cfg:=listT [(140,(dR2CT odD odS)),(142,rproductCT),(67,valueCT),(115,leastCT),(141,rsumCT),(64,rfitCT)] [34]
theorem ebq_ok : TblOk Tryz.prog ebq:=listE_ok (by simp only [List.mem_singleton,forall_eq]; exact flt) ⟨⟨et6,et6_ok,rfl⟩,⟨et8,et8_ok,rfl⟩,⟨es1,es1_ok,rfl⟩,⟨es6,es6_ok,rfl⟩,⟨es8,es8_ok,rfl⟩,⟨es10,es10_ok,rfl⟩,trivial⟩
attribute [go_sem] ebq
set_option maxRecDepth 100000 in
set_option maxHeartbeats 6400000 in
theorem rFused_ok (A B D : Dc) (c : Cx) (hA : OkD A) (hB : OkD B) (hD : OkD D) (hc : OkC c) : Ret Tryz.prog 61 false [.inr (gDc A),.inr (gDc B),.inr (gDc D),.inr (gCx c)] (rDI (fmaD A B D c) (fmaS A B D c)):=by
 have o0:=okCx_c hc
 have o1:=okD_g hA
 have o2:=okD_g hB
 have o3:=okD_g hD
 obtain ⟨a1,a2,a3⟩:=okd_exp hA
 obtain ⟨b1,b2,b3⟩:=okd_exp hB
 obtain ⟨d1,d2,d3⟩:=okd_exp hD
 have l1:=coef_len a1
 have l2:=coef_len b1
 have l3:=coef_len d1
 have hs:=smP_mul hA hB hD
 have hP:=PF_sum (s:=A.neg != B.neg) (t:=D.neg) hs
 have w:=sumZ_len (s:=A.neg != B.neg) (t:=D.neg) hs
 obtain ⟨hE,hk⟩:=en_ok A B
 have o4:=okD_g hE
 have hod:=odd_sp hE hD (.inl hk)
 have e0:=okd_exp hE
 have hone:=fun h=>sp_one hD h
 have hm:=ds_mul a1 b1
 unfold fmaD fmaS
 generalize hEn : enD A B = E at *
 generalize hSn : enS A B = S at *
 obtain ⟨k,s,m,e⟩:=A
 obtain ⟨l,t,n,f⟩:=B
 obtain ⟨k3,s3,m3,e3⟩:=D
 obtain ⟨k4,s4,m4,e4⟩:=E
 obtain ⟨p,r,mn,mx⟩:=c
 simp only at o0 o1 o2 o3 o4 a1 a2 a3 b1 b2 b3 d1 d2 d3 l1 l2 l3 hs hP w hod hk hone hm e0 ⊢
 clear hA hB hc hD hE
 have t0 : (1 : Int).toNat = 1:=rfl
 by_cases h : k = 0 ∧ l = 0
 ·have h' : ¬ (k ≠ 0 ∨ l ≠ 0):=by omega
  rw [if_neg h',if_neg h']
  clear h' hEn hSn hod o4 e0 hk
  obtain ⟨rfl,rfl⟩:=h
  by_cases h3 : k3 = 0
  ·subst h3
   simp only [ne_eq,not_true_eq_false,if_false]
   clear hone
   have e1 : flr ⟨p,r,mn,mx⟩ = decide (r = 2):=rfl
   rw [e1]
   clear e1
   have w1 : -2400 ≤ min (e + f) e3 ∧ min (e + f) e3 ≤ 1200:=by omega
   obtain ⟨w1,w2⟩:=w1
   have l5:=ds_65b (n:=m * n) (by omega)
   generalize hX : min (e + f) e3 = X at *
   generalize hN : m * n = N at *
   generalize hF : e + f = F0 at *
   (refine q_H Tryz.func61 (fun F=>?_); simp only [q_z,q_y,Tryz.ntmps61,Tryz.results61])
   repeat' (first|(with_reducible first|apply q_a|apply q_b|apply q_c|apply q_d|apply q_e|apply q_f|apply q_g|apply q_h|apply q_i|apply q_j|apply q_k|apply q_m|apply q_n|apply q_o|apply q_p|refine q_l ?_)|((with_reducible first|refine q_q ebq_ok fun K hK=>?_|refine q_r ebq_ok fun K hK=>?_);simp (maxSteps:=2000000) only [go_sem,↓reduceIte,reduceCtorEq,Nat.reduceLeDiff,Nat.reduceLT,Nat.reduceBEq,Nat.reduceAdd,o0,o1,o2,o3,V32,V65,t0,hX,hN,hF];(repeat1' with_reducible first|apply And.intro|(intro _;try exact q_v)|(refine hK _ ?_;clear hK K))<;>(try (clear hK K;exact q_u)))|(with_reducible refine q_s ?_;(first|apply q_J|apply q_K|apply q_L|apply q_M|apply q_N|apply q_O)<;>try (intro _;try exact q_v))|with_reducible refine q_t ?_)
   all_goals first | omega | assumption | exact q_A rfl | skip
  ·rw [if_pos h3,if_pos h3]
   obtain ⟨q1,q2⟩:=hone h3
   rw [q1,q2]
   clear hs hP w hone q1 q2
   (refine q_H Tryz.func61 (fun F=>?_); simp only [q_z,q_y,Tryz.ntmps61,Tryz.results61])
   repeat' (first|(with_reducible first|apply q_a|apply q_b|apply q_c|apply q_d|apply q_e|apply q_f|apply q_g|apply q_h|apply q_i|apply q_j|apply q_k|apply q_m|apply q_n|apply q_o|apply q_p|refine q_l ?_)|((with_reducible first|refine q_q ebq_ok fun K hK=>?_|refine q_r ebq_ok fun K hK=>?_);simp (maxSteps:=2000000) only [go_sem,↓reduceIte,reduceCtorEq,Nat.reduceLeDiff,Nat.reduceLT,Nat.reduceBEq,Nat.reduceAdd,o0,o1,o2,o3,V32,V65,t0];(repeat1' with_reducible first|apply And.intro|(intro _;try exact q_v)|(refine hK _ ?_;clear hK K))<;>(try (clear hK K;exact q_u)))|(with_reducible refine q_s ?_;(first|apply q_J|apply q_K|apply q_L|apply q_M|apply q_N|apply q_O)<;>try (intro _;try exact q_v))|with_reducible refine q_t ?_)
   all_goals first | omega | assumption | exact q_A rfl | skip
 ·have h' : k ≠ 0 ∨ l ≠ 0:=by omega
  rw [if_pos h',if_pos h']
  clear hs hP w hone hm
  by_cases h4 : S = 0
  ·rw [if_pos h4,if_pos h4,← hod.1,← hod.2]
   subst h4
   clear hod
   obtain ⟨e01,e02,e03⟩:=e0
   have l4:=coef_len e01
   (refine q_H Tryz.func61 (fun F=>?_); simp only [q_z,q_y,Tryz.ntmps61,Tryz.results61])
   repeat' (first|(with_reducible first|apply q_a|apply q_b|apply q_c|apply q_d|apply q_e|apply q_f|apply q_g|apply q_h|apply q_i|apply q_j|apply q_k|apply q_m|apply q_n|apply q_o|apply q_p|refine q_l ?_)|((with_reducible first|refine q_q ebq_ok fun K hK=>?_|refine q_r ebq_ok fun K hK=>?_);simp (maxSteps:=2000000) only [go_sem,↓reduceIte,reduceCtorEq,Nat.reduceLeDiff,Nat.reduceLT,Nat.reduceBEq,Nat.reduceAdd,o0,o1,o2,o3,o4,V32,V65,h,hEn,hSn];(repeat1' with_reducible first|apply And.intro|(intro _;try exact q_v)|(refine hK _ ?_;clear hK K))<;>(try (clear hK K;exact q_u)))|(with_reducible refine q_s ?_;(first|apply q_J|apply q_K|apply q_L|apply q_M|apply q_N|apply q_O)<;>try (intro _;try exact q_v))|with_reducible refine q_t ?_)
   all_goals first | omega | assumption | exact q_A rfl | skip
  ·rw [if_neg h4,if_neg h4]
   clear hod
   (refine q_H Tryz.func61 (fun F=>?_); simp only [q_z,q_y,Tryz.ntmps61,Tryz.results61])
   repeat' (first|(with_reducible first|apply q_a|apply q_b|apply q_c|apply q_d|apply q_e|apply q_f|apply q_g|apply q_h|apply q_i|apply q_j|apply q_k|apply q_m|apply q_n|apply q_o|apply q_p|refine q_l ?_)|((with_reducible first|refine q_q ebq_ok fun K hK=>?_|refine q_r ebq_ok fun K hK=>?_);simp (maxSteps:=2000000) only [go_sem,↓reduceIte,reduceCtorEq,Nat.reduceLeDiff,Nat.reduceLT,Nat.reduceBEq,Nat.reduceAdd,o0,o1,o2,o3,o4,V32,V65,h,hEn,hSn];(repeat1' with_reducible first|apply And.intro|(intro _;try exact q_v)|(refine hK _ ?_;clear hK K))<;>(try (clear hK K;exact q_u)))|(with_reducible refine q_s ?_;(first|apply q_J|apply q_K|apply q_L|apply q_M|apply q_N|apply q_O)<;>try (intro _;try exact q_v))|with_reducible refine q_t ?_)
   all_goals first | omega | assumption | exact q_A rfl | skip
def opR3CT (f : Dc → Dc → Dc → Cx → Dc) (g : Dc → Dc → Dc → Cx → Int) : CT:=mkCT [nDc,nDc,nDc,nC] false fun l K=>match l with
 | [.inr [.i .i64 k,.b s,.b a,.ints .u32 xs,.i .i64 e],.inr [.i .i64 l,.b t,.b b,.ints .u32 ys,.i .i64 e'],.inr [.i .i64 k3,.b s3,.b a3,.ints .u32 zs,.i .i64 e3],.inr [.i .i64 p,.i .i64 r,.i .i64 mn,.i .i64 mx]] =>
   (InB 4294967296 xs ∧ InB 4294967296 ys ∧ InB 4294967296 zs ∧ okD k s a xs e = true ∧ okD l t b ys e' = true ∧ okD k3 s3 a3 zs e3 = true ∧ okCx p r mn mx = true) ∧
   K (rDI (f ⟨k,s,V 4294967296 xs,e⟩ ⟨l,t,V 4294967296 ys,e'⟩ ⟨k3,s3,V 4294967296 zs,e3⟩ ⟨p,r,mn,mx⟩) (g ⟨k,s,V 4294967296 xs,e⟩ ⟨l,t,V 4294967296 ys,e'⟩ ⟨k3,s3,V 4294967296 zs,e3⟩ ⟨p,r,mn,mx⟩))
 | _=>False
def et11 : Cfg:=addT 61 (opR3CT fmaD fmaS) cf0
theorem et11_ok : TblOk Tryz.prog et11:=q_I cf0_ok Tryz.func61 fun l K hk=>by
 split at hk
 ·rename_i k s a xs e l t b ys e' k3 s3 a3 zs e3 p r mn mx
  obtain ⟨⟨h1,h2,h3,o1,o2,o3,o0⟩,h⟩:=hk
  obtain ⟨e1,r1⟩:=gDc_of o1 h1
  obtain ⟨e2,r2⟩:=gDc_of o2 h2
  obtain ⟨e4,r3⟩:=gDc_of o3 h3
  rw [e1,e2,e4]
  exact ⟨_,rFused_ok _ _ _ ⟨p,r,mn,mx⟩ r1 r2 r3 (OkC_b o0),h⟩
 ·exact hk.elim
attribute [go_sem] opR3CT
end Go.Proofs.YtgkajjifbcmoeaaGreatDoor
