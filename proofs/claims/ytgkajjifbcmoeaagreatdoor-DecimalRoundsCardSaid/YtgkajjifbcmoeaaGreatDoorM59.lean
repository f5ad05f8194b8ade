import Derived.Test.YtgkajjifbcmoeaaGreatDoorM52
import Derived.Test.YtgkajjifbcmoeaaGreatDoorM58
namespace Go.Proofs.YtgkajjifbcmoeaaGreatDoor
set_option linter.unusedSimpArgs false
set_option linter.unusedVariables false
open Go.Abs Go.Proofs.NatL

def opR1CT (f : Dc → Cx → Dc) (g : Dc → Cx → Int) : CT:=mkCT [nDc,nC] false fun l K=>match l with
 | [.inr [.i .i64 k,.b s,.b a,.ints .u32 xs,.i .i64 e],.inr [.i .i64 p,.i .i64 r,.i .i64 mn,.i .i64 mx]] =>
   (InB 4294967296 xs ∧ okD k s a xs e = true ∧ okCx p r mn mx = true) ∧
   K (rDI (f ⟨k,s,V 4294967296 xs,e⟩ ⟨p,r,mn,mx⟩) (g ⟨k,s,V 4294967296 xs,e⟩ ⟨p,r,mn,mx⟩))
 | _=>False
def ebl : Cfg:=listT [(67,valueCT),(64,rfitCT)] [34]
theorem ebl_ok : TblOk Tryz.prog ebl:=listE_ok (by simp only [List.mem_singleton,forall_eq]; exact flt) ⟨⟨es1,es1_ok,rfl⟩,⟨es10,es10_ok,rfl⟩,trivial⟩
attribute [go_sem] ebl
set_option maxHeartbeats 3200000 in
theorem rFitted_ok (A : Dc) (c : Cx) (hA : OkD A) (hc : OkC c) : Ret Tryz.prog 44 false [.inr (gDc A),.inr (gCx c)] (rDI (rndD A c) (rndS A c)):=by
 have o0:=okCx_c hc
 obtain ⟨a1,a2,a3⟩:=okd_exp hA
 have l1:=coef_len a1
 have hP:=PF_one a1 ⟨a2,a3⟩
 unfold rndD rndS
 obtain ⟨k,s,m,e⟩:=A
 obtain ⟨p,r,mn,mx⟩:=c
 simp only at o0 a1 a2 a3 l1 hP ⊢
 clear hA hc
 have t0 : (1 : Int).toNat = 1:=rfl
 by_cases h : k = 0
 ·subst h
  simp only [ne_eq,not_true_eq_false,if_false]
  (refine q_H Tryz.func44 (fun F=>?_); simp only [q_z,q_y,Tryz.ntmps44,Tryz.results44])
  repeat' (first|(with_reducible first|apply q_a|apply q_b|apply q_c|apply q_d|apply q_e|apply q_f|apply q_g|apply q_h|apply q_i|apply q_j|apply q_k|apply q_m|apply q_n|apply q_o|apply q_p|refine q_l ?_)|((with_reducible first|refine q_q ebl_ok fun K hK=>?_|refine q_r ebl_ok fun K hK=>?_);simp (maxSteps:=2000000) only [go_sem,↓reduceIte,reduceCtorEq,Nat.reduceLeDiff,Nat.reduceLT,Nat.reduceBEq,Nat.reduceAdd,o0,V32,V65,t0];(repeat1' with_reducible first|apply And.intro|(intro _;try exact q_v)|(refine hK _ ?_;clear hK K))<;>(try (clear hK K;exact q_u)))|(with_reducible refine q_s ?_;(first|apply q_J|apply q_K|apply q_L|apply q_M|apply q_N|apply q_O)<;>try (intro _;try exact q_v))|with_reducible refine q_t ?_)
  all_goals first | omega | assumption | exact q_A rfl | skip
 ·rw [if_pos h,if_pos h]
  clear hP
  (refine q_H Tryz.func44 (fun F=>?_); simp only [q_z,q_y,Tryz.ntmps44,Tryz.results44])
  repeat' (first|(with_reducible first|apply q_a|apply q_b|apply q_c|apply q_d|apply q_e|apply q_f|apply q_g|apply q_h|apply q_i|apply q_j|apply q_k|apply q_m|apply q_n|apply q_o|apply q_p|refine q_l ?_)|((with_reducible first|refine q_q ebl_ok fun K hK=>?_|refine q_r ebl_ok fun K hK=>?_);simp (maxSteps:=2000000) only [go_sem,↓reduceIte,reduceCtorEq,Nat.reduceLeDiff,Nat.reduceLT,Nat.reduceBEq,Nat.reduceAdd,o0,V32,V65,t0];(repeat1' with_reducible first|apply And.intro|(intro _;try exact q_v)|(refine hK _ ?_;clear hK K))<;>(try (clear hK K;exact q_u)))|(with_reducible refine q_s ?_;(first|apply q_J|apply q_K|apply q_L|apply q_M|apply q_N|apply q_O)<;>try (intro _;try exact q_v))|with_reducible refine q_t ?_)
  all_goals first | omega | assumption | exact q_A rfl | skip
def et3 : Cfg:=addT 44 (opR1CT rndD rndS) cf0
theorem et3_ok : TblOk Tryz.prog et3:=q_I cf0_ok Tryz.func44 fun l K h =>
 opR1_tr (f:=rndD) (g:=rndS) (fun A c hA hc=>rFitted_ok A c hA hc) l K h
attribute [go_sem] opR1CT
end Go.Proofs.YtgkajjifbcmoeaaGreatDoor

namespace Go.Proofs.YtgkajjifbcmoeaaGreatDoor
set_option linter.unusedSimpArgs false
set_option linter.unusedVariables false
open Go.Abs Go.Proofs.NatL

def ebm : Cfg:=listT [(44,(opR1CT rndD rndS)),(121,halveCT),(106,ofCT),(14,rfiniteCT)] [34]
theorem ebm_ok : TblOk Tryz.prog ebm:=listE_ok (by simp only [List.mem_singleton,forall_eq]; exact flt) ⟨⟨et3,et3_ok,rfl⟩,⟨rg1,rg1_ok,rfl⟩,⟨db6,db6_ok,rfl⟩,⟨es2,es2_ok,rfl⟩,trivial⟩
attribute [go_sem] ebm
set_option maxHeartbeats 3200000 in
theorem rReduced_ok (A : Dc) (c : Cx) (hA : OkD A) (hc : OkC c) : Ret Tryz.prog 45 false [.inr (gDc A),.inr (gCx c)] (rDI (redD A c) (rndS A c)):=by
 have o0:=okCx_c hc
 have o1:=okD_g hA
 obtain ⟨a1,a2,a3⟩:=okd_exp hA
 have l1:=coef_len a1
 have oX:=rnd_ok hA hc
 obtain ⟨x1,x2,x3⟩:=okd_exp oX
 have l2:=coef_len x1
 have hr : redD A c = redX (rndD A c):=rfl
 rw [hr]
 unfold redX
 generalize hS : rndS A c = S at *
 generalize hX : rndD A c = X at *
 obtain ⟨k,s,m,e⟩:=A
 obtain ⟨p,r,mn,mx⟩:=c
 obtain ⟨k',s',m',e'⟩:=X
 have z1:=dg65_nil_iff m'
 simp only at o0 o1 a1 a2 a3 l1 x1 x2 x3 l2 ⊢
 clear hA hc oX
 have l3:=ds_65b (n:=m') (by omega)
 by_cases h : k' = 0
 ·subst h
  simp only [ne_eq,not_true_eq_false,if_false]
  by_cases hm : m' = 0
  ·rw [if_pos hm]
   have z2:=z1.2 hm
   subst hm
   (refine q_H Tryz.func45 (fun F=>?_); simp only [q_z,q_y,Tryz.ntmps45,Tryz.results45])
   repeat' (first|(with_reducible first|apply q_a|apply q_b|apply q_c|apply q_d|apply q_e|apply q_f|apply q_g|apply q_h|apply q_i|apply q_j|apply q_k|apply q_m|apply q_n|apply q_o|apply q_p|refine q_l ?_)|((with_reducible first|refine q_q ebm_ok fun K hK=>?_|refine q_r ebm_ok fun K hK=>?_);simp (maxSteps:=2000000) only [go_sem,↓reduceIte,reduceCtorEq,Nat.reduceLeDiff,Nat.reduceLT,Nat.reduceBEq,Nat.reduceAdd,o0,o1,V32,V65,hX,hS];(repeat1' with_reducible first|apply And.intro|(intro _;try exact q_v)|(refine hK _ ?_;clear hK K))<;>(try (clear hK K;exact q_u)))|(with_reducible refine q_s ?_;(first|apply q_J|apply q_K|apply q_L|apply q_M|apply q_N|apply q_O)<;>try (intro _;try exact q_v))|with_reducible refine q_t ?_)
   all_goals first | omega | assumption | exact q_A rfl | skip
  ·rw [if_neg hm]
   have z2 : ¬ ((dg 65536 m').length : Int) = 0:=fun h=>hm (z1.1 h)
   (refine q_H Tryz.func45 (fun F=>?_); simp only [q_z,q_y,Tryz.ntmps45,Tryz.results45])
   repeat' (first|(with_reducible first|apply q_a|apply q_b|apply q_c|apply q_d|apply q_e|apply q_f|apply q_g|apply q_h|apply q_i|apply q_j|apply q_k|apply q_m|apply q_n|apply q_o|apply q_p|refine q_l ?_)|((with_reducible first|refine q_q ebm_ok fun K hK=>?_|refine q_r ebm_ok fun K hK=>?_);simp (maxSteps:=2000000) only [go_sem,↓reduceIte,reduceCtorEq,Nat.reduceLeDiff,Nat.reduceLT,Nat.reduceBEq,Nat.reduceAdd,o0,o1,V32,V65,hX,hS];(repeat1' with_reducible first|apply And.intro|(intro _;try exact q_v)|(refine hK _ ?_;clear hK K))<;>(try (clear hK K;exact q_u)))|(with_reducible refine q_s ?_;(first|apply q_J|apply q_K|apply q_L|apply q_M|apply q_N|apply q_O)<;>try (intro _;try exact q_v))|with_reducible refine q_t ?_)
   all_goals first | omega | assumption | exact q_A rfl | skip
   have ten : (10 : Int).toNat = 10:=rfl
   generalize hT : twd (1200 - e').toNat m' e' = T
   have hw1:=twd_len (1200 - e').toNat m' e'
   rw [hT] at hw1
   have hTl:=ds_65b (n:=T.1) (by omega)
   refine q_G (ι:={ q : Nat × Int // twd (1200 - q.2).toNat q.1 q.2 = T ∧ ds q.1 ≤ 120 ∧ -1200 ≤ q.2 ∧ q.2 ≤ 1200 }) (fun q=>⟨54,[(9,.c (.i .i64 q.1.2)),(8,.c (.ints .i64 (dg 65536 q.1.1))),(7,.c (.i .i64 S)),(6,.bx 3 0),(4,.bx 2 0)],⟨[(3,[.c (.i .i64 0),.c (.b s'),.c (.b false),.c (.ints .u32 (dg 4294967296 m')),.c (.i .i64 e')]),(2,[.c (.i .i64 0),.c (.b false),.c (.b false),.c .nil,.c (.i .i64 0)])],[],[]⟩,4⟩) (fun q=>(1200 - q.1.2).toNat) ⟨(m',e'),hT,by simp only; omega,by simp only; omega,by simp only; omega⟩ ?_ ?_
   ·exact q_D
   clear hX hS
   rintro ⟨⟨k,x⟩,g1,g2,g3,g4⟩
   simp only at g1 g2 g3 g4 ⊢
   have lk:=ds_65b (n:=k) (by omega)
   by_cases hx : x < 1200
   ·obtain ⟨j,hj⟩ : ∃ j,(1200 - x).toNat = j + 1:=⟨(1200 - x).toNat - 1,by omega⟩
    have hj2 : (1200 - (x + 1)).toNat = j:=by omega
    rw [hj] at g1
    have ht : twd (j + 1) k x = if k % 10 = 0 then twd j (k / 10) (x + 1) else (k,x):=rfl
    rw [ht] at g1
    by_cases hk : k % 10 = 0
    ·rw [if_pos hk] at g1
     have hd:=ds_div10 k
     have hk2 : ((k % 10 : Nat) : Int) = 0:=by omega
     repeat' (first|(with_reducible first|apply q_a|apply q_b|apply q_c|apply q_d|apply q_e|apply q_f|apply q_g|apply q_h|apply q_i|apply q_j|apply q_k|apply q_m|apply q_n|apply q_o|apply q_p|refine q_l ?_)|((with_reducible first|refine q_q ebm_ok fun K hK=>?_|refine q_r ebm_ok fun K hK=>?_);simp (maxSteps:=2000000) only [go_sem,↓reduceIte,reduceCtorEq,Nat.reduceLeDiff,Nat.reduceLT,Nat.reduceBEq,Nat.reduceAdd,V65,ten,hk2];(repeat1' with_reducible first|apply And.intro|(intro _;try exact q_v)|(refine hK _ ?_;clear hK K))<;>(try (clear hK K;exact q_u)))|(with_reducible refine q_s ?_;(first|apply q_J|apply q_K|apply q_L|apply q_M|apply q_N|apply q_O)<;>try (intro _;try exact q_v))|with_reducible refine q_t ?_)
     all_goals first | omega | skip
     refine q_F ⟨(k / 10,x + 1),by simp only; rw [hj2]; exact g1,by simp only; omega,by simp only; omega,by simp only; omega⟩ ?_ (by simp only; omega)
     exact q_D
    ·rw [if_neg hk] at g1
     subst g1
     have hk2 : ¬ ((k % 10 : Nat) : Int) = 0:=by omega
     repeat' (first|(with_reducible first|apply q_a|apply q_b|apply q_c|apply q_d|apply q_e|apply q_f|apply q_g|apply q_h|apply q_i|apply q_j|apply q_k|apply q_m|apply q_n|apply q_o|apply q_p|refine q_l ?_)|((with_reducible first|refine q_q ebm_ok fun K hK=>?_|refine q_r ebm_ok fun K hK=>?_);simp (maxSteps:=2000000) only [go_sem,↓reduceIte,reduceCtorEq,Nat.reduceLeDiff,Nat.reduceLT,Nat.reduceBEq,Nat.reduceAdd,V65,ten];(repeat1' with_reducible first|apply And.intro|(intro _;try exact q_v)|(refine hK _ ?_;clear hK K))<;>(try (clear hK K;exact q_u)))|(with_reducible refine q_s ?_;(first|apply q_J|apply q_K|apply q_L|apply q_M|apply q_N|apply q_O)<;>try (intro _;try exact q_v))|with_reducible refine q_t ?_)
     all_goals first | omega | assumption | exact q_A rfl | skip
   ·have hj : (1200 - x).toNat = 0:=by omega
    rw [hj] at g1
    have ht : twd 0 k x = (k,x):=rfl
    rw [ht] at g1
    subst g1
    repeat' (first|(with_reducible first|apply q_a|apply q_b|apply q_c|apply q_d|apply q_e|apply q_f|apply q_g|apply q_h|apply q_i|apply q_j|apply q_k|apply q_m|apply q_n|apply q_o|apply q_p|refine q_l ?_)|((with_reducible first|refine q_q ebm_ok fun K hK=>?_|refine q_r ebm_ok fun K hK=>?_);simp (maxSteps:=2000000) only [go_sem,↓reduceIte,reduceCtorEq,Nat.reduceLeDiff,Nat.reduceLT,Nat.reduceBEq,Nat.reduceAdd,V65,ten];(repeat1' with_reducible first|apply And.intro|(intro _;try exact q_v)|(refine hK _ ?_;clear hK K))<;>(try (clear hK K;exact q_u)))|(with_reducible refine q_s ?_;(first|apply q_J|apply q_K|apply q_L|apply q_M|apply q_N|apply q_O)<;>try (intro _;try exact q_v))|with_reducible refine q_t ?_)
    all_goals first | omega | assumption | exact q_A rfl | skip
 ·rw [if_pos h]
  (refine q_H Tryz.func45 (fun F=>?_); simp only [q_z,q_y,Tryz.ntmps45,Tryz.results45])
  repeat' (first|(with_reducible first|apply q_a|apply q_b|apply q_c|apply q_d|apply q_e|apply q_f|apply q_g|apply q_h|apply q_i|apply q_j|apply q_k|apply q_m|apply q_n|apply q_o|apply q_p|refine q_l ?_)|((with_reducible first|refine q_q ebm_ok fun K hK=>?_|refine q_r ebm_ok fun K hK=>?_);simp (maxSteps:=2000000) only [go_sem,↓reduceIte,reduceCtorEq,Nat.reduceLeDiff,Nat.reduceLT,Nat.reduceBEq,Nat.reduceAdd,o0,o1,V32,V65,hX,hS];(repeat1' with_reducible first|apply And.intro|(intro _;try exact q_v)|(refine hK _ ?_;clear hK K))<;>(try (clear hK K;exact q_u)))|(with_reducible refine q_s ?_;(first|apply q_J|apply q_K|apply q_L|apply q_M|apply q_N|apply q_O)<;>try (intro _;try exact q_v))|with_reducible refine q_t ?_)
  all_goals first | omega | assumption | exact q_A rfl | skip
def et4 : Cfg:=addT 45 (opR1CT redD rndS) cf0
theorem et4_ok : TblOk Tryz.prog et4:=q_I cf0_ok Tryz.func45 fun l K h =>
 opR1_tr (f:=redD) (g:=rndS) (fun A c hA hc=>rReduced_ok A c hA hc) l K h
end Go.Proofs.YtgkajjifbcmoeaaGreatDoor

namespace Go.Proofs.YtgkajjifbcmoeaaGreatDoor
set_option linter.unusedSimpArgs false
set_option linter.unusedVariables false
open Go.Abs Go.Proofs.NatL

def ebn : Cfg:=listT [(110,noneDCT),(122,rroundedCT),(105,figCT),(14,rfiniteCT),(67,valueCT)] [34]
theorem ebn_ok : TblOk Tryz.prog ebn:=listE_ok (by simp only [List.mem_singleton,forall_eq]; exact flt) ⟨⟨es4,es4_ok,rfl⟩,⟨er5,er5_ok,rfl⟩,⟨nt11,nt11_ok,rfl⟩,⟨es2,es2_ok,rfl⟩,⟨es1,es1_ok,rfl⟩,trivial⟩
attribute [go_sem] ebn
set_option maxRecDepth 100000 in
set_option maxHeartbeats 3200000 in
theorem rQuant_ok (A : Dc) (x : Int) (c : Cx) (hA : OkD A) (hc : OkC c) : Ret Tryz.prog 46 false [.inr (gDc A),.inl (.i .i64 x),.inr (gCx c)] (rDI (qtD A x c) (qtS A x c)):=by
 have o0:=okCx_c hc
 obtain ⟨c1,c2,c3,c4,c5,c6,c7,c8⟩:=okCx_p o0
 have ka:=OkD_kind hA
 obtain ⟨a1,a2,a3⟩:=okd_exp hA
 have l1:=coef_len a1
 have ht : tinyE c.p c.mn = c.mn - c.p + 1:=rfl
 have hat:=fun h=>qt_at (m:=A.coef) (f:=A.exp) (e:=x) a1 ⟨a2,a3⟩ h
 unfold qtD qtS
 rw [ht]
 obtain ⟨k,s,m,e⟩:=A
 obtain ⟨p,r,mn,mx⟩:=c
 simp only at o0 c1 c2 c3 c4 c5 c6 c7 c8 ka a1 a2 a3 l1 hat ⊢
 clear hA hc ht
 have t0 : (1 : Int).toNat = 1:=rfl
 have ten : (10 : Int).toNat = 10:=rfl
 have one1:=one_ds
 by_cases h1 : k = 2
 ·rw [if_pos h1,if_pos h1]
  clear hat
  (refine q_H Tryz.func46 (fun F=>?_); simp only [q_z,q_y,Tryz.ntmps46,Tryz.results46])
  repeat' (first|(with_reducible first|apply q_a|apply q_b|apply q_c|apply q_d|apply q_e|apply q_f|apply q_g|apply q_h|apply q_i|apply q_j|apply q_k|apply q_m|apply q_n|apply q_o|apply q_p|refine q_l ?_)|((with_reducible first|refine q_q ebn_ok fun K hK=>?_|refine q_r ebn_ok fun K hK=>?_);simp (maxSteps:=2000000) only [go_sem,↓reduceIte,reduceCtorEq,Nat.reduceLeDiff,Nat.reduceLT,Nat.reduceBEq,Nat.reduceAdd,o0,V32,V65,t0];(repeat1' with_reducible first|apply And.intro|(intro _;try exact q_v)|(refine hK _ ?_;clear hK K))<;>(try (clear hK K;exact q_u)))|(with_reducible refine q_s ?_;(first|apply q_J|apply q_K|apply q_L|apply q_M|apply q_N|apply q_O)<;>try (intro _;try exact q_v))|with_reducible refine q_t ?_)
  all_goals first | omega | assumption | exact q_A rfl | skip
 rw [if_neg h1,if_neg h1]
 by_cases h2 : k = 1 ∨ x < mn - p + 1 ∨ mx < x
 ·rw [if_pos h2,if_pos h2]
  clear hat
  (refine q_H Tryz.func46 (fun F=>?_); simp only [q_z,q_y,Tryz.ntmps46,Tryz.results46])
  repeat' (first|(with_reducible first|apply q_a|apply q_b|apply q_c|apply q_d|apply q_e|apply q_f|apply q_g|apply q_h|apply q_i|apply q_j|apply q_k|apply q_m|apply q_n|apply q_o|apply q_p|refine q_l ?_)|((with_reducible first|refine q_q ebn_ok fun K hK=>?_|refine q_r ebn_ok fun K hK=>?_);simp (maxSteps:=2000000) only [go_sem,↓reduceIte,reduceCtorEq,Nat.reduceLeDiff,Nat.reduceLT,Nat.reduceBEq,Nat.reduceAdd,o0,V32,V65,t0];(repeat1' with_reducible first|apply And.intro|(intro _;try exact q_v)|(refine hK _ ?_;clear hK K))<;>(try (clear hK K;exact q_u)))|(with_reducible refine q_s ?_;(first|apply q_J|apply q_K|apply q_L|apply q_M|apply q_N|apply q_O)<;>try (intro _;try exact q_v))|with_reducible refine q_t ?_)
  all_goals first | omega | assumption | exact q_A rfl | skip
 rw [if_neg h2,if_neg h2]
 have k0 : k = 0:=by omega
 subst k0
 have x1 : -1100 ≤ x ∧ x ≤ 1000:=by omega
 have hat:=hat x1
 have hlen:=qt_len (s:=s) (r:=r) hat
 obtain ⟨_,g2,g3,g4,g5⟩:=hat
 obtain ⟨x1,x2⟩:=x1
 have hqb : qtBad (rdE s m 1 e x r) x ⟨p,r,mn,mx⟩ ↔ (p < (ds (rdE s m 1 e x r) : Int) ∨ (0 < (ds (rdE s m 1 e x r) : Int) ∧ mx < (ds (rdE s m 1 e x r) : Int) - 1 + x)):=Iff.rfl
 generalize hR : rdE s m 1 e x r = R at *
 generalize hS : sE m 1 e x = S at *
 have l2:=ds_65b (n:=R) (by omega)
 have l3:=ds_65b (n:=m) (by omega)
 by_cases h3 : qtBad R x ⟨p,r,mn,mx⟩
 ·rw [if_pos h3,if_pos h3]
  have h3:=hqb.1 h3
  clear hqb
  (refine q_H Tryz.func46 (fun F=>?_); simp only [q_z,q_y,Tryz.ntmps46,Tryz.results46])
  repeat' (first|(with_reducible first|apply q_a|apply q_b|apply q_c|apply q_d|apply q_e|apply q_f|apply q_g|apply q_h|apply q_i|apply q_j|apply q_k|apply q_m|apply q_n|apply q_o|apply q_p|refine q_l ?_)|((with_reducible first|refine q_q ebn_ok fun K hK=>?_|refine q_r ebn_ok fun K hK=>?_);simp (maxSteps:=2000000) only [go_sem,↓reduceIte,reduceCtorEq,Nat.reduceLeDiff,Nat.reduceLT,Nat.reduceBEq,Nat.reduceAdd,o0,V32,V65,t0,hR,hS,ten,fig_len];(repeat1' with_reducible first|apply And.intro|(intro _;try exact q_v)|(refine hK _ ?_;clear hK K))<;>(try (clear hK K;exact q_u)))|(with_reducible refine q_s ?_;(first|apply q_J|apply q_K|apply q_L|apply q_M|apply q_N|apply q_O)<;>try (intro _;try exact q_v))|with_reducible refine q_t ?_)
  all_goals first | omega | assumption | exact q_A rfl | skip
 ·rw [if_neg h3,if_neg h3]
  have h3 : ¬ (p < (ds R : Int) ∨ (0 < (ds R : Int) ∧ mx < (ds R : Int) - 1 + x)):=fun h=>h3 (hqb.2 h)
  clear hqb
  by_cases h4 : S = 0
  ·rw [if_pos h4]
   have h5 : decide (S ≠ 0) = false:=decide_eq_false (by omega)
   (refine q_H Tryz.func46 (fun F=>?_); simp only [q_z,q_y,Tryz.ntmps46,Tryz.results46])
   repeat' (first|(with_reducible first|apply q_a|apply q_b|apply q_c|apply q_d|apply q_e|apply q_f|apply q_g|apply q_h|apply q_i|apply q_j|apply q_k|apply q_m|apply q_n|apply q_o|apply q_p|refine q_l ?_)|((with_reducible first|refine q_q ebn_ok fun K hK=>?_|refine q_r ebn_ok fun K hK=>?_);simp (maxSteps:=2000000) only [go_sem,↓reduceIte,reduceCtorEq,Nat.reduceLeDiff,Nat.reduceLT,Nat.reduceBEq,Nat.reduceAdd,o0,V32,V65,t0,hR,hS,h5,ten,fig_len];(repeat1' with_reducible first|apply And.intro|(intro _;try exact q_v)|(refine hK _ ?_;clear hK K))<;>(try (clear hK K;exact q_u)))|(with_reducible refine q_s ?_;(first|apply q_J|apply q_K|apply q_L|apply q_M|apply q_N|apply q_O)<;>try (intro _;try exact q_v))|with_reducible refine q_t ?_)
   all_goals first | omega | assumption | exact q_A rfl | skip
  ·rw [if_neg h4]
   have h5 : decide (S ≠ 0) = true:=decide_eq_true h4
   (refine q_H Tryz.func46 (fun F=>?_); simp only [q_z,q_y,Tryz.ntmps46,Tryz.results46])
   repeat' (first|(with_reducible first|apply q_a|apply q_b|apply q_c|apply q_d|apply q_e|apply q_f|apply q_g|apply q_h|apply q_i|apply q_j|apply q_k|apply q_m|apply q_n|apply q_o|apply q_p|refine q_l ?_)|((with_reducible first|refine q_q ebn_ok fun K hK=>?_|refine q_r ebn_ok fun K hK=>?_);simp (maxSteps:=2000000) only [go_sem,↓reduceIte,reduceCtorEq,Nat.reduceLeDiff,Nat.reduceLT,Nat.reduceBEq,Nat.reduceAdd,o0,V32,V65,t0,hR,hS,h5,ten,fig_len];(repeat1' with_reducible first|apply And.intro|(intro _;try exact q_v)|(refine hK _ ?_;clear hK K))<;>(try (clear hK K;exact q_u)))|(with_reducible refine q_s ?_;(first|apply q_J|apply q_K|apply q_L|apply q_M|apply q_N|apply q_O)<;>try (intro _;try exact q_v))|with_reducible refine q_t ?_)
   all_goals first | omega | assumption | exact q_A rfl | skip
def opRICT (f : Dc → Int → Cx → Dc) (g : Dc → Int → Cx → Int) : CT:=mkCT [nDc,.inl none,nC] false fun l K=>match l with
 | [.inr [.i .i64 k,.b s,.b a,.ints .u32 xs,.i .i64 e],.inl (.i .i64 x),.inr [.i .i64 p,.i .i64 r,.i .i64 mn,.i .i64 mx]] =>
   (InB 4294967296 xs ∧ okD k s a xs e = true ∧ okCx p r mn mx = true) ∧
   K (rDI (f ⟨k,s,V 4294967296 xs,e⟩ x ⟨p,r,mn,mx⟩) (g ⟨k,s,V 4294967296 xs,e⟩ x ⟨p,r,mn,mx⟩))
 | _=>False
def et5 : Cfg:=addT 46 (opRICT qtD qtS) cf0
theorem et5_ok : TblOk Tryz.prog et5:=q_I cf0_ok Tryz.func46 fun l K hk=>by
 split at hk
 ·rename_i k s a xs e x p r mn mx
  obtain ⟨⟨h1,o1,o0⟩,h⟩:=hk
  obtain ⟨e1,r1⟩:=gDc_of o1 h1
  rw [e1]
  exact ⟨_,rQuant_ok _ x ⟨p,r,mn,mx⟩ r1 (OkC_b o0),h⟩
 ·exact hk.elim
attribute [go_sem] opRICT
end Go.Proofs.YtgkajjifbcmoeaaGreatDoor
