import Derived.Test.YtgkajjifbcmoeaaGreatDoorM61
import Derived.Test.YtgkajjifbcmoeaaGreatDoorM63
import Derived.Test.YtgkajjifbcmoeaaGreatDoorM68
import Derived.Test.YtgkajjifbcmoeaaGreatDoorM76
import Derived.Test.YtgkajjifbcmoeaaGreatDoorM78
namespace Go.Proofs.YtgkajjifbcmoeaaGreatDoor
set_option linter.unusedSimpArgs false
set_option linter.unusedVariables false
open Go.Abs Go.Proofs.NatL

def dle : Cfg:=listT [(18,dcheckCT),(24,(op2CT addD addS)),(26,(op2CT mulD mulS)),(16,(op2CT divD divS)),(47,oppOkCT),(27,noIntACT),(35,sameDecCT),(31,tenthsCT)] [34]
theorem dle_ok : TblOk Tryz.prog dle:=listE_ok (by simp only [List.mem_singleton,forall_eq]; exact flt) ⟨⟨er9,er9_ok,rfl⟩,⟨dg1x,dg1x_ok,rfl⟩,⟨dg3x,dg3x_ok,rfl⟩,⟨dg4x,dg4x_ok,rfl⟩,⟨et7,et7_ok,rfl⟩,⟨er6,er6_ok,rfl⟩,⟨eu2,eu2_ok,rfl⟩,⟨dh5,dh5_ok,rfl⟩,trivial⟩
attribute [go_sem] dle
theorem noI_dg (n : Nat) : noI false (dg 4294967296 n) = decide (n = 0):=by
 have h:=dg_nil_iff n
 have h2 : dg 4294967296 n = [] ↔ n = 0:=⟨fun e=>h.1 (by rw [e]; rfl),fun e=>List.eq_nil_of_length_eq_zero (by have:=h.2 e; omega)⟩
 unfold noI
 simp [h2]
abbrev u5 : List AV:=[.u,.u,.u,.u,.u]
abbrev u2 : List AV:=[.u,.u]
attribute [go_sem] u5 u2
set_option maxRecDepth 100000 in
set_option maxHeartbeats 12800000 in
theorem dmirror_ok (A B : Dc) (p r mn mx : Int) (hA : OkD A) (hB : OkD B) (o0 : okCx p r mn mx = true) :
  Ret Tryz.prog 8 false [.inr (gDc A),.inr (gDc B),.inr [.i .i64 p,.i .i64 r,.i .i64 mn,.i .i64 mx]] (.c (.b true)):=by
 have hc:=OkC_b o0
 have hc' : OkC ⟨p,mrR r,mn,mx⟩:=by
  obtain ⟨c1,c2,c3,c4,c5,c6,c7,c8⟩:=hc
  refine ⟨c1,c2,?_,?_,c5,c6,c7,c8⟩ <;> simp only at c3 c4 ⊢ <;> unfold mrR <;> (repeat' split) <;> omega
 have o0':=okCx_c hc'
 simp only at o0'
 have o1:=okD_g hA
 have o2:=okD_g hB
 have o3:=okD_g (opD_ok hA)
 have o4:=okD_g (opD_ok hB)
 have x1:=add_ok (A:=A) (B:=B) hc
 have m1:=mul_ok (A:=A) (B:=B) hc
 have q1:=div_ok (A:=A) (B:=B) hc
 obtain ⟨aS,aY⟩:=add_mr A B ⟨p,r,mn,mx⟩
 obtain ⟨mY,mS⟩:=mul_mr A B ⟨p,r,mn,mx⟩
 obtain ⟨qY,qS⟩:=div_mr A B ⟨p,r,mn,mx⟩
 have y1:=add_ok (A:=opD A) (B:=opD B) hc'
 have e0 : mrC ⟨p,r,mn,mx⟩ = ⟨p,mrR r,mn,mx⟩:=rfl
 rw [e0] at aS aY mY mS qY qS
 clear e0 hc hc'
 have xk:=x1
 have l1:=okd_len hA
 have l2:=okd_len hB
 have l3:=okd_len (opD_ok hA)
 have l4:=okd_len (opD_ok hB)
 have lx:=okd_len x1
 have ly:=okd_len y1
 have lm:=okd_len m1
 have lq:=okd_len q1
 have lx':=okd_len (opD_ok x1)
 have lm':=okd_len (opD_ok m1)
 have lq':=okd_len (opD_ok q1)
 have ox:=okD_g x1
 have om:=okD_g m1
 have oq:=okD_g q1
 clear x1 m1 q1 y1 hA hB xk
 have hr : (r = 2 ∧ mrR r = 3) ∨ (r = 3 ∧ mrR r = 2) ∨ (r ≠ 2 ∧ r ≠ 3 ∧ mrR r = r):=by
  unfold mrR; (repeat' split) <;> omega
 generalize mrR r = r' at *
 generalize hX : addD A B ⟨p,r,mn,mx⟩ = X at *
 generalize hXS : addS A B ⟨p,r,mn,mx⟩ = XS at *
 generalize hM : mulD A B ⟨p,r,mn,mx⟩ = M at *
 generalize hMS : mulS A B ⟨p,r,mn,mx⟩ = MS at *
 generalize hQ : divD A B ⟨p,r,mn,mx⟩ = Q at *
 generalize hQS : divS A B ⟨p,r,mn,mx⟩ = QS at *
 generalize hA1 : opD A = A1 at *
 generalize hB1 : opD B = B1 at *
 generalize hY : addD A1 B1 ⟨p,r',mn,mx⟩ = Y at *
 generalize hX1 : opD X = X1 at *
 generalize hM1 : opD M = M1 at *
 generalize hQ1 : opD Q = Q1 at *
 obtain ⟨k,s,m,e⟩:=A
 obtain ⟨l,t,n,f⟩:=B
 obtain ⟨k1,s1,m1,e1⟩:=A1
 obtain ⟨l1',t1,n1,f1⟩:=B1
 obtain ⟨xk,xs,xc,xe⟩:=X
 obtain ⟨xk1,xs1,xc1,xe1⟩:=X1
 obtain ⟨yk,ys,yc,ye⟩:=Y
 obtain ⟨mk,ms,mc,me⟩:=M
 obtain ⟨mk1,ms1,mc1,me1⟩:=M1
 obtain ⟨qk,qs,qc,qe⟩:=Q
 obtain ⟨qk1,qs1,qc1,qe1⟩:=Q1
 have hxz : (xk = 0 ∧ xc = 0) ∨ ¬ (xk = 0 ∧ xc = 0):=Classical.em _
 have xop : xk1 = xk ∧ xc1 = xc ∧ xe1 = xe:=by
  have:=op_k ⟨xk,xs,xc,xe⟩
  rw [hX1] at this; exact this
 simp only [dzero,Dc.mk.injEq] at *
 (refine q_H Tryz.func8 (fun F=>?_); simp only [q_z,q_y,Tryz.ntmps8,Tryz.results8])
 refine seq_cut5 (ι:=Unit) (fun _=>⟨177,[(3,.bx 0 0),(4,.bx 1 0),(5,.bx 2 0),(6,.c (.b false)),(7,.bx 3 0)],⟨[(3,cx4 p r' mn mx),(2,cx4 p r mn mx),(1,aD l t false (dg 4294967296 n) f),(0,aD k s false (dg 4294967296 m) e)],[],[]⟩,4⟩) (fun Y0 hY0=>?_) ?_
 ·rcases hr with ⟨rfl,rfl⟩ | ⟨rfl,rfl⟩ | ⟨hr1,hr2,rfl⟩
  all_goals
   repeat' (first|(with_reducible first|apply q_a|apply q_b|apply q_c|apply q_d|apply q_e|apply q_f|apply q_g|apply q_h|apply q_i|apply q_j|apply q_k|apply q_m|apply q_n|apply q_o|apply q_p|refine q_l ?_)|((with_reducible first|refine q_q dle_ok fun K hK=>?_|refine q_r dle_ok fun K hK=>?_);simp (maxSteps:=2000000) only [go_sem,↓reduceIte,reduceCtorEq,Nat.reduceLeDiff,Nat.reduceLT,Nat.reduceBEq,Nat.reduceAdd,o0,o1,o2];(repeat1' with_reducible first|apply And.intro|(intro _;try exact q_v)|(refine hK _ ?_;clear hK K))<;>(try (clear hK K;exact q_u)))|(with_reducible refine q_s ?_;(first|apply q_J|apply q_K|apply q_L|apply q_M|apply q_N|apply q_O)<;>try (intro _;try exact q_v))|with_reducible refine q_t ?_)
   all_goals first | omega | exact cut_fit hY0 () q_D | skip
 intro _
 refine seq_cut4 (ι:=Unit) (fun _=>⟨177,[(3,.bx 0 0),(4,.bx 1 0),(5,.bx 2 0),(6,.c (.b false)),(7,.bx 3 0),(8,.bx 4 0),(10,.bx 5 0),(11,.bx 6 0),(13,.bx 7 0)],⟨[(7,u2),(6,u5),(5,u2),(4,u5),(3,cx4 p r' mn mx),(2,cx4 p r mn mx),(1,aD l t false (dg 4294967296 n) f),(0,aD k s false (dg 4294967296 m) e)],[],[]⟩,8⟩) (fun Y0 hY0=>?_) ?_
 ·have hnx : noI false (dg 4294967296 xc) = decide (xc = 0):=noI_dg xc
  have hny : noI false (dg 4294967296 yc) = decide (yc = 0):=noI_dg yc
  obtain ⟨w1,w2,w3⟩:=xop
  clear mY mS qY qS hM hMS hQ hQS lm lq lm' lq' om oq hr
  rcases hxz with ⟨hz1,hz2⟩ | hz
  ·have hy : yk = 0 ∧ yc = 0 ∧ ye = xe:=by
    rcases aY with ⟨u1,u2,u3,u4⟩ | ⟨_,⟨u1,u2⟩,u3⟩
    ·exact ⟨by omega,by omega,by omega⟩
    ·exact ⟨u1,u2,u3⟩
   obtain ⟨rfl,rfl,rfl⟩:=hy
   subst hz1 hz2
   repeat' (first|(with_reducible first|apply q_a|apply q_b|apply q_c|apply q_d|apply q_e|apply q_f|apply q_g|apply q_h|apply q_i|apply q_j|apply q_k|apply q_m|apply q_n|apply q_o|apply q_p|refine q_l ?_)|((with_reducible first|refine q_q dle_ok fun K hK=>?_|refine q_r dle_ok fun K hK=>?_);simp (maxSteps:=2000000) only [go_sem,↓reduceIte,reduceCtorEq,Nat.reduceLeDiff,Nat.reduceLT,Nat.reduceBEq,Nat.reduceAdd,o0,o0',o1,o2,o3,o4,ox,hA1,hB1,hX,hXS,hY,aS,hX1,hnx,hny,V32];(repeat1' with_reducible first|apply And.intro|(intro _;try exact q_v)|(refine hK _ ?_;clear hK K))<;>(try (clear hK K;exact q_u)))|(with_reducible refine q_s ?_;(first|apply q_J|apply q_K|apply q_L|apply q_M|apply q_N|apply q_O)<;>try (intro _;try exact q_v))|with_reducible refine q_t ?_)
   all_goals first | omega | assumption | exact cut_fit hY0 () q_D | skip
  ·have hy : yk = xk1 ∧ ys = xs1 ∧ yc = xc1 ∧ ye = xe1:=by
    rcases aY with u | ⟨u,_⟩
    ·exact u
    ·exact absurd u hz
   obtain ⟨rfl,rfl,rfl,rfl⟩:=hy
   repeat' (first|(with_reducible first|apply q_a|apply q_b|apply q_c|apply q_d|apply q_e|apply q_f|apply q_g|apply q_h|apply q_i|apply q_j|apply q_k|apply q_m|apply q_n|apply q_o|apply q_p|refine q_l ?_)|((with_reducible first|refine q_q dle_ok fun K hK=>?_|refine q_r dle_ok fun K hK=>?_);simp (maxSteps:=2000000) only [go_sem,↓reduceIte,reduceCtorEq,Nat.reduceLeDiff,Nat.reduceLT,Nat.reduceBEq,Nat.reduceAdd,o0,o0',o1,o2,o3,o4,ox,hA1,hB1,hX,hXS,hY,aS,hX1,hnx,hny,V32];(repeat1' with_reducible first|apply And.intro|(intro _;try exact q_v)|(refine hK _ ?_;clear hK K))<;>(try (clear hK K;exact q_u)))|(with_reducible refine q_s ?_;(first|apply q_J|apply q_K|apply q_L|apply q_M|apply q_N|apply q_O)<;>try (intro _;try exact q_v))|with_reducible refine q_t ?_)
   all_goals first | omega | assumption | exact cut_fit hY0 () q_D | skip
 intro _
 clear aS aY hX hXS hY hX1 lx ly lx' ox hxz xop hr
 repeat' (first|(with_reducible first|apply q_a|apply q_b|apply q_c|apply q_d|apply q_e|apply q_f|apply q_g|apply q_h|apply q_i|apply q_j|apply q_k|apply q_m|apply q_n|apply q_o|apply q_p|refine q_l ?_)|((with_reducible first|refine q_q dle_ok fun K hK=>?_|refine q_r dle_ok fun K hK=>?_);simp (maxSteps:=2000000) only [go_sem,↓reduceIte,reduceCtorEq,Nat.reduceLeDiff,Nat.reduceLT,Nat.reduceBEq,Nat.reduceAdd,o0,o0',o1,o2,o3,o4,om,oq,hA1,hB1,hM,hMS,mY,mS,hM1,hQ,hQS,qY,qS,hQ1,V32];(repeat1' with_reducible first|apply And.intro|(intro _;try exact q_v)|(refine hK _ ?_;clear hK K))<;>(try (clear hK K;exact q_u)))|(with_reducible refine q_s ?_;(first|apply q_J|apply q_K|apply q_L|apply q_M|apply q_N|apply q_O)<;>try (intro _;try exact q_v))|with_reducible refine q_t ?_)
 all_goals first | omega | assumption | exact q_A rfl | skip
set_option maxRecDepth 100000 in
set_option maxHeartbeats 6400000 in
theorem dmirror_ret (k l : Int) (s t a b : Bool) (xs ys : List Int) (e f p r mn mx : Int) (h1 : xs.length ≤ 140737488355328) (h2 : ys.length ≤ 140737488355328) (b1 : InB 4294967296 xs) (b2 : InB 4294967296 ys) :
  Ret Tryz.prog 8 false [.inr [.i .i64 k,.b s,.b a,.ints .u32 xs,.i .i64 e],.inr [.i .i64 l,.b t,.b b,.ints .u32 ys,.i .i64 f],.inr [.i .i64 p,.i .i64 r,.i .i64 mn,.i .i64 mx]] (.c (.b true)):=by
 cases o0 : okCx p r mn mx
 ·(refine q_H Tryz.func8 (fun F=>?_); simp only [q_z,q_y,Tryz.ntmps8,Tryz.results8])
  repeat' (first|(with_reducible first|apply q_a|apply q_b|apply q_c|apply q_d|apply q_e|apply q_f|apply q_g|apply q_h|apply q_i|apply q_j|apply q_k|apply q_m|apply q_n|apply q_o|apply q_p|refine q_l ?_)|((with_reducible first|refine q_q dle_ok fun K hK=>?_|refine q_r dle_ok fun K hK=>?_);simp (maxSteps:=2000000) only [go_sem,↓reduceIte,reduceCtorEq,Nat.reduceLeDiff,Nat.reduceLT,Nat.reduceBEq,Nat.reduceAdd,o0];(repeat1' with_reducible first|apply And.intro|(intro _;try exact q_v)|(refine hK _ ?_;clear hK K))<;>(try (clear hK K;exact q_u)))|(with_reducible refine q_s ?_;(first|apply q_J|apply q_K|apply q_L|apply q_M|apply q_N|apply q_O)<;>try (intro _;try exact q_v))|with_reducible refine q_t ?_)
  all_goals first | omega | assumption | exact q_A rfl | skip
 cases o1 : okD k s a xs e
 ·(refine q_H Tryz.func8 (fun F=>?_); simp only [q_z,q_y,Tryz.ntmps8,Tryz.results8])
  repeat' (first|(with_reducible first|apply q_a|apply q_b|apply q_c|apply q_d|apply q_e|apply q_f|apply q_g|apply q_h|apply q_i|apply q_j|apply q_k|apply q_m|apply q_n|apply q_o|apply q_p|refine q_l ?_)|((with_reducible first|refine q_q dle_ok fun K hK=>?_|refine q_r dle_ok fun K hK=>?_);simp (maxSteps:=2000000) only [go_sem,↓reduceIte,reduceCtorEq,Nat.reduceLeDiff,Nat.reduceLT,Nat.reduceBEq,Nat.reduceAdd,o0,o1];(repeat1' with_reducible first|apply And.intro|(intro _;try exact q_v)|(refine hK _ ?_;clear hK K))<;>(try (clear hK K;exact q_u)))|(with_reducible refine q_s ?_;(first|apply q_J|apply q_K|apply q_L|apply q_M|apply q_N|apply q_O)<;>try (intro _;try exact q_v))|with_reducible refine q_t ?_)
  all_goals first | omega | assumption | exact q_A rfl | skip
 cases o2 : okD l t b ys f
 ·(refine q_H Tryz.func8 (fun F=>?_); simp only [q_z,q_y,Tryz.ntmps8,Tryz.results8])
  repeat' (first|(with_reducible first|apply q_a|apply q_b|apply q_c|apply q_d|apply q_e|apply q_f|apply q_g|apply q_h|apply q_i|apply q_j|apply q_k|apply q_m|apply q_n|apply q_o|apply q_p|refine q_l ?_)|((with_reducible first|refine q_q dle_ok fun K hK=>?_|refine q_r dle_ok fun K hK=>?_);simp (maxSteps:=2000000) only [go_sem,↓reduceIte,reduceCtorEq,Nat.reduceLeDiff,Nat.reduceLT,Nat.reduceBEq,Nat.reduceAdd,o0,o1,o2];(repeat1' with_reducible first|apply And.intro|(intro _;try exact q_v)|(refine hK _ ?_;clear hK K))<;>(try (clear hK K;exact q_u)))|(with_reducible refine q_s ?_;(first|apply q_J|apply q_K|apply q_L|apply q_M|apply q_N|apply q_O)<;>try (intro _;try exact q_v))|with_reducible refine q_t ?_)
  all_goals first | omega | assumption | exact q_A rfl | skip
 obtain ⟨e1,r1⟩:=gDc_of o1 b1
 obtain ⟨e2,r2⟩:=gDc_of o2 b2
 rw [e1,e2]
 exact dmirror_ok _ _ p r mn mx r1 r2 o0
end Go.Proofs.YtgkajjifbcmoeaaGreatDoor
