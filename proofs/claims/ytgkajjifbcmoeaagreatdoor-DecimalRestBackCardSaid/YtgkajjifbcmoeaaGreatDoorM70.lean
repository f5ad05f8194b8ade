import Derived.Test.YtgkajjifbcmoeaaGreatDoorM39
import Derived.Test.YtgkajjifbcmoeaaGreatDoorM45
namespace Go.Proofs.NatL
set_option linter.unusedSimpArgs false
set_option linter.unusedVariables false
theorem en_ok (A B : Dc) : OkD (enD A B) ∧ (enD A B).kind ≠ 0:=by
 unfold enD
 split
 ·exact ⟨.inr (.inr ⟨rfl,rfl,rfl,rfl⟩),by decide⟩
 ·split
  ·exact ⟨.inr (.inr ⟨rfl,rfl,rfl,rfl⟩),by decide⟩
  ·exact ⟨.inr (.inl ⟨rfl,rfl,rfl⟩),by simp [dInf]⟩
end Go.Proofs.NatL
namespace Go.Proofs.YtgkajjifbcmoeaaGreatDoor
set_option linter.unusedSimpArgs false
set_option linter.unusedVariables false
open Go.Abs Go.Proofs.NatL

end Go.Proofs.YtgkajjifbcmoeaaGreatDoor

namespace Go.Proofs.YtgkajjifbcmoeaaGreatDoor
set_option linter.unusedSimpArgs false
set_option linter.unusedVariables false
open Go.Abs Go.Proofs.NatL

abbrev fmaA (k : Int) (s a : Bool) (xs : List Int) (e l : Int) (t b : Bool) (ys : List Int) (f k3 : Int) (s3 a3 : Bool) (zs : List Int) (e3 p r mn mx : Int) : List (C ⊕ List C) :=
 [.inr [.i .i64 k,.b s,.b a,.ints .u32 xs,.i .i64 e],.inr [.i .i64 l,.b t,.b b,.ints .u32 ys,.i .i64 f],.inr [.i .i64 k3,.b s3,.b a3,.ints .u32 zs,.i .i64 e3],.inr [.i .i64 p,.i .i64 r,.i .i64 mn,.i .i64 mx]]
set_option maxHeartbeats 3200000 in
theorem dFma_bad (k l : Int) (s t a b : Bool) (xs ys : List Int) (e f k3 : Int) (s3 a3 : Bool) (zs : List Int) (e3 p r mn mx : Int) (h1 : xs.length ≤ 140737488355328) (h2 : ys.length ≤ 140737488355328) (h3 : zs.length ≤ 140737488355328) (b1 : InB 4294967296 xs) (b2 : InB 4294967296 ys) (b3 : InB 4294967296 zs) :
   (okCx p r mn mx = false → Ret Tryz.prog 58 false (fmaA k s a xs e l t b ys f k3 s3 a3 zs e3 p r mn mx) (rBad 4 (-9))) ∧
   (okCx p r mn mx = true → okD k s a xs e = false → Ret Tryz.prog 58 false (fmaA k s a xs e l t b ys f k3 s3 a3 zs e3 p r mn mx) (rBad 6 (-1))) ∧
   (okCx p r mn mx = true → okD k s a xs e = true → okD l t b ys f = false → Ret Tryz.prog 58 false (fmaA k s a xs e l t b ys f k3 s3 a3 zs e3 p r mn mx) (rBad 6 (-2))) ∧
   (okCx p r mn mx = true → okD k s a xs e = true → okD l t b ys f = true → okD k3 s3 a3 zs e3 = false → Ret Tryz.prog 58 false (fmaA k s a xs e l t b ys f k3 s3 a3 zs e3 p r mn mx) (rBad 6 (-3))):=by
 unfold fmaA
 refine ⟨fun o0=>?_,fun o0 o1=>?_,fun o0 o1 o2=>?_,fun o0 o1 o2 o3=>?_⟩
 ·(refine q_H Tryz.func58 (fun F=>?_); simp only [q_z,q_y,Tryz.ntmps58,Tryz.results58])
  repeat' (first|(with_reducible first|apply q_a|apply q_b|apply q_c|apply q_d|apply q_e|apply q_f|apply q_g|apply q_h|apply q_i|apply q_j|apply q_k|apply q_m|apply q_n|apply q_o|apply q_p|refine q_l ?_)|((with_reducible first|refine q_q dba_ok fun K hK=>?_|refine q_r dba_ok fun K hK=>?_);simp (maxSteps:=2000000) only [go_sem,↓reduceIte,reduceCtorEq,Nat.reduceLeDiff,Nat.reduceLT,Nat.reduceBEq,Nat.reduceAdd,o0];(repeat1' with_reducible first|apply And.intro|(intro _;try exact q_v)|(refine hK _ ?_;clear hK K))<;>(try (clear hK K;exact q_u)))|(with_reducible refine q_s ?_;(first|apply q_J|apply q_K|apply q_L|apply q_M|apply q_N|apply q_O)<;>try (intro _;try exact q_v))|with_reducible refine q_t ?_)
  all_goals first | omega | assumption | exact q_B [nDc] rfl rfl | exact q_A rfl | skip
 ·(refine q_H Tryz.func58 (fun F=>?_); simp only [q_z,q_y,Tryz.ntmps58,Tryz.results58])
  repeat' (first|(with_reducible first|apply q_a|apply q_b|apply q_c|apply q_d|apply q_e|apply q_f|apply q_g|apply q_h|apply q_i|apply q_j|apply q_k|apply q_m|apply q_n|apply q_o|apply q_p|refine q_l ?_)|((with_reducible first|refine q_q dba_ok fun K hK=>?_|refine q_r dba_ok fun K hK=>?_);simp (maxSteps:=2000000) only [go_sem,↓reduceIte,reduceCtorEq,Nat.reduceLeDiff,Nat.reduceLT,Nat.reduceBEq,Nat.reduceAdd,o0,o1];(repeat1' with_reducible first|apply And.intro|(intro _;try exact q_v)|(refine hK _ ?_;clear hK K))<;>(try (clear hK K;exact q_u)))|(with_reducible refine q_s ?_;(first|apply q_J|apply q_K|apply q_L|apply q_M|apply q_N|apply q_O)<;>try (intro _;try exact q_v))|with_reducible refine q_t ?_)
  all_goals first | omega | assumption | exact q_B [nDc] rfl rfl | exact q_A rfl | skip
 ·(refine q_H Tryz.func58 (fun F=>?_); simp only [q_z,q_y,Tryz.ntmps58,Tryz.results58])
  repeat' (first|(with_reducible first|apply q_a|apply q_b|apply q_c|apply q_d|apply q_e|apply q_f|apply q_g|apply q_h|apply q_i|apply q_j|apply q_k|apply q_m|apply q_n|apply q_o|apply q_p|refine q_l ?_)|((with_reducible first|refine q_q dba_ok fun K hK=>?_|refine q_r dba_ok fun K hK=>?_);simp (maxSteps:=2000000) only [go_sem,↓reduceIte,reduceCtorEq,Nat.reduceLeDiff,Nat.reduceLT,Nat.reduceBEq,Nat.reduceAdd,o0,o1,o2];(repeat1' with_reducible first|apply And.intro|(intro _;try exact q_v)|(refine hK _ ?_;clear hK K))<;>(try (clear hK K;exact q_u)))|(with_reducible refine q_s ?_;(first|apply q_J|apply q_K|apply q_L|apply q_M|apply q_N|apply q_O)<;>try (intro _;try exact q_v))|with_reducible refine q_t ?_)
  all_goals first | omega | assumption | exact q_B [nDc] rfl rfl | exact q_A rfl | skip
 ·(refine q_H Tryz.func58 (fun F=>?_); simp only [q_z,q_y,Tryz.ntmps58,Tryz.results58])
  repeat' (first|(with_reducible first|apply q_a|apply q_b|apply q_c|apply q_d|apply q_e|apply q_f|apply q_g|apply q_h|apply q_i|apply q_j|apply q_k|apply q_m|apply q_n|apply q_o|apply q_p|refine q_l ?_)|((with_reducible first|refine q_q dba_ok fun K hK=>?_|refine q_r dba_ok fun K hK=>?_);simp (maxSteps:=2000000) only [go_sem,↓reduceIte,reduceCtorEq,Nat.reduceLeDiff,Nat.reduceLT,Nat.reduceBEq,Nat.reduceAdd,o0,o1,o2,o3];(repeat1' with_reducible first|apply And.intro|(intro _;try exact q_v)|(refine hK _ ?_;clear hK K))<;>(try (clear hK K;exact q_u)))|(with_reducible refine q_s ?_;(first|apply q_J|apply q_K|apply q_L|apply q_M|apply q_N|apply q_O)<;>try (intro _;try exact q_v))|with_reducible refine q_t ?_)
  all_goals first | omega | assumption | exact q_B [nDc] rfl rfl | exact q_A rfl | skip
set_option maxRecDepth 100000 in
set_option maxHeartbeats 6400000 in
theorem dFma_ok (A B D : Dc) (c : Cx) (hA : OkD A) (hB : OkD B) (hD : OkD D) (hc : OkC c) : Ret Tryz.prog 58 false [.inr (gDc A),.inr (gDc B),.inr (gDc D),.inr (gCx c)] (rDS (fmaD A B D c) (fmaS A B D c)):=by
 have o0:=okCx_c hc
 have o1:=okD_g hA
 have o2:=okD_g hB
 have o3:=okD_g hD
 obtain ⟨a1,a2,a3⟩:=okd_exp hA
 obtain ⟨b1,b2,b3⟩:=okd_exp hB
 obtain ⟨d1,d2,d3⟩:=okd_exp hD
 have l1:=coef_len a1
 have l2:=coef_len b1
 have l3:=coef_len d1
 have hs:=smP_mul hA hB hD
 have hP:=PF_sum (s:=A.neg != B.neg) (t:=D.neg) hs
 have hm:=ds_mul a1 b1
 have e0:=okd_exp (en_ok A B).1
 unfold fmaD fmaS
 generalize hEn : enD A B = E at *
 generalize hSn : enS A B = S at *
 obtain ⟨k,s,m,e⟩:=A
 obtain ⟨l,t,n,f⟩:=B
 obtain ⟨k3,s3,m3,e3⟩:=D
 obtain ⟨k4,s4,m4,e4⟩:=E
 obtain ⟨p,r,mn,mx⟩:=c
 simp only at o0 o1 o2 o3 a1 a2 a3 b1 b2 b3 d1 d2 d3 l1 l2 l3 hs hP hm e0 ⊢
 clear hA hB hc hD
 by_cases h : k = 0 ∧ l = 0
 ·have h' : ¬ (k ≠ 0 ∨ l ≠ 0):=by omega
  rw [if_neg h',if_neg h']
  clear h' hEn hSn e0
  obtain ⟨rfl,rfl⟩:=h
  by_cases h3 : k3 = 0
  ·subst h3
   simp only [ne_eq,not_true_eq_false,if_false]
   have e1 : flr ⟨p,r,mn,mx⟩ = decide (r = 2):=rfl
   rw [e1]
   clear e1
   have l5:=ds_600 (n:=m * n) (by omega)
   generalize hN : m * n = N at *
   generalize hF : e + f = F0 at *
   (refine q_H Tryz.func58 (fun F=>?_); simp only [q_z,q_y,Tryz.ntmps58,Tryz.results58])
   repeat' (first|(with_reducible first|apply q_a|apply q_b|apply q_c|apply q_d|apply q_e|apply q_f|apply q_g|apply q_h|apply q_i|apply q_j|apply q_k|apply q_m|apply q_n|apply q_o|apply q_p|refine q_l ?_)|((with_reducible first|refine q_q dba_ok fun K hK=>?_|refine q_r dba_ok fun K hK=>?_);simp (maxSteps:=2000000) only [go_sem,↓reduceIte,reduceCtorEq,Nat.reduceLeDiff,Nat.reduceLT,Nat.reduceBEq,Nat.reduceAdd,o0,o1,o2,o3,V32,hN,hF];(repeat1' with_reducible first|apply And.intro|(intro _;try exact q_v)|(refine hK _ ?_;clear hK K))<;>(try (clear hK K;exact q_u)))|(with_reducible refine q_s ?_;(first|apply q_J|apply q_K|apply q_L|apply q_M|apply q_N|apply q_O)<;>try (intro _;try exact q_v))|with_reducible refine q_t ?_)
   all_goals first | omega | assumption | exact q_A rfl | skip
  ·rw [if_pos h3,if_pos h3]
   clear hs hP
   have z0 : (⟨0,false,0,0⟩ : Dc) = d00:=rfl
   (refine q_H Tryz.func58 (fun F=>?_); simp only [q_z,q_y,Tryz.ntmps58,Tryz.results58])
   repeat' (first|(with_reducible first|apply q_a|apply q_b|apply q_c|apply q_d|apply q_e|apply q_f|apply q_g|apply q_h|apply q_i|apply q_j|apply q_k|apply q_m|apply q_n|apply q_o|apply q_p|refine q_l ?_)|((with_reducible first|refine q_q dba_ok fun K hK=>?_|refine q_r dba_ok fun K hK=>?_);simp (maxSteps:=2000000) only [go_sem,↓reduceIte,reduceCtorEq,Nat.reduceLeDiff,Nat.reduceLT,Nat.reduceBEq,Nat.reduceAdd,o0,o1,o2,o3,V32,V0,z0];(repeat1' with_reducible first|apply And.intro|(intro _;try exact q_v)|(refine hK _ ?_;clear hK K))<;>(try (clear hK K;exact q_u)))|(with_reducible refine q_s ?_;(first|apply q_J|apply q_K|apply q_L|apply q_M|apply q_N|apply q_O)<;>try (intro _;try exact q_v))|with_reducible refine q_t ?_)
   all_goals first | omega | assumption | exact q_A rfl | skip
 ·have h' : k ≠ 0 ∨ l ≠ 0:=by omega
  rw [if_pos h',if_pos h']
  clear hs hP hm
  obtain ⟨e01,e02,e03⟩:=e0
  have l4:=coef_len e01
  by_cases h4 : S = 0
  ·rw [if_pos h4,if_pos h4]
   subst h4
   (refine q_H Tryz.func58 (fun F=>?_); simp only [q_z,q_y,Tryz.ntmps58,Tryz.results58])
   repeat' (first|(with_reducible first|apply q_a|apply q_b|apply q_c|apply q_d|apply q_e|apply q_f|apply q_g|apply q_h|apply q_i|apply q_j|apply q_k|apply q_m|apply q_n|apply q_o|apply q_p|refine q_l ?_)|((with_reducible first|refine q_q dba_ok fun K hK=>?_|refine q_r dba_ok fun K hK=>?_);simp (maxSteps:=2000000) only [go_sem,↓reduceIte,reduceCtorEq,Nat.reduceLeDiff,Nat.reduceLT,Nat.reduceBEq,Nat.reduceAdd,o0,o1,o2,o3,V32,hEn,hSn];(repeat1' with_reducible first|apply And.intro|(intro _;try exact q_v)|(refine hK _ ?_;clear hK K))<;>(try (clear hK K;exact q_u)))|(with_reducible refine q_s ?_;(first|apply q_J|apply q_K|apply q_L|apply q_M|apply q_N|apply q_O)<;>try (intro _;try exact q_v))|with_reducible refine q_t ?_)
   all_goals first | omega | assumption | exact q_A rfl | skip
  ·rw [if_neg h4,if_neg h4]
   (refine q_H Tryz.func58 (fun F=>?_); simp only [q_z,q_y,Tryz.ntmps58,Tryz.results58])
   repeat' (first|(with_reducible first|apply q_a|apply q_b|apply q_c|apply q_d|apply q_e|apply q_f|apply q_g|apply q_h|apply q_i|apply q_j|apply q_k|apply q_m|apply q_n|apply q_o|apply q_p|refine q_l ?_)|((with_reducible first|refine q_q dba_ok fun K hK=>?_|refine q_r dba_ok fun K hK=>?_);simp (maxSteps:=2000000) only [go_sem,↓reduceIte,reduceCtorEq,Nat.reduceLeDiff,Nat.reduceLT,Nat.reduceBEq,Nat.reduceAdd,o0,o1,o2,o3,V32,hEn,hSn];(repeat1' with_reducible first|apply And.intro|(intro _;try exact q_v)|(refine hK _ ?_;clear hK K))<;>(try (clear hK K;exact q_u)))|(with_reducible refine q_s ?_;(first|apply q_J|apply q_K|apply q_L|apply q_M|apply q_N|apply q_O)<;>try (intro _;try exact q_v))|with_reducible refine q_t ?_)
   all_goals first | omega | assumption | exact q_A rfl | skip
def op3CT (f : Dc → Dc → Dc → Cx → Dc) (g : Dc → Dc → Dc → Cx → Int) : CT:=mkCT [nDc,nDc,nDc,nC] false fun l K=>match l with
 | [.inr [.i .i64 k,.b s,.b a,.ints .u32 xs,.i .i64 e],.inr [.i .i64 l,.b t,.b b,.ints .u32 ys,.i .i64 e'],.inr [.i .i64 k3,.b s3,.b a3,.ints .u32 zs,.i .i64 e3],.inr [.i .i64 p,.i .i64 r,.i .i64 mn,.i .i64 mx]] =>
   (xs.length ≤ 140737488355328 ∧ ys.length ≤ 140737488355328 ∧ zs.length ≤ 140737488355328 ∧ InB 4294967296 xs ∧ InB 4294967296 ys ∧ InB 4294967296 zs) ∧
   (if okCx p r mn mx = true then (if okD k s a xs e = true then (if okD l t b ys e' = true then (if okD k3 s3 a3 zs e3 = true then
     K (rDS (f ⟨k,s,V 4294967296 xs,e⟩ ⟨l,t,V 4294967296 ys,e'⟩ ⟨k3,s3,V 4294967296 zs,e3⟩ ⟨p,r,mn,mx⟩) (g ⟨k,s,V 4294967296 xs,e⟩ ⟨l,t,V 4294967296 ys,e'⟩ ⟨k3,s3,V 4294967296 zs,e3⟩ ⟨p,r,mn,mx⟩))
    else K (rBad 6 (-3))) else K (rBad 6 (-2))) else K (rBad 6 (-1))) else K (rBad 4 (-9)))
 | _=>False
def dg9x : Cfg:=addT 58 (op3CT fmaD fmaS) cf0
theorem dg9x_ok : TblOk Tryz.prog dg9x:=q_I cf0_ok Tryz.func58 fun l K hk=>by
 split at hk
 ·rename_i k s a xs e l t b ys f k3 s3 a3 zs e3 p r mn mx
  obtain ⟨⟨h1,h2,h3,b1,b2,b3⟩,h⟩:=hk
  obtain ⟨q1,q2,q3,q4⟩:=dFma_bad k l s t a b xs ys e f k3 s3 a3 zs e3 p r mn mx h1 h2 h3 b1 b2 b3
  split at h
  ·rename_i o0
   split at h
   ·rename_i o1
    split at h
    ·rename_i o2
     split at h
     ·rename_i o3
      obtain ⟨e1,r1⟩:=gDc_of o1 b1
      obtain ⟨e2,r2⟩:=gDc_of o2 b2
      obtain ⟨e4,r3⟩:=gDc_of o3 b3
      rw [e1,e2,e4]
      exact ⟨_,dFma_ok _ _ _ ⟨p,r,mn,mx⟩ r1 r2 r3 (OkC_b o0),h⟩
     ·rename_i o3; exact ⟨_,q4 o0 o1 o2 (by simpa using o3),h⟩
    ·rename_i o2; exact ⟨_,q3 o0 o1 (by simpa using o2),h⟩
   ·rename_i o1; exact ⟨_,q2 o0 (by simpa using o1),h⟩
  ·rename_i o0; exact ⟨_,q1 (by simpa using o0),h⟩
 ·exact hk.elim
attribute [go_sem] op3CT
end Go.Proofs.YtgkajjifbcmoeaaGreatDoor
