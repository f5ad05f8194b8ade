import Derived.Test.YtgkajjifbcmoeaaGreatDoorM38
import Derived.Test.YtgkajjifbcmoeaaGreatDoorM39
namespace Go.Proofs.NatL
set_option linter.unusedSimpArgs false
set_option linter.unusedVariables false
end Go.Proofs.NatL
namespace Go.Proofs.YtgkajjifbcmoeaaGreatDoor
set_option linter.unusedSimpArgs false
set_option linter.unusedVariables false
open Go.Abs Go.Proofs.NatL

set_option maxHeartbeats 3200000 in
theorem dSub_bad (k l : Int) (s t a b : Bool) (xs ys : List Int) (e e' p r mn mx : Int) (h1 : xs.length ≤ 140737488355328) (h2 : ys.length ≤ 140737488355328) (h3 : InB 4294967296 xs) (h4 : InB 4294967296 ys) :
   (okCx p r mn mx = false → Ret Tryz.prog 25 false [.inr [.i .i64 k,.b s,.b a,.ints .u32 xs,.i .i64 e],.inr [.i .i64 l,.b t,.b b,.ints .u32 ys,.i .i64 e'],.inr [.i .i64 p,.i .i64 r,.i .i64 mn,.i .i64 mx]] (rBad 4 (-9))) ∧
   (okCx p r mn mx = true → okD k s a xs e = false → Ret Tryz.prog 25 false [.inr [.i .i64 k,.b s,.b a,.ints .u32 xs,.i .i64 e],.inr [.i .i64 l,.b t,.b b,.ints .u32 ys,.i .i64 e'],.inr [.i .i64 p,.i .i64 r,.i .i64 mn,.i .i64 mx]] (rBad 6 (-1))) ∧
   (okCx p r mn mx = true → okD k s a xs e = true → okD l t b ys e' = false → Ret Tryz.prog 25 false [.inr [.i .i64 k,.b s,.b a,.ints .u32 xs,.i .i64 e],.inr [.i .i64 l,.b t,.b b,.ints .u32 ys,.i .i64 e'],.inr [.i .i64 p,.i .i64 r,.i .i64 mn,.i .i64 mx]] (rBad 6 (-2))):=by
 refine ⟨fun o0=>?_,fun o0 o1=>?_,fun o0 o1 o2=>?_⟩
 ·(refine q_H Tryz.func25 (fun F=>?_); simp only [q_z,q_y,Tryz.ntmps25,Tryz.results25])
  repeat' (first|(with_reducible first|apply q_a|apply q_b|apply q_c|apply q_d|apply q_e|apply q_f|apply q_g|apply q_h|apply q_i|apply q_j|apply q_k|apply q_m|apply q_n|apply q_o|apply q_p|refine q_l ?_)|((with_reducible first|refine q_q dba_ok fun K hK=>?_|refine q_r dba_ok fun K hK=>?_);simp (maxSteps:=2000000) only [go_sem,↓reduceIte,reduceCtorEq,Nat.reduceLeDiff,Nat.reduceLT,Nat.reduceBEq,Nat.reduceAdd,o0];(repeat1' with_reducible first|apply And.intro|(intro _;try exact q_v)|(refine hK _ ?_;clear hK K))<;>(try (clear hK K;exact q_u)))|(with_reducible refine q_s ?_;(first|apply q_J|apply q_K|apply q_L|apply q_M|apply q_N|apply q_O)<;>try (intro _;try exact q_v))|with_reducible refine q_t ?_)
  all_goals first | omega | assumption | exact q_B [nDc] rfl rfl | exact q_A rfl | skip
 ·(refine q_H Tryz.func25 (fun F=>?_); simp only [q_z,q_y,Tryz.ntmps25,Tryz.results25])
  repeat' (first|(with_reducible first|apply q_a|apply q_b|apply q_c|apply q_d|apply q_e|apply q_f|apply q_g|apply q_h|apply q_i|apply q_j|apply q_k|apply q_m|apply q_n|apply q_o|apply q_p|refine q_l ?_)|((with_reducible first|refine q_q dba_ok fun K hK=>?_|refine q_r dba_ok fun K hK=>?_);simp (maxSteps:=2000000) only [go_sem,↓reduceIte,reduceCtorEq,Nat.reduceLeDiff,Nat.reduceLT,Nat.reduceBEq,Nat.reduceAdd,o0,o1];(repeat1' with_reducible first|apply And.intro|(intro _;try exact q_v)|(refine hK _ ?_;clear hK K))<;>(try (clear hK K;exact q_u)))|(with_reducible refine q_s ?_;(first|apply q_J|apply q_K|apply q_L|apply q_M|apply q_N|apply q_O)<;>try (intro _;try exact q_v))|with_reducible refine q_t ?_)
  all_goals first | omega | assumption | exact q_B [nDc] rfl rfl | exact q_A rfl | skip
 ·(refine q_H Tryz.func25 (fun F=>?_); simp only [q_z,q_y,Tryz.ntmps25,Tryz.results25])
  repeat' (first|(with_reducible first|apply q_a|apply q_b|apply q_c|apply q_d|apply q_e|apply q_f|apply q_g|apply q_h|apply q_i|apply q_j|apply q_k|apply q_m|apply q_n|apply q_o|apply q_p|refine q_l ?_)|((with_reducible first|refine q_q dba_ok fun K hK=>?_|refine q_r dba_ok fun K hK=>?_);simp (maxSteps:=2000000) only [go_sem,↓reduceIte,reduceCtorEq,Nat.reduceLeDiff,Nat.reduceLT,Nat.reduceBEq,Nat.reduceAdd,o0,o1,o2];(repeat1' with_reducible first|apply And.intro|(intro _;try exact q_v)|(refine hK _ ?_;clear hK K))<;>(try (clear hK K;exact q_u)))|(with_reducible refine q_s ?_;(first|apply q_J|apply q_K|apply q_L|apply q_M|apply q_N|apply q_O)<;>try (intro _;try exact q_v))|with_reducible refine q_t ?_)
  all_goals first | omega | assumption | exact q_B [nDc] rfl rfl | exact q_A rfl | skip
def dbb : Cfg:=listT [(71,dcheckCT),(24,(op2CT addD addS))] [34]
theorem dbb_ok : TblOk Tryz.prog dbb:=listE_ok (by simp only [List.mem_singleton,forall_eq]; exact flt) ⟨⟨de7,de7_ok,rfl⟩,⟨dg1x,dg1x_ok,rfl⟩,trivial⟩
attribute [go_sem] dbb
set_option maxHeartbeats 3200000 in
theorem dSub_ok (A B : Dc) (c : Cx) (hA : OkD A) (hB : OkD B) (hc : OkC c) : Ret Tryz.prog 25 false [.inr (gDc A),.inr (gDc B),.inr (gCx c)] (rDS (addD A (opD B) c) (addS A (opD B) c)):=by
 have o0:=okCx_c hc
 have o1:=okD_g hA
 have o2:=okD_g hB
 have o3:=okD_g (opD_ok hB)
 obtain ⟨a1,a2,a3⟩:=okd_exp hA
 obtain ⟨b1,b2,b3⟩:=okd_exp hB
 have l1:=coef_len a1
 have l2:=coef_len b1
 obtain ⟨k,s,m,e⟩:=A
 obtain ⟨l,t,n,f⟩:=B
 obtain ⟨p,r,mn,mx⟩:=c
 clear hA hB hc
 by_cases h : l = 2
 ·have e1 : opD ⟨l,t,n,f⟩ = ⟨l,t,n,f⟩:=if_pos h
  clear o3
  rw [e1]
  simp only at o0 o1 o2 l1 l2
  (refine q_H Tryz.func25 (fun F=>?_); simp only [q_z,q_y,Tryz.ntmps25,Tryz.results25])
  repeat' (first|(with_reducible first|apply q_a|apply q_b|apply q_c|apply q_d|apply q_e|apply q_f|apply q_g|apply q_h|apply q_i|apply q_j|apply q_k|apply q_m|apply q_n|apply q_o|apply q_p|refine q_l ?_)|((with_reducible first|refine q_q dbb_ok fun K hK=>?_|refine q_r dbb_ok fun K hK=>?_);simp (maxSteps:=2000000) only [go_sem,↓reduceIte,reduceCtorEq,Nat.reduceLeDiff,Nat.reduceLT,Nat.reduceBEq,Nat.reduceAdd,o0,o1,o2,V32];(repeat1' with_reducible first|apply And.intro|(intro _;try exact q_v)|(refine hK _ ?_;clear hK K))<;>(try (clear hK K;exact q_u)))|(with_reducible refine q_s ?_;(first|apply q_J|apply q_K|apply q_L|apply q_M|apply q_N|apply q_O)<;>try (intro _;try exact q_v))|with_reducible refine q_t ?_)
  all_goals first | omega | assumption | exact q_A rfl | skip
 ·have e1 : opD ⟨l,t,n,f⟩ = ⟨l,!t,n,f⟩:=if_neg h
  rw [e1] at o3
  rw [e1]
  simp only at o0 o1 o2 o3 l1 l2
  (refine q_H Tryz.func25 (fun F=>?_); simp only [q_z,q_y,Tryz.ntmps25,Tryz.results25])
  repeat' (first|(with_reducible first|apply q_a|apply q_b|apply q_c|apply q_d|apply q_e|apply q_f|apply q_g|apply q_h|apply q_i|apply q_j|apply q_k|apply q_m|apply q_n|apply q_o|apply q_p|refine q_l ?_)|((with_reducible first|refine q_q dbb_ok fun K hK=>?_|refine q_r dbb_ok fun K hK=>?_);simp (maxSteps:=2000000) only [go_sem,↓reduceIte,reduceCtorEq,Nat.reduceLeDiff,Nat.reduceLT,Nat.reduceBEq,Nat.reduceAdd,o0,o1,o2,o3,V32];(repeat1' with_reducible first|apply And.intro|(intro _;try exact q_v)|(refine hK _ ?_;clear hK K))<;>(try (clear hK K;exact q_u)))|(with_reducible refine q_s ?_;(first|apply q_J|apply q_K|apply q_L|apply q_M|apply q_N|apply q_O)<;>try (intro _;try exact q_v))|with_reducible refine q_t ?_)
  all_goals first | omega | assumption | exact q_A rfl | skip
def subD (A B : Dc) (c : Cx) : Dc:=addD A (opD B) c
def subS (A B : Dc) (c : Cx) : Int:=addS A (opD B) c
def dg2x : Cfg:=addT 25 (op2CT subD subS) cf0
theorem dg2x_ok : TblOk Tryz.prog dg2x:=q_I cf0_ok Tryz.func25 fun l K h =>
 op2_tr (f:=subD) (g:=subS) (fun A B c hA hB hc=>dSub_ok A B c hA hB hc) (fun k l s t a b xs ys e e' p r mn mx h1 h2 h3 h4=>dSub_bad k l s t a b xs ys e e' p r mn mx h1 h2 h3 h4) l K h
end Go.Proofs.YtgkajjifbcmoeaaGreatDoor
