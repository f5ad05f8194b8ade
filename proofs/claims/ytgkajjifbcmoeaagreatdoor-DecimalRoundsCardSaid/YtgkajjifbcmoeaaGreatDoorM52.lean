import Derived.Test.YtgkajjifbcmoeaaGreatDoorM35
import Derived.Test.YtgkajjifbcmoeaaGreatDoorM50
import Derived.Test.YtgkajjifbcmoeaaGreatDoorM51
namespace Go.Proofs.NatL
set_option linter.unusedSimpArgs false
set_option linter.unusedVariables false
def redX (X : Dc) : Dc:=if X.kind ≠ 0 then X else if X.coef = 0 then ⟨0,X.neg,0,0⟩ else ⟨0,X.neg,(twd (1200 - X.exp).toNat X.coef X.exp).1,(twd (1200 - X.exp).toNat X.coef X.exp).2⟩
def redD (A : Dc) (c : Cx) : Dc:=redX (rndD A c)
end Go.Proofs.NatL
namespace Go.Proofs.YtgkajjifbcmoeaaGreatDoor
set_option linter.unusedSimpArgs false
set_option linter.unusedVariables false
open Go.Abs Go.Proofs.NatL

end Go.Proofs.YtgkajjifbcmoeaaGreatDoor

namespace Go.Proofs.NatL
set_option linter.unusedSimpArgs false
set_option linter.unusedVariables false
end Go.Proofs.NatL
namespace Go.Proofs.YtgkajjifbcmoeaaGreatDoor
set_option linter.unusedSimpArgs false
set_option linter.unusedVariables false
open Go.Abs Go.Proofs.NatL

def dbg : Cfg:=listT [(41,(op1CT rndD rndS)),(73,isZeroCT),(118,towardCT)] [34]
theorem dbg_ok : TblOk Tryz.prog dbg:=listE_ok (by simp only [List.mem_singleton,forall_eq]; exact flt) ⟨⟨dg6x,dg6x_ok,rfl⟩,⟨df4,df4_ok,rfl⟩,⟨de3b,de3b_ok,rfl⟩,trivial⟩
attribute [go_sem] dbg
set_option maxHeartbeats 3200000 in
theorem dReduce_bad (k : Int) (s a : Bool) (xs : List Int) (e p r mn mx : Int) (h1 : xs.length ≤ 140737488355328) (h3 : InB 4294967296 xs) :
   (okCx p r mn mx = false → Ret Tryz.prog 42 false [.inr [.i .i64 k,.b s,.b a,.ints .u32 xs,.i .i64 e],.inr [.i .i64 p,.i .i64 r,.i .i64 mn,.i .i64 mx]] (rBad 4 (-9))) ∧
   (okCx p r mn mx = true → okD k s a xs e = false → Ret Tryz.prog 42 false [.inr [.i .i64 k,.b s,.b a,.ints .u32 xs,.i .i64 e],.inr [.i .i64 p,.i .i64 r,.i .i64 mn,.i .i64 mx]] (rBad 6 (-1))):=by
 refine ⟨fun o0=>?_,fun o0 o1=>?_⟩
 ·(refine q_H Tryz.func42 (fun F=>?_); simp only [q_z,q_y,Tryz.ntmps42,Tryz.results42])
  repeat' (first|(with_reducible first|apply q_a|apply q_b|apply q_c|apply q_d|apply q_e|apply q_f|apply q_g|apply q_h|apply q_i|apply q_j|apply q_k|apply q_m|apply q_n|apply q_o|apply q_p|refine q_l ?_)|((with_reducible first|refine q_q dbg_ok fun K hK=>?_|refine q_r dbg_ok fun K hK=>?_);simp (maxSteps:=2000000) only [go_sem,↓reduceIte,reduceCtorEq,Nat.reduceLeDiff,Nat.reduceLT,Nat.reduceBEq,Nat.reduceAdd,o0];(repeat1' with_reducible first|apply And.intro|(intro _;try exact q_v)|(refine hK _ ?_;clear hK K))<;>(try (clear hK K;exact q_u)))|(with_reducible refine q_s ?_;(first|apply q_J|apply q_K|apply q_L|apply q_M|apply q_N|apply q_O)<;>try (intro _;try exact q_v))|with_reducible refine q_t ?_)
  all_goals first | omega | assumption | exact q_B [nDc] rfl rfl | exact q_A rfl | skip
 ·(refine q_H Tryz.func42 (fun F=>?_); simp only [q_z,q_y,Tryz.ntmps42,Tryz.results42])
  repeat' (first|(with_reducible first|apply q_a|apply q_b|apply q_c|apply q_d|apply q_e|apply q_f|apply q_g|apply q_h|apply q_i|apply q_j|apply q_k|apply q_m|apply q_n|apply q_o|apply q_p|refine q_l ?_)|((with_reducible first|refine q_q dbg_ok fun K hK=>?_|refine q_r dbg_ok fun K hK=>?_);simp (maxSteps:=2000000) only [go_sem,↓reduceIte,reduceCtorEq,Nat.reduceLeDiff,Nat.reduceLT,Nat.reduceBEq,Nat.reduceAdd,o0,o1];(repeat1' with_reducible first|apply And.intro|(intro _;try exact q_v)|(refine hK _ ?_;clear hK K))<;>(try (clear hK K;exact q_u)))|(with_reducible refine q_s ?_;(first|apply q_J|apply q_K|apply q_L|apply q_M|apply q_N|apply q_O)<;>try (intro _;try exact q_v))|with_reducible refine q_t ?_)
  all_goals first | omega | assumption | exact q_B [nDc] rfl rfl | exact q_A rfl | skip
set_option maxHeartbeats 3200000 in
theorem dReduce_ok (A : Dc) (c : Cx) (hA : OkD A) (hc : OkC c) : Ret Tryz.prog 42 false [.inr (gDc A),.inr (gCx c)] (rDS (redD A c) (rndS A c)):=by
 have o0:=okCx_c hc
 have o1:=okD_g hA
 obtain ⟨a1,a2,a3⟩:=okd_exp hA
 have l1:=coef_len a1
 have oX:=rnd_ok hA hc
 obtain ⟨x1,x2,x3⟩:=okd_exp oX
 have l2:=coef_len x1
 have hr : redD A c = redX (rndD A c):=rfl
 rw [hr]
 unfold redX
 generalize hS : rndS A c = S at *
 generalize hX : rndD A c = X at *
 obtain ⟨k,s,m,e⟩:=A
 obtain ⟨p,r,mn,mx⟩:=c
 obtain ⟨k',s',m',e'⟩:=X
 have z1:=dg_nil_iff m'
 simp only at o0 o1 a1 a2 a3 l1 x1 x2 x3 l2 ⊢
 clear hA hc oX
 by_cases h : k' = 0
 ·subst h
  simp only [ne_eq,not_true_eq_false,if_false]
  by_cases hm : m' = 0
  ·rw [if_pos hm]
   have z2:=z1.2 hm
   subst hm
   (refine q_H Tryz.func42 (fun F=>?_); simp only [q_z,q_y,Tryz.ntmps42,Tryz.results42])
   repeat' (first|(with_reducible first|apply q_a|apply q_b|apply q_c|apply q_d|apply q_e|apply q_f|apply q_g|apply q_h|apply q_i|apply q_j|apply q_k|apply q_m|apply q_n|apply q_o|apply q_p|refine q_l ?_)|((with_reducible first|refine q_q dbg_ok fun K hK=>?_|refine q_r dbg_ok fun K hK=>?_);simp (maxSteps:=2000000) only [go_sem,↓reduceIte,reduceCtorEq,Nat.reduceLeDiff,Nat.reduceLT,Nat.reduceBEq,Nat.reduceAdd,o0,o1,V32,hX,hS];(repeat1' with_reducible first|apply And.intro|(intro _;try exact q_v)|(refine hK _ ?_;clear hK K))<;>(try (clear hK K;exact q_u)))|(with_reducible refine q_s ?_;(first|apply q_J|apply q_K|apply q_L|apply q_M|apply q_N|apply q_O)<;>try (intro _;try exact q_v))|with_reducible refine q_t ?_)
   all_goals first | omega | assumption | exact q_A rfl | skip
  ·rw [if_neg hm]
   have z2 : ¬ ((dg 4294967296 m').length : Int) = 0:=fun h=>hm (z1.1 h)
   (refine q_H Tryz.func42 (fun F=>?_); simp only [q_z,q_y,Tryz.ntmps42,Tryz.results42])
   repeat' (first|(with_reducible first|apply q_a|apply q_b|apply q_c|apply q_d|apply q_e|apply q_f|apply q_g|apply q_h|apply q_i|apply q_j|apply q_k|apply q_m|apply q_n|apply q_o|apply q_p|refine q_l ?_)|((with_reducible first|refine q_q dbg_ok fun K hK=>?_|refine q_r dbg_ok fun K hK=>?_);simp (maxSteps:=2000000) only [go_sem,↓reduceIte,reduceCtorEq,Nat.reduceLeDiff,Nat.reduceLT,Nat.reduceBEq,Nat.reduceAdd,o0,o1,V32,hX,hS];(repeat1' with_reducible first|apply And.intro|(intro _;try exact q_v)|(refine hK _ ?_;clear hK K))<;>(try (clear hK K;exact q_u)))|(with_reducible refine q_s ?_;(first|apply q_J|apply q_K|apply q_L|apply q_M|apply q_N|apply q_O)<;>try (intro _;try exact q_v))|with_reducible refine q_t ?_)
   all_goals first | omega | assumption | exact q_A rfl | skip
 ·rw [if_pos h]
  (refine q_H Tryz.func42 (fun F=>?_); simp only [q_z,q_y,Tryz.ntmps42,Tryz.results42])
  repeat' (first|(with_reducible first|apply q_a|apply q_b|apply q_c|apply q_d|apply q_e|apply q_f|apply q_g|apply q_h|apply q_i|apply q_j|apply q_k|apply q_m|apply q_n|apply q_o|apply q_p|refine q_l ?_)|((with_reducible first|refine q_q dbg_ok fun K hK=>?_|refine q_r dbg_ok fun K hK=>?_);simp (maxSteps:=2000000) only [go_sem,↓reduceIte,reduceCtorEq,Nat.reduceLeDiff,Nat.reduceLT,Nat.reduceBEq,Nat.reduceAdd,o0,o1,V32,hX,hS];(repeat1' with_reducible first|apply And.intro|(intro _;try exact q_v)|(refine hK _ ?_;clear hK K))<;>(try (clear hK K;exact q_u)))|(with_reducible refine q_s ?_;(first|apply q_J|apply q_K|apply q_L|apply q_M|apply q_N|apply q_O)<;>try (intro _;try exact q_v))|with_reducible refine q_t ?_)
  all_goals first | omega | assumption | exact q_A rfl | skip
def dg7x : Cfg:=addT 42 (op1CT redD rndS) cf0
theorem dg7x_ok : TblOk Tryz.prog dg7x:=q_I cf0_ok Tryz.func42 fun l K h =>
 op1_tr (f:=redD) (g:=rndS) (fun A c hA hc=>dReduce_ok A c hA hc) (fun k s a xs e p r mn mx h1 h3=>dReduce_bad k s a xs e p r mn mx h1 h3) l K h

end Go.Proofs.YtgkajjifbcmoeaaGreatDoor
