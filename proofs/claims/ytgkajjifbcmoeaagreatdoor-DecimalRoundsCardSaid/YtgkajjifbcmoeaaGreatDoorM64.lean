import Derived.Test.YtgkajjifbcmoeaaGreatDoorM59
import Derived.Test.YtgkajjifbcmoeaaGreatDoorM62
import Derived.Test.YtgkajjifbcmoeaaGreatDoorM63
namespace Go.Proofs.YtgkajjifbcmoeaaGreatDoor
set_option linter.unusedSimpArgs false
set_option linter.unusedVariables false
open Go.Abs Go.Proofs.NatL

theorem red_ok {A : Dc} {c : Cx} (hA : OkD A) (hc : OkC c) : (dg 4294967296 (redD A c).coef).length ≤ 600:=by
 have h:=okd_exp (rnd_ok hA hc)
 unfold redD redX
 generalize rndD A c = X at *
 split
 ·exact Nat.le_trans (coef_len h.1) (by decide)
 split
 ·simp [dg_zero]
 ·refine ds_600 ?_
  have:=twd_len (1200 - X.exp).toNat X.coef X.exp
  simp only; omega
theorem qt_ok {A : Dc} {x : Int} {c : Cx} (hc : OkC c) : (dg 4294967296 (qtD A x c).coef).length ≤ 600:=by
 unfold qtD
 have h0 : (dg 4294967296 dNone.coef).length ≤ 600:=by simp [dNone,dg_zero]
 split
 ·exact h0
 split
 ·exact h0
 split
 ·exact h0
 ·rename_i h
  unfold qtBad at h
  refine ds_600 ?_
  have:=hc.2.1
  simp only; omega
def dlb : Cfg:=listT [(18,dcheckCT),(41,(op1CT rndD rndS)),(42,(op1CT redD rndS)),(43,(opICT qtD qtS)),(44,(opR1CT rndD rndS)),(45,(opR1CT redD rndS)),(46,(opRICT qtD qtS)),(40,comesCT),(31,tenthsCT)] [34]
theorem dlb_ok : TblOk Tryz.prog dlb:=listE_ok (by simp only [List.mem_singleton,forall_eq]; exact flt) ⟨⟨er9,er9_ok,rfl⟩,⟨dg6x,dg6x_ok,rfl⟩,⟨dg7x,dg7x_ok,rfl⟩,⟨dg8x,dg8x_ok,rfl⟩,⟨et3,et3_ok,rfl⟩,⟨et4,et4_ok,rfl⟩,⟨et5,et5_ok,rfl⟩,⟨eu3,eu3_ok,rfl⟩,⟨dh5,dh5_ok,rfl⟩,trivial⟩
attribute [go_sem] dlb
set_option maxRecDepth 100000 in
set_option maxHeartbeats 6400000 in
theorem drounds_ret (k : Int) (s a : Bool) (xs : List Int) (e x p r mn mx : Int) (h1 : xs.length ≤ 140737488355328) (b1 : InB 4294967296 xs) :
  Ret Tryz.prog 6 false [.inr [.i .i64 k,.b s,.b a,.ints .u32 xs,.i .i64 e],.inl (.i .i64 x),.inr [.i .i64 p,.i .i64 r,.i .i64 mn,.i .i64 mx]] (.c (.b true)):=by
 cases o0 : okCx p r mn mx
 ·(refine q_H Tryz.func6 (fun F=>?_); simp only [q_z,q_y,Tryz.ntmps6,Tryz.results6])
  repeat' (first|(with_reducible first|apply q_a|apply q_b|apply q_c|apply q_d|apply q_e|apply q_f|apply q_g|apply q_h|apply q_i|apply q_j|apply q_k|apply q_m|apply q_n|apply q_o|apply q_p|refine q_l ?_)|((with_reducible first|refine q_q dlb_ok fun K hK=>?_|refine q_r dlb_ok fun K hK=>?_);simp (maxSteps:=2000000) only [go_sem,↓reduceIte,reduceCtorEq,Nat.reduceLeDiff,Nat.reduceLT,Nat.reduceBEq,Nat.reduceAdd,o0];(repeat1' with_reducible first|apply And.intro|(intro _;try exact q_v)|(refine hK _ ?_;clear hK K))<;>(try (clear hK K;exact q_u)))|(with_reducible refine q_s ?_;(first|apply q_J|apply q_K|apply q_L|apply q_M|apply q_N|apply q_O)<;>try (intro _;try exact q_v))|with_reducible refine q_t ?_)
  all_goals first | omega | assumption | exact q_A rfl | skip
 cases o1 : okD k s a xs e
 ·(refine q_H Tryz.func6 (fun F=>?_); simp only [q_z,q_y,Tryz.ntmps6,Tryz.results6])
  repeat' (first|(with_reducible first|apply q_a|apply q_b|apply q_c|apply q_d|apply q_e|apply q_f|apply q_g|apply q_h|apply q_i|apply q_j|apply q_k|apply q_m|apply q_n|apply q_o|apply q_p|refine q_l ?_)|((with_reducible first|refine q_q dlb_ok fun K hK=>?_|refine q_r dlb_ok fun K hK=>?_);simp (maxSteps:=2000000) only [go_sem,↓reduceIte,reduceCtorEq,Nat.reduceLeDiff,Nat.reduceLT,Nat.reduceBEq,Nat.reduceAdd,o0,o1];(repeat1' with_reducible first|apply And.intro|(intro _;try exact q_v)|(refine hK _ ?_;clear hK K))<;>(try (clear hK K;exact q_u)))|(with_reducible refine q_s ?_;(first|apply q_J|apply q_K|apply q_L|apply q_M|apply q_N|apply q_O)<;>try (intro _;try exact q_v))|with_reducible refine q_t ?_)
  all_goals first | omega | assumption | exact q_A rfl | skip
 obtain ⟨_,r1⟩:=gDc_of o1 b1
 have q1:=okd_len (rnd_ok r1 (OkC_b o0))
 have q2:=red_ok r1 (OkC_b o0)
 have q3:=qt_ok (A:=⟨k,s,V 4294967296 xs,e⟩) (x:=x) (OkC_b o0)
 (refine q_H Tryz.func6 (fun F=>?_); simp only [q_z,q_y,Tryz.ntmps6,Tryz.results6])
 repeat' (first|(with_reducible first|apply q_a|apply q_b|apply q_c|apply q_d|apply q_e|apply q_f|apply q_g|apply q_h|apply q_i|apply q_j|apply q_k|apply q_m|apply q_n|apply q_o|apply q_p|refine q_l ?_)|((with_reducible first|refine q_q dlb_ok fun K hK=>?_|refine q_r dlb_ok fun K hK=>?_);simp (maxSteps:=2000000) only [go_sem,↓reduceIte,reduceCtorEq,Nat.reduceLeDiff,Nat.reduceLT,Nat.reduceBEq,Nat.reduceAdd,o0,o1];(repeat1' with_reducible first|apply And.intro|(intro _;try exact q_v)|(refine hK _ ?_;clear hK K))<;>(try (clear hK K;exact q_u)))|(with_reducible refine q_s ?_;(first|apply q_J|apply q_K|apply q_L|apply q_M|apply q_N|apply q_O)<;>try (intro _;try exact q_v))|with_reducible refine q_t ?_)
 all_goals first | omega | assumption | exact q_A rfl | skip
end Go.Proofs.YtgkajjifbcmoeaaGreatDoor
