import Derived.Test.YtgkajjifbcmoeaaGreatDoorM62
import Derived.Test.YtgkajjifbcmoeaaGreatDoorM63
import Derived.Test.YtgkajjifbcmoeaaGreatDoorM97
namespace Go.Proofs.YtgkajjifbcmoeaaGreatDoor
set_option linter.unusedSimpArgs false
set_option linter.unusedVariables false
open Go.Abs Go.Proofs.NatL

def dlh : Cfg:=listT [(18,dcheckCT),(48,sqrtCT),(49,rootOfCT),(40,comesCT),(31,tenthsCT)] [34]
theorem dlh_ok : TblOk Tryz.prog dlh:=listE_ok (by simp only [List.mem_singleton,forall_eq]; exact flt) ⟨⟨er9,er9_ok,rfl⟩,⟨dk2,dk2_ok,rfl⟩,⟨exr1,exr1_ok,rfl⟩,⟨eu3,eu3_ok,rfl⟩,⟨dh5,dh5_ok,rfl⟩,trivial⟩
attribute [go_sem] dlh
set_option maxRecDepth 100000 in
set_option maxHeartbeats 6400000 in
theorem droots_ret (k : Int) (s a : Bool) (xs : List Int) (e p r mn mx : Int) (h1 : xs.length ≤ 140737488355328) (b1 : InB 4294967296 xs) :
  Ret Tryz.prog 9 false [.inr [.i .i64 k,.b s,.b a,.ints .u32 xs,.i .i64 e],.inr [.i .i64 p,.i .i64 r,.i .i64 mn,.i .i64 mx]] (.c (.b true)):=by
 cases o0 : okCx p r mn mx
 ·(refine q_H Tryz.func9 (fun F=>?_); simp only [q_z,q_y,Tryz.ntmps9,Tryz.results9])
  repeat' (first|(with_reducible first|apply q_a|apply q_b|apply q_c|apply q_d|apply q_e|apply q_f|apply q_g|apply q_h|apply q_i|apply q_j|apply q_k|apply q_m|apply q_n|apply q_o|apply q_p|refine q_l ?_)|((with_reducible first|refine q_q dlh_ok fun K hK=>?_|refine q_r dlh_ok fun K hK=>?_);simp (maxSteps:=2000000) only [go_sem,↓reduceIte,reduceCtorEq,Nat.reduceLeDiff,Nat.reduceLT,Nat.reduceBEq,Nat.reduceAdd,o0];(repeat1' with_reducible first|apply And.intro|(intro _;try exact q_v)|(refine hK _ ?_;clear hK K))<;>(try (clear hK K;exact q_u)))|(with_reducible refine q_s ?_;(first|apply q_J|apply q_K|apply q_L|apply q_M|apply q_N|apply q_O)<;>try (intro _;try exact q_v))|with_reducible refine q_t ?_)
  all_goals first | omega | assumption | exact q_A rfl | skip
 cases o1 : okD k s a xs e
 ·(refine q_H Tryz.func9 (fun F=>?_); simp only [q_z,q_y,Tryz.ntmps9,Tryz.results9])
  repeat' (first|(with_reducible first|apply q_a|apply q_b|apply q_c|apply q_d|apply q_e|apply q_f|apply q_g|apply q_h|apply q_i|apply q_j|apply q_k|apply q_m|apply q_n|apply q_o|apply q_p|refine q_l ?_)|((with_reducible first|refine q_q dlh_ok fun K hK=>?_|refine q_r dlh_ok fun K hK=>?_);simp (maxSteps:=2000000) only [go_sem,↓reduceIte,reduceCtorEq,Nat.reduceLeDiff,Nat.reduceLT,Nat.reduceBEq,Nat.reduceAdd,o0,o1];(repeat1' with_reducible first|apply And.intro|(intro _;try exact q_v)|(refine hK _ ?_;clear hK K))<;>(try (clear hK K;exact q_u)))|(with_reducible refine q_s ?_;(first|apply q_J|apply q_K|apply q_L|apply q_M|apply q_N|apply q_O)<;>try (intro _;try exact q_v))|with_reducible refine q_t ?_)
  all_goals first | omega | assumption | exact q_A rfl | skip
 obtain ⟨_,r1⟩:=gDc_of o1 b1
 have q1:=okd_len (sq_ok r1 (OkC_b o0))
 (refine q_H Tryz.func9 (fun F=>?_); simp only [q_z,q_y,Tryz.ntmps9,Tryz.results9])
 repeat' (first|(with_reducible first|apply q_a|apply q_b|apply q_c|apply q_d|apply q_e|apply q_f|apply q_g|apply q_h|apply q_i|apply q_j|apply q_k|apply q_m|apply q_n|apply q_o|apply q_p|refine q_l ?_)|((with_reducible first|refine q_q dlh_ok fun K hK=>?_|refine q_r dlh_ok fun K hK=>?_);simp (maxSteps:=2000000) only [go_sem,↓reduceIte,reduceCtorEq,Nat.reduceLeDiff,Nat.reduceLT,Nat.reduceBEq,Nat.reduceAdd,o0,o1];(repeat1' with_reducible first|apply And.intro|(intro _;try exact q_v)|(refine hK _ ?_;clear hK K))<;>(try (clear hK K;exact q_u)))|(with_reducible refine q_s ?_;(first|apply q_J|apply q_K|apply q_L|apply q_M|apply q_N|apply q_O)<;>try (intro _;try exact q_v))|with_reducible refine q_t ?_)
 all_goals first | omega | assumption | exact q_A rfl | skip
end Go.Proofs.YtgkajjifbcmoeaaGreatDoor
