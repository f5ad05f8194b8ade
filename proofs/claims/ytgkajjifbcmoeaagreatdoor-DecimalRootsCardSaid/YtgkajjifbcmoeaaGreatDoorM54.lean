import Derived.Test.YtgkajjifbcmoeaaGreatDoorM10
import Derived.Test.YtgkajjifbcmoeaaGreatDoorM53
namespace Go.Proofs.NatL
set_option linter.unusedSimpArgs false
set_option linter.unusedVariables false
end Go.Proofs.NatL
namespace Go.Proofs.YtgkajjifbcmoeaaGreatDoor
set_option linter.unusedSimpArgs false
set_option linter.unusedVariables false
open Go.Abs Go.Proofs.NatL

def es5 : Cfg:=addT 114 isZeroCT cf0
theorem es5_ok : TblOk Tryz.prog es5:=q_I cf0_ok Tryz.func114 fun l K h=>by
 split at h
 ·rename_i k s t xs e
  refine ⟨_,Ret.plain ?_ rfl,h⟩
  by_cases h : k = 0
  ·(refine q_H Tryz.func114 (fun F=>?_); simp only [q_z,q_y,Tryz.ntmps114,Tryz.results114])
   repeat' (first|(with_reducible first|apply q_a|apply q_b|apply q_c|apply q_d|apply q_e|apply q_f|apply q_g|apply q_h|apply q_i|apply q_j|apply q_k|apply q_m|apply q_n|apply q_o|apply q_p|refine q_l ?_)|((with_reducible first|refine q_q eb8_ok fun K hK=>?_|refine q_r eb8_ok fun K hK=>?_);simp (maxSteps:=2000000) only [go_sem,↓reduceIte,reduceCtorEq,Nat.reduceLeDiff,Nat.reduceLT,Nat.reduceBEq,Nat.reduceAdd];(repeat1' with_reducible first|apply And.intro|(intro _;try exact q_v)|(refine hK _ ?_;clear hK K))<;>(try (clear hK K;exact q_u)))|(with_reducible refine q_s ?_;(first|apply q_J|apply q_K|apply q_L|apply q_M|apply q_N|apply q_O)<;>try (intro _;try exact q_v))|with_reducible refine q_t ?_)
   all_goals first | omega | exact q_A (by simp [resAV,q_y,h]) | skip
  ·(refine q_H Tryz.func114 (fun F=>?_); simp only [q_z,q_y,Tryz.ntmps114,Tryz.results114])
   repeat' (first|(with_reducible first|apply q_a|apply q_b|apply q_c|apply q_d|apply q_e|apply q_f|apply q_g|apply q_h|apply q_i|apply q_j|apply q_k|apply q_m|apply q_n|apply q_o|apply q_p|refine q_l ?_)|((with_reducible first|refine q_q eb8_ok fun K hK=>?_|refine q_r eb8_ok fun K hK=>?_);simp (maxSteps:=2000000) only [go_sem,↓reduceIte,reduceCtorEq,Nat.reduceLeDiff,Nat.reduceLT,Nat.reduceBEq,Nat.reduceAdd];(repeat1' with_reducible first|apply And.intro|(intro _;try exact q_v)|(refine hK _ ?_;clear hK K))<;>(try (clear hK K;exact q_u)))|(with_reducible refine q_s ?_;(first|apply q_J|apply q_K|apply q_L|apply q_M|apply q_N|apply q_O)<;>try (intro _;try exact q_v))|with_reducible refine q_t ?_)
   all_goals first | omega | exact q_A (by simp [resAV,q_y,h]) | skip
 ·exact h.elim
end Go.Proofs.YtgkajjifbcmoeaaGreatDoor
