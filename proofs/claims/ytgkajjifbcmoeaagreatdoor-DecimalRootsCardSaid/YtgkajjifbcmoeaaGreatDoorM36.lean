import Derived.Test.YtgkajjifbcmoeaaGreatDoorM25
import Derived.Test.YtgkajjifbcmoeaaGreatDoorM31
import Derived.Test.YtgkajjifbcmoeaaGreatDoorM8
namespace Go.Proofs.NatL
set_option linter.unusedSimpArgs false
set_option linter.unusedVariables false
end Go.Proofs.NatL
namespace Go.Proofs.YtgkajjifbcmoeaaGreatDoor
set_option linter.unusedSimpArgs false
set_option linter.unusedVariables false
open Go.Abs Go.Proofs.NatL

set_option maxRecDepth 100000 in
set_option maxHeartbeats 1600000 in
theorem contextOk_ret (p r mn mx : Int) : Ret Tryz.prog 51 false [.inr [.i .i64 p,.i .i64 r,.i .i64 mn,.i .i64 mx]] (.c (.b (okCx p r mn mx))):=by
 (refine q_H Tryz.func51 (fun F=>?_); simp only [q_z,q_y,Tryz.ntmps51,Tryz.results51])
 repeat' (first|(with_reducible first|apply q_a|apply q_b|apply q_c|apply q_d|apply q_e|apply q_f|apply q_g|apply q_h|apply q_i|apply q_j|apply q_k|apply q_m|apply q_n|apply q_o|apply q_p|refine q_l ?_)|((with_reducible first|refine q_q eb6_ok fun K hK=>?_|refine q_r eb6_ok fun K hK=>?_);simp (maxSteps:=2000000) only [go_sem,↓reduceIte,reduceCtorEq,Nat.reduceLeDiff,Nat.reduceLT,Nat.reduceBEq,Nat.reduceAdd];(repeat1' with_reducible first|apply And.intro|(intro _;try exact q_v)|(refine hK _ ?_;clear hK K))<;>(try (clear hK K;exact q_u)))|(with_reducible refine q_s ?_;(first|apply q_J|apply q_K|apply q_L|apply q_M|apply q_N|apply q_O)<;>try (intro _;try exact q_v))|with_reducible refine q_t ?_)
 all_goals first | (refine q_A ?_; simp [resAV,q_y,okCx, *]; done) | (refine q_A ?_; simp [resAV,q_y,okCx]; omega) | (refine q_A ?_; simp [resAV,q_y,okCx, *]; omega) | skip
def er8 : Cfg:=addT 51 checkCCT cf0
theorem er8_ok : TblOk Tryz.prog er8:=q_I cf0_ok Tryz.func51 fun l K h=>by
 split at h
 ·exact ⟨_,(contextOk_ret _ _ _ _).plain rfl,h⟩
 ·exact h.elim
def eb7 : Cfg:=listT [(51,checkCCT),(32,validDCT),(33,atCT)] [34]
theorem eb7_ok : TblOk Tryz.prog eb7:=listE_ok (by simp only [List.mem_singleton,forall_eq]; exact flt) ⟨⟨er8,er8_ok,rfl⟩,⟨er7,er7_ok,rfl⟩,⟨jt0,jt0_ok,rfl⟩,trivial⟩
attribute [go_sem] eb7
set_option maxRecDepth 100000 in
set_option maxHeartbeats 1600000 in
theorem decimalFaults_ret (p r mn mx : Int) (l : List D5) (hn : l.length ≤ 1000) (hl : allD 140737488355328 l) :
  Ret Tryz.prog 18 false [.inr [.i .i64 p,.i .i64 r,.i .i64 mn,.i .i64 mx],.inl (.sl 5 (l.map rowD))] (.g [.i .i64 (dcC p r mn mx l),.i .i64 (dcX p r mn mx l)]):=by
 unfold dcC dcX
 cases hc : okCx p r mn mx
 ·simp only [Bool.false_eq_true,if_false]
  (refine q_H Tryz.func18 (fun F=>?_); simp only [q_z,q_y,Tryz.ntmps18,Tryz.results18])
  repeat' (first|(with_reducible first|apply q_a|apply q_b|apply q_c|apply q_d|apply q_e|apply q_f|apply q_g|apply q_h|apply q_i|apply q_j|apply q_k|apply q_m|apply q_n|apply q_o|apply q_p|refine q_l ?_)|((with_reducible first|refine q_q eb7_ok fun K hK=>?_|refine q_r eb7_ok fun K hK=>?_);simp (maxSteps:=2000000) only [go_sem,↓reduceIte,reduceCtorEq,Nat.reduceLeDiff,Nat.reduceLT,Nat.reduceBEq,Nat.reduceAdd,hc,List.length_map];(repeat1' with_reducible first|apply And.intro|(intro _;try exact q_v)|(refine hK _ ?_;clear hK K))<;>(try (clear hK K;exact q_u)))|(with_reducible refine q_s ?_;(first|apply q_J|apply q_K|apply q_L|apply q_M|apply q_N|apply q_O)<;>try (intro _;try exact q_v))|with_reducible refine q_t ?_)
  all_goals first | omega | exact q_A rfl | skip
 simp only [if_true]
 (refine q_H Tryz.func18 (fun F=>?_); simp only [q_z,q_y,Tryz.ntmps18,Tryz.results18])
 repeat' (first|(with_reducible first|apply q_a|apply q_b|apply q_c|apply q_d|apply q_e|apply q_f|apply q_g|apply q_h|apply q_i|apply q_j|apply q_k|apply q_m|apply q_n|apply q_o|apply q_p|refine q_l ?_)|((with_reducible first|refine q_q eb7_ok fun K hK=>?_|refine q_r eb7_ok fun K hK=>?_);simp (maxSteps:=2000000) only [go_sem,↓reduceIte,reduceCtorEq,Nat.reduceLeDiff,Nat.reduceLT,Nat.reduceBEq,Nat.reduceAdd,hc,List.length_map];(repeat1' with_reducible first|apply And.intro|(intro _;try exact q_v)|(refine hK _ ?_;clear hK K))<;>(try (clear hK K;exact q_u)))|(with_reducible refine q_s ?_;(first|apply q_J|apply q_K|apply q_L|apply q_M|apply q_N|apply q_O)<;>try (intro _;try exact q_v))|with_reducible refine q_t ?_)
 all_goals first | omega | skip
 refine q_G (ι:={ i : Nat // i ≤ l.length ∧ dbC (l.drop i) = dbC l ∧ dbX i (l.drop i) = dbX 0 l }) (fun i=>⟨26,[(1,.c (.sl 5 (l.map rowD))),(4,.bx 1 0),(5,.c (.i .i64 (i.1 : Nat)))],⟨[(1,[.c (.i .i64 0),.c (.i .i64 0)])],[],[]⟩,2⟩) (fun i=>l.length - i.1) ⟨0,by simp,rfl,rfl⟩ ?_ ?_
 ·exact q_D
 rintro ⟨i,g1,g2,g3⟩
 simp only at g1 g2 g3 ⊢
 obtain ⟨n1,n2⟩:=allD_get (i:=i) hl
 rcases Nat.lt_or_ge i l.length with hi | hi
 ·have hr:=rowD_get l i hi
  rw [drop_getD5 l i hi,dbC] at g2
  rw [drop_getD5 l i hi,dbX] at g3
  unfold okD5 at g2 g3
  cases ho : okD (l.getD i d0).1 (l.getD i d0).2.1 (l.getD i d0).2.2.1 (l.getD i d0).2.2.2.1 (l.getD i d0).2.2.2.2
  ·simp only [ho,Bool.false_eq_true,if_false] at g2 g3
   repeat' (first|(with_reducible first|apply q_a|apply q_b|apply q_c|apply q_d|apply q_e|apply q_f|apply q_g|apply q_h|apply q_i|apply q_j|apply q_k|apply q_m|apply q_n|apply q_o|apply q_p|refine q_l ?_)|((with_reducible first|refine q_q eb7_ok fun K hK=>?_|refine q_r eb7_ok fun K hK=>?_);simp (maxSteps:=2000000) only [go_sem,↓reduceIte,reduceCtorEq,Nat.reduceLeDiff,Nat.reduceLT,Nat.reduceBEq,Nat.reduceAdd,hr,ho,List.length_map];(repeat1' with_reducible first|apply And.intro|(intro _;try exact q_v)|(refine hK _ ?_;clear hK K))<;>(try (clear hK K;exact q_u)))|(with_reducible refine q_s ?_;(first|apply q_J|apply q_K|apply q_L|apply q_M|apply q_N|apply q_O)<;>try (intro _;try exact q_v))|with_reducible refine q_t ?_)
   all_goals first | omega | assumption | exact q_A (by rw [← g2,← g3]; rfl) | skip
  ·simp only [ho,if_true] at g2 g3
   repeat' (first|(with_reducible first|apply q_a|apply q_b|apply q_c|apply q_d|apply q_e|apply q_f|apply q_g|apply q_h|apply q_i|apply q_j|apply q_k|apply q_m|apply q_n|apply q_o|apply q_p|refine q_l ?_)|((with_reducible first|refine q_q eb7_ok fun K hK=>?_|refine q_r eb7_ok fun K hK=>?_);simp (maxSteps:=2000000) only [go_sem,↓reduceIte,reduceCtorEq,Nat.reduceLeDiff,Nat.reduceLT,Nat.reduceBEq,Nat.reduceAdd,hr,ho,List.length_map];(repeat1' with_reducible first|apply And.intro|(intro _;try exact q_v)|(refine hK _ ?_;clear hK K))<;>(try (clear hK K;exact q_u)))|(with_reducible refine q_s ?_;(first|apply q_J|apply q_K|apply q_L|apply q_M|apply q_N|apply q_O)<;>try (intro _;try exact q_v))|with_reducible refine q_t ?_)
   all_goals first | omega | assumption | skip
   refine q_F ⟨i + 1,hi,g2,by push_cast; exact g3⟩ ?_ (by simp only; omega)
   exact q_D
 ·have hi' : i = l.length:=by omega
  subst hi'
  rw [List.drop_length] at g2 g3
  repeat' (first|(with_reducible first|apply q_a|apply q_b|apply q_c|apply q_d|apply q_e|apply q_f|apply q_g|apply q_h|apply q_i|apply q_j|apply q_k|apply q_m|apply q_n|apply q_o|apply q_p|refine q_l ?_)|((with_reducible first|refine q_q eb7_ok fun K hK=>?_|refine q_r eb7_ok fun K hK=>?_);simp (maxSteps:=2000000) only [go_sem,↓reduceIte,reduceCtorEq,Nat.reduceLeDiff,Nat.reduceLT,Nat.reduceBEq,Nat.reduceAdd,List.length_map];(repeat1' with_reducible first|apply And.intro|(intro _;try exact q_v)|(refine hK _ ?_;clear hK K))<;>(try (clear hK K;exact q_u)))|(with_reducible refine q_s ?_;(first|apply q_J|apply q_K|apply q_L|apply q_M|apply q_N|apply q_O)<;>try (intro _;try exact q_v))|with_reducible refine q_t ?_)
  all_goals first | omega | exact q_A (by rw [← g2,← g3]; rfl) | skip
def er9 : Cfg:=addT 18 dcheckCT cf0
theorem er9_ok : TblOk Tryz.prog er9:=q_I cf0_ok Tryz.func18 fun l K h=>by
 split at h
 ·split at h
  ·rename_i l hl
   rw [unD_some hl]
   exact ⟨_,(decimalFaults_ret _ _ _ _ l h.1.1 h.1.2).plain rfl,h.2⟩
  ·exact h.elim
 ·exact h.elim
end Go.Proofs.YtgkajjifbcmoeaaGreatDoor
