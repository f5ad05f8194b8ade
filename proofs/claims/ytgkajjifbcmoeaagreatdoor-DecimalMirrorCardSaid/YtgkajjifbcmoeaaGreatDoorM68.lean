import Derived.Test.YtgkajjifbcmoeaaGreatDoorM46
import Derived.Test.YtgkajjifbcmoeaaGreatDoorM55
namespace Go.Proofs.YtgkajjifbcmoeaaGreatDoor
set_option linter.unusedSimpArgs false
set_option linter.unusedVariables false
open Go.Abs Go.Proofs.NatL

def ebo : Cfg:=listT [(110,noneDCT),(111,infiniteCT),(114,isZeroCT),(67,valueCT),(15,smallCT),(115,leastCT),(68,(rnumCT (fun _ _=>True) (· * ·))),(141,rsumCT),(64,rfitCT)] [34]
theorem ebo_ok : TblOk Tryz.prog ebo:=listE_ok (by simp only [List.mem_singleton,forall_eq]; exact flt) ⟨⟨es4,es4_ok,rfl⟩,⟨es3,es3_ok,rfl⟩,⟨es5,es5_ok,rfl⟩,⟨es1,es1_ok,rfl⟩,⟨nt7,nt7_ok,rfl⟩,⟨es6,es6_ok,rfl⟩,⟨db9,db9_ok,rfl⟩,⟨es8,es8_ok,rfl⟩,⟨es10,es10_ok,rfl⟩,trivial⟩
attribute [go_sem] ebo
end Go.Proofs.YtgkajjifbcmoeaaGreatDoor

namespace Go.Proofs.YtgkajjifbcmoeaaGreatDoor
set_option linter.unusedSimpArgs false
set_option linter.unusedVariables false
open Go.Abs Go.Proofs.NatL

theorem opp_ret (A : Dc) : Ret Tryz.prog 47 false [.inr (gDc A)] (.g (gDc (opD A))):=by
 obtain ⟨k,s,m,e⟩:=A
 unfold opD
 simp only
 by_cases h1 : k = 2
 ·rw [if_pos h1]
  (refine q_H Tryz.func47 (fun F=>?_); simp only [q_z,q_y,Tryz.ntmps47,Tryz.results47])
  repeat' (first|(with_reducible first|apply q_a|apply q_b|apply q_c|apply q_d|apply q_e|apply q_f|apply q_g|apply q_h|apply q_i|apply q_j|apply q_k|apply q_m|apply q_n|apply q_o|apply q_p|refine q_l ?_)|((with_reducible first|refine q_q ebo_ok fun K hK=>?_|refine q_r ebo_ok fun K hK=>?_);simp (maxSteps:=2000000) only [go_sem,↓reduceIte,reduceCtorEq,Nat.reduceLeDiff,Nat.reduceLT,Nat.reduceBEq,Nat.reduceAdd];(repeat1' with_reducible first|apply And.intro|(intro _;try exact q_v)|(refine hK _ ?_;clear hK K))<;>(try (clear hK K;exact q_u)))|(with_reducible refine q_s ?_;(first|apply q_J|apply q_K|apply q_L|apply q_M|apply q_N|apply q_O)<;>try (intro _;try exact q_v))|with_reducible refine q_t ?_)
  all_goals first | omega | assumption | exact q_A rfl | skip
 ·rw [if_neg h1]
  (refine q_H Tryz.func47 (fun F=>?_); simp only [q_z,q_y,Tryz.ntmps47,Tryz.results47])
  repeat' (first|(with_reducible first|apply q_a|apply q_b|apply q_c|apply q_d|apply q_e|apply q_f|apply q_g|apply q_h|apply q_i|apply q_j|apply q_k|apply q_m|apply q_n|apply q_o|apply q_p|refine q_l ?_)|((with_reducible first|refine q_q ebo_ok fun K hK=>?_|refine q_r ebo_ok fun K hK=>?_);simp (maxSteps:=2000000) only [go_sem,↓reduceIte,reduceCtorEq,Nat.reduceLeDiff,Nat.reduceLT,Nat.reduceBEq,Nat.reduceAdd];(repeat1' with_reducible first|apply And.intro|(intro _;try exact q_v)|(refine hK _ ?_;clear hK K))<;>(try (clear hK K;exact q_u)))|(with_reducible refine q_s ?_;(first|apply q_J|apply q_K|apply q_L|apply q_M|apply q_N|apply q_O)<;>try (intro _;try exact q_v))|with_reducible refine q_t ?_)
  all_goals first | omega | assumption | exact q_A rfl | skip
def oppOkCT : CT:=mkCT [nDc] false fun l K=>match l with
 | [.inr [.i .i64 k,.b s,.b a,.ints .u32 xs,.i .i64 e]]=>(InB 4294967296 xs ∧ okD k s a xs e = true) ∧ K (.g (gDc (opD ⟨k,s,V 4294967296 xs,e⟩)))
 | _=>False
def et7 : Cfg:=addT 47 oppOkCT cf0
theorem et7_ok : TblOk Tryz.prog et7:=q_I cf0_ok Tryz.func47 fun l K h=>by
 split at h
 ·rename_i k s a xs e
  obtain ⟨⟨h1,o1⟩,h⟩:=h
  obtain ⟨e1,r1⟩:=gDc_of o1 h1
  rw [e1]
  exact ⟨_,opp_ret _,h⟩
 ·exact h.elim
attribute [go_sem] oppOkCT
end Go.Proofs.YtgkajjifbcmoeaaGreatDoor
