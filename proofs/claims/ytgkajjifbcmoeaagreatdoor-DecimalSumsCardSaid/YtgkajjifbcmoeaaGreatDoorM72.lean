import Derived.Test.YtgkajjifbcmoeaaGreatDoorM62
import Derived.Test.YtgkajjifbcmoeaaGreatDoorM63
import Derived.Test.YtgkajjifbcmoeaaGreatDoorM71
namespace Go.Proofs.NatL
set_option linter.unusedSimpArgs false
set_option linter.unusedVariables false
theorem sp_ok (A B : Dc) : OkD (spD A B):=by
 unfold spD
 split
 ·exact none_ok
 split
 ·exact none_ok
 split
 ·exact inf_ok _
 ·exact inf_ok _
theorem fma_ok {A B D : Dc} {c : Cx} (hc : OkC c) : OkD (fmaD A B D c):=by
 unfold fmaD
 split
 ·split
  ·exact sp_ok _ _
  ·exact (en_ok _ _).1
 split
 ·exact sp_ok _ _
 ·exact fit_ok (by omega) hc
end Go.Proofs.NatL
namespace Go.Proofs.YtgkajjifbcmoeaaGreatDoor
set_option linter.unusedSimpArgs false
set_option linter.unusedVariables false
open Go.Abs Go.Proofs.NatL

def dlc : Cfg:=listT [(18,dcheckCT),(24,(op2CT addD addS)),(25,(op2CT subD subS)),(26,(op2CT mulD mulS)),(58,(op3CT fmaD fmaS)),(59,(opR2CT addD addS)),(47,oppOkCT),(60,(opR2CT mulD mulS)),(61,(opR3CT fmaD fmaS)),(40,comesCT),(31,tenthsCT)] [34]
theorem dlc_ok : TblOk Tryz.prog dlc:=listE_ok (by simp only [List.mem_singleton,forall_eq]; exact flt) ⟨⟨er9,er9_ok,rfl⟩,⟨dg1x,dg1x_ok,rfl⟩,⟨dg2x,dg2x_ok,rfl⟩,⟨dg3x,dg3x_ok,rfl⟩,⟨dg9x,dg9x_ok,rfl⟩,⟨et9,et9_ok,rfl⟩,⟨et7,et7_ok,rfl⟩,⟨et10,et10_ok,rfl⟩,⟨et11,et11_ok,rfl⟩,⟨eu3,eu3_ok,rfl⟩,⟨dh5,dh5_ok,rfl⟩,trivial⟩
attribute [go_sem] dlc
set_option maxRecDepth 100000 in
set_option maxHeartbeats 6400000 in
theorem dsums_ret (k l k3 : Int) (s t s3 a b a3 : Bool) (xs ys zs : List Int) (e f e3 p r mn mx : Int) (h1 : xs.length ≤ 140737488355328) (h2 : ys.length ≤ 140737488355328) (h3 : zs.length ≤ 140737488355328) (b1 : InB 4294967296 xs) (b2 : InB 4294967296 ys) (b3 : InB 4294967296 zs) :
  Ret Tryz.prog 11 false [.inr [.i .i64 k,.b s,.b a,.ints .u32 xs,.i .i64 e],.inr [.i .i64 l,.b t,.b b,.ints .u32 ys,.i .i64 f],.inr [.i .i64 k3,.b s3,.b a3,.ints .u32 zs,.i .i64 e3],.inr [.i .i64 p,.i .i64 r,.i .i64 mn,.i .i64 mx]] (.c (.b true)):=by
 cases o0 : okCx p r mn mx
 ·(refine q_H Tryz.func11 (fun F=>?_); simp only [q_z,q_y,Tryz.ntmps11,Tryz.results11])
  repeat' (first|(with_reducible first|apply q_a|apply q_b|apply q_c|apply q_d|apply q_e|apply q_f|apply q_g|apply q_h|apply q_i|apply q_j|apply q_k|apply q_m|apply q_n|apply q_o|apply q_p|refine q_l ?_)|((with_reducible first|refine q_q dlc_ok fun K hK=>?_|refine q_r dlc_ok fun K hK=>?_);simp (maxSteps:=2000000) only [go_sem,↓reduceIte,reduceCtorEq,Nat.reduceLeDiff,Nat.reduceLT,Nat.reduceBEq,Nat.reduceAdd,o0];(repeat1' with_reducible first|apply And.intro|(intro _;try exact q_v)|(refine hK _ ?_;clear hK K))<;>(try (clear hK K;exact q_u)))|(with_reducible refine q_s ?_;(first|apply q_J|apply q_K|apply q_L|apply q_M|apply q_N|apply q_O)<;>try (intro _;try exact q_v))|with_reducible refine q_t ?_)
  all_goals first | omega | assumption | exact q_A rfl | skip
 cases o1 : okD k s a xs e
 ·(refine q_H Tryz.func11 (fun F=>?_); simp only [q_z,q_y,Tryz.ntmps11,Tryz.results11])
  repeat' (first|(with_reducible first|apply q_a|apply q_b|apply q_c|apply q_d|apply q_e|apply q_f|apply q_g|apply q_h|apply q_i|apply q_j|apply q_k|apply q_m|apply q_n|apply q_o|apply q_p|refine q_l ?_)|((with_reducible first|refine q_q dlc_ok fun K hK=>?_|refine q_r dlc_ok fun K hK=>?_);simp (maxSteps:=2000000) only [go_sem,↓reduceIte,reduceCtorEq,Nat.reduceLeDiff,Nat.reduceLT,Nat.reduceBEq,Nat.reduceAdd,o0,o1];(repeat1' with_reducible first|apply And.intro|(intro _;try exact q_v)|(refine hK _ ?_;clear hK K))<;>(try (clear hK K;exact q_u)))|(with_reducible refine q_s ?_;(first|apply q_J|apply q_K|apply q_L|apply q_M|apply q_N|apply q_O)<;>try (intro _;try exact q_v))|with_reducible refine q_t ?_)
  all_goals first | omega | assumption | exact q_A rfl | skip
 cases o2 : okD l t b ys f
 ·(refine q_H Tryz.func11 (fun F=>?_); simp only [q_z,q_y,Tryz.ntmps11,Tryz.results11])
  repeat' (first|(with_reducible first|apply q_a|apply q_b|apply q_c|apply q_d|apply q_e|apply q_f|apply q_g|apply q_h|apply q_i|apply q_j|apply q_k|apply q_m|apply q_n|apply q_o|apply q_p|refine q_l ?_)|((with_reducible first|refine q_q dlc_ok fun K hK=>?_|refine q_r dlc_ok fun K hK=>?_);simp (maxSteps:=2000000) only [go_sem,↓reduceIte,reduceCtorEq,Nat.reduceLeDiff,Nat.reduceLT,Nat.reduceBEq,Nat.reduceAdd,o0,o1,o2];(repeat1' with_reducible first|apply And.intro|(intro _;try exact q_v)|(refine hK _ ?_;clear hK K))<;>(try (clear hK K;exact q_u)))|(with_reducible refine q_s ?_;(first|apply q_J|apply q_K|apply q_L|apply q_M|apply q_N|apply q_O)<;>try (intro _;try exact q_v))|with_reducible refine q_t ?_)
  all_goals first | omega | assumption | exact q_A rfl | skip
 have q1:=okd_len (add_ok (A:=⟨k,s,V 4294967296 xs,e⟩) (B:=⟨l,t,V 4294967296 ys,f⟩) (OkC_b o0))
 have q2:=okd_len (mul_ok (A:=⟨k,s,V 4294967296 xs,e⟩) (B:=⟨l,t,V 4294967296 ys,f⟩) (OkC_b o0))
 have q3:=okd_len (fma_ok (A:=⟨k,s,V 4294967296 xs,e⟩) (B:=⟨l,t,V 4294967296 ys,f⟩) (D:=⟨k3,s3,V 4294967296 zs,e3⟩) (OkC_b o0))
 have q4:=okd_len (add_ok (A:=⟨k,s,V 4294967296 xs,e⟩) (B:=opD ⟨l,t,V 4294967296 ys,f⟩) (OkC_b o0))
 have o4:=okD_g (opD_ok (gDc_of o2 b2).2)
 have sd : subD ⟨k,s,V 4294967296 xs,e⟩ ⟨l,t,V 4294967296 ys,f⟩ ⟨p,r,mn,mx⟩ = addD ⟨k,s,V 4294967296 xs,e⟩ (opD ⟨l,t,V 4294967296 ys,f⟩) ⟨p,r,mn,mx⟩:=rfl
 have ss : subS ⟨k,s,V 4294967296 xs,e⟩ ⟨l,t,V 4294967296 ys,f⟩ ⟨p,r,mn,mx⟩ = addS ⟨k,s,V 4294967296 xs,e⟩ (opD ⟨l,t,V 4294967296 ys,f⟩) ⟨p,r,mn,mx⟩:=rfl
 generalize hO : opD ⟨l,t,V 4294967296 ys,f⟩ = O at *
 obtain ⟨l',t',n',f'⟩:=O
 simp only at o4 q4 sd ss
 cases o3 : okD k3 s3 a3 zs e3
 ·(refine q_H Tryz.func11 (fun F=>?_); simp only [q_z,q_y,Tryz.ntmps11,Tryz.results11])
  repeat' (first|(with_reducible first|apply q_a|apply q_b|apply q_c|apply q_d|apply q_e|apply q_f|apply q_g|apply q_h|apply q_i|apply q_j|apply q_k|apply q_m|apply q_n|apply q_o|apply q_p|refine q_l ?_)|((with_reducible first|refine q_q dlc_ok fun K hK=>?_|refine q_r dlc_ok fun K hK=>?_);simp (maxSteps:=2000000) only [go_sem,↓reduceIte,reduceCtorEq,Nat.reduceLeDiff,Nat.reduceLT,Nat.reduceBEq,Nat.reduceAdd,o0,o1,o2,o3,o4,hO,sd,ss,V32];(repeat1' with_reducible first|apply And.intro|(intro _;try exact q_v)|(refine hK _ ?_;clear hK K))<;>(try (clear hK K;exact q_u)))|(with_reducible refine q_s ?_;(first|apply q_J|apply q_K|apply q_L|apply q_M|apply q_N|apply q_O)<;>try (intro _;try exact q_v))|with_reducible refine q_t ?_)
  all_goals first | omega | assumption | exact q_A rfl | skip
 ·(refine q_H Tryz.func11 (fun F=>?_); simp only [q_z,q_y,Tryz.ntmps11,Tryz.results11])
  repeat' (first|(with_reducible first|apply q_a|apply q_b|apply q_c|apply q_d|apply q_e|apply q_f|apply q_g|apply q_h|apply q_i|apply q_j|apply q_k|apply q_m|apply q_n|apply q_o|apply q_p|refine q_l ?_)|((with_reducible first|refine q_q dlc_ok fun K hK=>?_|refine q_r dlc_ok fun K hK=>?_);simp (maxSteps:=2000000) only [go_sem,↓reduceIte,reduceCtorEq,Nat.reduceLeDiff,Nat.reduceLT,Nat.reduceBEq,Nat.reduceAdd,o0,o1,o2,o3,o4,hO,sd,ss,V32];(repeat1' with_reducible first|apply And.intro|(intro _;try exact q_v)|(refine hK _ ?_;clear hK K))<;>(try (clear hK K;exact q_u)))|(with_reducible refine q_s ?_;(first|apply q_J|apply q_K|apply q_L|apply q_M|apply q_N|apply q_O)<;>try (intro _;try exact q_v))|with_reducible refine q_t ?_)
  all_goals first | omega | assumption | exact q_A rfl | skip
end Go.Proofs.YtgkajjifbcmoeaaGreatDoor
