import Derived.Test.YtgkajjifbcmoeaaGreatDoorM49
namespace Go.Proofs.NatL
set_option linter.unusedSimpArgs false
set_option linter.unusedVariables false
def rndD (A : Dc) (c : Cx) : Dc:=if A.kind ≠ 0 then A else fitD A.neg A.coef 1 A.exp A.exp c.p c.r c.mn c.mx
def rndS (A : Dc) (c : Cx) : Int:=if A.kind ≠ 0 then 0 else fitS A.neg A.coef 1 A.exp A.exp c.p c.r c.mn c.mx
end Go.Proofs.NatL
namespace Go.Proofs.YtgkajjifbcmoeaaGreatDoor
set_option linter.unusedSimpArgs false
set_option linter.unusedVariables false
open Go.Abs Go.Proofs.NatL

def op1CT (f : Dc → Cx → Dc) (g : Dc → Cx → Int) : CT:=mkCT [nDc,nC] false fun l K=>match l with
 | [.inr [.i .i64 k,.b s,.b a,.ints .u32 xs,.i .i64 e],.inr [.i .i64 p,.i .i64 r,.i .i64 mn,.i .i64 mx]] =>
   (xs.length ≤ 140737488355328 ∧ InB 4294967296 xs) ∧
   (if okCx p r mn mx = true then (if okD k s a xs e = true then K (rDS (f ⟨k,s,V 4294967296 xs,e⟩ ⟨p,r,mn,mx⟩) (g ⟨k,s,V 4294967296 xs,e⟩ ⟨p,r,mn,mx⟩)) else K (rBad 6 (-1))) else K (rBad 4 (-9)))
 | _=>False
set_option maxHeartbeats 3200000 in
theorem dRound_bad (k : Int) (s a : Bool) (xs : List Int) (e p r mn mx : Int) (h1 : xs.length ≤ 140737488355328) (h3 : InB 4294967296 xs) :
   (okCx p r mn mx = false → Ret Tryz.prog 41 false [.inr [.i .i64 k,.b s,.b a,.ints .u32 xs,.i .i64 e],.inr [.i .i64 p,.i .i64 r,.i .i64 mn,.i .i64 mx]] (rBad 4 (-9))) ∧
   (okCx p r mn mx = true → okD k s a xs e = false → Ret Tryz.prog 41 false [.inr [.i .i64 k,.b s,.b a,.ints .u32 xs,.i .i64 e],.inr [.i .i64 p,.i .i64 r,.i .i64 mn,.i .i64 mx]] (rBad 6 (-1))):=by
 refine ⟨fun o0=>?_,fun o0 o1=>?_⟩
 ·(refine q_H Tryz.func41 (fun F=>?_); simp only [q_z,q_y,Tryz.ntmps41,Tryz.results41])
  repeat' (first|(with_reducible first|apply q_a|apply q_b|apply q_c|apply q_d|apply q_e|apply q_f|apply q_g|apply q_h|apply q_i|apply q_j|apply q_k|apply q_m|apply q_n|apply q_o|apply q_p|refine q_l ?_)|((with_reducible first|refine q_q dba_ok fun K hK=>?_|refine q_r dba_ok fun K hK=>?_);simp (maxSteps:=2000000) only [go_sem,↓reduceIte,reduceCtorEq,Nat.reduceLeDiff,Nat.reduceLT,Nat.reduceBEq,Nat.reduceAdd,o0];(repeat1' with_reducible first|apply And.intro|(intro _;try exact q_v)|(refine hK _ ?_;clear hK K))<;>(try (clear hK K;exact q_u)))|(with_reducible refine q_s ?_;(first|apply q_J|apply q_K|apply q_L|apply q_M|apply q_N|apply q_O)<;>try (intro _;try exact q_v))|with_reducible refine q_t ?_)
  all_goals first | omega | assumption | exact q_B [nDc] rfl rfl | exact q_A rfl | skip
 ·(refine q_H Tryz.func41 (fun F=>?_); simp only [q_z,q_y,Tryz.ntmps41,Tryz.results41])
  repeat' (first|(with_reducible first|apply q_a|apply q_b|apply q_c|apply q_d|apply q_e|apply q_f|apply q_g|apply q_h|apply q_i|apply q_j|apply q_k|apply q_m|apply q_n|apply q_o|apply q_p|refine q_l ?_)|((with_reducible first|refine q_q dba_ok fun K hK=>?_|refine q_r dba_ok fun K hK=>?_);simp (maxSteps:=2000000) only [go_sem,↓reduceIte,reduceCtorEq,Nat.reduceLeDiff,Nat.reduceLT,Nat.reduceBEq,Nat.reduceAdd,o0,o1];(repeat1' with_reducible first|apply And.intro|(intro _;try exact q_v)|(refine hK _ ?_;clear hK K))<;>(try (clear hK K;exact q_u)))|(with_reducible refine q_s ?_;(first|apply q_J|apply q_K|apply q_L|apply q_M|apply q_N|apply q_O)<;>try (intro _;try exact q_v))|with_reducible refine q_t ?_)
  all_goals first | omega | assumption | exact q_B [nDc] rfl rfl | exact q_A rfl | skip
set_option maxHeartbeats 3200000 in
theorem dRound_ok (A : Dc) (c : Cx) (hA : OkD A) (hc : OkC c) : Ret Tryz.prog 41 false [.inr (gDc A),.inr (gCx c)] (rDS (rndD A c) (rndS A c)):=by
 have o0:=okCx_c hc
 have o1:=okD_g hA
 obtain ⟨a1,a2,a3⟩:=okd_exp hA
 have l1:=coef_len a1
 have hP:=PF_one a1 ⟨a2,a3⟩
 unfold rndD rndS
 obtain ⟨k,s,m,e⟩:=A
 obtain ⟨p,r,mn,mx⟩:=c
 simp only at o0 o1 a1 a2 a3 l1 hP ⊢
 clear hA hc
 by_cases h : k = 0
 ·subst h
  simp only [ne_eq,not_true_eq_false,if_false]
  (refine q_H Tryz.func41 (fun F=>?_); simp only [q_z,q_y,Tryz.ntmps41,Tryz.results41])
  repeat' (first|(with_reducible first|apply q_a|apply q_b|apply q_c|apply q_d|apply q_e|apply q_f|apply q_g|apply q_h|apply q_i|apply q_j|apply q_k|apply q_m|apply q_n|apply q_o|apply q_p|refine q_l ?_)|((with_reducible first|refine q_q dba_ok fun K hK=>?_|refine q_r dba_ok fun K hK=>?_);simp (maxSteps:=2000000) only [go_sem,↓reduceIte,reduceCtorEq,Nat.reduceLeDiff,Nat.reduceLT,Nat.reduceBEq,Nat.reduceAdd,o0,o1,V32];(repeat1' with_reducible first|apply And.intro|(intro _;try exact q_v)|(refine hK _ ?_;clear hK K))<;>(try (clear hK K;exact q_u)))|(with_reducible refine q_s ?_;(first|apply q_J|apply q_K|apply q_L|apply q_M|apply q_N|apply q_O)<;>try (intro _;try exact q_v))|with_reducible refine q_t ?_)
  all_goals first | omega | assumption | exact q_A rfl | skip
 ·rw [if_pos h,if_pos h]
  clear hP
  (refine q_H Tryz.func41 (fun F=>?_); simp only [q_z,q_y,Tryz.ntmps41,Tryz.results41])
  repeat' (first|(with_reducible first|apply q_a|apply q_b|apply q_c|apply q_d|apply q_e|apply q_f|apply q_g|apply q_h|apply q_i|apply q_j|apply q_k|apply q_m|apply q_n|apply q_o|apply q_p|refine q_l ?_)|((with_reducible first|refine q_q dba_ok fun K hK=>?_|refine q_r dba_ok fun K hK=>?_);simp (maxSteps:=2000000) only [go_sem,↓reduceIte,reduceCtorEq,Nat.reduceLeDiff,Nat.reduceLT,Nat.reduceBEq,Nat.reduceAdd,o0,o1,V32];(repeat1' with_reducible first|apply And.intro|(intro _;try exact q_v)|(refine hK _ ?_;clear hK K))<;>(try (clear hK K;exact q_u)))|(with_reducible refine q_s ?_;(first|apply q_J|apply q_K|apply q_L|apply q_M|apply q_N|apply q_O)<;>try (intro _;try exact q_v))|with_reducible refine q_t ?_)
  all_goals first | omega | assumption | exact q_A rfl | skip
def dg6x : Cfg:=addT 41 (op1CT rndD rndS) cf0
theorem dg6x_ok : TblOk Tryz.prog dg6x:=q_I cf0_ok Tryz.func41 fun l K h =>
 op1_tr (f:=rndD) (g:=rndS) (fun A c hA hc=>dRound_ok A c hA hc) (fun k s a xs e p r mn mx h1 h3=>dRound_bad k s a xs e p r mn mx h1 h3) l K h
attribute [go_sem] op1CT
end Go.Proofs.YtgkajjifbcmoeaaGreatDoor

namespace Go.Proofs.NatL
set_option linter.unusedSimpArgs false
set_option linter.unusedVariables false
theorem rnd_ok {A : Dc} {c : Cx} (hA : OkD A) (hc : OkC c) : OkD (rndD A c):=by
 unfold rndD; split
 ·exact hA
 ·exact fit_ok (by omega) hc
end Go.Proofs.NatL
namespace Go.Proofs.YtgkajjifbcmoeaaGreatDoor
set_option linter.unusedSimpArgs false
set_option linter.unusedVariables false
open Go.Abs Go.Proofs.NatL

end Go.Proofs.YtgkajjifbcmoeaaGreatDoor
