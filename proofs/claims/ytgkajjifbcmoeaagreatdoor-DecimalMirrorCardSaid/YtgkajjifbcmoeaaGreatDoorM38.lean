import Derived.Test.YtgkajjifbcmoeaaGreatDoorM10
import Derived.Test.YtgkajjifbcmoeaaGreatDoorM28
import Derived.Test.YtgkajjifbcmoeaaGreatDoorM35
import Derived.Test.YtgkajjifbcmoeaaGreatDoorM36
import Derived.Test.YtgkajjifbcmoeaaGreatDoorM37
namespace Go.Proofs.NatL
set_option linter.unusedSimpArgs false
set_option linter.unusedVariables false
def opD (A : Dc) : Dc:=if A.kind = 2 then A else ⟨A.kind,!A.neg,A.coef,A.exp⟩
theorem opD_ok {A : Dc} (h : OkD A) : OkD (opD A):=by
 unfold opD
 rcases h with ⟨h1,h2,h3,h4⟩ | ⟨h1,h2,h3⟩ | ⟨h1,h2,h3,h4⟩
 ·rw [if_neg (by omega)]; exact .inl ⟨h1,h2,h3,h4⟩
 ·rw [if_neg (by omega)]; exact .inr (.inl ⟨h1,h2,h3⟩)
 ·rw [if_pos h1]; exact .inr (.inr ⟨h1,h2,h3,h4⟩)
def mulD (A B : Dc) (c : Cx) : Dc :=
 if A.kind = 2 ∨ B.kind = 2 then dNone
 else if A.kind = 0 ∧ B.kind = 0 then fitD (A.neg != B.neg) (A.coef * B.coef) 1 (A.exp + B.exp) (A.exp + B.exp) c.p c.r c.mn c.mx
 else if (A.kind = 0 ∧ A.coef = 0) ∨ (B.kind = 0 ∧ B.coef = 0) then dNone
 else dInf (A.neg != B.neg)
def mulS (A B : Dc) (c : Cx) : Int :=
 if A.kind = 2 ∨ B.kind = 2 then 0
 else if A.kind = 0 ∧ B.kind = 0 then fitS (A.neg != B.neg) (A.coef * B.coef) 1 (A.exp + B.exp) (A.exp + B.exp) c.p c.r c.mn c.mx
 else if (A.kind = 0 ∧ A.coef = 0) ∨ (B.kind = 0 ∧ B.coef = 0) then 32
 else 0
theorem PF_mul {m n : Nat} {e f : Int} (hm : ds m ≤ 120) (hn : ds n ≤ 120) (he : -1200 ≤ e ∧ e ≤ 1200) (hf : -1200 ≤ f ∧ f ≤ 1200) : PF (m * n) 1 (e + f):=by
 have:=ds_mul hm hn
 have:=one_ds
 refine ⟨by omega,by omega,by omega,by omega,by omega⟩
end Go.Proofs.NatL
namespace Go.Proofs.YtgkajjifbcmoeaaGreatDoor
set_option linter.unusedSimpArgs false
set_option linter.unusedVariables false
open Go.Abs Go.Proofs.NatL

end Go.Proofs.YtgkajjifbcmoeaaGreatDoor
namespace Go.Proofs.NatL
set_option linter.unusedSimpArgs false
set_option linter.unusedVariables false
theorem mul_en {A B : Dc} (c : Cx) (h : A.kind ≠ 0 ∨ B.kind ≠ 0) : mulD A B c = enD A B ∧ mulS A B c = enS A B:=by
 have h2 : ¬ (A.kind = 0 ∧ B.kind = 0):=by omega
 unfold mulD mulS enD enS
 by_cases h1 : A.kind = 2 ∨ B.kind = 2
 ·simp only [if_pos h1,and_self]
 ·simp only [if_neg h1,if_neg h2,and_self]
theorem mul_ff {s t : Bool} {m n : Nat} {e f : Int} (c : Cx) : mulD ⟨0,s,m,e⟩ ⟨0,t,n,f⟩ c = fitD (s != t) (m * n) 1 (e + f) (e + f) c.p c.r c.mn c.mx ∧ mulS ⟨0,s,m,e⟩ ⟨0,t,n,f⟩ c = fitS (s != t) (m * n) 1 (e + f) (e + f) c.p c.r c.mn c.mx:=⟨rfl,rfl⟩
end Go.Proofs.NatL
namespace Go.Proofs.YtgkajjifbcmoeaaGreatDoor
set_option linter.unusedSimpArgs false
set_option linter.unusedVariables false
open Go.Abs Go.Proofs.NatL
end Go.Proofs.YtgkajjifbcmoeaaGreatDoor

namespace Go.Proofs.NatL
set_option linter.unusedSimpArgs false
set_option linter.unusedVariables false
end Go.Proofs.NatL
namespace Go.Proofs.YtgkajjifbcmoeaaGreatDoor
set_option linter.unusedSimpArgs false
set_option linter.unusedVariables false
open Go.Abs Go.Proofs.NatL

set_option maxHeartbeats 3200000 in
theorem dMul_bad (k l : Int) (s t a b : Bool) (xs ys : List Int) (e e' p r mn mx : Int) (h1 : xs.length ≤ 140737488355328) (h2 : ys.length ≤ 140737488355328) (h3 : InB 4294967296 xs) (h4 : InB 4294967296 ys) :
   (okCx p r mn mx = false → Ret Tryz.prog 26 false [.inr [.i .i64 k,.b s,.b a,.ints .u32 xs,.i .i64 e],.inr [.i .i64 l,.b t,.b b,.ints .u32 ys,.i .i64 e'],.inr [.i .i64 p,.i .i64 r,.i .i64 mn,.i .i64 mx]] (rBad 4 (-9))) ∧
   (okCx p r mn mx = true → okD k s a xs e = false → Ret Tryz.prog 26 false [.inr [.i .i64 k,.b s,.b a,.ints .u32 xs,.i .i64 e],.inr [.i .i64 l,.b t,.b b,.ints .u32 ys,.i .i64 e'],.inr [.i .i64 p,.i .i64 r,.i .i64 mn,.i .i64 mx]] (rBad 6 (-1))) ∧
   (okCx p r mn mx = true → okD k s a xs e = true → okD l t b ys e' = false → Ret Tryz.prog 26 false [.inr [.i .i64 k,.b s,.b a,.ints .u32 xs,.i .i64 e],.inr [.i .i64 l,.b t,.b b,.ints .u32 ys,.i .i64 e'],.inr [.i .i64 p,.i .i64 r,.i .i64 mn,.i .i64 mx]] (rBad 6 (-2))):=by
 refine ⟨fun o0=>?_,fun o0 o1=>?_,fun o0 o1 o2=>?_⟩
 ·(refine q_H Tryz.func26 (fun F=>?_); simp only [q_z,q_y,Tryz.ntmps26,Tryz.results26])
  repeat' (first|(with_reducible first|apply q_a|apply q_b|apply q_c|apply q_d|apply q_e|apply q_f|apply q_g|apply q_h|apply q_i|apply q_j|apply q_k|apply q_m|apply q_n|apply q_o|apply q_p|refine q_l ?_)|((with_reducible first|refine q_q dba_ok fun K hK=>?_|refine q_r dba_ok fun K hK=>?_);simp (maxSteps:=2000000) only [go_sem,↓reduceIte,reduceCtorEq,Nat.reduceLeDiff,Nat.reduceLT,Nat.reduceBEq,Nat.reduceAdd,o0];(repeat1' with_reducible first|apply And.intro|(intro _;try exact q_v)|(refine hK _ ?_;clear hK K))<;>(try (clear hK K;exact q_u)))|(with_reducible refine q_s ?_;(first|apply q_J|apply q_K|apply q_L|apply q_M|apply q_N|apply q_O)<;>try (intro _;try exact q_v))|with_reducible refine q_t ?_)
  all_goals first | omega | assumption | exact q_B [nDc] rfl rfl | exact q_A rfl | skip
 ·(refine q_H Tryz.func26 (fun F=>?_); simp only [q_z,q_y,Tryz.ntmps26,Tryz.results26])
  repeat' (first|(with_reducible first|apply q_a|apply q_b|apply q_c|apply q_d|apply q_e|apply q_f|apply q_g|apply q_h|apply q_i|apply q_j|apply q_k|apply q_m|apply q_n|apply q_o|apply q_p|refine q_l ?_)|((with_reducible first|refine q_q dba_ok fun K hK=>?_|refine q_r dba_ok fun K hK=>?_);simp (maxSteps:=2000000) only [go_sem,↓reduceIte,reduceCtorEq,Nat.reduceLeDiff,Nat.reduceLT,Nat.reduceBEq,Nat.reduceAdd,o0,o1];(repeat1' with_reducible first|apply And.intro|(intro _;try exact q_v)|(refine hK _ ?_;clear hK K))<;>(try (clear hK K;exact q_u)))|(with_reducible refine q_s ?_;(first|apply q_J|apply q_K|apply q_L|apply q_M|apply q_N|apply q_O)<;>try (intro _;try exact q_v))|with_reducible refine q_t ?_)
  all_goals first | omega | assumption | exact q_B [nDc] rfl rfl | exact q_A rfl | skip
 ·(refine q_H Tryz.func26 (fun F=>?_); simp only [q_z,q_y,Tryz.ntmps26,Tryz.results26])
  repeat' (first|(with_reducible first|apply q_a|apply q_b|apply q_c|apply q_d|apply q_e|apply q_f|apply q_g|apply q_h|apply q_i|apply q_j|apply q_k|apply q_m|apply q_n|apply q_o|apply q_p|refine q_l ?_)|((with_reducible first|refine q_q dba_ok fun K hK=>?_|refine q_r dba_ok fun K hK=>?_);simp (maxSteps:=2000000) only [go_sem,↓reduceIte,reduceCtorEq,Nat.reduceLeDiff,Nat.reduceLT,Nat.reduceBEq,Nat.reduceAdd,o0,o1,o2];(repeat1' with_reducible first|apply And.intro|(intro _;try exact q_v)|(refine hK _ ?_;clear hK K))<;>(try (clear hK K;exact q_u)))|(with_reducible refine q_s ?_;(first|apply q_J|apply q_K|apply q_L|apply q_M|apply q_N|apply q_O)<;>try (intro _;try exact q_v))|with_reducible refine q_t ?_)
  all_goals first | omega | assumption | exact q_B [nDc] rfl rfl | exact q_A rfl | skip
set_option maxHeartbeats 3200000 in
theorem dMul_ok (A B : Dc) (c : Cx) (hA : OkD A) (hB : OkD B) (hc : OkC c) : Ret Tryz.prog 26 false [.inr (gDc A),.inr (gDc B),.inr (gCx c)] (rDS (mulD A B c) (mulS A B c)):=by
 have o0:=okCx_c hc
 have o1:=okD_g hA
 have o2:=okD_g hB
 obtain ⟨a1,a2,a3⟩:=okd_exp hA
 obtain ⟨b1,b2,b3⟩:=okd_exp hB
 have l1:=coef_len a1
 have l2:=coef_len b1
 have hP:=PF_mul a1 b1 ⟨a2,a3⟩ ⟨b2,b3⟩
 have hsp:=mul_en (A:=A) (B:=B) c
 obtain ⟨k,s,m,e⟩:=A
 obtain ⟨l,t,n,f⟩:=B
 obtain ⟨p,r,mn,mx⟩:=c
 simp only at o0 o1 o2 a1 a2 a3 b1 b2 b3 l1 l2 hP hsp
 clear hA hB hc
 by_cases h : k = 0 ∧ l = 0
 ·obtain ⟨rfl,rfl⟩:=h
  clear hsp
  obtain ⟨q1,q2⟩:=mul_ff (s:=s) (t:=t) (m:=m) (n:=n) (e:=e) (f:=f) ⟨p,r,mn,mx⟩
  rw [q1,q2]
  (refine q_H Tryz.func26 (fun F=>?_); simp only [q_z,q_y,Tryz.ntmps26,Tryz.results26])
  repeat' (first|(with_reducible first|apply q_a|apply q_b|apply q_c|apply q_d|apply q_e|apply q_f|apply q_g|apply q_h|apply q_i|apply q_j|apply q_k|apply q_m|apply q_n|apply q_o|apply q_p|refine q_l ?_)|((with_reducible first|refine q_q dba_ok fun K hK=>?_|refine q_r dba_ok fun K hK=>?_);simp (maxSteps:=2000000) only [go_sem,↓reduceIte,reduceCtorEq,Nat.reduceLeDiff,Nat.reduceLT,Nat.reduceBEq,Nat.reduceAdd,o0,o1,o2,V32];(repeat1' with_reducible first|apply And.intro|(intro _;try exact q_v)|(refine hK _ ?_;clear hK K))<;>(try (clear hK K;exact q_u)))|(with_reducible refine q_s ?_;(first|apply q_J|apply q_K|apply q_L|apply q_M|apply q_N|apply q_O)<;>try (intro _;try exact q_v))|with_reducible refine q_t ?_)
  all_goals first | omega | assumption | exact q_A rfl | skip
 ·obtain ⟨q1,q2⟩:=hsp (by omega)
  rw [q1,q2]
  clear hP
  (refine q_H Tryz.func26 (fun F=>?_); simp only [q_z,q_y,Tryz.ntmps26,Tryz.results26])
  repeat' (first|(with_reducible first|apply q_a|apply q_b|apply q_c|apply q_d|apply q_e|apply q_f|apply q_g|apply q_h|apply q_i|apply q_j|apply q_k|apply q_m|apply q_n|apply q_o|apply q_p|refine q_l ?_)|((with_reducible first|refine q_q dba_ok fun K hK=>?_|refine q_r dba_ok fun K hK=>?_);simp (maxSteps:=2000000) only [go_sem,↓reduceIte,reduceCtorEq,Nat.reduceLeDiff,Nat.reduceLT,Nat.reduceBEq,Nat.reduceAdd,o0,o1,o2,V32];(repeat1' with_reducible first|apply And.intro|(intro _;try exact q_v)|(refine hK _ ?_;clear hK K))<;>(try (clear hK K;exact q_u)))|(with_reducible refine q_s ?_;(first|apply q_J|apply q_K|apply q_L|apply q_M|apply q_N|apply q_O)<;>try (intro _;try exact q_v))|with_reducible refine q_t ?_)
  all_goals first | omega | assumption | exact q_A rfl | skip
def dg3x : Cfg:=addT 26 (op2CT mulD mulS) cf0
theorem dg3x_ok : TblOk Tryz.prog dg3x:=q_I cf0_ok Tryz.func26 fun l K h =>
 op2_tr (f:=mulD) (g:=mulS) (fun A B c hA hB hc=>dMul_ok A B c hA hB hc) (fun k l s t a b xs ys e e' p r mn mx h1 h2 h3 h4=>dMul_bad k l s t a b xs ys e e' p r mn mx h1 h2 h3 h4) l K h
end Go.Proofs.YtgkajjifbcmoeaaGreatDoor
