import Derived.Test.YtgkajjifbcmoeaaGreatDoorM24
import Derived.Test.YtgkajjifbcmoeaaGreatDoorM39
import Derived.Test.YtgkajjifbcmoeaaGreatDoorM40
namespace Go.Proofs.NatL
set_option linter.unusedSimpArgs false
set_option linter.unusedVariables false
def remN (A B : Dc) : Nat:=(A.coef * 10 ^ (A.exp - min A.exp B.exp).toNat) % (B.coef * 10 ^ (B.exp - min A.exp B.exp).toNat)
def remD (A B : Dc) (c : Cx) : Dc :=
 if A.kind = 2 ∨ B.kind = 2 then dNone
 else if A.kind = 1 ∨ (B.kind = 0 ∧ B.coef = 0) then dNone
 else if B.kind = 1 then fitD A.neg A.coef 1 A.exp A.exp c.p c.r c.mn c.mx
 else fitD A.neg (remN A B) 1 (min A.exp B.exp) (min A.exp B.exp) c.p c.r c.mn c.mx
def remS (A B : Dc) (c : Cx) : Int :=
 if A.kind = 2 ∨ B.kind = 2 then 0
 else if A.kind = 1 ∨ (B.kind = 0 ∧ B.coef = 0) then 32
 else if B.kind = 1 then fitS A.neg A.coef 1 A.exp A.exp c.p c.r c.mn c.mx
 else fitS A.neg (remN A B) 1 (min A.exp B.exp) (min A.exp B.exp) c.p c.r c.mn c.mx
end Go.Proofs.NatL
namespace Go.Proofs.YtgkajjifbcmoeaaGreatDoor
set_option linter.unusedSimpArgs false
set_option linter.unusedVariables false
open Go.Abs Go.Proofs.NatL

set_option maxHeartbeats 3200000 in
theorem dRem_bad (k l : Int) (s t a b : Bool) (xs ys : List Int) (e e' p r mn mx : Int) (h1 : xs.length ≤ 140737488355328) (h2 : ys.length ≤ 140737488355328) (h3 : InB 4294967296 xs) (h4 : InB 4294967296 ys) :
   (okCx p r mn mx = false → Ret Tryz.prog 37 false [.inr [.i .i64 k,.b s,.b a,.ints .u32 xs,.i .i64 e],.inr [.i .i64 l,.b t,.b b,.ints .u32 ys,.i .i64 e'],.inr [.i .i64 p,.i .i64 r,.i .i64 mn,.i .i64 mx]] (rBad 4 (-9))) ∧
   (okCx p r mn mx = true → okD k s a xs e = false → Ret Tryz.prog 37 false [.inr [.i .i64 k,.b s,.b a,.ints .u32 xs,.i .i64 e],.inr [.i .i64 l,.b t,.b b,.ints .u32 ys,.i .i64 e'],.inr [.i .i64 p,.i .i64 r,.i .i64 mn,.i .i64 mx]] (rBad 6 (-1))) ∧
   (okCx p r mn mx = true → okD k s a xs e = true → okD l t b ys e' = false → Ret Tryz.prog 37 false [.inr [.i .i64 k,.b s,.b a,.ints .u32 xs,.i .i64 e],.inr [.i .i64 l,.b t,.b b,.ints .u32 ys,.i .i64 e'],.inr [.i .i64 p,.i .i64 r,.i .i64 mn,.i .i64 mx]] (rBad 6 (-2))):=by
 refine ⟨fun o0=>?_,fun o0 o1=>?_,fun o0 o1 o2=>?_⟩
 ·(refine q_H Tryz.func37 (fun F=>?_); simp only [q_z,q_y,Tryz.ntmps37,Tryz.results37])
  repeat' (first|(with_reducible first|apply q_a|apply q_b|apply q_c|apply q_d|apply q_e|apply q_f|apply q_g|apply q_h|apply q_i|apply q_j|apply q_k|apply q_m|apply q_n|apply q_o|apply q_p|refine q_l ?_)|((with_reducible first|refine q_q dba_ok fun K hK=>?_|refine q_r dba_ok fun K hK=>?_);simp (maxSteps:=2000000) only [go_sem,↓reduceIte,reduceCtorEq,Nat.reduceLeDiff,Nat.reduceLT,Nat.reduceBEq,Nat.reduceAdd,o0];(repeat1' with_reducible first|apply And.intro|(intro _;try exact q_v)|(refine hK _ ?_;clear hK K))<;>(try (clear hK K;exact q_u)))|(with_reducible refine q_s ?_;(first|apply q_J|apply q_K|apply q_L|apply q_M|apply q_N|apply q_O)<;>try (intro _;try exact q_v))|with_reducible refine q_t ?_)
  all_goals first | omega | assumption | exact q_B [nDc] rfl rfl | exact q_A rfl | skip
 ·(refine q_H Tryz.func37 (fun F=>?_); simp only [q_z,q_y,Tryz.ntmps37,Tryz.results37])
  repeat' (first|(with_reducible first|apply q_a|apply q_b|apply q_c|apply q_d|apply q_e|apply q_f|apply q_g|apply q_h|apply q_i|apply q_j|apply q_k|apply q_m|apply q_n|apply q_o|apply q_p|refine q_l ?_)|((with_reducible first|refine q_q dba_ok fun K hK=>?_|refine q_r dba_ok fun K hK=>?_);simp (maxSteps:=2000000) only [go_sem,↓reduceIte,reduceCtorEq,Nat.reduceLeDiff,Nat.reduceLT,Nat.reduceBEq,Nat.reduceAdd,o0,o1];(repeat1' with_reducible first|apply And.intro|(intro _;try exact q_v)|(refine hK _ ?_;clear hK K))<;>(try (clear hK K;exact q_u)))|(with_reducible refine q_s ?_;(first|apply q_J|apply q_K|apply q_L|apply q_M|apply q_N|apply q_O)<;>try (intro _;try exact q_v))|with_reducible refine q_t ?_)
  all_goals first | omega | assumption | exact q_B [nDc] rfl rfl | exact q_A rfl | skip
 ·(refine q_H Tryz.func37 (fun F=>?_); simp only [q_z,q_y,Tryz.ntmps37,Tryz.results37])
  repeat' (first|(with_reducible first|apply q_a|apply q_b|apply q_c|apply q_d|apply q_e|apply q_f|apply q_g|apply q_h|apply q_i|apply q_j|apply q_k|apply q_m|apply q_n|apply q_o|apply q_p|refine q_l ?_)|((with_reducible first|refine q_q dba_ok fun K hK=>?_|refine q_r dba_ok fun K hK=>?_);simp (maxSteps:=2000000) only [go_sem,↓reduceIte,reduceCtorEq,Nat.reduceLeDiff,Nat.reduceLT,Nat.reduceBEq,Nat.reduceAdd,o0,o1,o2];(repeat1' with_reducible first|apply And.intro|(intro _;try exact q_v)|(refine hK _ ?_;clear hK K))<;>(try (clear hK K;exact q_u)))|(with_reducible refine q_s ?_;(first|apply q_J|apply q_K|apply q_L|apply q_M|apply q_N|apply q_O)<;>try (intro _;try exact q_v))|with_reducible refine q_t ?_)
  all_goals first | omega | assumption | exact q_B [nDc] rfl rfl | exact q_A rfl | skip
end Go.Proofs.YtgkajjifbcmoeaaGreatDoor
