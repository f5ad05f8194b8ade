import Derived.Test.YtgkajjifbcmoeaaGreatDoorM36
import Derived.Test.YtgkajjifbcmoeaaGreatDoorM37
namespace Go.Proofs.YtgkajjifbcmoeaaGreatDoor
set_option linter.unusedSimpArgs false
set_option linter.unusedVariables false
open Go.Abs Go.Proofs.NatL

def ebd : Cfg:=listT [(179,sameCT)] [34]
theorem ebd_ok : TblOk Tryz.prog ebd:=listE_ok (by simp only [List.mem_singleton,forall_eq]; exact flt) ⟨⟨ch2,ch2_ok,rfl⟩,trivial⟩
attribute [go_sem] ebd
set_option maxHeartbeats 800000 in
theorem sameIntsA_ret (s t : Bool) (xs ys : List Int) (hx : xs.length ≤ 16777216) (hy : ys.length ≤ 16777216) : Ret Tryz.prog 109 false [.inr [.b s,.ints .u32 xs],.inr [.b t,.ints .u32 ys]] (.c (.b (decide (s = t ∧ xs = ys)))):=by
 cases s <;> cases t
 all_goals
  (refine q_H Tryz.func109 (fun F=>?_); simp only [q_z,q_y,Tryz.ntmps109,Tryz.results109])
  repeat' (first|(with_reducible first|apply q_a|apply q_b|apply q_c|apply q_d|apply q_e|apply q_f|apply q_g|apply q_h|apply q_i|apply q_j|apply q_k|apply q_m|apply q_n|apply q_o|apply q_p|refine q_l ?_)|((with_reducible first|refine q_q ebd_ok fun K hK=>?_|refine q_r ebd_ok fun K hK=>?_);simp (maxSteps:=2000000) only [go_sem,↓reduceIte,reduceCtorEq,Nat.reduceLeDiff,Nat.reduceLT,Nat.reduceBEq,Nat.reduceAdd];(repeat1' with_reducible first|apply And.intro|(intro _;try exact q_v)|(refine hK _ ?_;clear hK K))<;>(try (clear hK K;exact q_u)))|(with_reducible refine q_s ?_;(first|apply q_J|apply q_K|apply q_L|apply q_M|apply q_N|apply q_O)<;>try (intro _;try exact q_v))|with_reducible refine q_t ?_)
  all_goals first | omega | (refine q_A ?_; simp [resAV,q_y]; done) | skip
def sameIntsACT : CT:=mkCT [nP,nP] true fun l K=>match l with
 | [.inr [.b s,.ints .u32 xs],.inr [.b t,.ints .u32 ys]]=>(xs.length ≤ 16777216 ∧ ys.length ≤ 16777216) ∧ K (.c (.b (decide (s = t ∧ xs = ys))))
 | _=>False
def eu1 : Cfg:=addT 109 sameIntsACT cf0
theorem eu1_ok : TblOk Tryz.prog eu1:=q_I cf0_ok Tryz.func109 fun l K h=>by
 split at h
 ·exact ⟨_,(sameIntsA_ret _ _ _ _ h.1.1 h.1.2).plain rfl,h.2⟩
 ·exact h.elim
attribute [go_sem] sameIntsACT
def ebe : Cfg:=listT [(109,sameIntsACT)] [34]
theorem ebe_ok : TblOk Tryz.prog ebe:=listE_ok (by simp only [List.mem_singleton,forall_eq]; exact flt) ⟨⟨eu1,eu1_ok,rfl⟩,trivial⟩
attribute [go_sem] ebe
set_option maxHeartbeats 1600000 in
theorem sameDec_ret (k l : Int) (s t a b : Bool) (xs ys : List Int) (e f : Int) (hx : xs.length ≤ 16777216) (hy : ys.length ≤ 16777216) :
  Ret Tryz.prog 35 false [.inr [.i .i64 k,.b s,.b a,.ints .u32 xs,.i .i64 e],.inr [.i .i64 l,.b t,.b b,.ints .u32 ys,.i .i64 f]] (.c (.b (decide (k = l ∧ s = t ∧ (a = b ∧ xs = ys) ∧ e = f)))):=by
 by_cases h1 : k = l
 ·by_cases h2 : a = b ∧ xs = ys
  ·have d2:=decide_eq_true h2
   cases s <;> cases t
   all_goals
    (refine q_H Tryz.func35 (fun F=>?_); simp only [q_z,q_y,Tryz.ntmps35,Tryz.results35])
    repeat' (first|(with_reducible first|apply q_a|apply q_b|apply q_c|apply q_d|apply q_e|apply q_f|apply q_g|apply q_h|apply q_i|apply q_j|apply q_k|apply q_m|apply q_n|apply q_o|apply q_p|refine q_l ?_)|((with_reducible first|refine q_q ebe_ok fun K hK=>?_|refine q_r ebe_ok fun K hK=>?_);simp (maxSteps:=2000000) only [go_sem,↓reduceIte,reduceCtorEq,Nat.reduceLeDiff,Nat.reduceLT,Nat.reduceBEq,Nat.reduceAdd,d2];(repeat1' with_reducible first|apply And.intro|(intro _;try exact q_v)|(refine hK _ ?_;clear hK K))<;>(try (clear hK K;exact q_u)))|(with_reducible refine q_s ?_;(first|apply q_J|apply q_K|apply q_L|apply q_M|apply q_N|apply q_O)<;>try (intro _;try exact q_v))|with_reducible refine q_t ?_)
    all_goals first | omega | (refine q_A ?_; simp [resAV,q_y,h1,h2]; done) | skip
  ·have d2:=decide_eq_false h2
   cases s <;> cases t
   all_goals
    (refine q_H Tryz.func35 (fun F=>?_); simp only [q_z,q_y,Tryz.ntmps35,Tryz.results35])
    repeat' (first|(with_reducible first|apply q_a|apply q_b|apply q_c|apply q_d|apply q_e|apply q_f|apply q_g|apply q_h|apply q_i|apply q_j|apply q_k|apply q_m|apply q_n|apply q_o|apply q_p|refine q_l ?_)|((with_reducible first|refine q_q ebe_ok fun K hK=>?_|refine q_r ebe_ok fun K hK=>?_);simp (maxSteps:=2000000) only [go_sem,↓reduceIte,reduceCtorEq,Nat.reduceLeDiff,Nat.reduceLT,Nat.reduceBEq,Nat.reduceAdd,d2];(repeat1' with_reducible first|apply And.intro|(intro _;try exact q_v)|(refine hK _ ?_;clear hK K))<;>(try (clear hK K;exact q_u)))|(with_reducible refine q_s ?_;(first|apply q_J|apply q_K|apply q_L|apply q_M|apply q_N|apply q_O)<;>try (intro _;try exact q_v))|with_reducible refine q_t ?_)
    all_goals first | omega | (refine q_A ?_; simp only [resAV,q_y]; congr 2; symm; exact decide_eq_false (fun h=>h2 h.2.2.1)) | (refine q_A ?_; simp [resAV,q_y]; done) | skip
 ·(refine q_H Tryz.func35 (fun F=>?_); simp only [q_z,q_y,Tryz.ntmps35,Tryz.results35])
  repeat' (first|(with_reducible first|apply q_a|apply q_b|apply q_c|apply q_d|apply q_e|apply q_f|apply q_g|apply q_h|apply q_i|apply q_j|apply q_k|apply q_m|apply q_n|apply q_o|apply q_p|refine q_l ?_)|((with_reducible first|refine q_q ebe_ok fun K hK=>?_|refine q_r ebe_ok fun K hK=>?_);simp (maxSteps:=2000000) only [go_sem,↓reduceIte,reduceCtorEq,Nat.reduceLeDiff,Nat.reduceLT,Nat.reduceBEq,Nat.reduceAdd];(repeat1' with_reducible first|apply And.intro|(intro _;try exact q_v)|(refine hK _ ?_;clear hK K))<;>(try (clear hK K;exact q_u)))|(with_reducible refine q_s ?_;(first|apply q_J|apply q_K|apply q_L|apply q_M|apply q_N|apply q_O)<;>try (intro _;try exact q_v))|with_reducible refine q_t ?_)
  all_goals first | omega | (refine q_A ?_; simp [resAV,q_y,h1]; done) | skip
def sameDecCT : CT:=mkCT [nDc,nDc] true fun l K=>match l with
 | [.inr [.i .i64 k,.b s,.b a,.ints .u32 xs,.i .i64 e],.inr [.i .i64 l,.b t,.b b,.ints .u32 ys,.i .i64 f]]=>(xs.length ≤ 16777216 ∧ ys.length ≤ 16777216) ∧ K (.c (.b (decide (k = l ∧ s = t ∧ (a = b ∧ xs = ys) ∧ e = f))))
 | _=>False
def eu2 : Cfg:=addT 35 sameDecCT cf0
theorem eu2_ok : TblOk Tryz.prog eu2:=q_I cf0_ok Tryz.func35 fun l K h=>by
 split at h
 ·exact ⟨_,(sameDec_ret _ _ _ _ _ _ _ _ _ _ h.1.1 h.1.2).plain rfl,h.2⟩
 ·exact h.elim
attribute [go_sem] sameDecCT
end Go.Proofs.YtgkajjifbcmoeaaGreatDoor
