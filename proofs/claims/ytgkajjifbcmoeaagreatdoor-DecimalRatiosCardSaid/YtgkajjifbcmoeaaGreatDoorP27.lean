import Derived.Test.YtgkajjifbcmoeaaGreatDoorP24
namespace Go.Proofs.YtgkajjifbcmoeaaGreatDoor
set_option linter.unusedSimpArgs false
set_option linter.unusedVariables false
open Go.Abs Go.Proofs.NatL

def ebf : Cfg:=listT [(35,sameDecCT)] [34]
theorem ebf_ok : TblOk Tryz.prog ebf:=listE_ok (by simp only [List.mem_singleton,forall_eq]; exact flt) ⟨⟨eu2,eu2_ok,rfl⟩,trivial⟩
attribute [go_sem] ebf
set_option maxHeartbeats 1600000 in
theorem comes_ok (k : Int) (s a : Bool) (xs : List Int) (e n i : Int) (hx : xs.length ≤ 16777216) :
  Ret Tryz.prog 40 false [.inr [.i .i64 k,.b s,.b a,.ints .u32 xs,.i .i64 e],.inl (.i .i64 n),fltQ 0 i,.inr [.i .i64 k,.b s,.b a,.ints .u32 xs,.i .i64 e],.inl (.i .i64 n),fltQ 0 i] (.c (.b true)):=by
 (refine q_H Tryz.func40 (fun F=>?_); simp only [q_z,q_y,Tryz.ntmps40,Tryz.results40])
 repeat' (first|with_reducible refine q_0 ?_|((with_reducible first|refine q_q ebf_ok fun K hK=>?_|refine q_r ebf_ok fun K hK=>?_);simp (maxSteps:=2000000) only [go_sem,↓reduceIte,reduceCtorEq,Nat.reduceLeDiff,Nat.reduceLT,Nat.reduceBEq,Nat.reduceAdd];(repeat1' with_reducible first|apply And.intro|(intro _;try exact q_v)|(refine hK _ ?_;clear hK K))<;>(try (clear hK K;exact q_u)))|(with_reducible refine q_s ?_;(first|apply q_J|apply q_K|apply q_L|apply q_M|apply q_N|apply q_O)<;>try (intro _;try exact q_v)))
 all_goals first | omega | (refine q_A ?_; simp [resAV,q_y]; done) | skip
set_option maxHeartbeats 1600000 in
theorem comes_bad (k : Int) (s a : Bool) (xs : List Int) (e m c i : Int) (hc : c ≠ 0) (hx : xs.length ≤ 16777216) :
  Ret Tryz.prog 40 false [zD,.inl (.i .i64 0),fltQ c i,.inr [.i .i64 k,.b s,.b a,.ints .u32 xs,.i .i64 e],.inl (.i .i64 m),fltQ c i] (.c (.b true)):=by
 (refine q_H Tryz.func40 (fun F=>?_); simp only [q_z,q_y,Tryz.ntmps40,Tryz.results40])
 repeat' (first|with_reducible refine q_0 ?_|((with_reducible first|refine q_q ebf_ok fun K hK=>?_|refine q_r ebf_ok fun K hK=>?_);simp (maxSteps:=2000000) only [go_sem,↓reduceIte,reduceCtorEq,Nat.reduceLeDiff,Nat.reduceLT,Nat.reduceBEq,Nat.reduceAdd];(repeat1' with_reducible first|apply And.intro|(intro _;try exact q_v)|(refine hK _ ?_;clear hK K))<;>(try (clear hK K;exact q_u)))|(with_reducible refine q_s ?_;(first|apply q_J|apply q_K|apply q_L|apply q_M|apply q_N|apply q_O)<;>try (intro _;try exact q_v)))
 all_goals first | omega | (refine q_A ?_; simp [resAV,q_y]; done) | skip
def comesCT : CT:=mkCT [nDc,.inl none,.inr [none,none],nDc,.inl none,.inr [none,none]] true fun l K=>match l with
 | [.inr [.i .i64 k,.b s,.b a,.ints .u32 xs,.i .i64 e],.inl (.i .i64 n),.inr [.i .i64 c,.i .i64 i],.inr [.i .i64 l,.b t,.b b,.ints .u32 ys,.i .i64 f],.inl (.i .i64 m),.inr [.i .i64 d,.i .i64 j]] =>
   (ys.length ≤ 16777216 ∧ c = d ∧ i = j ∧ (d = 0 → k = l ∧ s = t ∧ a = b ∧ xs = ys ∧ e = f ∧ n = m) ∧ (d ≠ 0 → k = 0 ∧ s = false ∧ a = false ∧ xs = [] ∧ e = 0 ∧ n = 0)) ∧ K (.c (.b true))
 | _=>False
def eu3 : Cfg:=addT 40 comesCT cf0
theorem eu3_ok : TblOk Tryz.prog eu3:=q_I cf0_ok Tryz.func40 fun l K h=>by
 split at h
 ·rename_i k s a xs e n c i l t b ys f m d j
  obtain ⟨⟨hl,rfl,rfl,h1,h2⟩,h⟩:=h
  by_cases hd : c = 0
  ·obtain ⟨rfl,rfl,rfl,rfl,rfl,rfl⟩:=h1 hd
   subst hd
   exact ⟨_,(comes_ok _ _ _ _ _ _ _ hl).plain rfl,h⟩
  ·obtain ⟨rfl,rfl,rfl,rfl,rfl,rfl⟩:=h2 hd
   exact ⟨_,(comes_bad _ _ _ _ _ _ _ _ hd hl).plain rfl,h⟩
 ·exact h.elim
attribute [go_sem] comesCT
end Go.Proofs.YtgkajjifbcmoeaaGreatDoor
