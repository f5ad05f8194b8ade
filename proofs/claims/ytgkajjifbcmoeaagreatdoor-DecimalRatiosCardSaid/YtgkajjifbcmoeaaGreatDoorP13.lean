import Derived.Test.YtgkajjifbcmoeaaGreatDoorP12
namespace Go.Proofs.NatL
set_option linter.unusedSimpArgs false
set_option linter.unusedVariables false

theorem sv32d (s : Bool) (m : Nat) : sv 4294967296 s (dg 4294967296 m) = sg s m:=sv_d (by omega) s m
end Go.Proofs.NatL

namespace Go.Proofs.YtgkajjifbcmoeaaGreatDoor
set_option linter.unusedSimpArgs false
set_option linter.unusedVariables false
open Go.Abs Go.Proofs.NatL

def jt0 : Cfg:=addT 33 atCT cf0
theorem jt0_ok : TblOk Tryz.prog jt0:=q_I cf0_ok Tryz.func33 fun l K h=>by
 split at h
 ·exact ⟨_,(At_ret _ _).plain rfl,h⟩
 ·exact h.elim
end Go.Proofs.YtgkajjifbcmoeaaGreatDoor

namespace Go.Proofs.YtgkajjifbcmoeaaGreatDoor
set_option linter.unusedSimpArgs false
set_option linter.unusedVariables false
open Go.Abs Go.Proofs.NatL

set_option maxHeartbeats 1600000 in
theorem iplus_ex (s t : Bool) (m n : Nat) (lm : (dg 65536 m).length ≤ 1048576) (ln : (dg 65536 n).length ≤ 1048576) :
  ∃ b,Ret Tryz.prog 189 false [.inr [.b s,.ints .i64 (dg 65536 m)],.inr [.b t,.ints .i64 (dg 65536 n)]] (.g (gRz (sg s m + sg t n) b)):=by
 by_cases hst : s = t
 ·subst hst
  refine ⟨s,?_⟩
  rw [sg_eq_add,gRz_eq]
  (refine q_H Tryz.func189 (fun F=>?_); simp only [q_z,q_y,Tryz.ntmps189,Tryz.results189])
  repeat' (first|with_reducible refine q_0 ?_|((with_reducible first|refine q_q jb5_ok fun K hK=>?_|refine q_r jb5_ok fun K hK=>?_);simp (maxSteps:=2000000) only [go_sem,↓reduceIte,reduceCtorEq,Nat.reduceLeDiff,Nat.reduceLT,Nat.reduceBEq,Nat.reduceAdd];(repeat1' with_reducible first|apply And.intro|(intro _;try exact q_v)|(refine hK _ ?_;clear hK K))<;>(try (clear hK K;exact q_u)))|(with_reducible refine q_s ?_;(first|apply q_J|apply q_K|apply q_L|apply q_M|apply q_N|apply q_O)<;>try (intro _;try exact q_v)))
  all_goals first | omega | exact q_A rfl
 ·have hne : (s == t) = false:=by simpa using hst
  rcases Nat.lt_or_ge m n with h | h
  ·refine ⟨t,?_⟩
   rw [sg_eq_sub' hst (by omega),gRz_eq]
   have hc:=(cmp3_lt m n).2 h
   (refine q_H Tryz.func189 (fun F=>?_); simp only [q_z,q_y,Tryz.ntmps189,Tryz.results189])
   repeat' (first|with_reducible refine q_0 ?_|((with_reducible first|refine q_q jb5_ok fun K hK=>?_|refine q_r jb5_ok fun K hK=>?_);simp (maxSteps:=2000000) only [go_sem,↓reduceIte,reduceCtorEq,Nat.reduceLeDiff,Nat.reduceLT,Nat.reduceBEq,Nat.reduceAdd,hne];(repeat1' with_reducible first|apply And.intro|(intro _;try exact q_v)|(refine hK _ ?_;clear hK K))<;>(try (clear hK K;exact q_u)))|(with_reducible refine q_s ?_;(first|apply q_J|apply q_K|apply q_L|apply q_M|apply q_N|apply q_O)<;>try (intro _;try exact q_v)))
   all_goals first | omega | exact q_A rfl
  ·refine ⟨s,?_⟩
   rw [sg_eq_sub hst h,gRz_eq]
   have hc : ¬ cmp3 m n < 0:=fun h2=>by have:=(cmp3_lt m n).1 h2; omega
   (refine q_H Tryz.func189 (fun F=>?_); simp only [q_z,q_y,Tryz.ntmps189,Tryz.results189])
   repeat' (first|with_reducible refine q_0 ?_|((with_reducible first|refine q_q jb5_ok fun K hK=>?_|refine q_r jb5_ok fun K hK=>?_);simp (maxSteps:=2000000) only [go_sem,↓reduceIte,reduceCtorEq,Nat.reduceLeDiff,Nat.reduceLT,Nat.reduceBEq,Nat.reduceAdd,hne];(repeat1' with_reducible first|apply And.intro|(intro _;try exact q_v)|(refine hK _ ?_;clear hK K))<;>(try (clear hK K;exact q_u)))|(with_reducible refine q_s ?_;(first|apply q_J|apply q_K|apply q_L|apply q_M|apply q_N|apply q_O)<;>try (intro _;try exact q_v)))
   all_goals first | omega | exact q_A rfl
end Go.Proofs.YtgkajjifbcmoeaaGreatDoor

namespace Go.Proofs.YtgkajjifbcmoeaaGreatDoor
set_option linter.unusedSimpArgs false
set_option linter.unusedVariables false
open Go.Abs Go.Proofs.NatL

def addF (a b : Int) (K : AV → Prop) : Prop:=∀ c : Bool,K (.g (gRz (a + b) c))
def jt10 : Cfg:=addT 189 (rI2CT 1048576 addF) cf0
theorem jt10_ok : TblOk Tryz.prog jt10:=q_I cf0_ok Tryz.func189 fun l K h=>by
 split at h
 ·rename_i s xs t ys
  obtain ⟨⟨h1,h2,h3,h4,h5,h6⟩,h⟩:=h
  obtain ⟨e1,e2⟩:=sv_ys (s:=s) h1 h2
  obtain ⟨e3,e4⟩:=sv_ys (s:=t) h4 h5
  rw [e2,e4] at h
  obtain ⟨b,this⟩:=iplus_ex s t (V 65536 xs) (V 65536 ys) (by rw [← e1]; exact h3) (by rw [← e3]; exact h6)
  rw [← e1,← e3] at this
  exact ⟨_,this,h b⟩
 ·exact h.elim
attribute [go_sem] addF
end Go.Proofs.YtgkajjifbcmoeaaGreatDoor

namespace Go.Proofs.NatL
set_option linter.unusedSimpArgs false
set_option linter.unusedVariables false
end Go.Proofs.NatL
namespace Go.Proofs.YtgkajjifbcmoeaaGreatDoor
set_option linter.unusedSimpArgs false
set_option linter.unusedVariables false
open Go.Abs Go.Proofs.NatL

def qb2 : Cfg:=listT [(96,validQCT),(90,atCT)] [34]
attribute [go_sem] qb2
end Go.Proofs.YtgkajjifbcmoeaaGreatDoor

namespace Go.Proofs.NatL
set_option linter.unusedSimpArgs false
set_option linter.unusedVariables false
end Go.Proofs.NatL
namespace Go.Proofs.YtgkajjifbcmoeaaGreatDoor
set_option linter.unusedSimpArgs false
set_option linter.unusedVariables false
open Go.Abs Go.Proofs.NatL

def natCT (p : Nat → Nat → Prop) (f : Nat → Nat → AV) : CT:=mkCT [nU,nU] false fun l K=>match l with
 | [.inl (.ints .u32 xs),.inl (.ints .u32 ys)]=>(InB 4294967296 xs ∧ Trd xs ∧ xs.length ≤ 300 ∧ InB 4294967296 ys ∧ Trd ys ∧ ys.length ≤ 300 ∧ p (V 4294967296 xs) (V 4294967296 ys)) ∧ K (f (V 4294967296 xs) (V 4294967296 ys))
 | _=>False
attribute [go_sem] natCT
def qb3 : Cfg:=listT [(90,atCT),(84,(natCT tr2 rGcdN)),(85,(natCT pos2 rDivN))] [34]
attribute [go_sem] qb3
end Go.Proofs.YtgkajjifbcmoeaaGreatDoor
