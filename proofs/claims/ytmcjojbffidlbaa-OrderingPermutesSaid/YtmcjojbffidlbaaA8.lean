import Derived.Test.YtmcjojbffidlbaaA6
import Derived.Test.YtmcjojbffidlbaaA7
namespace Go.Proofs.Ytmcjojbffidlbaa
set_option linter.unusedSimpArgs false
set_option linter.unusedVariables false
open Go.Abs Go.Proofs.NatL

section
variable {cf : Cfg} {st : St}
end
set_option maxHeartbeats 1600000 in
theorem in_ret (xs : List Int) (n : Int) (hx : xs.length ≤ 17592186044416) : Ret Try.prog 20 false [.inl (.ints .i64 xs),.inl (.i .i64 n)] (.c (.b (decide (n ∈ xs)))):=by
 (refine q_H Try.func20 (fun F=>?_); simp only [q_z,q_y,Try.ntmps20,Try.results20])
 repeat' (first|with_reducible refine q_0 ?_|((with_reducible first|refine q_q ogb_ok fun K hK=>?_|refine q_r ogb_ok fun K hK=>?_);simp (maxSteps:=2000000) only [go_sem,↓reduceIte,reduceCtorEq,Nat.reduceLeDiff,Nat.reduceLT,Nat.reduceBEq,Nat.reduceAdd];(repeat1' with_reducible first|apply And.intro|(intro _;try exact q_v)|(refine hK _ ?_;clear hK K))<;>(try (clear hK K;exact q_u)))|(with_reducible refine q_s ?_;(first|apply q_J|apply q_K|apply q_L|apply q_M|apply q_N|apply q_O)<;>try (intro _;try exact q_v)))
 all_goals try omega
 refine q_G (ι:={ k : Nat // k ≤ xs.length ∧ n ∉ xs.take k }) (fun k=>⟨18,[(0,.c (.ints .i64 xs)),(1,.c (.i .i64 n)),(5,.c (.i .i64 (k.1 : Nat)))],⟨[],[],[]⟩,0⟩) (fun k=>xs.length - k.1) ⟨0,by omega,by simp⟩ ?_ ?_
 ·exact q_D
 rintro ⟨k,k1,k2⟩
 simp only at k1 k2 ⊢
 rcases Nat.lt_or_ge k xs.length with hk | hk
 ·have hg:=getD_eq xs k hk
  by_cases he : xs.getD k 0 = n
  ·have hm : n ∈ xs:=by rw [← he,hg]; exact List.getElem_mem hk
   rw [decide_eq_true hm]
   repeat' (first|with_reducible refine q_0 ?_|((with_reducible first|refine q_q ogb_ok fun K hK=>?_|refine q_r ogb_ok fun K hK=>?_);simp (maxSteps:=2000000) only [go_sem,↓reduceIte,reduceCtorEq,Nat.reduceLeDiff,Nat.reduceLT,Nat.reduceBEq,Nat.reduceAdd,he];(repeat1' with_reducible first|apply And.intro|(intro _;try exact q_v)|(refine hK _ ?_;clear hK K))<;>(try (clear hK K;exact q_u)))|(with_reducible refine q_s ?_;(first|apply q_J|apply q_K|apply q_L|apply q_M|apply q_N|apply q_O)<;>try (intro _;try exact q_v)))
   all_goals first | contradiction | omega | exact q_A rfl | skip
  ·repeat' (first|with_reducible refine q_0 ?_|((with_reducible first|refine q_q ogb_ok fun K hK=>?_|refine q_r ogb_ok fun K hK=>?_);simp (maxSteps:=2000000) only [go_sem,↓reduceIte,reduceCtorEq,Nat.reduceLeDiff,Nat.reduceLT,Nat.reduceBEq,Nat.reduceAdd,he];(repeat1' with_reducible first|apply And.intro|(intro _;try exact q_v)|(refine hK _ ?_;clear hK K))<;>(try (clear hK K;exact q_u)))|(with_reducible refine q_s ?_;(first|apply q_J|apply q_K|apply q_L|apply q_M|apply q_N|apply q_O)<;>try (intro _;try exact q_v)))
   all_goals first | contradiction | omega | skip
   all_goals
    refine q_F ⟨k + 1,hk,?_⟩ ?_ (by simp only; omega)
    ·rw [List.take_succ_eq_append_getElem hk]
     simp only [List.mem_append,List.mem_singleton,not_or]
     exact ⟨k2,fun e=>he (by rw [hg]; exact e.symm)⟩
    ·exact q_D
 ·have hk' : k = xs.length:=by omega
  subst hk'
  rw [List.take_length] at k2
  rw [decide_eq_false k2]
  repeat' (first|with_reducible refine q_0 ?_|((with_reducible first|refine q_q ogb_ok fun K hK=>?_|refine q_r ogb_ok fun K hK=>?_);simp (maxSteps:=2000000) only [go_sem,↓reduceIte,reduceCtorEq,Nat.reduceLeDiff,Nat.reduceLT,Nat.reduceBEq,Nat.reduceAdd];(repeat1' with_reducible first|apply And.intro|(intro _;try exact q_v)|(refine hK _ ?_;clear hK K))<;>(try (clear hK K;exact q_u)))|(with_reducible refine q_s ?_;(first|apply q_J|apply q_K|apply q_L|apply q_M|apply q_N|apply q_O)<;>try (intro _;try exact q_v)))
  all_goals first | contradiction | omega | exact q_A rfl | skip
def inCT : CT:=mkCT [.inl (some (.ints .i64 []))] true fun l K=>match l with
 | [.inl (.ints .i64 xs),.inl (.i .i64 n)]=>xs.length ≤ 17592186044416 ∧ K (.c (.b (decide (n ∈ xs))))
 | _=>False
def og1 : Cfg:=addT 20 inCT cf0
theorem og1_ok : TblOk Try.prog og1:=q_I cf0_ok Try.func20 fun l K h=>by
 split at h
 ·exact ⟨_,(in_ret _ _ h.1).plain rfl,h.2⟩
 ·exact h.elim
theorem numbers_ret (xs ys : List Int) (hx : xs.length ≤ 17592186044416) (hy : ys.length ≤ 17592186044416) : Ret Try.prog 17 false [.inl (.ints .i64 xs),.inl (.ints .i64 ys)] (.c (.b (decide (xs = ys)))):=by
 (refine q_H Try.func17 (fun F=>?_); simp only [q_z,q_y,Try.ntmps17,Try.results17])
 repeat' (first|with_reducible refine q_0 ?_|((with_reducible first|refine q_q ogb_ok fun K hK=>?_|refine q_r ogb_ok fun K hK=>?_);simp (maxSteps:=2000000) only [go_sem,↓reduceIte,reduceCtorEq,Nat.reduceLeDiff,Nat.reduceLT,Nat.reduceBEq,Nat.reduceAdd];(repeat1' with_reducible first|apply And.intro|intro _|(refine hK _ ?_;clear hK K))<;>(try (clear hK K;exact q_u)))|(with_reducible refine q_s ?_;(first|apply q_J|apply q_K|apply q_L|apply q_M|apply q_N|apply q_O)<;>try intro _))
 ·rename_i hl
  exact q_A (by simp only [resAV,q_y]; rw [decide_eq_false (fun h=>hl (by rw [h]))])
 rename_i hl
 have hl : xs.length = ys.length:=by omega
 refine q_G (ι:={ i : Nat // i ≤ xs.length ∧ xs.take i = ys.take i }) (fun i=>⟨26,[(0,.c (.ints .i64 xs)),(1,.c (.ints .i64 ys)),(5,.c (.i .i64 i.1))],⟨[],[],[]⟩,0⟩) (fun i=>xs.length - i.1) ⟨0,by omega,by simp⟩ ?_ ?_
 ·exact q_D
 rintro ⟨i,h1,h2⟩
 simp only
 repeat' (first|with_reducible refine q_0 ?_|((with_reducible first|refine q_q ogb_ok fun K hK=>?_|refine q_r ogb_ok fun K hK=>?_);simp (maxSteps:=2000000) only [go_sem,↓reduceIte,reduceCtorEq,Nat.reduceLeDiff,Nat.reduceLT,Nat.reduceBEq,Nat.reduceAdd];(repeat1' with_reducible first|apply And.intro|intro _|(refine hK _ ?_;clear hK K))<;>(try (clear hK K;exact q_u)))|(with_reducible refine q_s ?_;(first|apply q_J|apply q_K|apply q_L|apply q_M|apply q_N|apply q_O)<;>try intro _))
 ·rename_i h3 hne
  exact q_A (by simp only [resAV,q_y]; rw [decide_eq_false (fun h=>hne (by rw [h]))])
 ·rename_i h3 he
  refine q_F ⟨i + 1,by omega,?_⟩ ?_ ?_
  ·rw [List.take_succ_eq_append_getElem (by omega),List.take_succ_eq_append_getElem (by omega),h2]
   have e : xs.getD i 0 = ys.getD i 0:=by omega
   rw [getD_eq xs i (by omega),getD_eq ys i (by omega)] at e
   rw [e]
  ·exact q_D
  ·show xs.length - (i + 1) < xs.length - i
   omega
 ·rename_i h3
  rw [List.take_of_length_le (by omega),List.take_of_length_le (by omega)] at h2
  exact q_A (by simp only [resAV,q_y]; rw [decide_eq_true h2])
def numbersCT : CT:=mkCT [.inl (some (.ints .i64 [])),.inl (some (.ints .i64 []))] true fun l K=>match l with
 | [.inl (.ints .i64 xs),.inl (.ints .i64 ys)]=>(xs.length ≤ 17592186044416 ∧ ys.length ≤ 17592186044416) ∧ K (.c (.b (decide (xs = ys))))
 | _=>False
def og2 : Cfg:=addT 17 numbersCT cf0
theorem og2_ok : TblOk Try.prog og2:=q_I cf0_ok Try.func17 fun l K h=>by
 split at h
 ·exact ⟨_,(numbers_ret _ _ h.1.1 h.1.2).plain rfl,h.2⟩
 ·exact h.elim
attribute [go_sem] inCT numbersCT
end Go.Proofs.Ytmcjojbffidlbaa

namespace Go.Proofs.Ytmcjojbffidlbaa
set_option linter.unusedSimpArgs false
set_option linter.unusedVariables false
open Go.Abs Go.Proofs.NatL

def oht : Cfg:=listT [(11,atCT),(20,inCT),(17,numbersCT),(19,inverseCT),(18,permuteCT),(9,sortsCT)] [27]
theorem oht_ok : TblOk Try.prog oht:=listE_ok (by simp only [List.mem_singleton,forall_eq]; exact flt) ⟨⟨oa2,oa2_ok,rfl⟩,⟨og1,og1_ok,rfl⟩,⟨og2,og2_ok,rfl⟩,⟨og3,og3_ok,rfl⟩,⟨og4,og4_ok,rfl⟩,⟨oc6,oc6_ok,rfl⟩,trivial⟩
attribute [go_sem] oht
set_option maxRecDepth 100000 in
set_option maxHeartbeats 6400000 in
theorem permutes_bad_ne (l xs : List Int) (hl : l.length ≤ 17592186044416) (hx : xs.length ≤ 17592186044416) (he : xs.length ≠ l.length) (hb : badO xs ≠ none) :
  Ret Try.prog 4 false [.inl (.ints .i64 l),.inl (.ints .i64 xs)] (.c (.b true)):=by
 have hc:=bC_ne hb
 have hc0 : bC xs ≠ 0:=by omega
 (refine q_H Try.func4 (fun F=>?_); simp only [q_z,q_y,Try.ntmps4,Try.results4])
 repeat' (first|with_reducible refine q_0 ?_|((with_reducible first|refine q_q oht_ok fun K hK=>?_|refine q_r oht_ok fun K hK=>?_);simp (maxSteps:=2000000) only [go_sem,↓reduceIte,reduceCtorEq,Nat.reduceLeDiff,Nat.reduceLT,Nat.reduceBEq,Nat.reduceAdd];(repeat1' with_reducible first|apply And.intro|(intro _;try exact q_v)|(refine hK _ ?_;clear hK K))<;>(try (clear hK K;exact q_u)))|(with_reducible refine q_s ?_;(first|apply q_J|apply q_K|apply q_L|apply q_M|apply q_N|apply q_O)<;>try (intro _;try exact q_v)))
 all_goals first | omega | contradiction | skip
 refine q_G (ι:={ q : Nat × Int × Int // (q.2 = (0,0) ∧ q.1 ≤ xs.length ∧ scanO xs q.1 (xs.length - q.1) = badO xs) ∨ (q.2 = (bC xs,bK xs) ∧ q.1 ≤ xs.length) }) (fun q=>⟨169,[(0,.c (.ints .i64 l)),(1,.c (.ints .i64 xs)),(5,.c (.ints .i64 [])),(6,.bx 0 0),(7,.c (.ints .i64 [])),(8,.bx 1 0),(9,.bx 2 0),(10,.c (.i .i64 (q.1.1 : Nat)))],
  ⟨[(2,[.c (.i .i64 q.1.2.1),.c (.i .i64 q.1.2.2)]),(1,[.c (.i .i64 (bC xs)),.c (.i .i64 (bK xs))]),(0,[.c (.i .i64 9),.c (.i .i64 (-2))])],[],[]⟩,3⟩) (fun q=>xs.length - q.1.1) ⟨(0,0,0),.inl ⟨rfl,by omega,rfl⟩⟩ ?_ ?_
 ·exact q_D
 rintro ⟨⟨i,w0,w1⟩,hq⟩
 rcases hq with ⟨hw,hi,hs⟩ | ⟨hw,hi⟩
 ·obtain ⟨rfl,rfl⟩:=Prod.mk.inj hw
  simp only at hi hs ⊢
  rcases Nat.lt_or_ge i xs.length with hk | hk
  ·by_cases ho : xs.getD i 0 < 0 ∨ (xs.length : Int) ≤ xs.getD i 0
   ·have hb2:=bC_some ((hs.symm.trans (scanO_out hk ho)))
    repeat' (first|with_reducible refine q_0 ?_|((with_reducible first|refine q_q oht_ok fun K hK=>?_|refine q_r oht_ok fun K hK=>?_);simp (maxSteps:=2000000) only [go_sem,↓reduceIte,reduceCtorEq,Nat.reduceLeDiff,Nat.reduceLT,Nat.reduceBEq,Nat.reduceAdd];(repeat1' with_reducible first|apply And.intro|(intro _;try exact q_v)|(refine hK _ ?_;clear hK K))<;>(try (clear hK K;exact q_u)))|(with_reducible refine q_s ?_;(first|apply q_J|apply q_K|apply q_L|apply q_M|apply q_N|apply q_O)<;>try (intro _;try exact q_v)))
    all_goals first
    | omega
    | contradiction
    | (refine q_F ⟨(i + 1,bC xs,bK xs),.inr ⟨rfl,hk⟩⟩ ?_ (by simp only; omega); rw [hb2.1,hb2.2]; exact q_D)
   ·by_cases hm : xs.getD i 0 ∈ xs.take i
    ·have hb2:=bC_some ((hs.symm.trans (scanO_twice hk ho hm)))
     repeat' (first|with_reducible refine q_0 ?_|((with_reducible first|refine q_q oht_ok fun K hK=>?_|refine q_r oht_ok fun K hK=>?_);simp (maxSteps:=2000000) only [go_sem,↓reduceIte,reduceCtorEq,Nat.reduceLeDiff,Nat.reduceLT,Nat.reduceBEq,Nat.reduceAdd,List.drop_zero,hm];(repeat1' with_reducible first|apply And.intro|(intro _;try exact q_v)|(refine hK _ ?_;clear hK K))<;>(try (clear hK K;exact q_u)))|(with_reducible refine q_s ?_;(first|apply q_J|apply q_K|apply q_L|apply q_M|apply q_N|apply q_O)<;>try (intro _;try exact q_v)))
     all_goals first
     | omega
     | contradiction
     | (refine q_F ⟨(i + 1,bC xs,bK xs),.inr ⟨rfl,hk⟩⟩ ?_ (by simp only; omega); rw [hb2.1,hb2.2]; exact q_D)
    ·have hn:=scanO_next hk ho hm
     repeat' (first|with_reducible refine q_0 ?_|((with_reducible first|refine q_q oht_ok fun K hK=>?_|refine q_r oht_ok fun K hK=>?_);simp (maxSteps:=2000000) only [go_sem,↓reduceIte,reduceCtorEq,Nat.reduceLeDiff,Nat.reduceLT,Nat.reduceBEq,Nat.reduceAdd,List.drop_zero,hm];(repeat1' with_reducible first|apply And.intro|(intro _;try exact q_v)|(refine hK _ ?_;clear hK K))<;>(try (clear hK K;exact q_u)))|(with_reducible refine q_s ?_;(first|apply q_J|apply q_K|apply q_L|apply q_M|apply q_N|apply q_O)<;>try (intro _;try exact q_v)))
     all_goals first
     | omega
     | contradiction
     | (refine q_F ⟨(i + 1,0,0),.inl ⟨rfl,hk,hn.symm.trans hs⟩⟩ ?_ (by simp only; omega); exact q_D)
  ·have : i = xs.length:=by omega
   subst this
   rw [Nat.sub_self] at hs
   exact absurd hs.symm hb
 ·obtain ⟨rfl,rfl⟩:=Prod.mk.inj hw
  simp only at hi ⊢
  repeat' (first|with_reducible refine q_0 ?_|((with_reducible first|refine q_q oht_ok fun K hK=>?_|refine q_r oht_ok fun K hK=>?_);simp (maxSteps:=2000000) only [go_sem,↓reduceIte,reduceCtorEq,Nat.reduceLeDiff,Nat.reduceLT,Nat.reduceBEq,Nat.reduceAdd,hc0];(repeat1' with_reducible first|apply And.intro|(intro _;try exact q_v)|(refine hK _ ?_;clear hK K))<;>(try (clear hK K;exact q_u)))|(with_reducible refine q_s ?_;(first|apply q_J|apply q_K|apply q_L|apply q_M|apply q_N|apply q_O)<;>try (intro _;try exact q_v)))
  all_goals first | omega | contradiction | exact q_A rfl | skip
set_option maxRecDepth 100000 in
set_option maxHeartbeats 6400000 in
theorem permutes_bad_eq (l xs : List Int) (hl : l.length ≤ 17592186044416) (hx : xs.length ≤ 17592186044416) (he : xs.length = l.length) (hb : badO xs ≠ none) :
  Ret Try.prog 4 false [.inl (.ints .i64 l),.inl (.ints .i64 xs)] (.c (.b true)):=by
 have hc:=bC_ne hb
 have hc0 : bC xs ≠ 0:=by omega
 (refine q_H Try.func4 (fun F=>?_); simp only [q_z,q_y,Try.ntmps4,Try.results4])
 repeat' (first|with_reducible refine q_0 ?_|((with_reducible first|refine q_q oht_ok fun K hK=>?_|refine q_r oht_ok fun K hK=>?_);simp (maxSteps:=2000000) only [go_sem,↓reduceIte,reduceCtorEq,Nat.reduceLeDiff,Nat.reduceLT,Nat.reduceBEq,Nat.reduceAdd];(repeat1' with_reducible first|apply And.intro|(intro _;try exact q_v)|(refine hK _ ?_;clear hK K))<;>(try (clear hK K;exact q_u)))|(with_reducible refine q_s ?_;(first|apply q_J|apply q_K|apply q_L|apply q_M|apply q_N|apply q_O)<;>try (intro _;try exact q_v)))
 all_goals first | omega | contradiction | skip
 refine q_G (ι:={ q : Nat × Int × Int // (q.2 = (0,0) ∧ q.1 ≤ xs.length ∧ scanO xs q.1 (xs.length - q.1) = badO xs) ∨ (q.2 = (bC xs,bK xs) ∧ q.1 ≤ xs.length) }) (fun q=>⟨169,[(0,.c (.ints .i64 l)),(1,.c (.ints .i64 xs)),(5,.c (.ints .i64 [])),(6,.bx 0 0),(7,.c (.ints .i64 [])),(8,.bx 1 0),(9,.bx 2 0),(10,.c (.i .i64 (q.1.1 : Nat)))],
  ⟨[(2,[.c (.i .i64 q.1.2.1),.c (.i .i64 q.1.2.2)]),(1,[.c (.i .i64 (bC xs)),.c (.i .i64 (bK xs))]),(0,[.c (.i .i64 (bC xs)),.c (.i .i64 (bK xs))])],[],[]⟩,3⟩) (fun q=>xs.length - q.1.1) ⟨(0,0,0),.inl ⟨rfl,by omega,rfl⟩⟩ ?_ ?_
 ·exact q_D
 rintro ⟨⟨i,w0,w1⟩,hq⟩
 rcases hq with ⟨hw,hi,hs⟩ | ⟨hw,hi⟩
 ·obtain ⟨rfl,rfl⟩:=Prod.mk.inj hw
  simp only at hi hs ⊢
  rcases Nat.lt_or_ge i xs.length with hk | hk
  ·by_cases ho : xs.getD i 0 < 0 ∨ (xs.length : Int) ≤ xs.getD i 0
   ·have hb2:=bC_some ((hs.symm.trans (scanO_out hk ho)))
    repeat' (first|with_reducible refine q_0 ?_|((with_reducible first|refine q_q oht_ok fun K hK=>?_|refine q_r oht_ok fun K hK=>?_);simp (maxSteps:=2000000) only [go_sem,↓reduceIte,reduceCtorEq,Nat.reduceLeDiff,Nat.reduceLT,Nat.reduceBEq,Nat.reduceAdd];(repeat1' with_reducible first|apply And.intro|(intro _;try exact q_v)|(refine hK _ ?_;clear hK K))<;>(try (clear hK K;exact q_u)))|(with_reducible refine q_s ?_;(first|apply q_J|apply q_K|apply q_L|apply q_M|apply q_N|apply q_O)<;>try (intro _;try exact q_v)))
    all_goals first
    | omega
    | contradiction
    | (refine q_F ⟨(i + 1,bC xs,bK xs),.inr ⟨rfl,hk⟩⟩ ?_ (by simp only; omega); rw [hb2.1,hb2.2]; exact q_D)
   ·by_cases hm : xs.getD i 0 ∈ xs.take i
    ·have hb2:=bC_some ((hs.symm.trans (scanO_twice hk ho hm)))
     repeat' (first|with_reducible refine q_0 ?_|((with_reducible first|refine q_q oht_ok fun K hK=>?_|refine q_r oht_ok fun K hK=>?_);simp (maxSteps:=2000000) only [go_sem,↓reduceIte,reduceCtorEq,Nat.reduceLeDiff,Nat.reduceLT,Nat.reduceBEq,Nat.reduceAdd,List.drop_zero,hm];(repeat1' with_reducible first|apply And.intro|(intro _;try exact q_v)|(refine hK _ ?_;clear hK K))<;>(try (clear hK K;exact q_u)))|(with_reducible refine q_s ?_;(first|apply q_J|apply q_K|apply q_L|apply q_M|apply q_N|apply q_O)<;>try (intro _;try exact q_v)))
     all_goals first
     | omega
     | contradiction
     | (refine q_F ⟨(i + 1,bC xs,bK xs),.inr ⟨rfl,hk⟩⟩ ?_ (by simp only; omega); rw [hb2.1,hb2.2]; exact q_D)
    ·have hn:=scanO_next hk ho hm
     repeat' (first|with_reducible refine q_0 ?_|((with_reducible first|refine q_q oht_ok fun K hK=>?_|refine q_r oht_ok fun K hK=>?_);simp (maxSteps:=2000000) only [go_sem,↓reduceIte,reduceCtorEq,Nat.reduceLeDiff,Nat.reduceLT,Nat.reduceBEq,Nat.reduceAdd,List.drop_zero,hm];(repeat1' with_reducible first|apply And.intro|(intro _;try exact q_v)|(refine hK _ ?_;clear hK K))<;>(try (clear hK K;exact q_u)))|(with_reducible refine q_s ?_;(first|apply q_J|apply q_K|apply q_L|apply q_M|apply q_N|apply q_O)<;>try (intro _;try exact q_v)))
     all_goals first
     | omega
     | contradiction
     | (refine q_F ⟨(i + 1,0,0),.inl ⟨rfl,hk,hn.symm.trans hs⟩⟩ ?_ (by simp only; omega); exact q_D)
  ·have : i = xs.length:=by omega
   subst this
   rw [Nat.sub_self] at hs
   exact absurd hs.symm hb
 ·obtain ⟨rfl,rfl⟩:=Prod.mk.inj hw
  simp only at hi ⊢
  repeat' (first|with_reducible refine q_0 ?_|((with_reducible first|refine q_q oht_ok fun K hK=>?_|refine q_r oht_ok fun K hK=>?_);simp (maxSteps:=2000000) only [go_sem,↓reduceIte,reduceCtorEq,Nat.reduceLeDiff,Nat.reduceLT,Nat.reduceBEq,Nat.reduceAdd,hc0];(repeat1' with_reducible first|apply And.intro|(intro _;try exact q_v)|(refine hK _ ?_;clear hK K))<;>(try (clear hK K;exact q_u)))|(with_reducible refine q_s ?_;(first|apply q_J|apply q_K|apply q_L|apply q_M|apply q_N|apply q_O)<;>try (intro _;try exact q_v)))
  all_goals first | omega | contradiction | exact q_A rfl | skip
set_option maxRecDepth 100000 in
set_option maxHeartbeats 6400000 in
theorem permutes_good_ne (l xs : List Int) (hl : l.length ≤ 17592186044416) (hx : xs.length ≤ 17592186044416) (he : xs.length ≠ l.length) (hb : badO xs = none) :
  Ret Try.prog 4 false [.inl (.ints .i64 l),.inl (.ints .i64 xs)] (.c (.b true)):=by
 have hg:=good_of hb
 obtain ⟨v1,v2⟩:=inv_good hg
 have v3:=bad_good v1
 have v4:=invL_len xs xs.length
 have v5:=permL_len l xs
 have v6 : xs.length = l.length → permL (permL l xs) (invL xs xs.length) = l:=fun h=>perm_back hg h.symm
 have v7:=invL_at hg xs.length (Nat.le_refl _)
 have v8:=permL_at l xs
 (refine q_H Try.func4 (fun F=>?_); simp only [q_z,q_y,Try.ntmps4,Try.results4])
 repeat' (first|with_reducible refine q_0 ?_|((with_reducible first|refine q_q oht_ok fun K hK=>?_|refine q_r oht_ok fun K hK=>?_);simp (maxSteps:=2000000) only [go_sem,↓reduceIte,reduceCtorEq,Nat.reduceLeDiff,Nat.reduceLT,Nat.reduceBEq,Nat.reduceAdd];(repeat1' with_reducible first|apply And.intro|(intro _;try exact q_v)|(refine hK _ ?_;clear hK K))<;>(try (clear hK K;exact q_u)))|(with_reducible refine q_s ?_;(first|apply q_J|apply q_K|apply q_L|apply q_M|apply q_N|apply q_O)<;>try (intro _;try exact q_v)))
 all_goals first | omega | contradiction | skip
 refine q_G (ι:={ i : Nat // i ≤ xs.length }) (fun i=>⟨169,[(0,.c (.ints .i64 l)),(1,.c (.ints .i64 xs)),(5,.c (.ints .i64 [])),(6,.bx 0 0),(7,.c (.ints .i64 (invL xs xs.length))),(8,.bx 1 0),(9,.bx 2 0),(10,.c (.i .i64 (i.1 : Nat)))],
  ⟨[(2,[.c (.i .i64 0),.c (.i .i64 0)]),(1,[.c (.i .i64 0),.c (.i .i64 0)]),(0,[.c (.i .i64 9),.c (.i .i64 (-2))])],[],[]⟩,3⟩) (fun i=>xs.length - i.1) ⟨0,by omega⟩ ?_ ?_
 ·exact q_D
 rintro ⟨i,hi⟩
 simp only at hi ⊢
 rcases Nat.lt_or_ge i xs.length with hk | hk
 ·have hlo:=hg.lo i hk
  have hm : xs.getD i 0 ∉ xs.take i:=by
   rw [mem_take_getD (by omega)]
   rintro ⟨j,hj,e⟩
   exact hg.once j i hj hk e
  clear v1 v2 v3 v5 v6 v7 v8
  repeat' (first|with_reducible refine q_0 ?_|((with_reducible first|refine q_q oht_ok fun K hK=>?_|refine q_r oht_ok fun K hK=>?_);simp (maxSteps:=2000000) only [go_sem,↓reduceIte,reduceCtorEq,Nat.reduceLeDiff,Nat.reduceLT,Nat.reduceBEq,Nat.reduceAdd,List.drop_zero,hm];(repeat1' with_reducible first|apply And.intro|(intro _;try exact q_v)|(refine hK _ ?_;clear hK K))<;>(try (clear hK K;exact q_u)))|(with_reducible refine q_s ?_;(first|apply q_J|apply q_K|apply q_L|apply q_M|apply q_N|apply q_O)<;>try (intro _;try exact q_v)))
  all_goals first
  | omega
  | contradiction
  | (refine q_F ⟨i + 1,hk⟩ ?_ (by simp only; omega); exact q_D)
 ·have : i = xs.length:=by omega
  subst this
  repeat' (first|with_reducible refine q_0 ?_|((with_reducible first|refine q_q oht_ok fun K hK=>?_|refine q_r oht_ok fun K hK=>?_);simp (maxSteps:=2000000) only [go_sem,↓reduceIte,reduceCtorEq,Nat.reduceLeDiff,Nat.reduceLT,Nat.reduceBEq,Nat.reduceAdd,v4];(repeat1' with_reducible first|apply And.intro|(intro _;try exact q_v)|(refine hK _ ?_;clear hK K))<;>(try (clear hK K;exact q_u)))|(with_reducible refine q_s ?_;(first|apply q_J|apply q_K|apply q_L|apply q_M|apply q_N|apply q_O)<;>try (intro _;try exact q_v)))
  all_goals first | omega | contradiction | exact q_A rfl | skip
set_option maxRecDepth 100000 in
set_option maxHeartbeats 6400000 in
theorem permutes_good_eq (l xs : List Int) (hl : l.length ≤ 17592186044416) (hx : xs.length ≤ 17592186044416) (he : xs.length = l.length) (hb : badO xs = none) :
  Ret Try.prog 4 false [.inl (.ints .i64 l),.inl (.ints .i64 xs)] (.c (.b true)):=by
 have hg:=good_of hb
 obtain ⟨v1,v2⟩:=inv_good hg
 have v3:=bad_good v1
 have v4:=invL_len xs xs.length
 have v5:=permL_len l xs
 have v6 : xs.length = l.length → permL (permL l xs) (invL xs xs.length) = l:=fun h=>perm_back hg h.symm
 have v7:=invL_at hg xs.length (Nat.le_refl _)
 have v8:=permL_at l xs
 (refine q_H Try.func4 (fun F=>?_); simp only [q_z,q_y,Try.ntmps4,Try.results4])
 repeat' (first|with_reducible refine q_0 ?_|((with_reducible first|refine q_q oht_ok fun K hK=>?_|refine q_r oht_ok fun K hK=>?_);simp (maxSteps:=2000000) only [go_sem,↓reduceIte,reduceCtorEq,Nat.reduceLeDiff,Nat.reduceLT,Nat.reduceBEq,Nat.reduceAdd];(repeat1' with_reducible first|apply And.intro|(intro _;try exact q_v)|(refine hK _ ?_;clear hK K))<;>(try (clear hK K;exact q_u)))|(with_reducible refine q_s ?_;(first|apply q_J|apply q_K|apply q_L|apply q_M|apply q_N|apply q_O)<;>try (intro _;try exact q_v)))
 all_goals first | omega | contradiction | skip
 refine q_G (ι:={ i : Nat // i ≤ xs.length }) (fun i=>⟨169,[(0,.c (.ints .i64 l)),(1,.c (.ints .i64 xs)),(5,.c (.ints .i64 (permL l xs))),(6,.bx 0 0),(7,.c (.ints .i64 (invL xs xs.length))),(8,.bx 1 0),(9,.bx 2 0),(10,.c (.i .i64 (i.1 : Nat)))],
  ⟨[(2,[.c (.i .i64 0),.c (.i .i64 0)]),(1,[.c (.i .i64 0),.c (.i .i64 0)]),(0,[.c (.i .i64 0),.c (.i .i64 0)])],[],[]⟩,3⟩) (fun i=>xs.length - i.1) ⟨0,by omega⟩ ?_ ?_
 ·exact q_D
 rintro ⟨i,hi⟩
 simp only at hi ⊢
 rcases Nat.lt_or_ge i xs.length with hk | hk
 ·have hlo:=hg.lo i hk
  have hm : xs.getD i 0 ∉ xs.take i:=by
   rw [mem_take_getD (by omega)]
   rintro ⟨j,hj,e⟩
   exact hg.once j i hj hk e
  clear v1 v2 v3 v5 v6 v7 v8
  repeat' (first|with_reducible refine q_0 ?_|((with_reducible first|refine q_q oht_ok fun K hK=>?_|refine q_r oht_ok fun K hK=>?_);simp (maxSteps:=2000000) only [go_sem,↓reduceIte,reduceCtorEq,Nat.reduceLeDiff,Nat.reduceLT,Nat.reduceBEq,Nat.reduceAdd,List.drop_zero,hm];(repeat1' with_reducible first|apply And.intro|(intro _;try exact q_v)|(refine hK _ ?_;clear hK K))<;>(try (clear hK K;exact q_u)))|(with_reducible refine q_s ?_;(first|apply q_J|apply q_K|apply q_L|apply q_M|apply q_N|apply q_O)<;>try (intro _;try exact q_v)))
  all_goals first
  | omega
  | contradiction
  | (refine q_F ⟨i + 1,hk⟩ ?_ (by simp only; omega); exact q_D)
 ·have : i = xs.length:=by omega
  subst this
  have hp:=v6 he
  generalize hI : invL xs xs.length = B at *
  generalize hA : permL l xs = A at *
  repeat' (first|with_reducible refine q_0 ?_|((with_reducible first|refine q_q oht_ok fun K hK=>?_|refine q_r oht_ok fun K hK=>?_);simp (maxSteps:=2000000) only [go_sem,↓reduceIte,reduceCtorEq,Nat.reduceLeDiff,Nat.reduceLT,Nat.reduceBEq,Nat.reduceAdd,v4,v5];(repeat1' with_reducible first|apply And.intro|(intro _;try exact q_v)|(refine hK _ ?_;clear hK K))<;>(try (clear hK K;exact q_u)))|(with_reducible refine q_s ?_;(first|apply q_J|apply q_K|apply q_L|apply q_M|apply q_N|apply q_O)<;>try (intro _;try exact q_v)))
  all_goals first | omega | contradiction | exact q_A rfl | skip
  refine q_G (ι:={ i : Nat // i ≤ xs.length }) (fun i=>⟨169,[(0,.c (.ints .i64 l)),(1,.c (.ints .i64 xs)),(5,.c (.ints .i64 A)),(7,.c (.ints .i64 B)),(11,.c (.i .i64 (i.1 : Nat)))],
   ⟨[],[],[]⟩,3⟩) (fun i=>xs.length - i.1) ⟨0,by omega⟩ ?_ ?_
  ·exact q_D
  rintro ⟨i,hi⟩
  simp only at hi ⊢
  rcases Nat.lt_or_ge i xs.length with hk | hk
  ·have hlo:=hg.lo i hk
   have w1:=v7 i hk
   have w2:=v8 i hk
   clear v1 v2 v3 v6 v7 v8
   repeat' (first|with_reducible refine q_0 ?_|((with_reducible first|refine q_q oht_ok fun K hK=>?_|refine q_r oht_ok fun K hK=>?_);simp (maxSteps:=2000000) only [go_sem,↓reduceIte,reduceCtorEq,Nat.reduceLeDiff,Nat.reduceLT,Nat.reduceBEq,Nat.reduceAdd,w1,w2];(repeat1' with_reducible first|apply And.intro|(intro _;try exact q_v)|(refine hK _ ?_;clear hK K))<;>(try (clear hK K;exact q_u)))|(with_reducible refine q_s ?_;(first|apply q_J|apply q_K|apply q_L|apply q_M|apply q_N|apply q_O)<;>try (intro _;try exact q_v)))
   all_goals first
   | omega
   | contradiction
   | (refine q_F ⟨i + 1,hk⟩ ?_ (by simp only; omega); exact q_D)
   | skip
  ·have hn : (B.length = A.length):=by omega
   repeat' (first|with_reducible refine q_0 ?_|((with_reducible first|refine q_q oht_ok fun K hK=>?_|refine q_r oht_ok fun K hK=>?_);simp (maxSteps:=2000000) only [go_sem,↓reduceIte,reduceCtorEq,Nat.reduceLeDiff,Nat.reduceLT,Nat.reduceBEq,Nat.reduceAdd,hp];(repeat1' with_reducible first|apply And.intro|(intro _;try exact q_v)|(refine hK _ ?_;clear hK K))<;>(try (clear hK K;exact q_u)))|(with_reducible refine q_s ?_;(first|apply q_J|apply q_K|apply q_L|apply q_M|apply q_N|apply q_O)<;>try (intro _;try exact q_v)))
   all_goals first | omega | contradiction | exact q_A rfl | exact q_A (by simp)
end Go.Proofs.Ytmcjojbffidlbaa
