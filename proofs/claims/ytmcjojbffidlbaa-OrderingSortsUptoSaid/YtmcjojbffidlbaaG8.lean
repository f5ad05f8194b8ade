import Derived.Test.YtmcjojbffidlbaaG6
namespace Go.Proofs.Ytmcjojbffidlbaa
set_option linter.unusedSimpArgs false
set_option linter.unusedVariables false
open Go.Abs Go.Proofs.NatL

theorem sort_long_M (kd : Int) (l : List Int) (h : 1000 < l.length) (hl : l.length ≤ 17592186044416) : RetG Try.prog 21 ⟨[(0,[.c (.i .i64 kd)])],[],[]⟩ [.c (.ints .i64 l),.fn 37 [.bx 0 0]] ⟨[(0,[.c (.i .i64 kd)]),(1,[.c (.i .i64 4),.c (.i .i64 (-1))])],[],[]⟩ [.c (.ints .i64 []),.g [.i .i64 4,.i .i64 (-1)]]:=by
 (refine ret_ge Try.func21 (fun F bs=>?_); simp only [avSl,ancs,hnx,Nat.reduceAdd,Nat.reduceLeDiff,if_true,if_false,List.length_cons,List.length_nil,List.cons_append,List.nil_append,Try.ntmps21,Try.results21])
 repeat' (first|with_reducible refine q_0 ?_|((with_reducible first|refine q_q omt_ok fun K hK=>?_|refine q_r omt_ok fun K hK=>?_);simp (maxSteps:=2000000) only [go_sem,↓reduceIte,reduceCtorEq,Nat.reduceLeDiff,Nat.reduceLT,Nat.reduceBEq,Nat.reduceAdd];(repeat1' with_reducible first|apply And.intro|(intro _;try exact q_v)|(refine hK _ ?_;clear hK K))<;>(try (clear hK K;exact q_u)))|(with_reducible refine q_s ?_;(first|apply q_J|apply q_K|apply q_L|apply q_M|apply q_N|apply q_O)<;>try (intro _;try exact q_v)))
 all_goals first | omega | rfl | exact keep_of [] trivial | exact keep_of [2] ⟨rfl,trivial⟩ | exact ends_g [(4,.c (.ints .i64 [])),(5,.bx 1 0)] 4 (by exact q_D) rfl | skip
set_option maxRecDepth 100000 in
set_option maxHeartbeats 6400000 in
theorem sort_M (kd : Int) (I : Pn → Prop) (l : List Int) (h : l.length ≤ 1000) (hI0 : I (settle (startP l.length))) (hI1 : ∀ q,I q → q.Ok → q.on → q.asks → I (tellP q (byL (lt2 kd) l q))) (hI2 : ∀ q,I q → q.o.Perm ((List.range q.o.length).map fun i : Nat=>(i : Int))) :
  RetG Try.prog 21 ⟨[(0,[.c (.i .i64 kd)])],[],[]⟩ [.c (.ints .i64 l),.fn 37 [.bx 0 0]] ⟨[(0,[.c (.i .i64 kd)]),(1,[.c (.i .i64 0),.c (.i .i64 0)])],[],[]⟩ [.c (.ints .i64 (permL l (runAll (byL (lt2 kd) l) (settle (startP l.length))).o)),.g [.i .i64 0,.i .i64 0]]:=by
 obtain ⟨s1,s2,s3⟩:=settle_facts (startP_ok h)
 have s4 : (startP l.length).o.length = l.length:=by simp [startP]
 rw [s4] at s3
 generalize hb : byL (lt2 kd) l = b at *
 have hbq : ∀ q : Pn,(lt2 kd) (l.getD q.i.toNat 0) (l.getD q.j.toNat 0) = b q:=fun q=>by rw [← hb]; rfl
 generalize hp : settle (startP l.length) = p at *
 generalize hz : runAll b p = z
 have hE : ∀ q : Pn,(Pn.mk q.o q.w q.f q.l q.r q.m) = q:=fun q=>rfl
 have hon : p.on ↔ p.w < p.o.length:=Iff.rfl
 by_cases ho : p.w < p.o.length
 all_goals
  have hi : askI p = if p.w < p.o.length then p.i else 0:=rfl
  have hj : askJ p = if p.w < p.o.length then p.j else 0:=rfl
  (refine ret_ge Try.func21 (fun F bs=>?_); simp only [avSl,ancs,hnx,Nat.reduceAdd,Nat.reduceLeDiff,if_true,if_false,List.length_cons,List.length_nil,List.cons_append,List.nil_append,Try.ntmps21,Try.results21])
  repeat' (first|with_reducible refine q_0 ?_|((with_reducible first|refine q_q omt_ok fun K hK=>?_|refine q_r omt_ok fun K hK=>?_);simp (maxSteps:=2000000) only [go_sem,↓reduceIte,reduceCtorEq,Nat.reduceLeDiff,Nat.reduceLT,Nat.reduceBEq,Nat.reduceAdd,hp,hE];(repeat1' with_reducible first|apply And.intro|(intro _;try exact q_v)|(refine hK _ ?_;clear hK K))<;>(try (clear hK K;exact q_u)))|(with_reducible refine q_s ?_;(first|apply q_J|apply q_K|apply q_L|apply q_M|apply q_N|apply q_O)<;>try (intro _;try exact q_v)))
  all_goals first | omega | rfl | exact keep_of [] trivial | exact keep_of [2] ⟨rfl,trivial⟩ | exact ⟨s1,s2 ho⟩ | exact s1 | exact s2 ho | skip
  refine q_G (ι:={ q : Pn // q.Ok ∧ (q.on → q.asks) ∧ q.o.length = l.length ∧ I q ∧ runAll b q = z }) (fun q=>⟨52,[(0,.c (.ints .i64 l)),(1,.fn 37 [.bx 0 0]),(5,.bx 1 0),(6,.bx 2 0),(8,.c (.i .i64 (askI q.1))),(9,.c (.i .i64 (askJ q.1))),(10,.c (.b (decide (q.1.w < q.1.o.length)))),(1000,.anc 0 (bs 0))],
   ⟨[(2,[.c (.ints .i64 q.1.o),.c (.i .i64 (q.1.w : Nat)),.c (.i .i64 (q.1.f : Nat)),.c (.i .i64 (q.1.l : Nat)),.c (.i .i64 (q.1.r : Nat)),.c (.ints .i64 q.1.m)]),(1,[.c (.i .i64 0),.c (.i .i64 0)]),(0,[.c (.i .i64 kd)])],[],[]⟩,4⟩) (fun q=>q.1.nu) ⟨p,s1,s2,s3,hI0,hz⟩ ?_ ?_
  ·simp only [ho,if_true,if_false,decide_true,decide_false] at hi hj
   simp only [hi,hj,ho,decide_true,decide_false]
   exact q_D
  clear hi hj
  rintro ⟨q,q1,q2,q3,q4,q5⟩
  simp only at q1 q2 q3 q4 q5 ⊢
  by_cases hq : q.w < q.o.length
  ·have hqa:=q2 hq
   obtain ⟨b1,b2⟩:=ask_in q1 hq hqa (hI2 q q4)
   have hi : askI q = q.i:=if_pos hq
   have hj : askJ q = q.j:=if_pos hq
   have hbb:=hbq q
   obtain ⟨t1,t2,t3⟩:=tellP_ok q1 q2 (b q)
   have t4:=hI1 q q4 q1 hq hqa
   have t5:=runAll_step (b:=b) q1 hq q2
   have t6:=tell_nu q1 hq hqa (b q)
   obtain ⟨r,hr⟩ : ∃ r,tellP q (b q) = r:=⟨_,rfl⟩
   rw [hr] at t1 t2 t3 t4 t5 t6
   simp only [hi,hj,hq,decide_true]
   repeat' (first|with_reducible refine q_0 ?_|((with_reducible first|refine q_q omt_ok fun K hK=>?_|refine q_r omt_ok fun K hK=>?_);simp (maxSteps:=2000000) only [go_sem,↓reduceIte,reduceCtorEq,Nat.reduceLeDiff,Nat.reduceLT,Nat.reduceBEq,Nat.reduceAdd,hE,hbb,hr];(repeat1' with_reducible first|apply And.intro|(intro _;try exact q_v)|(refine hK _ ?_;clear hK K))<;>(try (clear hK K;exact q_u)))|(with_reducible refine q_s ?_;(first|apply q_J|apply q_K|apply q_L|apply q_M|apply q_N|apply q_O)<;>try (intro _;try exact q_v)))
   all_goals first | omega | rfl | exact keep_of [] trivial | exact keep_of [2] ⟨rfl,trivial⟩ | exact q1 | exact hqa | exact t1 | (refine t2 ?_; assumption) | skip
   all_goals
    rename_i hro
    have ri : askI r = if r.w < r.o.length then r.i else 0:=rfl
    have rj : askJ r = if r.w < r.o.length then r.j else 0:=rfl
    simp only [hro,if_true,if_false] at ri rj
    refine q_F ⟨r,t1,t2,t3.trans q3,t4,t5.trans q5⟩ ?_ t6
    simp only [ri,rj,hro,decide_true,decide_false]
    exact q_D
  ·have hoff:=runAll_off (b:=b) (p:=q) hq
   rw [hoff] at q5
   subst q5
   have hg:=bad_good (range_good (hI2 q q4))
   simp only [hq,decide_false]
   repeat' (first|with_reducible refine q_0 ?_|((with_reducible first|refine q_q omt_ok fun K hK=>?_|refine q_r omt_ok fun K hK=>?_);simp (maxSteps:=2000000) only [go_sem,↓reduceIte,reduceCtorEq,Nat.reduceLeDiff,Nat.reduceLT,Nat.reduceBEq,Nat.reduceAdd,hg];(repeat1' with_reducible first|apply And.intro|(intro _;try exact q_v)|(refine hK _ ?_;clear hK K))<;>(try (clear hK K;exact q_u)))|(with_reducible refine q_s ?_;(first|apply q_J|apply q_K|apply q_L|apply q_M|apply q_N|apply q_O)<;>try (intro _;try exact q_v)))
   all_goals first | omega | rfl | exact keep_of [] trivial | exact keep_of [2] ⟨rfl,trivial⟩ | contradiction | exact ends_g [(4,.c (.ints .i64 (permL l q.o))),(5,.bx 1 0)] 4 (by exact q_D) rfl | skip
set_option maxHeartbeats 1600000 in
theorem broken_M (kd : Int) (l : List Int) (hl : l.length ≤ 17592186044416) : RetG Try.prog 26 ⟨[(0,[.c (.i .i64 kd)])],[],[]⟩ [.c (.ints .i64 l),.fn 37 [.bx 0 0]] ⟨[(0,[.c (.i .i64 kd)])],[],[]⟩ [.c (.i .i64 (brkF (lt2 kd) l 1 (l.length - 1)))]:=by
 generalize hz : brkF (lt2 kd) l 1 (l.length - 1) = z
 (refine ret_ge Try.func26 (fun F bs=>?_); simp only [avSl,ancs,hnx,Nat.reduceAdd,Nat.reduceLeDiff,if_true,if_false,List.length_cons,List.length_nil,List.cons_append,List.nil_append,Try.ntmps26,Try.results26])
 repeat' (first|with_reducible refine q_0 ?_|((with_reducible first|refine q_q omt_ok fun K hK=>?_|refine q_r omt_ok fun K hK=>?_);simp (maxSteps:=2000000) only [go_sem,↓reduceIte,reduceCtorEq,Nat.reduceLeDiff,Nat.reduceLT,Nat.reduceBEq,Nat.reduceAdd];(repeat1' with_reducible first|apply And.intro|(intro _;try exact q_v)|(refine hK _ ?_;clear hK K))<;>(try (clear hK K;exact q_u)))|(with_reducible refine q_s ?_;(first|apply q_J|apply q_K|apply q_L|apply q_M|apply q_N|apply q_O)<;>try (intro _;try exact q_v)))
 all_goals first | omega | rfl | exact keep_of [] trivial | exact keep_of [2] ⟨rfl,trivial⟩ | skip
 refine q_G (ι:={ k : Nat // 1 ≤ k ∧ brkF (lt2 kd) l k (l.length - k) = z ∧ k ≤ l.length + 1 }) (fun k=>⟨24,[(0,.c (.ints .i64 l)),(1,.fn 37 [.bx 0 0]),(5,.c (.i .i64 (k.1 : Nat))),(1000,.anc 0 (bs 0))],⟨[(0,[.c (.i .i64 kd)])],[],[]⟩,1⟩) (fun k=>l.length + 1 - k.1) ⟨1,by omega,hz,by omega⟩ ?_ ?_
 ·exact q_D
 rintro ⟨k,k1,k2,k3⟩
 simp only at k1 k2 k3 ⊢
 rcases Nat.lt_or_ge k l.length with hk | hk
 ·have e1 : ((k : Int) - 1).toNat = k - 1:=by omega
  obtain ⟨j,hj⟩ : ∃ j,l.length - k = j + 1:=⟨l.length - k - 1,by omega⟩
  have hj2 : l.length - (k + 1) = j:=by omega
  rw [hj] at k2
  simp only [brkF] at k2
  split at k2
  ·rename_i hlt
   subst k2
   repeat' (first|with_reducible refine q_0 ?_|((with_reducible first|refine q_q omt_ok fun K hK=>?_|refine q_r omt_ok fun K hK=>?_);simp (maxSteps:=2000000) only [go_sem,↓reduceIte,reduceCtorEq,Nat.reduceLeDiff,Nat.reduceLT,Nat.reduceBEq,Nat.reduceAdd,e1,hlt];(repeat1' with_reducible first|apply And.intro|(intro _;try exact q_v)|(refine hK _ ?_;clear hK K))<;>(try (clear hK K;exact q_u)))|(with_reducible refine q_s ?_;(first|apply q_J|apply q_K|apply q_L|apply q_M|apply q_N|apply q_O)<;>try (intro _;try exact q_v)))
   all_goals first | omega | rfl | exact keep_of [] trivial | exact keep_of [2] ⟨rfl,trivial⟩ | contradiction | exact ends_g [(4,.c (.i .i64 (k : Nat)))] 1 (by exact q_D) rfl | skip
  ·rename_i hlt
   have hlt2 : (lt2 kd) (l.getD k 0) (l.getD (k - 1) 0) = false:=by simpa using hlt
   repeat' (first|with_reducible refine q_0 ?_|((with_reducible first|refine q_q omt_ok fun K hK=>?_|refine q_r omt_ok fun K hK=>?_);simp (maxSteps:=2000000) only [go_sem,↓reduceIte,reduceCtorEq,Nat.reduceLeDiff,Nat.reduceLT,Nat.reduceBEq,Nat.reduceAdd,e1,hlt2];(repeat1' with_reducible first|apply And.intro|(intro _;try exact q_v)|(refine hK _ ?_;clear hK K))<;>(try (clear hK K;exact q_u)))|(with_reducible refine q_s ?_;(first|apply q_J|apply q_K|apply q_L|apply q_M|apply q_N|apply q_O)<;>try (intro _;try exact q_v)))
   all_goals first | omega | rfl | exact keep_of [] trivial | exact keep_of [2] ⟨rfl,trivial⟩ | contradiction | skip
   all_goals
    refine q_F ⟨k + 1,by omega,by rw [hj2]; exact k2,by omega⟩ ?_ (by simp only; omega)
    exact q_D
 ·have : l.length - k = 0:=by omega
  rw [this] at k2
  simp only [brkF] at k2
  subst k2
  repeat' (first|with_reducible refine q_0 ?_|((with_reducible first|refine q_q omt_ok fun K hK=>?_|refine q_r omt_ok fun K hK=>?_);simp (maxSteps:=2000000) only [go_sem,↓reduceIte,reduceCtorEq,Nat.reduceLeDiff,Nat.reduceLT,Nat.reduceBEq,Nat.reduceAdd];(repeat1' with_reducible first|apply And.intro|(intro _;try exact q_v)|(refine hK _ ?_;clear hK K))<;>(try (clear hK K;exact q_u)))|(with_reducible refine q_s ?_;(first|apply q_J|apply q_K|apply q_L|apply q_M|apply q_N|apply q_O)<;>try (intro _;try exact q_v)))
  all_goals first | omega | rfl | exact keep_of [] trivial | exact keep_of [2] ⟨rfl,trivial⟩ | contradiction | exact ends_g [(4,.c (.i .i64 (-1)))] 1 (by exact q_D) rfl | skip
set_option maxRecDepth 100000 in
set_option maxHeartbeats 1600000 in
theorem search_M (kd : Int) (l : List Int) (x : Int) (beh : Bool) (hl : l.length ≤ 17592186044416) : RetG Try.prog 25 ⟨[(0,[.c (.i .i64 kd)])],[],[]⟩ [.c (.ints .i64 l),.c (.i .i64 x),.fn 37 [.bx 0 0],.c (.b beh)] ⟨[(0,[.c (.i .i64 kd)])],[],[]⟩ [.c (.i .i64 (srch (lt2 kd) beh l x 0 l.length : Nat))]:=by
 generalize hz : srch (lt2 kd) beh l x 0 l.length = z
 (refine ret_ge Try.func25 (fun F bs=>?_); simp only [avSl,ancs,hnx,Nat.reduceAdd,Nat.reduceLeDiff,if_true,if_false,List.length_cons,List.length_nil,List.cons_append,List.nil_append,Try.ntmps25,Try.results25])
 repeat' (first|with_reducible refine q_0 ?_|((with_reducible first|refine q_q omt_ok fun K hK=>?_|refine q_r omt_ok fun K hK=>?_);simp (maxSteps:=2000000) only [go_sem,↓reduceIte,reduceCtorEq,Nat.reduceLeDiff,Nat.reduceLT,Nat.reduceBEq,Nat.reduceAdd];(repeat1' with_reducible first|apply And.intro|(intro _;try exact q_v)|(refine hK _ ?_;clear hK K))<;>(try (clear hK K;exact q_u)))|(with_reducible refine q_s ?_;(first|apply q_J|apply q_K|apply q_L|apply q_M|apply q_N|apply q_O)<;>try (intro _;try exact q_v)))
 all_goals first | omega | rfl | exact keep_of [] trivial | exact keep_of [2] ⟨rfl,trivial⟩ | skip
 refine q_G (ι:={ q : Nat × Nat // q.1 ≤ q.2 ∧ q.2 ≤ l.length ∧ srch (lt2 kd) beh l x q.1 q.2 = z }) (fun q=>⟨43,[(0,.c (.ints .i64 l)),(1,.c (.i .i64 x)),(2,.fn 37 [.bx 0 0]),(3,.c (.b beh)),(9,.c (.i .i64 (q.1.1 : Nat))),(10,.c (.i .i64 (q.1.2 : Nat))),(1000,.anc 0 (bs 0))],⟨[(0,[.c (.i .i64 kd)])],[],[]⟩,1⟩) (fun q=>q.1.2 - q.1.1) ⟨(0,l.length),by simp,by simp,hz⟩ ?_ ?_
 ·exact q_D
 rintro ⟨⟨lo,hi⟩,q1,q2,q3⟩
 simp only at q1 q2 q3 ⊢
 rcases Nat.lt_or_ge lo hi with hk | hk
 ·have e1 : (((lo : Int) + (hi : Int)).tdiv 2) = (((lo + hi) / 2 : Nat) : Int):=by rw [Int.tdiv_eq_ediv_of_nonneg (by omega)]; omega
  obtain ⟨mid,hm⟩ : ∃ mid,(lo + hi) / 2 = mid:=⟨_,rfl⟩
  have hml : lo ≤ mid ∧ mid < hi:=by omega
  have su:=srch_up (lt:=(lt2 kd)) (beh:=beh) (l:=l) (x:=x) hk
  have sd:=srch_dn (lt:=(lt2 kd)) (beh:=beh) (l:=l) (x:=x) hk
  rw [hm] at e1 su sd
  unfold upF at su sd
  cases beh
  all_goals
   simp only [Bool.false_eq_true,if_false,if_true,Bool.not_eq_true',Bool.not_eq_false',decide_eq_true_eq,decide_eq_false_iff_not] at su sd
   repeat' (first|with_reducible refine q_0 ?_|((with_reducible first|refine q_q omt_ok fun K hK=>?_|refine q_r omt_ok fun K hK=>?_);simp (maxSteps:=2000000) only [go_sem,↓reduceIte,reduceCtorEq,Nat.reduceLeDiff,Nat.reduceLT,Nat.reduceBEq,Nat.reduceAdd,e1];(repeat1' with_reducible first|apply And.intro|(intro _;try exact q_v)|(refine hK _ ?_;clear hK K))<;>(try (clear hK K;exact q_u)))|(with_reducible refine q_s ?_;(first|apply q_J|apply q_K|apply q_L|apply q_M|apply q_N|apply q_O)<;>try (intro _;try exact q_v)))
   all_goals first | omega | rfl | exact keep_of [] trivial | exact keep_of [2] ⟨rfl,trivial⟩ | contradiction | skip
  all_goals first
  | (refine q_F ⟨(mid + 1,hi),by simp only; omega,q2,(su (by assumption)).symm.trans q3⟩ ?_ (by simp only; omega); exact q_D)
  | (refine q_F ⟨(lo,mid),by simp only; omega,by simp only; omega,(sd (by assumption)).symm.trans q3⟩ ?_ (by simp only; omega); exact q_D)
  | skip
 ·have hs:=srch_end (lt:=(lt2 kd)) (beh:=beh) (l:=l) (x:=x) (lo:=lo) (hi:=hi) (by omega)
  rw [hs] at q3
  subst q3
  repeat' (first|with_reducible refine q_0 ?_|((with_reducible first|refine q_q omt_ok fun K hK=>?_|refine q_r omt_ok fun K hK=>?_);simp (maxSteps:=2000000) only [go_sem,↓reduceIte,reduceCtorEq,Nat.reduceLeDiff,Nat.reduceLT,Nat.reduceBEq,Nat.reduceAdd];(repeat1' with_reducible first|apply And.intro|(intro _;try exact q_v)|(refine hK _ ?_;clear hK K))<;>(try (clear hK K;exact q_u)))|(with_reducible refine q_s ?_;(first|apply q_J|apply q_K|apply q_L|apply q_M|apply q_N|apply q_O)<;>try (intro _;try exact q_v)))
  all_goals first | omega | rfl | exact keep_of [] trivial | exact keep_of [2] ⟨rfl,trivial⟩ | contradiction | exact ends_g [(8,.c (.i .i64 (lo : Nat)))] 1 (by exact q_D) rfl | skip
set_option maxRecDepth 100000 in
set_option maxHeartbeats 3200000 in
theorem merge_M (kd : Int) (a b : List Int) (hl : a.length + b.length ≤ 17592186044416) : RetG Try.prog 24 ⟨[(0,[.c (.i .i64 kd)])],[],[]⟩ [.c (.ints .i64 a),.c (.ints .i64 b),.fn 37 [.bx 0 0]] ⟨[(0,[.c (.i .i64 kd)])],[],[]⟩ [.c (.ints .i64 (mrg (lt2 kd) a b))]:=by
 have hzl : (mrg (lt2 kd) a b).length = a.length + b.length:=mrg_len _ _ _
 generalize hz : mrg (lt2 kd) a b = z at *
 (refine ret_ge Try.func24 (fun F bs=>?_); simp only [avSl,ancs,hnx,Nat.reduceAdd,Nat.reduceLeDiff,if_true,if_false,List.length_cons,List.length_nil,List.cons_append,List.nil_append,Try.ntmps24,Try.results24])
 repeat' (first|with_reducible refine q_0 ?_|((with_reducible first|refine q_q omt_ok fun K hK=>?_|refine q_r omt_ok fun K hK=>?_);simp (maxSteps:=2000000) only [go_sem,↓reduceIte,reduceCtorEq,Nat.reduceLeDiff,Nat.reduceLT,Nat.reduceBEq,Nat.reduceAdd];(repeat1' with_reducible first|apply And.intro|(intro _;try exact q_v)|(refine hK _ ?_;clear hK K))<;>(try (clear hK K;exact q_u)))|(with_reducible refine q_s ?_;(first|apply q_J|apply q_K|apply q_L|apply q_M|apply q_N|apply q_O)<;>try (intro _;try exact q_v)))
 all_goals first | omega | rfl | exact keep_of [] trivial | exact keep_of [2] ⟨rfl,trivial⟩ | skip
 refine q_G (ι:={ q : List Int × List Int × List Int // q.1 ++ mrg (lt2 kd) q.2.1 q.2.2 = z ∧ q.1.length + q.2.1.length + q.2.2.length = z.length }) (fun q=>⟨45,[(0,.c (.ints .i64 q.1.2.1)),(1,.c (.ints .i64 q.1.2.2)),(2,.fn 37 [.bx 0 0]),(7,.own 1 0),(1000,.anc 0 (bs 0))],⟨[(0,[.c (.i .i64 kd)])],[(1,⟨0,3,1,.ints .i64 q.1.1⟩)],[]⟩,2⟩) (fun q=>q.1.2.1.length + q.1.2.2.length) ⟨([],a,b),hz,by simp only [List.length_nil]; omega⟩ ?_ ?_
 ·exact q_D
 rintro ⟨⟨o,u,v⟩,q1,q2⟩
 simp only at q1 q2 ⊢
 by_cases hk : 0 < u.length ∧ 0 < v.length
 ·obtain ⟨k1,k2⟩:=hk
  have du:=drop_one_take u
  have dv:=drop_one_take v
  have lu : (u.drop 1).length = u.length - 1:=List.length_drop
  have lv : (v.drop 1).length = v.length - 1:=List.length_drop
  by_cases hc : (lt2 kd) (v.getD 0 0) (u.getD 0 0) = true
  ·have hm:=mrg_r (lt:=(lt2 kd)) k1 k2 hc
   repeat' (first|with_reducible refine q_0 ?_|((with_reducible first|refine q_q omt_ok fun K hK=>?_|refine q_r omt_ok fun K hK=>?_);simp (maxSteps:=2000000) only [go_sem,↓reduceIte,reduceCtorEq,Nat.reduceLeDiff,Nat.reduceLT,Nat.reduceBEq,Nat.reduceAdd,du,dv,hc];(repeat1' with_reducible first|apply And.intro|(intro _;try exact q_v)|(refine hK _ ?_;clear hK K))<;>(try (clear hK K;exact q_u)))|(with_reducible refine q_s ?_;(first|apply q_J|apply q_K|apply q_L|apply q_M|apply q_N|apply q_O)<;>try (intro _;try exact q_v)))
   all_goals first | omega | rfl | exact keep_of [] trivial | exact keep_of [2] ⟨rfl,trivial⟩ | contradiction | skip
   all_goals
    refine q_F ⟨(o ++ [v.getD 0 0],u,v.drop 1),by simp only; rw [List.append_assoc,← q1,hm]; rfl,by simp only [List.length_append,List.length_cons,List.length_nil,lv]; omega⟩ ?_ (by simp only [lv]; omega)
    exact q_D
  ·have hc : (lt2 kd) (v.getD 0 0) (u.getD 0 0) = false:=by simpa using hc
   have hm:=mrg_l (lt:=(lt2 kd)) k1 k2 hc
   repeat' (first|with_reducible refine q_0 ?_|((with_reducible first|refine q_q omt_ok fun K hK=>?_|refine q_r omt_ok fun K hK=>?_);simp (maxSteps:=2000000) only [go_sem,↓reduceIte,reduceCtorEq,Nat.reduceLeDiff,Nat.reduceLT,Nat.reduceBEq,Nat.reduceAdd,du,dv,hc];(repeat1' with_reducible first|apply And.intro|(intro _;try exact q_v)|(refine hK _ ?_;clear hK K))<;>(try (clear hK K;exact q_u)))|(with_reducible refine q_s ?_;(first|apply q_J|apply q_K|apply q_L|apply q_M|apply q_N|apply q_O)<;>try (intro _;try exact q_v)))
   all_goals first | omega | rfl | exact keep_of [] trivial | exact keep_of [2] ⟨rfl,trivial⟩ | contradiction | skip
   all_goals
    refine q_F ⟨(o ++ [u.getD 0 0],u.drop 1,v),by simp only; rw [List.append_assoc,← q1,hm]; rfl,by simp only [List.length_append,List.length_cons,List.length_nil,lu]; omega⟩ ?_ (by simp only [lu]; omega)
    exact q_D
 ·have hm:=mrg_e (lt:=(lt2 kd)) hk
  rw [hm,← List.append_assoc] at q1
  subst q1
  repeat' (first|with_reducible refine q_0 ?_|((with_reducible first|refine q_q omt_ok fun K hK=>?_|refine q_r omt_ok fun K hK=>?_);simp (maxSteps:=2000000) only [go_sem,↓reduceIte,reduceCtorEq,Nat.reduceLeDiff,Nat.reduceLT,Nat.reduceBEq,Nat.reduceAdd];(repeat1' with_reducible first|apply And.intro|(intro _;try exact q_v)|(refine hK _ ?_;clear hK K))<;>(try (clear hK K;exact q_u)))|(with_reducible refine q_s ?_;(first|apply q_J|apply q_K|apply q_L|apply q_M|apply q_N|apply q_O)<;>try (intro _;try exact q_v)))
  all_goals first | omega | rfl | exact keep_of [] trivial | exact keep_of [2] ⟨rfl,trivial⟩ | contradiction | exact ends_g [(6,.c (.ints .i64 (o ++ u ++ v)))] 2 (by exact q_D) rfl | skip
end Go.Proofs.Ytmcjojbffidlbaa
