import Derived.Test.YtmcjojbffidlbaaG6
namespace Go.Proofs.Ytmcjojbffidlbaa
set_option linter.unusedSimpArgs false
set_option linter.unusedVariables false
open Go.Abs Go.Proofs.NatL

theorem runP_len {b : Pn → Bool} : ∀ (k : Nat) (p : Pn),p.Ok → (p.on → p.asks) → (runP b k p).o.length = p.o.length
 | 0,p,h,ha=>rfl
 | k + 1,p,h,ha=>by
  simp only [runP]
  split
  ·obtain ⟨g1,g2,g3⟩:=tellP_ok h ha (b p)
   exact (runP_len k _ g1 g2).trans g3
  ·rfl
theorem runAll_len {b : Pn → Bool} {p : Pn} (h : p.Ok) (ha : p.on → p.asks) : (runAll b p).o.length = p.o.length:=runP_len _ _ h ha
set_option maxRecDepth 100000 in
set_option maxHeartbeats 3200000 in
theorem merged_J (l m b : List Int) (hb : mrg lt0 l m = b) (hs : l.length + m.length ≤ 17592186044416) : Ret Try.prog 27 false  [.inl (.ints .i64 b),.inl (.ints .i64 l),.inl (.ints .i64 m),.inl (.a (.func (.func 35) #[] #[]))] (.c (.b true)):=by
 have hlen : b.length = l.length + m.length:=by rw [← hb]; exact mrg_len _ _ _
 have hbl : b.length ≤ 17592186044416:=by omega
 have st : Mt lt0 l m b 0 0 0:=by rw [← hb]; exact mt_start
 (refine q_H Try.func27 (fun F=>?_); simp only [q_z,q_y,Try.ntmps27,Try.results27])
 repeat' (first|with_reducible refine q_0 ?_|((with_reducible first|refine q_q omt_ok fun K hK=>?_|refine q_r omt_ok fun K hK=>?_);simp (maxSteps:=2000000) only [go_sem,↓reduceIte,reduceCtorEq,Nat.reduceLeDiff,Nat.reduceLT,Nat.reduceBEq,Nat.reduceAdd];(repeat1' with_reducible first|apply And.intro|(intro _;try exact q_v)|(refine hK _ ?_;clear hK K))<;>(try (clear hK K;exact q_u)))|(with_reducible refine q_s ?_;(first|apply q_J|apply q_K|apply q_L|apply q_M|apply q_N|apply q_O)<;>try (intro _;try exact q_v)))
 all_goals first | omega | rfl | exact keep_of [] trivial | exact keep_of [2] ⟨rfl,trivial⟩ | skip
 refine q_G (ι:={ q : Nat × Nat × Nat // Mt lt0 l m b q.1 q.2.1 q.2.2 ∧ q.1 ≤ b.length }) (fun q=>⟨89,[(0,.c (.ints .i64 b)),(1,.c (.ints .i64 l)),(2,.c (.ints .i64 m)),(3,.c (.a (.func (.func 35) #[] #[]))),(9,.c (.i .i64 (q.1.2.1 : Nat))),(10,.c (.i .i64 (q.1.2.2 : Nat))),(11,.c (.i .i64 (q.1.1 : Nat)))],⟨[],[],[]⟩,0⟩) (fun q=>b.length + 1 - q.1.1) ⟨(0,0,0),st,by simp⟩ ?_ ?_
 ·exact q_D
 rintro ⟨⟨n,i,k⟩,q1,q2⟩
 simp only at q1 q2 ⊢
 have a1:=q1.i1
 have a2:=q1.k1
 have a3:=q1.n1
 rcases Nat.lt_or_ge n b.length with hk | hk
 ·by_cases hr : ¬ i < l.length ∨ (k < m.length ∧ lt0 (m.getD k 0) (l.getD i 0) = true)
  ·obtain ⟨g1,g2,g3⟩:=mt_right q1 (by omega) hr
   clear st hb
   rcases hr with hr | ⟨_,hr⟩
   ·repeat' (first|with_reducible refine q_0 ?_|((with_reducible first|refine q_q omt_ok fun K hK=>?_|refine q_r omt_ok fun K hK=>?_);simp (maxSteps:=2000000) only [go_sem,↓reduceIte,reduceCtorEq,Nat.reduceLeDiff,Nat.reduceLT,Nat.reduceBEq,Nat.reduceAdd,g2];(repeat1' with_reducible first|apply And.intro|(intro _;try exact q_v)|(refine hK _ ?_;clear hK K))<;>(try (clear hK K;exact q_u)))|(with_reducible refine q_s ?_;(first|apply q_J|apply q_K|apply q_L|apply q_M|apply q_N|apply q_O)<;>try (intro _;try exact q_v)))
    all_goals first | omega | rfl | exact keep_of [] trivial | exact keep_of [2] ⟨rfl,trivial⟩ | contradiction | skip
    all_goals refine q_F ⟨(n + 1,i,k + 1),g3,by simp only; omega⟩ ?_ (by simp only; omega)
    all_goals exact q_D
   ·by_cases hi : i < l.length
    ·repeat' (first|with_reducible refine q_0 ?_|((with_reducible first|refine q_q omt_ok fun K hK=>?_|refine q_r omt_ok fun K hK=>?_);simp (maxSteps:=2000000) only [go_sem,↓reduceIte,reduceCtorEq,Nat.reduceLeDiff,Nat.reduceLT,Nat.reduceBEq,Nat.reduceAdd,hr,g2];(repeat1' with_reducible first|apply And.intro|(intro _;try exact q_v)|(refine hK _ ?_;clear hK K))<;>(try (clear hK K;exact q_u)))|(with_reducible refine q_s ?_;(first|apply q_J|apply q_K|apply q_L|apply q_M|apply q_N|apply q_O)<;>try (intro _;try exact q_v)))
     all_goals first | omega | rfl | exact keep_of [] trivial | exact keep_of [2] ⟨rfl,trivial⟩ | contradiction | skip
     all_goals refine q_F ⟨(n + 1,i,k + 1),g3,by simp only; omega⟩ ?_ (by simp only; omega)
     all_goals exact q_D
    ·repeat' (first|with_reducible refine q_0 ?_|((with_reducible first|refine q_q omt_ok fun K hK=>?_|refine q_r omt_ok fun K hK=>?_);simp (maxSteps:=2000000) only [go_sem,↓reduceIte,reduceCtorEq,Nat.reduceLeDiff,Nat.reduceLT,Nat.reduceBEq,Nat.reduceAdd,hr,g2];(repeat1' with_reducible first|apply And.intro|(intro _;try exact q_v)|(refine hK _ ?_;clear hK K))<;>(try (clear hK K;exact q_u)))|(with_reducible refine q_s ?_;(first|apply q_J|apply q_K|apply q_L|apply q_M|apply q_N|apply q_O)<;>try (intro _;try exact q_v)))
     all_goals first | omega | rfl | exact keep_of [] trivial | exact keep_of [2] ⟨rfl,trivial⟩ | contradiction | skip
     all_goals refine q_F ⟨(n + 1,i,k + 1),g3,by simp only; omega⟩ ?_ (by simp only; omega)
     all_goals exact q_D
  ·have hi : i < l.length:=Classical.byContradiction fun hc=>hr (.inl hc)
   have hr2 : ¬ (k < m.length ∧ lt0 (m.getD k 0) (l.getD i 0) = true):=fun hc=>hr (.inr hc)
   obtain ⟨g2,g3⟩:=mt_left q1 hi hr2
   clear st hb hr
   by_cases hkm : k < m.length
   ·have hlt : lt0 (m.getD k 0) (l.getD i 0) = false:=by
     cases hb : lt0 (m.getD k 0) (l.getD i 0) with
     | false=>rfl
     | true=>exact absurd ⟨hkm,hb⟩ hr2
    clear hr2
    repeat' (first|with_reducible refine q_0 ?_|((with_reducible first|refine q_q omt_ok fun K hK=>?_|refine q_r omt_ok fun K hK=>?_);simp (maxSteps:=2000000) only [go_sem,↓reduceIte,reduceCtorEq,Nat.reduceLeDiff,Nat.reduceLT,Nat.reduceBEq,Nat.reduceAdd,hlt,g2];(repeat1' with_reducible first|apply And.intro|(intro _;try exact q_v)|(refine hK _ ?_;clear hK K))<;>(try (clear hK K;exact q_u)))|(with_reducible refine q_s ?_;(first|apply q_J|apply q_K|apply q_L|apply q_M|apply q_N|apply q_O)<;>try (intro _;try exact q_v)))
    all_goals first | omega | rfl | exact keep_of [] trivial | exact keep_of [2] ⟨rfl,trivial⟩ | contradiction | skip
    all_goals refine q_F ⟨(n + 1,i + 1,k),g3,by simp only; omega⟩ ?_ (by simp only; omega)
    all_goals exact q_D
   ·clear hr2
    repeat' (first|with_reducible refine q_0 ?_|((with_reducible first|refine q_q omt_ok fun K hK=>?_|refine q_r omt_ok fun K hK=>?_);simp (maxSteps:=2000000) only [go_sem,↓reduceIte,reduceCtorEq,Nat.reduceLeDiff,Nat.reduceLT,Nat.reduceBEq,Nat.reduceAdd,g2];(repeat1' with_reducible first|apply And.intro|(intro _;try exact q_v)|(refine hK _ ?_;clear hK K))<;>(try (clear hK K;exact q_u)))|(with_reducible refine q_s ?_;(first|apply q_J|apply q_K|apply q_L|apply q_M|apply q_N|apply q_O)<;>try (intro _;try exact q_v)))
    all_goals first | omega | rfl | exact keep_of [] trivial | exact keep_of [2] ⟨rfl,trivial⟩ | contradiction | skip
    all_goals refine q_F ⟨(n + 1,i + 1,k),g3,by simp only; omega⟩ ?_ (by simp only; omega)
    all_goals exact q_D
 ·have e1 : (i : Int) = (l.length : Int):=by omega
  have e2 : (k : Int) = (m.length : Int):=by omega
  have d1 : decide ((i : Int) = (l.length : Int)) = true:=decide_eq_true e1
  have d2 : decide ((k : Int) = (m.length : Int)) = true:=decide_eq_true e2
  repeat' (first|with_reducible refine q_0 ?_|((with_reducible first|refine q_q omt_ok fun K hK=>?_|refine q_r omt_ok fun K hK=>?_);simp (maxSteps:=2000000) only [go_sem,↓reduceIte,reduceCtorEq,Nat.reduceLeDiff,Nat.reduceLT,Nat.reduceBEq,Nat.reduceAdd,d1,d2];(repeat1' with_reducible first|apply And.intro|(intro _;try exact q_v)|(refine hK _ ?_;clear hK K))<;>(try (clear hK K;exact q_u)))|(with_reducible refine q_s ?_;(first|apply q_J|apply q_K|apply q_L|apply q_M|apply q_N|apply q_O)<;>try (intro _;try exact q_v)))
  all_goals first | omega | rfl | exact keep_of [] trivial | exact keep_of [2] ⟨rfl,trivial⟩ | contradiction | exact q_A rfl | skip
set_option maxRecDepth 100000 in
set_option maxHeartbeats 3200000 in
theorem merged_K (l m b : List Int) (hb : mrg lt1 l m = b) (hs : l.length + m.length ≤ 17592186044416) : Ret Try.prog 27 false  [.inl (.ints .i64 b),.inl (.ints .i64 l),.inl (.ints .i64 m),.inl (.a (.func (.func 36) #[] #[]))] (.c (.b true)):=by
 have hlen : b.length = l.length + m.length:=by rw [← hb]; exact mrg_len _ _ _
 have hbl : b.length ≤ 17592186044416:=by omega
 have st : Mt lt1 l m b 0 0 0:=by rw [← hb]; exact mt_start
 (refine q_H Try.func27 (fun F=>?_); simp only [q_z,q_y,Try.ntmps27,Try.results27])
 repeat' (first|with_reducible refine q_0 ?_|((with_reducible first|refine q_q omt_ok fun K hK=>?_|refine q_r omt_ok fun K hK=>?_);simp (maxSteps:=2000000) only [go_sem,↓reduceIte,reduceCtorEq,Nat.reduceLeDiff,Nat.reduceLT,Nat.reduceBEq,Nat.reduceAdd];(repeat1' with_reducible first|apply And.intro|(intro _;try exact q_v)|(refine hK _ ?_;clear hK K))<;>(try (clear hK K;exact q_u)))|(with_reducible refine q_s ?_;(first|apply q_J|apply q_K|apply q_L|apply q_M|apply q_N|apply q_O)<;>try (intro _;try exact q_v)))
 all_goals first | omega | rfl | exact keep_of [] trivial | exact keep_of [2] ⟨rfl,trivial⟩ | skip
 refine q_G (ι:={ q : Nat × Nat × Nat // Mt lt1 l m b q.1 q.2.1 q.2.2 ∧ q.1 ≤ b.length }) (fun q=>⟨89,[(0,.c (.ints .i64 b)),(1,.c (.ints .i64 l)),(2,.c (.ints .i64 m)),(3,.c (.a (.func (.func 36) #[] #[]))),(9,.c (.i .i64 (q.1.2.1 : Nat))),(10,.c (.i .i64 (q.1.2.2 : Nat))),(11,.c (.i .i64 (q.1.1 : Nat)))],⟨[],[],[]⟩,0⟩) (fun q=>b.length + 1 - q.1.1) ⟨(0,0,0),st,by simp⟩ ?_ ?_
 ·exact q_D
 rintro ⟨⟨n,i,k⟩,q1,q2⟩
 simp only at q1 q2 ⊢
 have a1:=q1.i1
 have a2:=q1.k1
 have a3:=q1.n1
 rcases Nat.lt_or_ge n b.length with hk | hk
 ·by_cases hr : ¬ i < l.length ∨ (k < m.length ∧ lt1 (m.getD k 0) (l.getD i 0) = true)
  ·obtain ⟨g1,g2,g3⟩:=mt_right q1 (by omega) hr
   clear st hb
   rcases hr with hr | ⟨_,hr⟩
   ·repeat' (first|with_reducible refine q_0 ?_|((with_reducible first|refine q_q omt_ok fun K hK=>?_|refine q_r omt_ok fun K hK=>?_);simp (maxSteps:=2000000) only [go_sem,↓reduceIte,reduceCtorEq,Nat.reduceLeDiff,Nat.reduceLT,Nat.reduceBEq,Nat.reduceAdd,g2];(repeat1' with_reducible first|apply And.intro|(intro _;try exact q_v)|(refine hK _ ?_;clear hK K))<;>(try (clear hK K;exact q_u)))|(with_reducible refine q_s ?_;(first|apply q_J|apply q_K|apply q_L|apply q_M|apply q_N|apply q_O)<;>try (intro _;try exact q_v)))
    all_goals first | omega | rfl | exact keep_of [] trivial | exact keep_of [2] ⟨rfl,trivial⟩ | contradiction | skip
    all_goals refine q_F ⟨(n + 1,i,k + 1),g3,by simp only; omega⟩ ?_ (by simp only; omega)
    all_goals exact q_D
   ·by_cases hi : i < l.length
    ·repeat' (first|with_reducible refine q_0 ?_|((with_reducible first|refine q_q omt_ok fun K hK=>?_|refine q_r omt_ok fun K hK=>?_);simp (maxSteps:=2000000) only [go_sem,↓reduceIte,reduceCtorEq,Nat.reduceLeDiff,Nat.reduceLT,Nat.reduceBEq,Nat.reduceAdd,hr,g2];(repeat1' with_reducible first|apply And.intro|(intro _;try exact q_v)|(refine hK _ ?_;clear hK K))<;>(try (clear hK K;exact q_u)))|(with_reducible refine q_s ?_;(first|apply q_J|apply q_K|apply q_L|apply q_M|apply q_N|apply q_O)<;>try (intro _;try exact q_v)))
     all_goals first | omega | rfl | exact keep_of [] trivial | exact keep_of [2] ⟨rfl,trivial⟩ | contradiction | skip
     all_goals refine q_F ⟨(n + 1,i,k + 1),g3,by simp only; omega⟩ ?_ (by simp only; omega)
     all_goals exact q_D
    ·repeat' (first|with_reducible refine q_0 ?_|((with_reducible first|refine q_q omt_ok fun K hK=>?_|refine q_r omt_ok fun K hK=>?_);simp (maxSteps:=2000000) only [go_sem,↓reduceIte,reduceCtorEq,Nat.reduceLeDiff,Nat.reduceLT,Nat.reduceBEq,Nat.reduceAdd,hr,g2];(repeat1' with_reducible first|apply And.intro|(intro _;try exact q_v)|(refine hK _ ?_;clear hK K))<;>(try (clear hK K;exact q_u)))|(with_reducible refine q_s ?_;(first|apply q_J|apply q_K|apply q_L|apply q_M|apply q_N|apply q_O)<;>try (intro _;try exact q_v)))
     all_goals first | omega | rfl | exact keep_of [] trivial | exact keep_of [2] ⟨rfl,trivial⟩ | contradiction | skip
     all_goals refine q_F ⟨(n + 1,i,k + 1),g3,by simp only; omega⟩ ?_ (by simp only; omega)
     all_goals exact q_D
  ·have hi : i < l.length:=Classical.byContradiction fun hc=>hr (.inl hc)
   have hr2 : ¬ (k < m.length ∧ lt1 (m.getD k 0) (l.getD i 0) = true):=fun hc=>hr (.inr hc)
   obtain ⟨g2,g3⟩:=mt_left q1 hi hr2
   clear st hb hr
   by_cases hkm : k < m.length
   ·have hlt : lt1 (m.getD k 0) (l.getD i 0) = false:=by
     cases hb : lt1 (m.getD k 0) (l.getD i 0) with
     | false=>rfl
     | true=>exact absurd ⟨hkm,hb⟩ hr2
    clear hr2
    repeat' (first|with_reducible refine q_0 ?_|((with_reducible first|refine q_q omt_ok fun K hK=>?_|refine q_r omt_ok fun K hK=>?_);simp (maxSteps:=2000000) only [go_sem,↓reduceIte,reduceCtorEq,Nat.reduceLeDiff,Nat.reduceLT,Nat.reduceBEq,Nat.reduceAdd,hlt,g2];(repeat1' with_reducible first|apply And.intro|(intro _;try exact q_v)|(refine hK _ ?_;clear hK K))<;>(try (clear hK K;exact q_u)))|(with_reducible refine q_s ?_;(first|apply q_J|apply q_K|apply q_L|apply q_M|apply q_N|apply q_O)<;>try (intro _;try exact q_v)))
    all_goals first | omega | rfl | exact keep_of [] trivial | exact keep_of [2] ⟨rfl,trivial⟩ | contradiction | skip
    all_goals refine q_F ⟨(n + 1,i + 1,k),g3,by simp only; omega⟩ ?_ (by simp only; omega)
    all_goals exact q_D
   ·clear hr2
    repeat' (first|with_reducible refine q_0 ?_|((with_reducible first|refine q_q omt_ok fun K hK=>?_|refine q_r omt_ok fun K hK=>?_);simp (maxSteps:=2000000) only [go_sem,↓reduceIte,reduceCtorEq,Nat.reduceLeDiff,Nat.reduceLT,Nat.reduceBEq,Nat.reduceAdd,g2];(repeat1' with_reducible first|apply And.intro|(intro _;try exact q_v)|(refine hK _ ?_;clear hK K))<;>(try (clear hK K;exact q_u)))|(with_reducible refine q_s ?_;(first|apply q_J|apply q_K|apply q_L|apply q_M|apply q_N|apply q_O)<;>try (intro _;try exact q_v)))
    all_goals first | omega | rfl | exact keep_of [] trivial | exact keep_of [2] ⟨rfl,trivial⟩ | contradiction | skip
    all_goals refine q_F ⟨(n + 1,i + 1,k),g3,by simp only; omega⟩ ?_ (by simp only; omega)
    all_goals exact q_D
 ·have e1 : (i : Int) = (l.length : Int):=by omega
  have e2 : (k : Int) = (m.length : Int):=by omega
  have d1 : decide ((i : Int) = (l.length : Int)) = true:=decide_eq_true e1
  have d2 : decide ((k : Int) = (m.length : Int)) = true:=decide_eq_true e2
  repeat' (first|with_reducible refine q_0 ?_|((with_reducible first|refine q_q omt_ok fun K hK=>?_|refine q_r omt_ok fun K hK=>?_);simp (maxSteps:=2000000) only [go_sem,↓reduceIte,reduceCtorEq,Nat.reduceLeDiff,Nat.reduceLT,Nat.reduceBEq,Nat.reduceAdd,d1,d2];(repeat1' with_reducible first|apply And.intro|(intro _;try exact q_v)|(refine hK _ ?_;clear hK K))<;>(try (clear hK K;exact q_u)))|(with_reducible refine q_s ?_;(first|apply q_J|apply q_K|apply q_L|apply q_M|apply q_N|apply q_O)<;>try (intro _;try exact q_v)))
  all_goals first | omega | rfl | exact keep_of [] trivial | exact keep_of [2] ⟨rfl,trivial⟩ | contradiction | exact q_A rfl | skip
set_option maxRecDepth 100000 in
set_option maxHeartbeats 3200000 in
theorem merged_M (kd : Int)(l m b : List Int) (hb : mrg (lt2 kd) l m = b) (hs : l.length + m.length ≤ 17592186044416) : RetG Try.prog 27 ⟨[(0,[.c (.i .i64 kd)])],[],[]⟩ [.c (.ints .i64 b),.c (.ints .i64 l),.c (.ints .i64 m),.fn 37 [.bx 0 0]] ⟨[(0,[.c (.i .i64 kd)])],[],[]⟩ [.c (.b true)]:=by
 have hlen : b.length = l.length + m.length:=by rw [← hb]; exact mrg_len _ _ _
 have hbl : b.length ≤ 17592186044416:=by omega
 have st : Mt (lt2 kd) l m b 0 0 0:=by rw [← hb]; exact mt_start
 (refine ret_ge Try.func27 (fun F bs=>?_); simp only [avSl,ancs,hnx,Nat.reduceAdd,Nat.reduceLeDiff,if_true,if_false,List.length_cons,List.length_nil,List.cons_append,List.nil_append,Try.ntmps27,Try.results27])
 repeat' (first|with_reducible refine q_0 ?_|((with_reducible first|refine q_q omt_ok fun K hK=>?_|refine q_r omt_ok fun K hK=>?_);simp (maxSteps:=2000000) only [go_sem,↓reduceIte,reduceCtorEq,Nat.reduceLeDiff,Nat.reduceLT,Nat.reduceBEq,Nat.reduceAdd];(repeat1' with_reducible first|apply And.intro|(intro _;try exact q_v)|(refine hK _ ?_;clear hK K))<;>(try (clear hK K;exact q_u)))|(with_reducible refine q_s ?_;(first|apply q_J|apply q_K|apply q_L|apply q_M|apply q_N|apply q_O)<;>try (intro _;try exact q_v)))
 all_goals first | omega | rfl | exact keep_of [] trivial | exact keep_of [2] ⟨rfl,trivial⟩ | skip
 refine q_G (ι:={ q : Nat × Nat × Nat // Mt (lt2 kd) l m b q.1 q.2.1 q.2.2 ∧ q.1 ≤ b.length }) (fun q=>⟨89,[(0,.c (.ints .i64 b)),(1,.c (.ints .i64 l)),(2,.c (.ints .i64 m)),(3,.fn 37 [.bx 0 0]),(9,.c (.i .i64 (q.1.2.1 : Nat))),(10,.c (.i .i64 (q.1.2.2 : Nat))),(11,.c (.i .i64 (q.1.1 : Nat))),(1000,.anc 0 (bs 0))],⟨[(0,[.c (.i .i64 kd)])],[],[]⟩,1⟩) (fun q=>b.length + 1 - q.1.1) ⟨(0,0,0),st,by simp⟩ ?_ ?_
 ·exact q_D
 rintro ⟨⟨n,i,k⟩,q1,q2⟩
 simp only at q1 q2 ⊢
 have a1:=q1.i1
 have a2:=q1.k1
 have a3:=q1.n1
 rcases Nat.lt_or_ge n b.length with hk | hk
 ·by_cases hr : ¬ i < l.length ∨ (k < m.length ∧ (lt2 kd) (m.getD k 0) (l.getD i 0) = true)
  ·obtain ⟨g1,g2,g3⟩:=mt_right q1 (by omega) hr
   clear st hb
   rcases hr with hr | ⟨_,hr⟩
   ·repeat' (first|with_reducible refine q_0 ?_|((with_reducible first|refine q_q omt_ok fun K hK=>?_|refine q_r omt_ok fun K hK=>?_);simp (maxSteps:=2000000) only [go_sem,↓reduceIte,reduceCtorEq,Nat.reduceLeDiff,Nat.reduceLT,Nat.reduceBEq,Nat.reduceAdd,g2];(repeat1' with_reducible first|apply And.intro|(intro _;try exact q_v)|(refine hK _ ?_;clear hK K))<;>(try (clear hK K;exact q_u)))|(with_reducible refine q_s ?_;(first|apply q_J|apply q_K|apply q_L|apply q_M|apply q_N|apply q_O)<;>try (intro _;try exact q_v)))
    all_goals first | omega | rfl | exact keep_of [] trivial | exact keep_of [2] ⟨rfl,trivial⟩ | contradiction | skip
    all_goals refine q_F ⟨(n + 1,i,k + 1),g3,by simp only; omega⟩ ?_ (by simp only; omega)
    all_goals exact q_D
   ·by_cases hi : i < l.length
    ·repeat' (first|with_reducible refine q_0 ?_|((with_reducible first|refine q_q omt_ok fun K hK=>?_|refine q_r omt_ok fun K hK=>?_);simp (maxSteps:=2000000) only [go_sem,↓reduceIte,reduceCtorEq,Nat.reduceLeDiff,Nat.reduceLT,Nat.reduceBEq,Nat.reduceAdd,hr,g2];(repeat1' with_reducible first|apply And.intro|(intro _;try exact q_v)|(refine hK _ ?_;clear hK K))<;>(try (clear hK K;exact q_u)))|(with_reducible refine q_s ?_;(first|apply q_J|apply q_K|apply q_L|apply q_M|apply q_N|apply q_O)<;>try (intro _;try exact q_v)))
     all_goals first | omega | rfl | exact keep_of [] trivial | exact keep_of [2] ⟨rfl,trivial⟩ | contradiction | skip
     all_goals refine q_F ⟨(n + 1,i,k + 1),g3,by simp only; omega⟩ ?_ (by simp only; omega)
     all_goals exact q_D
    ·repeat' (first|with_reducible refine q_0 ?_|((with_reducible first|refine q_q omt_ok fun K hK=>?_|refine q_r omt_ok fun K hK=>?_);simp (maxSteps:=2000000) only [go_sem,↓reduceIte,reduceCtorEq,Nat.reduceLeDiff,Nat.reduceLT,Nat.reduceBEq,Nat.reduceAdd,hr,g2];(repeat1' with_reducible first|apply And.intro|(intro _;try exact q_v)|(refine hK _ ?_;clear hK K))<;>(try (clear hK K;exact q_u)))|(with_reducible refine q_s ?_;(first|apply q_J|apply q_K|apply q_L|apply q_M|apply q_N|apply q_O)<;>try (intro _;try exact q_v)))
     all_goals first | omega | rfl | exact keep_of [] trivial | exact keep_of [2] ⟨rfl,trivial⟩ | contradiction | skip
     all_goals refine q_F ⟨(n + 1,i,k + 1),g3,by simp only; omega⟩ ?_ (by simp only; omega)
     all_goals exact q_D
  ·have hi : i < l.length:=Classical.byContradiction fun hc=>hr (.inl hc)
   have hr2 : ¬ (k < m.length ∧ (lt2 kd) (m.getD k 0) (l.getD i 0) = true):=fun hc=>hr (.inr hc)
   obtain ⟨g2,g3⟩:=mt_left q1 hi hr2
   clear st hb hr
   by_cases hkm : k < m.length
   ·have hlt : (lt2 kd) (m.getD k 0) (l.getD i 0) = false:=by
     cases hb : (lt2 kd) (m.getD k 0) (l.getD i 0) with
     | false=>rfl
     | true=>exact absurd ⟨hkm,hb⟩ hr2
    clear hr2
    repeat' (first|with_reducible refine q_0 ?_|((with_reducible first|refine q_q omt_ok fun K hK=>?_|refine q_r omt_ok fun K hK=>?_);simp (maxSteps:=2000000) only [go_sem,↓reduceIte,reduceCtorEq,Nat.reduceLeDiff,Nat.reduceLT,Nat.reduceBEq,Nat.reduceAdd,hlt,g2];(repeat1' with_reducible first|apply And.intro|(intro _;try exact q_v)|(refine hK _ ?_;clear hK K))<;>(try (clear hK K;exact q_u)))|(with_reducible refine q_s ?_;(first|apply q_J|apply q_K|apply q_L|apply q_M|apply q_N|apply q_O)<;>try (intro _;try exact q_v)))
    all_goals first | omega | rfl | exact keep_of [] trivial | exact keep_of [2] ⟨rfl,trivial⟩ | contradiction | skip
    all_goals refine q_F ⟨(n + 1,i + 1,k),g3,by simp only; omega⟩ ?_ (by simp only; omega)
    all_goals exact q_D
   ·clear hr2
    repeat' (first|with_reducible refine q_0 ?_|((with_reducible first|refine q_q omt_ok fun K hK=>?_|refine q_r omt_ok fun K hK=>?_);simp (maxSteps:=2000000) only [go_sem,↓reduceIte,reduceCtorEq,Nat.reduceLeDiff,Nat.reduceLT,Nat.reduceBEq,Nat.reduceAdd,g2];(repeat1' with_reducible first|apply And.intro|(intro _;try exact q_v)|(refine hK _ ?_;clear hK K))<;>(try (clear hK K;exact q_u)))|(with_reducible refine q_s ?_;(first|apply q_J|apply q_K|apply q_L|apply q_M|apply q_N|apply q_O)<;>try (intro _;try exact q_v)))
    all_goals first | omega | rfl | exact keep_of [] trivial | exact keep_of [2] ⟨rfl,trivial⟩ | contradiction | skip
    all_goals refine q_F ⟨(n + 1,i + 1,k),g3,by simp only; omega⟩ ?_ (by simp only; omega)
    all_goals exact q_D
 ·have e1 : (i : Int) = (l.length : Int):=by omega
  have e2 : (k : Int) = (m.length : Int):=by omega
  have d1 : decide ((i : Int) = (l.length : Int)) = true:=decide_eq_true e1
  have d2 : decide ((k : Int) = (m.length : Int)) = true:=decide_eq_true e2
  repeat' (first|with_reducible refine q_0 ?_|((with_reducible first|refine q_q omt_ok fun K hK=>?_|refine q_r omt_ok fun K hK=>?_);simp (maxSteps:=2000000) only [go_sem,↓reduceIte,reduceCtorEq,Nat.reduceLeDiff,Nat.reduceLT,Nat.reduceBEq,Nat.reduceAdd,d1,d2];(repeat1' with_reducible first|apply And.intro|(intro _;try exact q_v)|(refine hK _ ?_;clear hK K))<;>(try (clear hK K;exact q_u)))|(with_reducible refine q_s ?_;(first|apply q_J|apply q_K|apply q_L|apply q_M|apply q_N|apply q_O)<;>try (intro _;try exact q_v)))
  all_goals first | omega | rfl | exact keep_of [] trivial | exact keep_of [2] ⟨rfl,trivial⟩ | contradiction | exact ends_g [(8,.c (.b true))] 1 (by exact q_D) rfl | skip
end Go.Proofs.Ytmcjojbffidlbaa

namespace Go.Abs
set_option linter.unusedSimpArgs false
set_option linter.unusedVariables false
open Go.RowKit
variable {P : Program}
theorem seq_cut12 {F : Fr} {Q : Exit → St → Prop} {st : St} {a0 a1 a2 a3 a4 a5 a6 a7 a8 a9 a10 a11 Y : Code} {ι : Type} (mid : ι → St) (h1 : ∀ Y',(∀ i,AWp P F Y' Q (mid i)) → AWp P F (.seq a0 (.seq a1 (.seq a2 (.seq a3 (.seq a4 (.seq a5 (.seq a6 (.seq a7 (.seq a8 (.seq a9 (.seq a10 (.seq a11 Y')))))))))))) Q st) (h2 : ∀ i,AWp P F Y Q (mid i)) : AWp P F (.seq a0 (.seq a1 (.seq a2 (.seq a3 (.seq a4 (.seq a5 (.seq a6 (.seq a7 (.seq a8 (.seq a9 (.seq a10 (.seq a11 Y)))))))))))) Q st:=h1 Y h2
theorem cut_fit {F : Fr} {Q : Exit → St → Prop} {st : St} {Y : Code} {ι : Type} {mid : ι → St} (hY : ∀ i,AWp P F Y Q (mid i)) (i : ι) (h : FitP st (mid i)) : AWp P F Y Q st:=awp_told (mid i) h (hY i)
end Go.Abs

namespace Go.Proofs.Ytmcjojbffidlbaa
set_option linter.unusedSimpArgs false
set_option linter.unusedVariables false
open Go.Abs Go.Proofs.NatL

def sortCTJ : CT:=mkCT [.inl (some (.ints .i64 []))] false fun l K=>match l with
 | [.inl (.ints .i64 l),.inl (.a v)]=>(v = .func (.func 35) #[] #[] ∧ l.length ≤ 17592186044416) ∧ ∀ (a : List Int) (c w : Int),(1000 < l.length → a = [] ∧ c = 4 ∧ w = -1) → (l.length ≤ 1000 → a = permL l (runAll (byL lt0 l) (settle (startP l.length))).o ∧ c = 0 ∧ w = 0) → a.length ≤ 1000 → K (.t [.inl (.ints .i64 a),.inr [.i .i64 c,.i .i64 w]])
 | _=>False
def osJ1 : Cfg:=addT 21 sortCTJ cf0
theorem osJ1_ok : TblOk Try.prog osJ1:=q_I cf0_ok Try.func21 fun l K h=>by
 split at h
 ·rename_i l v
  obtain ⟨⟨rfl,hl⟩,h⟩:=h
  rcases Nat.lt_or_ge 1000 l.length with hc | hc
  ·exact ⟨_,sort_long_J l hc hl,h _ _ _ (fun _=>⟨rfl,rfl,rfl⟩) (fun h'=>by omega) (by simp)⟩
  ·obtain ⟨s1,s2,s3⟩:=settle_facts (startP_ok hc)
   have s4 : (startP l.length).o.length = l.length:=by simp [startP]
   have hle : (permL l (runAll (byL lt0 l) (settle (startP l.length))).o).length ≤ 1000:=by rw [permL_len,runAll_len s1 s2,s3,s4]; exact hc
   exact ⟨_,sort_J PI l hc (startP_pi hc) (fun q hq _ ho ha=>hq.tell ho ha _) (fun q hq=>hq.pr),h _ _ _ (fun h'=>by omega) (fun _=>⟨rfl,rfl,rfl⟩) hle⟩
 ·exact h.elim
def searchCTJ : CT:=mkCT [.inl (some (.ints .i64 []))] true fun l K=>match l with
 | [.inl (.ints .i64 l),.inl (.i .i64 x),.inl (.a v),.inl (.b beh)]=>(v = .func (.func 35) #[] #[] ∧ l.length ≤ 17592186044416) ∧ K (.c (.i .i64 (srch lt0 beh l x 0 l.length : Nat)))
 | _=>False
def osJ2 : Cfg:=addT 25 searchCTJ cf0
theorem osJ2_ok : TblOk Try.prog osJ2:=q_I cf0_ok Try.func25 fun l K h=>by
 split at h
 ·rename_i l x v beh
  obtain ⟨⟨rfl,hl⟩,h⟩:=h
  exact ⟨_,(search_J l x beh hl).plain rfl,h⟩
 ·exact h.elim
def mergeCTJ : CT:=mkCT [.inl (some (.ints .i64 [])),.inl (some (.ints .i64 []))] false fun l K=>match l with
 | [.inl (.ints .i64 a),.inl (.ints .i64 b),.inl (.a v)]=>(v = .func (.func 35) #[] #[] ∧ a.length + b.length ≤ 17592186044416) ∧ K (.c (.ints .i64 (mrg lt0 a b)))
 | _=>False
def osJ3 : Cfg:=addT 24 mergeCTJ cf0
theorem osJ3_ok : TblOk Try.prog osJ3:=q_I cf0_ok Try.func24 fun l K h=>by
 split at h
 ·rename_i a b v
  obtain ⟨⟨rfl,hl⟩,h⟩:=h
  exact ⟨_,merge_J a b hl,h⟩
 ·exact h.elim
def brokenCTJ : CT:=mkCT [.inl (some (.ints .i64 []))] true fun l K=>match l with
 | [.inl (.ints .i64 l),.inl (.a v)]=>(v = .func (.func 35) #[] #[] ∧ l.length ≤ 17592186044416) ∧ K (.c (.i .i64 (brkF lt0 l 1 (l.length - 1))))
 | _=>False
def osJ4 : Cfg:=addT 26 brokenCTJ cf0
theorem osJ4_ok : TblOk Try.prog osJ4:=q_I cf0_ok Try.func26 fun l K h=>by
 split at h
 ·rename_i l v
  obtain ⟨⟨rfl,hl⟩,h⟩:=h
  exact ⟨_,(broken_J l hl).plain rfl,h⟩
 ·exact h.elim
def mergedOkCTJ : CT:=mkCT [.inl (some (.ints .i64 [])),.inl (some (.ints .i64 [])),.inl (some (.ints .i64 []))] false fun l K=>match l with
 | [.inl (.ints .i64 b),.inl (.ints .i64 l),.inl (.ints .i64 m),.inl (.a v)]=>(v = .func (.func 35) #[] #[] ∧ l.length + m.length ≤ 17592186044416 ∧ mrg lt0 l m = b) ∧ K (.c (.b true))
 | _=>False
def osJ5 : Cfg:=addT 27 mergedOkCTJ cf0
theorem osJ5_ok : TblOk Try.prog osJ5:=q_I cf0_ok Try.func27 fun l K h=>by
 split at h
 ·rename_i b l m v
  obtain ⟨⟨rfl,hl,hb⟩,h⟩:=h
  exact ⟨_,merged_J l m b hb hl,h⟩
 ·exact h.elim
def sortCTK : CT:=mkCT [.inl (some (.ints .i64 []))] false fun l K=>match l with
 | [.inl (.ints .i64 l),.inl (.a v)]=>(v = .func (.func 36) #[] #[] ∧ l.length ≤ 17592186044416) ∧ ∀ (a : List Int) (c w : Int),(1000 < l.length → a = [] ∧ c = 4 ∧ w = -1) → (l.length ≤ 1000 → a = permL l (runAll (byL lt1 l) (settle (startP l.length))).o ∧ c = 0 ∧ w = 0) → a.length ≤ 1000 → K (.t [.inl (.ints .i64 a),.inr [.i .i64 c,.i .i64 w]])
 | _=>False
def osK1 : Cfg:=addT 21 sortCTK cf0
theorem osK1_ok : TblOk Try.prog osK1:=q_I cf0_ok Try.func21 fun l K h=>by
 split at h
 ·rename_i l v
  obtain ⟨⟨rfl,hl⟩,h⟩:=h
  rcases Nat.lt_or_ge 1000 l.length with hc | hc
  ·exact ⟨_,sort_long_K l hc hl,h _ _ _ (fun _=>⟨rfl,rfl,rfl⟩) (fun h'=>by omega) (by simp)⟩
  ·obtain ⟨s1,s2,s3⟩:=settle_facts (startP_ok hc)
   have s4 : (startP l.length).o.length = l.length:=by simp [startP]
   have hle : (permL l (runAll (byL lt1 l) (settle (startP l.length))).o).length ≤ 1000:=by rw [permL_len,runAll_len s1 s2,s3,s4]; exact hc
   exact ⟨_,sort_K PI l hc (startP_pi hc) (fun q hq _ ho ha=>hq.tell ho ha _) (fun q hq=>hq.pr),h _ _ _ (fun h'=>by omega) (fun _=>⟨rfl,rfl,rfl⟩) hle⟩
 ·exact h.elim
def searchCTK : CT:=mkCT [.inl (some (.ints .i64 []))] true fun l K=>match l with
 | [.inl (.ints .i64 l),.inl (.i .i64 x),.inl (.a v),.inl (.b beh)]=>(v = .func (.func 36) #[] #[] ∧ l.length ≤ 17592186044416) ∧ K (.c (.i .i64 (srch lt1 beh l x 0 l.length : Nat)))
 | _=>False
def osK2 : Cfg:=addT 25 searchCTK cf0
theorem osK2_ok : TblOk Try.prog osK2:=q_I cf0_ok Try.func25 fun l K h=>by
 split at h
 ·rename_i l x v beh
  obtain ⟨⟨rfl,hl⟩,h⟩:=h
  exact ⟨_,(search_K l x beh hl).plain rfl,h⟩
 ·exact h.elim
def mergeCTK : CT:=mkCT [.inl (some (.ints .i64 [])),.inl (some (.ints .i64 []))] false fun l K=>match l with
 | [.inl (.ints .i64 a),.inl (.ints .i64 b),.inl (.a v)]=>(v = .func (.func 36) #[] #[] ∧ a.length + b.length ≤ 17592186044416) ∧ K (.c (.ints .i64 (mrg lt1 a b)))
 | _=>False
def osK3 : Cfg:=addT 24 mergeCTK cf0
theorem osK3_ok : TblOk Try.prog osK3:=q_I cf0_ok Try.func24 fun l K h=>by
 split at h
 ·rename_i a b v
  obtain ⟨⟨rfl,hl⟩,h⟩:=h
  exact ⟨_,merge_K a b hl,h⟩
 ·exact h.elim
def brokenCTK : CT:=mkCT [.inl (some (.ints .i64 []))] true fun l K=>match l with
 | [.inl (.ints .i64 l),.inl (.a v)]=>(v = .func (.func 36) #[] #[] ∧ l.length ≤ 17592186044416) ∧ K (.c (.i .i64 (brkF lt1 l 1 (l.length - 1))))
 | _=>False
def osK4 : Cfg:=addT 26 brokenCTK cf0
theorem osK4_ok : TblOk Try.prog osK4:=q_I cf0_ok Try.func26 fun l K h=>by
 split at h
 ·rename_i l v
  obtain ⟨⟨rfl,hl⟩,h⟩:=h
  exact ⟨_,(broken_K l hl).plain rfl,h⟩
 ·exact h.elim
def mergedOkCTK : CT:=mkCT [.inl (some (.ints .i64 [])),.inl (some (.ints .i64 [])),.inl (some (.ints .i64 []))] false fun l K=>match l with
 | [.inl (.ints .i64 b),.inl (.ints .i64 l),.inl (.ints .i64 m),.inl (.a v)]=>(v = .func (.func 36) #[] #[] ∧ l.length + m.length ≤ 17592186044416 ∧ mrg lt1 l m = b) ∧ K (.c (.b true))
 | _=>False
def osK5 : Cfg:=addT 27 mergedOkCTK cf0
theorem osK5_ok : TblOk Try.prog osK5:=q_I cf0_ok Try.func27 fun l K h=>by
 split at h
 ·rename_i b l m v
  obtain ⟨⟨rfl,hl,hb⟩,h⟩:=h
  exact ⟨_,merged_K l m b hb hl,h⟩
 ·exact h.elim
def lesserCT : CT:=mkCT [] true fun l K=>match l with
 | [.inl (.i .i64 k)]=>(k = 0 ∨ k = 1) ∧ (k = 0 → K (.c (.a (.func (.func 35) #[] #[])))) ∧ (k = 1 → K (.c (.a (.func (.func 36) #[] #[]))))
 | _=>False
theorem lesser0_ret : Ret Try.prog 23 false [.inl (.i .i64 0)] (.c (.a (.func (.func 35) #[] #[]))):=by
 (refine q_H Try.func23 (fun F=>?_); simp only [q_z,q_y,Try.ntmps23,Try.results23])
 repeat' (first|with_reducible refine q_0 ?_|((with_reducible first|refine q_q ogb_ok fun K hK=>?_|refine q_r ogb_ok fun K hK=>?_);simp (maxSteps:=2000000) only [go_sem,↓reduceIte,reduceCtorEq,Nat.reduceLeDiff,Nat.reduceLT,Nat.reduceBEq,Nat.reduceAdd];(repeat1' with_reducible first|apply And.intro|(intro _;try exact q_v)|(refine hK _ ?_;clear hK K))<;>(try (clear hK K;exact q_u)))|(with_reducible refine q_s ?_;(first|apply q_J|apply q_K|apply q_L|apply q_M|apply q_N|apply q_O)<;>try (intro _;try exact q_v)))
 all_goals first | omega | exact q_A rfl | skip
theorem lesser1_ret : Ret Try.prog 23 false [.inl (.i .i64 1)] (.c (.a (.func (.func 36) #[] #[]))):=by
 (refine q_H Try.func23 (fun F=>?_); simp only [q_z,q_y,Try.ntmps23,Try.results23])
 repeat' (first|with_reducible refine q_0 ?_|((with_reducible first|refine q_q ogb_ok fun K hK=>?_|refine q_r ogb_ok fun K hK=>?_);simp (maxSteps:=2000000) only [go_sem,↓reduceIte,reduceCtorEq,Nat.reduceLeDiff,Nat.reduceLT,Nat.reduceBEq,Nat.reduceAdd];(repeat1' with_reducible first|apply And.intro|(intro _;try exact q_v)|(refine hK _ ?_;clear hK K))<;>(try (clear hK K;exact q_u)))|(with_reducible refine q_s ?_;(first|apply q_J|apply q_K|apply q_L|apply q_M|apply q_N|apply q_O)<;>try (intro _;try exact q_v)))
 all_goals first | omega | exact q_A rfl | skip
end Go.Proofs.Ytmcjojbffidlbaa

namespace Go.Proofs.Ytmcjojbffidlbaa
set_option linter.unusedSimpArgs false
set_option linter.unusedVariables false
open Go.Abs Go.Proofs.NatL

def ot1 : Cfg:=addT 23 lesserCT cf0
theorem ot1_ok : TblOk Try.prog ot1:=q_I cf0_ok Try.func23 fun l K h=>by
 split at h
 ·obtain ⟨hk,h0,h1⟩:=h
  rcases hk with rfl | rfl
  ·exact ⟨_,lesser0_ret.plain rfl,h0 rfl⟩
  ·exact ⟨_,lesser1_ret.plain rfl,h1 rfl⟩
 ·exact h.elim
attribute [go_sem] lesserCT sortCTJ searchCTJ mergeCTJ brokenCTJ mergedOkCTJ sortCTK searchCTK mergeCTK brokenCTK mergedOkCTK
def otJ : Cfg:=listT [(23,lesserCT),(21,sortCTJ),(25,searchCTJ),(24,mergeCTJ),(26,brokenCTJ),(27,mergedOkCTJ),(9,sortsCT),(35,(ltCT lt0)),(11,atCT),(12,mergedCT),(13,openCT),(28,pairCT),(14,answerCT),(17,numbersCT)] [27]
theorem otJ_ok : TblOk Try.prog otJ:=listE_ok (by simp only [List.mem_singleton,forall_eq]; exact flt) ⟨⟨ot1,ot1_ok,rfl⟩,⟨osJ1,osJ1_ok,rfl⟩,⟨osJ2,osJ2_ok,rfl⟩,⟨osJ3,osJ3_ok,rfl⟩,⟨osJ4,osJ4_ok,rfl⟩,⟨osJ5,osJ5_ok,rfl⟩,⟨oc6,oc6_ok,rfl⟩,⟨om1,om1_ok,rfl⟩,⟨oa2,oa2_ok,rfl⟩,⟨oq6,oq6_ok,rfl⟩,⟨oq2,oq2_ok,rfl⟩,⟨oq3,oq3_ok,rfl⟩,⟨oq5,oq5_ok,rfl⟩,⟨og2,og2_ok,rfl⟩,trivial⟩
attribute [go_sem] otJ
def otK : Cfg:=listT [(23,lesserCT),(21,sortCTK),(25,searchCTK),(24,mergeCTK),(26,brokenCTK),(27,mergedOkCTK),(9,sortsCT),(36,(ltCT lt1)),(11,atCT),(12,mergedCT),(13,openCT),(28,pairCT),(14,answerCT),(17,numbersCT)] [27]
theorem otK_ok : TblOk Try.prog otK:=listE_ok (by simp only [List.mem_singleton,forall_eq]; exact flt) ⟨⟨ot1,ot1_ok,rfl⟩,⟨osK1,osK1_ok,rfl⟩,⟨osK2,osK2_ok,rfl⟩,⟨osK3,osK3_ok,rfl⟩,⟨osK4,osK4_ok,rfl⟩,⟨osK5,osK5_ok,rfl⟩,⟨oc6,oc6_ok,rfl⟩,⟨om2,om2_ok,rfl⟩,⟨oa2,oa2_ok,rfl⟩,⟨oq6,oq6_ok,rfl⟩,⟨oq2,oq2_ok,rfl⟩,⟨oq3,oq3_ok,rfl⟩,⟨oq5,oq5_ok,rfl⟩,⟨og2,og2_ok,rfl⟩,trivial⟩
attribute [go_sem] otK
set_option maxRecDepth 100000 in
set_option maxHeartbeats 6400000 in
theorem law_J (l m : List Int) (x : Int) (beh : Bool) (hl : l.length + m.length ≤ 17592186044416) : Ret Try.prog 6 false [.inl (.ints .i64 l), .inl (.ints .i64 m), .inl (.i .i64 x), .inl (.i .i64 0), .inl (.b beh)] (.c (.b true)) := by
  obtain ⟨mz, hmz⟩ : ∃ z, mrg lt0 l m = z := ⟨_, rfl⟩
  obtain ⟨sk, hsk⟩ : ∃ z, srch lt0 beh l x 0 l.length = z := ⟨_, rfl⟩
  obtain ⟨bk, hbk⟩ : ∃ z, brkF lt0 l 1 (l.length - 1) = z := ⟨_, rfl⟩
  have hzl : mz.length = l.length + m.length := by rw [← hmz]; exact mrg_len _ _ _
  (refine q_H Try.func6 (fun F => ?_); simp only [q_z,q_y,Try.ntmps6,Try.results6])
  refine seq_cut12 (ι := { q : List Int × Int × Int // ((1000 < l.length → q.1 = [] ∧ q.2.1 = 4 ∧ q.2.2 = -1) ∧ (l.length ≤ 1000 → q.1 = permL l (runAll (byL lt0 l) (settle (startP l.length))).o ∧ q.2.1 = 0 ∧ q.2.2 = 0)) ∧ q.1.length ≤ 1000 }) (fun q => ⟨181, [(0, .c (.ints .i64 l)), (11, .c (.a (.func (.func 35) #[] #[]))), (12, .c (.ints .i64 q.1.1)), (13, .bx 0 0)],
    ⟨[(0, [.c (.i .i64 q.1.2.1), .c (.i .i64 q.1.2.2)])], [], []⟩, 1⟩) (fun Y hY => ?_) ?_
  · repeat' (first|with_reducible refine q_0 ?_|((with_reducible first|refine q_q otJ_ok fun K hK=>?_|refine q_r otJ_ok fun K hK=>?_);simp (maxSteps:=2000000) only [go_sem,↓reduceIte,reduceCtorEq,Nat.reduceLeDiff,Nat.reduceLT,Nat.reduceBEq,Nat.reduceAdd,hmz, hsk, hbk];(repeat1' with_reducible first|apply And.intro|(intro _;try exact q_v)|(refine hK _ ?_;clear hK K))<;>(try (clear hK K;exact q_u)))|(with_reducible refine q_s ?_;(first|apply q_J|apply q_K|apply q_L|apply q_M|apply q_N|apply q_O)<;>try (intro _;try exact q_v)))
    all_goals first | omega | skip
    rename_i a c w ha1 ha2 ha3
    refine q_G (ι := { q : Nat × Nat // q.1 ≤ q.2 ∧ q.2 ≤ l.length ∧ srch lt0 beh l x q.1 q.2 = sk }) (fun q => ⟨181, [(0, .c (.ints .i64 l)), (1, .c (.ints .i64 m)), (2, .c (.i .i64 x)), (4, .c (.b beh)), (11, .c (.a (.func (.func 35) #[] #[]))), (12, .c (.ints .i64 a)), (13, .bx 0 0), (14, .c (.ints .i64 mz)), (15, .c (.i .i64 (sk : Nat))), (16, .c (.i .i64 bk)), (17, .c (.i .i64 (q.1.1 : Nat))), (18, .c (.i .i64 (q.1.2 : Nat)))], ⟨[(0, [.c (.i .i64 c), .c (.i .i64 w)])], [], []⟩, 1⟩) (fun q => q.1.2 - q.1.1) ⟨(0, l.length), by simp, by simp, hsk⟩ ?_ ?_
    · exact q_D
    rintro ⟨⟨lo, hi⟩, q1, q2, q3⟩
    simp only at q1 q2 q3 ⊢
    rcases Nat.lt_or_ge lo hi with hk | hk
    · have e1 : (((lo : Int) + (hi : Int)).tdiv 2) = (((lo + hi) / 2 : Nat) : Int) := by rw [Int.tdiv_eq_ediv_of_nonneg (by omega)]; omega
      obtain ⟨mid, hm⟩ : ∃ mid, (lo + hi) / 2 = mid := ⟨_, rfl⟩
      have hml : lo ≤ mid ∧ mid < hi := by omega
      have su := srch_up (lt := lt0) (beh := beh) (l := l) (x := x) hk
      have sd := srch_dn (lt := lt0) (beh := beh) (l := l) (x := x) hk
      rw [hm] at e1 su sd
      unfold upF at su sd
      clear hmz hbk hsk
      cases beh
      all_goals
        simp only [Bool.false_eq_true, if_false, if_true, Bool.not_eq_true', Bool.not_eq_false', decide_eq_true_eq, decide_eq_false_iff_not] at su sd
        repeat' (first|with_reducible refine q_0 ?_|((with_reducible first|refine q_q otJ_ok fun K hK=>?_|refine q_r otJ_ok fun K hK=>?_);simp (maxSteps:=2000000) only [go_sem,↓reduceIte,reduceCtorEq,Nat.reduceLeDiff,Nat.reduceLT,Nat.reduceBEq,Nat.reduceAdd,e1];(repeat1' with_reducible first|apply And.intro|(intro _;try exact q_v)|(refine hK _ ?_;clear hK K))<;>(try (clear hK K;exact q_u)))|(with_reducible refine q_s ?_;(first|apply q_J|apply q_K|apply q_L|apply q_M|apply q_N|apply q_O)<;>try (intro _;try exact q_v)))
        all_goals first | omega | contradiction | skip
      all_goals first
      | (refine q_F ⟨(mid + 1, hi), by simp only; omega, q2, (su (by assumption)).symm.trans q3⟩ ?_ (by simp only; omega); exact q_D)
      | (refine q_F ⟨(lo, mid), by simp only; omega, by simp only; omega, (sd (by assumption)).symm.trans q3⟩ ?_ (by simp only; omega); exact q_D)
      | skip
    · have hs := srch_end (lt := lt0) (beh := beh) (l := l) (x := x) (lo := lo) (hi := hi) (by omega)
      rw [hs] at q3
      have q3 : (lo : Int) = (sk : Int) := by omega
      repeat' (first|with_reducible refine q_0 ?_|((with_reducible first|refine q_q otJ_ok fun K hK=>?_|refine q_r otJ_ok fun K hK=>?_);simp (maxSteps:=2000000) only [go_sem,↓reduceIte,reduceCtorEq,Nat.reduceLeDiff,Nat.reduceLT,Nat.reduceBEq,Nat.reduceAdd];(repeat1' with_reducible first|apply And.intro|(intro _;try exact q_v)|(refine hK _ ?_;clear hK K))<;>(try (clear hK K;exact q_u)))|(with_reducible refine q_s ?_;(first|apply q_J|apply q_K|apply q_L|apply q_M|apply q_N|apply q_O)<;>try (intro _;try exact q_v)))
      all_goals first | omega | contradiction | skip
      refine q_G (ι := { k : Nat // k ≤ l.length ∧ (k = 0 → l.length = 0) }) (fun k => ⟨181, [(0, .c (.ints .i64 l)), (1, .c (.ints .i64 m)), (11, .c (.a (.func (.func 35) #[] #[]))), (12, .c (.ints .i64 a)), (13, .bx 0 0), (14, .c (.ints .i64 mz)), (15, .c (.i .i64 (sk : Nat))), (16, .c (.i .i64 bk)), (17, .c (.i .i64 (lo : Nat))), (20, .c (.i .i64 (brkF lt0 l k.1 (l.length - k.1)))), (21, .c (.i .i64 ((k.1 : Int) - 1)))], ⟨[(0, [.c (.i .i64 c), .c (.i .i64 w)])], [], []⟩, 1⟩) (fun k => k.1) ⟨l.length, Nat.le_refl _, fun h => h⟩ ?_ ?_
      · have e0 : brkF lt0 l l.length (l.length - l.length) = -1 := by rw [Nat.sub_self]; rfl
        simp only [e0]
        exact q_D
      rintro ⟨k, k1, k2⟩
      simp only at k1 k2 ⊢
      rcases Nat.lt_or_ge 1 k with hk1 | hk1
      · have bs := brk_step (lt := lt0) (l := l) (i := k - 1) (by omega)
        have e1 : ((k : Int) - 1).toNat = k - 1 := by omega
        have e2 : ((k : Int) - 1 - 1).toNat = k - 1 - 1 := by omega
        have e3 : k - 1 + 1 = k := by omega
        have e4 : ((k - 1 : Nat) : Int) = (k : Int) - 1 := by omega
        rw [e3, e4] at bs
        clear hmz hbk hsk
        generalize brkF lt0 l k (l.length - k) = at_ at *
        cases hc : lt0 (l.getD (k - 1) 0) (l.getD (k - 1 - 1) 0)
        · rw [if_neg (by rw [hc]; simp)] at bs
          repeat' (first|with_reducible refine q_0 ?_|((with_reducible first|refine q_q otJ_ok fun K hK=>?_|refine q_r otJ_ok fun K hK=>?_);simp (maxSteps:=2000000) only [go_sem,↓reduceIte,reduceCtorEq,Nat.reduceLeDiff,Nat.reduceLT,Nat.reduceBEq,Nat.reduceAdd,e1, e2, hc];(repeat1' with_reducible first|apply And.intro|(intro _;try exact q_v)|(refine hK _ ?_;clear hK K))<;>(try (clear hK K;exact q_u)))|(with_reducible refine q_s ?_;(first|apply q_J|apply q_K|apply q_L|apply q_M|apply q_N|apply q_O)<;>try (intro _;try exact q_v)))
          all_goals first | omega | contradiction | skip
          all_goals refine q_F ⟨k - 1, by omega, by omega⟩ ?_ (by simp only; omega)
          all_goals simp only [bs, e4]
          all_goals exact q_D
        · rw [if_pos hc] at bs
          repeat' (first|with_reducible refine q_0 ?_|((with_reducible first|refine q_q otJ_ok fun K hK=>?_|refine q_r otJ_ok fun K hK=>?_);simp (maxSteps:=2000000) only [go_sem,↓reduceIte,reduceCtorEq,Nat.reduceLeDiff,Nat.reduceLT,Nat.reduceBEq,Nat.reduceAdd,e1, e2, hc];(repeat1' with_reducible first|apply And.intro|(intro _;try exact q_v)|(refine hK _ ?_;clear hK K))<;>(try (clear hK K;exact q_u)))|(with_reducible refine q_s ?_;(first|apply q_J|apply q_K|apply q_L|apply q_M|apply q_N|apply q_O)<;>try (intro _;try exact q_v)))
          all_goals first | omega | contradiction | skip
          all_goals refine q_F ⟨k - 1, by omega, by omega⟩ ?_ (by simp only; omega)
          all_goals simp only [bs, e4]
          all_goals exact q_D
      · have e5 : brkF lt0 l k (l.length - k) = bk := by
          rw [← hbk]
          rcases Nat.eq_zero_or_pos k with h0 | h0
          · have := k2 h0; rw [this, h0]; rfl
          · have : k = 1 := by omega
            rw [this]
        rw [e5]
        clear hbk hsk
        repeat' (first|with_reducible refine q_0 ?_|((with_reducible first|refine q_q otJ_ok fun K hK=>?_|refine q_r otJ_ok fun K hK=>?_);simp (maxSteps:=2000000) only [go_sem,↓reduceIte,reduceCtorEq,Nat.reduceLeDiff,Nat.reduceLT,Nat.reduceBEq,Nat.reduceAdd,hmz];(repeat1' with_reducible first|apply And.intro|(intro _;try exact q_v)|(refine hK _ ?_;clear hK K))<;>(try (clear hK K;exact q_u)))|(with_reducible refine q_s ?_;(first|apply q_J|apply q_K|apply q_L|apply q_M|apply q_N|apply q_O)<;>try (intro _;try exact q_v)))
        all_goals first | omega | contradiction | exact hmz | skip
        all_goals refine cut_fit hY ⟨(a, c, w), ⟨ha1, ha2⟩, ha3⟩ ?_
        all_goals exact q_D
  · rintro ⟨⟨a, c, w⟩, ⟨ha1, ha2⟩, ha3⟩
    simp only at ha1 ha2 ha3 ⊢
    rcases Nat.lt_or_ge 1000 l.length with hlong | hshort
    · obtain ⟨rfl, rfl, rfl⟩ := ha1 hlong
      clear hmz hsk hbk
      repeat' (first|with_reducible refine q_0 ?_|((with_reducible first|refine q_q otJ_ok fun K hK=>?_|refine q_r otJ_ok fun K hK=>?_);simp (maxSteps:=2000000) only [go_sem,↓reduceIte,reduceCtorEq,Nat.reduceLeDiff,Nat.reduceLT,Nat.reduceBEq,Nat.reduceAdd];(repeat1' with_reducible first|apply And.intro|(intro _;try exact q_v)|(refine hK _ ?_;clear hK K))<;>(try (clear hK K;exact q_u)))|(with_reducible refine q_s ?_;(first|apply q_J|apply q_K|apply q_L|apply q_M|apply q_N|apply q_O)<;>try (intro _;try exact q_v)))
      all_goals first | omega | contradiction | exact q_A rfl | skip
    · obtain ⟨rfl, rfl, rfl⟩ := ha2 hshort
      clear hmz hsk hbk ha1 ha2 ha3
      have st := lp_start (b := byL lt0 l) (n := l.length) hshort
      have sn := nu_le4 (p := settle (startP l.length)) (by rw [st.len]; exact hshort)
      generalize hz : runAll (byL lt0 l) (settle (startP l.length)) = z at *
      generalize settle (startP l.length) = p0 at *
      generalize hm0 : loadM (startM l.length) = m0 at *
      repeat' (first|with_reducible refine q_0 ?_|((with_reducible first|refine q_q otJ_ok fun K hK=>?_|refine q_r otJ_ok fun K hK=>?_);simp (maxSteps:=2000000) only [go_sem,↓reduceIte,reduceCtorEq,Nat.reduceLeDiff,Nat.reduceLT,Nat.reduceBEq,Nat.reduceAdd,hm0];(repeat1' with_reducible first|apply And.intro|(intro _;try exact q_v)|(refine hK _ ?_;clear hK K))<;>(try (clear hK K;exact q_u)))|(with_reducible refine q_s ?_;(first|apply q_J|apply q_K|apply q_L|apply q_M|apply q_N|apply q_O)<;>try (intro _;try exact q_v)))
      all_goals first | omega | contradiction | skip
      refine loop_rb (ι := { q : Pn × Mg × List (List C) // Lp (byL lt0 l) l.length z q.1 q.2.1 ∧ q.2.2.length + q.1.nu ≤ 2003000 }) (fun q => ⟨181, [(0, .c (.ints .i64 l)), (11, .c (.a (.func (.func 35) #[] #[]))), (12, .c (.ints .i64 (permL l z.o))), (13, .bx 0 0), (22, .bx 1 0)],
        ⟨[(1, [.c (.ints .i64 q.1.2.1.o), .own 1 0, .c (.i .i64 (q.1.2.1.w : Nat)), .c (.i .i64 (q.1.2.1.f : Nat)), .c (.ints .i64 q.1.2.1.l), .c (.ints .i64 q.1.2.1.r), .own 2 0]), (0, [.c (.i .i64 0), .c (.i .i64 0)])],
         [(1, ⟨0, 42, 2, .sl 2 q.1.2.2⟩), (2, ⟨0, 3, 1, .ints .i64 q.1.2.1.x⟩)], []⟩, 4⟩) (fun q => q.1.1.nu) ⟨(p0, m0, []), st, by simp only [List.length_nil]; omega⟩ ?_ ?_
      · exact q_D
      rintro ⟨⟨p, g, A⟩, q1, q2⟩
      simp only at q1 q2 ⊢
      by_cases ho : p.on
      · obtain ⟨n1, n2, n3, n4, n5, n6, n7⟩ := lp_next q1 ho
        obtain ⟨o1, o2⟩ := n3
        have hgm := q1.mok
        have hE : Mg.mk g.o g.w g.f g.l g.r g.x = g := rfl
        have b1 : 0 ≤ g.r.getD 0 0 ∧ g.r.getD 0 0 < (l.length : Int) := by have : g.r.getD 0 0 = p.i := n4; omega
        have b2 : 0 ≤ g.l.getD 0 0 ∧ g.l.getD 0 0 < (l.length : Int) := by have : g.l.getD 0 0 = p.j := n5; omega
        have hb : lt0 (l.getD (g.r.getD 0 0).toNat 0) (l.getD (g.l.getD 0 0).toNat 0) = byL lt0 l p := by
          show lt0 (l.getD g.i.toNat 0) (l.getD g.j.toNat 0) = _
          rw [n4, n5]; rfl
        generalize byL lt0 l p = bv at *
        clear st sn hz hm0
        have eA : g.r.getD 0 0 = g.i := rfl
        have eB : g.l.getD 0 0 = g.j := rfl
        have eg : ∀ x y : Int, [AV.c (C.i .i64 x), AV.c (C.i .i64 y)][0 * 1]? = some (AV.c (C.i .i64 x)) := fun _ _ => rfl
        have eh : ∀ x y : Int, [AV.c (C.i .i64 x), AV.c (C.i .i64 y)][Int.toNat 1 * 1]? = some (AV.c (C.i .i64 y)) := fun _ _ => rfl
        repeat' (first|with_reducible refine q_0 ?_|((with_reducible first|refine q_q otJ_ok fun K hK=>?_|refine q_r otJ_ok fun K hK=>?_);simp (maxSteps:=2000000) only [go_sem,↓reduceIte,reduceCtorEq,Nat.reduceLeDiff,Nat.reduceLT,Nat.reduceBEq,Nat.reduceAdd,hE, hb, eg, eh];(repeat1' with_reducible first|apply And.intro|(intro _;try exact q_v)|(refine hK _ ?_;clear hK K))<;>(try (clear hK K;exact q_u)))|(with_reducible refine q_s ?_;(first|apply q_J|apply q_K|apply q_L|apply q_M|apply q_N|apply q_O)<;>try (intro _;try exact q_v)))
        all_goals first | omega | contradiction | exact hgm | rfl | exact keep_of [] trivial | exact keep_of [2] ⟨rfl, trivial⟩ | skip
        all_goals refine roundr_n [(8, 1), (9, 2)] ⟨(tellP p bv, g.ans bv, A ++ [[.i .i64 g.i, .i .i64 g.j]]), n1, by simp only [List.length_append, List.length_cons, List.length_nil]; omega⟩ ?_ n2
        all_goals exact q_D
      · obtain ⟨e1, e2, e3, e4⟩ := lp_end q1 ho
        have hgd := range_good e3.pr
        clear st sn hm0
        have hno : ¬ (0 < g.l.length ∧ 0 < g.r.length) := e1
        rw [e2]
        repeat' (first|with_reducible refine q_0 ?_|((with_reducible first|refine q_q otJ_ok fun K hK=>?_|refine q_r otJ_ok fun K hK=>?_);simp (maxSteps:=2000000) only [go_sem,↓reduceIte,reduceCtorEq,Nat.reduceLeDiff,Nat.reduceLT,Nat.reduceBEq,Nat.reduceAdd];(repeat1' with_reducible first|apply And.intro|(intro _;try exact q_v)|(refine hK _ ?_;clear hK K))<;>(try (clear hK K;exact q_u)))|(with_reducible refine q_s ?_;(first|apply q_J|apply q_K|apply q_L|apply q_M|apply q_N|apply q_O)<;>try (intro _;try exact q_v)))
        all_goals first | omega | contradiction | skip
        all_goals refine roundr_exit ?_
        repeat' (first|with_reducible refine q_0 ?_|((with_reducible first|refine q_q otJ_ok fun K hK=>?_|refine q_r otJ_ok fun K hK=>?_);simp (maxSteps:=2000000) only [go_sem,↓reduceIte,reduceCtorEq,Nat.reduceLeDiff,Nat.reduceLT,Nat.reduceBEq,Nat.reduceAdd];(repeat1' with_reducible first|apply And.intro|(intro _;try exact q_v)|(refine hK _ ?_;clear hK K))<;>(try (clear hK K;exact q_u)))|(with_reducible refine q_s ?_;(first|apply q_J|apply q_K|apply q_L|apply q_M|apply q_N|apply q_O)<;>try (intro _;try exact q_v)))
        all_goals first | omega | contradiction | skip
        refine q_G (ι := { i : Nat // i ≤ z.o.length }) (fun i => ⟨181, [(0, .c (.ints .i64 l)), (12, .c (.ints .i64 (permL l z.o))), (13, .bx 0 0), (22, .bx 1 0), (24, .own 20 0), (25, .c (.i .i64 (i.1 : Nat)))],
          ⟨[(1, [.c (.ints .i64 z.o), .u, .u, .u, .u, .u, .u]), (0, [.c (.i .i64 0), .c (.i .i64 0)])], [(20, ⟨0, 3, 1, .ints .i64 (permL l (z.o.take i.1))⟩)], []⟩, 21⟩) (fun i => z.o.length - i.1) ⟨0, by omega⟩ ?_ ?_
        · exact q_D
        rintro ⟨i, i1⟩
        simp only at i1 ⊢
        have hpl : (permL l (z.o.take i)).length = i := by rw [permL_len, List.length_take]; omega
        have hpz : (permL l z.o).length = l.length := by rw [permL_len, e4]
        rcases Nat.lt_or_ge i z.o.length with hk | hk
        · have hs := permL_snoc l z.o hk
          have hlo := hgd.lo i hk
          generalize permL l (z.o.take i) = R at *
          generalize permL l z.o = zz at *
          repeat' (first|with_reducible refine q_0 ?_|((with_reducible first|refine q_q otJ_ok fun K hK=>?_|refine q_r otJ_ok fun K hK=>?_);simp (maxSteps:=2000000) only [go_sem,↓reduceIte,reduceCtorEq,Nat.reduceLeDiff,Nat.reduceLT,Nat.reduceBEq,Nat.reduceAdd,hpl];(repeat1' with_reducible first|apply And.intro|(intro _;try exact q_v)|(refine hK _ ?_;clear hK K))<;>(try (clear hK K;exact q_u)))|(with_reducible refine q_s ?_;(first|apply q_J|apply q_K|apply q_L|apply q_M|apply q_N|apply q_O)<;>try (intro _;try exact q_v)))
          all_goals first | omega | contradiction | skip
          all_goals refine q_F ⟨i + 1, hk⟩ ?_ (by simp only; omega)
          all_goals simp only [hs]
          all_goals exact q_D
        · have ht : permL l (z.o.take i) = permL l z.o := by rw [List.take_of_length_le hk]
          rw [ht] at hpl ⊢
          generalize permL l z.o = R at *
          repeat' (first|with_reducible refine q_0 ?_|((with_reducible first|refine q_q otJ_ok fun K hK=>?_|refine q_r otJ_ok fun K hK=>?_);simp (maxSteps:=2000000) only [go_sem,↓reduceIte,reduceCtorEq,Nat.reduceLeDiff,Nat.reduceLT,Nat.reduceBEq,Nat.reduceAdd,hpl];(repeat1' with_reducible first|apply And.intro|(intro _;try exact q_v)|(refine hK _ ?_;clear hK K))<;>(try (clear hK K;exact q_u)))|(with_reducible refine q_s ?_;(first|apply q_J|apply q_K|apply q_L|apply q_M|apply q_N|apply q_O)<;>try (intro _;try exact q_v)))
          all_goals first | omega | contradiction | exact q_A rfl | exact q_A (by simp) | skip
set_option maxRecDepth 100000 in
set_option maxHeartbeats 6400000 in
theorem law_K (l m : List Int) (x : Int) (beh : Bool) (hl : l.length + m.length ≤ 17592186044416) : Ret Try.prog 6 false [.inl (.ints .i64 l), .inl (.ints .i64 m), .inl (.i .i64 x), .inl (.i .i64 1), .inl (.b beh)] (.c (.b true)) := by
  obtain ⟨mz, hmz⟩ : ∃ z, mrg lt1 l m = z := ⟨_, rfl⟩
  obtain ⟨sk, hsk⟩ : ∃ z, srch lt1 beh l x 0 l.length = z := ⟨_, rfl⟩
  obtain ⟨bk, hbk⟩ : ∃ z, brkF lt1 l 1 (l.length - 1) = z := ⟨_, rfl⟩
  have hzl : mz.length = l.length + m.length := by rw [← hmz]; exact mrg_len _ _ _
  (refine q_H Try.func6 (fun F => ?_); simp only [q_z,q_y,Try.ntmps6,Try.results6])
  refine seq_cut12 (ι := { q : List Int × Int × Int // ((1000 < l.length → q.1 = [] ∧ q.2.1 = 4 ∧ q.2.2 = -1) ∧ (l.length ≤ 1000 → q.1 = permL l (runAll (byL lt1 l) (settle (startP l.length))).o ∧ q.2.1 = 0 ∧ q.2.2 = 0)) ∧ q.1.length ≤ 1000 }) (fun q => ⟨181, [(0, .c (.ints .i64 l)), (11, .c (.a (.func (.func 36) #[] #[]))), (12, .c (.ints .i64 q.1.1)), (13, .bx 0 0)],
    ⟨[(0, [.c (.i .i64 q.1.2.1), .c (.i .i64 q.1.2.2)])], [], []⟩, 1⟩) (fun Y hY => ?_) ?_
  · repeat' (first|with_reducible refine q_0 ?_|((with_reducible first|refine q_q otK_ok fun K hK=>?_|refine q_r otK_ok fun K hK=>?_);simp (maxSteps:=2000000) only [go_sem,↓reduceIte,reduceCtorEq,Nat.reduceLeDiff,Nat.reduceLT,Nat.reduceBEq,Nat.reduceAdd,hmz, hsk, hbk];(repeat1' with_reducible first|apply And.intro|(intro _;try exact q_v)|(refine hK _ ?_;clear hK K))<;>(try (clear hK K;exact q_u)))|(with_reducible refine q_s ?_;(first|apply q_J|apply q_K|apply q_L|apply q_M|apply q_N|apply q_O)<;>try (intro _;try exact q_v)))
    all_goals first | omega | skip
    rename_i a c w ha1 ha2 ha3
    refine q_G (ι := { q : Nat × Nat // q.1 ≤ q.2 ∧ q.2 ≤ l.length ∧ srch lt1 beh l x q.1 q.2 = sk }) (fun q => ⟨181, [(0, .c (.ints .i64 l)), (1, .c (.ints .i64 m)), (2, .c (.i .i64 x)), (4, .c (.b beh)), (11, .c (.a (.func (.func 36) #[] #[]))), (12, .c (.ints .i64 a)), (13, .bx 0 0), (14, .c (.ints .i64 mz)), (15, .c (.i .i64 (sk : Nat))), (16, .c (.i .i64 bk)), (17, .c (.i .i64 (q.1.1 : Nat))), (18, .c (.i .i64 (q.1.2 : Nat)))], ⟨[(0, [.c (.i .i64 c), .c (.i .i64 w)])], [], []⟩, 1⟩) (fun q => q.1.2 - q.1.1) ⟨(0, l.length), by simp, by simp, hsk⟩ ?_ ?_
    · exact q_D
    rintro ⟨⟨lo, hi⟩, q1, q2, q3⟩
    simp only at q1 q2 q3 ⊢
    rcases Nat.lt_or_ge lo hi with hk | hk
    · have e1 : (((lo : Int) + (hi : Int)).tdiv 2) = (((lo + hi) / 2 : Nat) : Int) := by rw [Int.tdiv_eq_ediv_of_nonneg (by omega)]; omega
      obtain ⟨mid, hm⟩ : ∃ mid, (lo + hi) / 2 = mid := ⟨_, rfl⟩
      have hml : lo ≤ mid ∧ mid < hi := by omega
      have su := srch_up (lt := lt1) (beh := beh) (l := l) (x := x) hk
      have sd := srch_dn (lt := lt1) (beh := beh) (l := l) (x := x) hk
      rw [hm] at e1 su sd
      unfold upF at su sd
      clear hmz hbk hsk
      cases beh
      all_goals
        simp only [Bool.false_eq_true, if_false, if_true, Bool.not_eq_true', Bool.not_eq_false', decide_eq_true_eq, decide_eq_false_iff_not] at su sd
        repeat' (first|with_reducible refine q_0 ?_|((with_reducible first|refine q_q otK_ok fun K hK=>?_|refine q_r otK_ok fun K hK=>?_);simp (maxSteps:=2000000) only [go_sem,↓reduceIte,reduceCtorEq,Nat.reduceLeDiff,Nat.reduceLT,Nat.reduceBEq,Nat.reduceAdd,e1];(repeat1' with_reducible first|apply And.intro|(intro _;try exact q_v)|(refine hK _ ?_;clear hK K))<;>(try (clear hK K;exact q_u)))|(with_reducible refine q_s ?_;(first|apply q_J|apply q_K|apply q_L|apply q_M|apply q_N|apply q_O)<;>try (intro _;try exact q_v)))
        all_goals first | omega | contradiction | skip
      all_goals first
      | (refine q_F ⟨(mid + 1, hi), by simp only; omega, q2, (su (by assumption)).symm.trans q3⟩ ?_ (by simp only; omega); exact q_D)
      | (refine q_F ⟨(lo, mid), by simp only; omega, by simp only; omega, (sd (by assumption)).symm.trans q3⟩ ?_ (by simp only; omega); exact q_D)
      | skip
    · have hs := srch_end (lt := lt1) (beh := beh) (l := l) (x := x) (lo := lo) (hi := hi) (by omega)
      rw [hs] at q3
      have q3 : (lo : Int) = (sk : Int) := by omega
      repeat' (first|with_reducible refine q_0 ?_|((with_reducible first|refine q_q otK_ok fun K hK=>?_|refine q_r otK_ok fun K hK=>?_);simp (maxSteps:=2000000) only [go_sem,↓reduceIte,reduceCtorEq,Nat.reduceLeDiff,Nat.reduceLT,Nat.reduceBEq,Nat.reduceAdd];(repeat1' with_reducible first|apply And.intro|(intro _;try exact q_v)|(refine hK _ ?_;clear hK K))<;>(try (clear hK K;exact q_u)))|(with_reducible refine q_s ?_;(first|apply q_J|apply q_K|apply q_L|apply q_M|apply q_N|apply q_O)<;>try (intro _;try exact q_v)))
      all_goals first | omega | contradiction | skip
      refine q_G (ι := { k : Nat // k ≤ l.length ∧ (k = 0 → l.length = 0) }) (fun k => ⟨181, [(0, .c (.ints .i64 l)), (1, .c (.ints .i64 m)), (11, .c (.a (.func (.func 36) #[] #[]))), (12, .c (.ints .i64 a)), (13, .bx 0 0), (14, .c (.ints .i64 mz)), (15, .c (.i .i64 (sk : Nat))), (16, .c (.i .i64 bk)), (17, .c (.i .i64 (lo : Nat))), (20, .c (.i .i64 (brkF lt1 l k.1 (l.length - k.1)))), (21, .c (.i .i64 ((k.1 : Int) - 1)))], ⟨[(0, [.c (.i .i64 c), .c (.i .i64 w)])], [], []⟩, 1⟩) (fun k => k.1) ⟨l.length, Nat.le_refl _, fun h => h⟩ ?_ ?_
      · have e0 : brkF lt1 l l.length (l.length - l.length) = -1 := by rw [Nat.sub_self]; rfl
        simp only [e0]
        exact q_D
      rintro ⟨k, k1, k2⟩
      simp only at k1 k2 ⊢
      rcases Nat.lt_or_ge 1 k with hk1 | hk1
      · have bs := brk_step (lt := lt1) (l := l) (i := k - 1) (by omega)
        have e1 : ((k : Int) - 1).toNat = k - 1 := by omega
        have e2 : ((k : Int) - 1 - 1).toNat = k - 1 - 1 := by omega
        have e3 : k - 1 + 1 = k := by omega
        have e4 : ((k - 1 : Nat) : Int) = (k : Int) - 1 := by omega
        rw [e3, e4] at bs
        clear hmz hbk hsk
        generalize brkF lt1 l k (l.length - k) = at_ at *
        cases hc : lt1 (l.getD (k - 1) 0) (l.getD (k - 1 - 1) 0)
        · rw [if_neg (by rw [hc]; simp)] at bs
          repeat' (first|with_reducible refine q_0 ?_|((with_reducible first|refine q_q otK_ok fun K hK=>?_|refine q_r otK_ok fun K hK=>?_);simp (maxSteps:=2000000) only [go_sem,↓reduceIte,reduceCtorEq,Nat.reduceLeDiff,Nat.reduceLT,Nat.reduceBEq,Nat.reduceAdd,e1, e2, hc];(repeat1' with_reducible first|apply And.intro|(intro _;try exact q_v)|(refine hK _ ?_;clear hK K))<;>(try (clear hK K;exact q_u)))|(with_reducible refine q_s ?_;(first|apply q_J|apply q_K|apply q_L|apply q_M|apply q_N|apply q_O)<;>try (intro _;try exact q_v)))
          all_goals first | omega | contradiction | skip
          all_goals refine q_F ⟨k - 1, by omega, by omega⟩ ?_ (by simp only; omega)
          all_goals simp only [bs, e4]
          all_goals exact q_D
        · rw [if_pos hc] at bs
          repeat' (first|with_reducible refine q_0 ?_|((with_reducible first|refine q_q otK_ok fun K hK=>?_|refine q_r otK_ok fun K hK=>?_);simp (maxSteps:=2000000) only [go_sem,↓reduceIte,reduceCtorEq,Nat.reduceLeDiff,Nat.reduceLT,Nat.reduceBEq,Nat.reduceAdd,e1, e2, hc];(repeat1' with_reducible first|apply And.intro|(intro _;try exact q_v)|(refine hK _ ?_;clear hK K))<;>(try (clear hK K;exact q_u)))|(with_reducible refine q_s ?_;(first|apply q_J|apply q_K|apply q_L|apply q_M|apply q_N|apply q_O)<;>try (intro _;try exact q_v)))
          all_goals first | omega | contradiction | skip
          all_goals refine q_F ⟨k - 1, by omega, by omega⟩ ?_ (by simp only; omega)
          all_goals simp only [bs, e4]
          all_goals exact q_D
      · have e5 : brkF lt1 l k (l.length - k) = bk := by
          rw [← hbk]
          rcases Nat.eq_zero_or_pos k with h0 | h0
          · have := k2 h0; rw [this, h0]; rfl
          · have : k = 1 := by omega
            rw [this]
        rw [e5]
        clear hbk hsk
        repeat' (first|with_reducible refine q_0 ?_|((with_reducible first|refine q_q otK_ok fun K hK=>?_|refine q_r otK_ok fun K hK=>?_);simp (maxSteps:=2000000) only [go_sem,↓reduceIte,reduceCtorEq,Nat.reduceLeDiff,Nat.reduceLT,Nat.reduceBEq,Nat.reduceAdd,hmz];(repeat1' with_reducible first|apply And.intro|(intro _;try exact q_v)|(refine hK _ ?_;clear hK K))<;>(try (clear hK K;exact q_u)))|(with_reducible refine q_s ?_;(first|apply q_J|apply q_K|apply q_L|apply q_M|apply q_N|apply q_O)<;>try (intro _;try exact q_v)))
        all_goals first | omega | contradiction | exact hmz | skip
        all_goals refine cut_fit hY ⟨(a, c, w), ⟨ha1, ha2⟩, ha3⟩ ?_
        all_goals exact q_D
  · rintro ⟨⟨a, c, w⟩, ⟨ha1, ha2⟩, ha3⟩
    simp only at ha1 ha2 ha3 ⊢
    rcases Nat.lt_or_ge 1000 l.length with hlong | hshort
    · obtain ⟨rfl, rfl, rfl⟩ := ha1 hlong
      clear hmz hsk hbk
      repeat' (first|with_reducible refine q_0 ?_|((with_reducible first|refine q_q otK_ok fun K hK=>?_|refine q_r otK_ok fun K hK=>?_);simp (maxSteps:=2000000) only [go_sem,↓reduceIte,reduceCtorEq,Nat.reduceLeDiff,Nat.reduceLT,Nat.reduceBEq,Nat.reduceAdd];(repeat1' with_reducible first|apply And.intro|(intro _;try exact q_v)|(refine hK _ ?_;clear hK K))<;>(try (clear hK K;exact q_u)))|(with_reducible refine q_s ?_;(first|apply q_J|apply q_K|apply q_L|apply q_M|apply q_N|apply q_O)<;>try (intro _;try exact q_v)))
      all_goals first | omega | contradiction | exact q_A rfl | skip
    · obtain ⟨rfl, rfl, rfl⟩ := ha2 hshort
      clear hmz hsk hbk ha1 ha2 ha3
      have st := lp_start (b := byL lt1 l) (n := l.length) hshort
      have sn := nu_le4 (p := settle (startP l.length)) (by rw [st.len]; exact hshort)
      generalize hz : runAll (byL lt1 l) (settle (startP l.length)) = z at *
      generalize settle (startP l.length) = p0 at *
      generalize hm0 : loadM (startM l.length) = m0 at *
      repeat' (first|with_reducible refine q_0 ?_|((with_reducible first|refine q_q otK_ok fun K hK=>?_|refine q_r otK_ok fun K hK=>?_);simp (maxSteps:=2000000) only [go_sem,↓reduceIte,reduceCtorEq,Nat.reduceLeDiff,Nat.reduceLT,Nat.reduceBEq,Nat.reduceAdd,hm0];(repeat1' with_reducible first|apply And.intro|(intro _;try exact q_v)|(refine hK _ ?_;clear hK K))<;>(try (clear hK K;exact q_u)))|(with_reducible refine q_s ?_;(first|apply q_J|apply q_K|apply q_L|apply q_M|apply q_N|apply q_O)<;>try (intro _;try exact q_v)))
      all_goals first | omega | contradiction | skip
      refine loop_rb (ι := { q : Pn × Mg × List (List C) // Lp (byL lt1 l) l.length z q.1 q.2.1 ∧ q.2.2.length + q.1.nu ≤ 2003000 }) (fun q => ⟨181, [(0, .c (.ints .i64 l)), (11, .c (.a (.func (.func 36) #[] #[]))), (12, .c (.ints .i64 (permL l z.o))), (13, .bx 0 0), (22, .bx 1 0)],
        ⟨[(1, [.c (.ints .i64 q.1.2.1.o), .own 1 0, .c (.i .i64 (q.1.2.1.w : Nat)), .c (.i .i64 (q.1.2.1.f : Nat)), .c (.ints .i64 q.1.2.1.l), .c (.ints .i64 q.1.2.1.r), .own 2 0]), (0, [.c (.i .i64 0), .c (.i .i64 0)])],
         [(1, ⟨0, 42, 2, .sl 2 q.1.2.2⟩), (2, ⟨0, 3, 1, .ints .i64 q.1.2.1.x⟩)], []⟩, 4⟩) (fun q => q.1.1.nu) ⟨(p0, m0, []), st, by simp only [List.length_nil]; omega⟩ ?_ ?_
      · exact q_D
      rintro ⟨⟨p, g, A⟩, q1, q2⟩
      simp only at q1 q2 ⊢
      by_cases ho : p.on
      · obtain ⟨n1, n2, n3, n4, n5, n6, n7⟩ := lp_next q1 ho
        obtain ⟨o1, o2⟩ := n3
        have hgm := q1.mok
        have hE : Mg.mk g.o g.w g.f g.l g.r g.x = g := rfl
        have b1 : 0 ≤ g.r.getD 0 0 ∧ g.r.getD 0 0 < (l.length : Int) := by have : g.r.getD 0 0 = p.i := n4; omega
        have b2 : 0 ≤ g.l.getD 0 0 ∧ g.l.getD 0 0 < (l.length : Int) := by have : g.l.getD 0 0 = p.j := n5; omega
        have hb : lt1 (l.getD (g.r.getD 0 0).toNat 0) (l.getD (g.l.getD 0 0).toNat 0) = byL lt1 l p := by
          show lt1 (l.getD g.i.toNat 0) (l.getD g.j.toNat 0) = _
          rw [n4, n5]; rfl
        generalize byL lt1 l p = bv at *
        clear st sn hz hm0
        have eA : g.r.getD 0 0 = g.i := rfl
        have eB : g.l.getD 0 0 = g.j := rfl
        have eg : ∀ x y : Int, [AV.c (C.i .i64 x), AV.c (C.i .i64 y)][0 * 1]? = some (AV.c (C.i .i64 x)) := fun _ _ => rfl
        have eh : ∀ x y : Int, [AV.c (C.i .i64 x), AV.c (C.i .i64 y)][Int.toNat 1 * 1]? = some (AV.c (C.i .i64 y)) := fun _ _ => rfl
        repeat' (first|with_reducible refine q_0 ?_|((with_reducible first|refine q_q otK_ok fun K hK=>?_|refine q_r otK_ok fun K hK=>?_);simp (maxSteps:=2000000) only [go_sem,↓reduceIte,reduceCtorEq,Nat.reduceLeDiff,Nat.reduceLT,Nat.reduceBEq,Nat.reduceAdd,hE, hb, eg, eh];(repeat1' with_reducible first|apply And.intro|(intro _;try exact q_v)|(refine hK _ ?_;clear hK K))<;>(try (clear hK K;exact q_u)))|(with_reducible refine q_s ?_;(first|apply q_J|apply q_K|apply q_L|apply q_M|apply q_N|apply q_O)<;>try (intro _;try exact q_v)))
        all_goals first | omega | contradiction | exact hgm | rfl | exact keep_of [] trivial | exact keep_of [2] ⟨rfl, trivial⟩ | skip
        all_goals refine roundr_n [(8, 1), (9, 2)] ⟨(tellP p bv, g.ans bv, A ++ [[.i .i64 g.i, .i .i64 g.j]]), n1, by simp only [List.length_append, List.length_cons, List.length_nil]; omega⟩ ?_ n2
        all_goals exact q_D
      · obtain ⟨e1, e2, e3, e4⟩ := lp_end q1 ho
        have hgd := range_good e3.pr
        clear st sn hm0
        have hno : ¬ (0 < g.l.length ∧ 0 < g.r.length) := e1
        rw [e2]
        repeat' (first|with_reducible refine q_0 ?_|((with_reducible first|refine q_q otK_ok fun K hK=>?_|refine q_r otK_ok fun K hK=>?_);simp (maxSteps:=2000000) only [go_sem,↓reduceIte,reduceCtorEq,Nat.reduceLeDiff,Nat.reduceLT,Nat.reduceBEq,Nat.reduceAdd];(repeat1' with_reducible first|apply And.intro|(intro _;try exact q_v)|(refine hK _ ?_;clear hK K))<;>(try (clear hK K;exact q_u)))|(with_reducible refine q_s ?_;(first|apply q_J|apply q_K|apply q_L|apply q_M|apply q_N|apply q_O)<;>try (intro _;try exact q_v)))
        all_goals first | omega | contradiction | skip
        all_goals refine roundr_exit ?_
        repeat' (first|with_reducible refine q_0 ?_|((with_reducible first|refine q_q otK_ok fun K hK=>?_|refine q_r otK_ok fun K hK=>?_);simp (maxSteps:=2000000) only [go_sem,↓reduceIte,reduceCtorEq,Nat.reduceLeDiff,Nat.reduceLT,Nat.reduceBEq,Nat.reduceAdd];(repeat1' with_reducible first|apply And.intro|(intro _;try exact q_v)|(refine hK _ ?_;clear hK K))<;>(try (clear hK K;exact q_u)))|(with_reducible refine q_s ?_;(first|apply q_J|apply q_K|apply q_L|apply q_M|apply q_N|apply q_O)<;>try (intro _;try exact q_v)))
        all_goals first | omega | contradiction | skip
        refine q_G (ι := { i : Nat // i ≤ z.o.length }) (fun i => ⟨181, [(0, .c (.ints .i64 l)), (12, .c (.ints .i64 (permL l z.o))), (13, .bx 0 0), (22, .bx 1 0), (24, .own 20 0), (25, .c (.i .i64 (i.1 : Nat)))],
          ⟨[(1, [.c (.ints .i64 z.o), .u, .u, .u, .u, .u, .u]), (0, [.c (.i .i64 0), .c (.i .i64 0)])], [(20, ⟨0, 3, 1, .ints .i64 (permL l (z.o.take i.1))⟩)], []⟩, 21⟩) (fun i => z.o.length - i.1) ⟨0, by omega⟩ ?_ ?_
        · exact q_D
        rintro ⟨i, i1⟩
        simp only at i1 ⊢
        have hpl : (permL l (z.o.take i)).length = i := by rw [permL_len, List.length_take]; omega
        have hpz : (permL l z.o).length = l.length := by rw [permL_len, e4]
        rcases Nat.lt_or_ge i z.o.length with hk | hk
        · have hs := permL_snoc l z.o hk
          have hlo := hgd.lo i hk
          generalize permL l (z.o.take i) = R at *
          generalize permL l z.o = zz at *
          repeat' (first|with_reducible refine q_0 ?_|((with_reducible first|refine q_q otK_ok fun K hK=>?_|refine q_r otK_ok fun K hK=>?_);simp (maxSteps:=2000000) only [go_sem,↓reduceIte,reduceCtorEq,Nat.reduceLeDiff,Nat.reduceLT,Nat.reduceBEq,Nat.reduceAdd,hpl];(repeat1' with_reducible first|apply And.intro|(intro _;try exact q_v)|(refine hK _ ?_;clear hK K))<;>(try (clear hK K;exact q_u)))|(with_reducible refine q_s ?_;(first|apply q_J|apply q_K|apply q_L|apply q_M|apply q_N|apply q_O)<;>try (intro _;try exact q_v)))
          all_goals first | omega | contradiction | skip
          all_goals refine q_F ⟨i + 1, hk⟩ ?_ (by simp only; omega)
          all_goals simp only [hs]
          all_goals exact q_D
        · have ht : permL l (z.o.take i) = permL l z.o := by rw [List.take_of_length_le hk]
          rw [ht] at hpl ⊢
          generalize permL l z.o = R at *
          repeat' (first|with_reducible refine q_0 ?_|((with_reducible first|refine q_q otK_ok fun K hK=>?_|refine q_r otK_ok fun K hK=>?_);simp (maxSteps:=2000000) only [go_sem,↓reduceIte,reduceCtorEq,Nat.reduceLeDiff,Nat.reduceLT,Nat.reduceBEq,Nat.reduceAdd,hpl];(repeat1' with_reducible first|apply And.intro|(intro _;try exact q_v)|(refine hK _ ?_;clear hK K))<;>(try (clear hK K;exact q_u)))|(with_reducible refine q_s ?_;(first|apply q_J|apply q_K|apply q_L|apply q_M|apply q_N|apply q_O)<;>try (intro _;try exact q_v)))
          all_goals first | omega | contradiction | exact q_A rfl | exact q_A (by simp) | skip
end Go.Proofs.Ytmcjojbffidlbaa
