import Derived.Test.YtgkajjifbcmoeaaGreatDoorP22
import Derived.Test.YtgkajjifbcmoeaaGreatDoorP23
namespace Go.Proofs.NatL
set_option linter.unusedSimpArgs false
set_option linter.unusedVariables false
def opD (A : Dc) : Dc:=if A.kind = 2 then A else ⟨A.kind,!A.neg,A.coef,A.exp⟩
end Go.Proofs.NatL
namespace Go.Proofs.YtgkajjifbcmoeaaGreatDoor
set_option linter.unusedSimpArgs false
set_option linter.unusedVariables false
open Go.Abs Go.Proofs.NatL

end Go.Proofs.YtgkajjifbcmoeaaGreatDoor
namespace Go.Proofs.NatL
set_option linter.unusedSimpArgs false
set_option linter.unusedVariables false
end Go.Proofs.NatL
namespace Go.Proofs.YtgkajjifbcmoeaaGreatDoor
set_option linter.unusedSimpArgs false
set_option linter.unusedVariables false
open Go.Abs Go.Proofs.NatL
end Go.Proofs.YtgkajjifbcmoeaaGreatDoor

namespace Go.Proofs.NatL
set_option linter.unusedSimpArgs false
set_option linter.unusedVariables false
def rkD (A : Dc) : Int:=if A.kind = 0 then 0 else if A.neg = true then -1 else 1
def cmpD (A B : Dc) : Int:=if rkD A ≠ 0 ∨ rkD B ≠ 0 then min (max (rkD A - rkD B) (-1)) 1 else cmpZ (sumZ A.neg A.coef A.exp (!B.neg) B.coef B.exp) 0
def nbC : List D5 → Int
 | []=>0
 | p :: l=>if p.1 = 2 then 13 else nbC l
def nbX : Int → List D5 → Int
 | _,[]=>0
 | i,p :: l=>if p.1 = 2 then -1 - i else nbX (i + 1) l
theorem cmp_inf {A B : Dc} (h : A.kind ≠ 0 ∨ B.kind ≠ 0) : cmpD A B = min (max (rkD A - rkD B) (-1)) 1:=by
 unfold cmpD
 rw [if_pos]
 unfold rkD
 rcases h with h | h
 ·left; rw [if_neg h]; split <;> decide
 ·right; rw [if_neg h]; split <;> decide
theorem cmp_fin {s t : Bool} {m n : Nat} {e f : Int} : cmpD ⟨0,s,m,e⟩ ⟨0,t,n,f⟩ = cmpZ (sumZ s m e (!t) n f) 0:=rfl
end Go.Proofs.NatL

namespace Go.Proofs.YtgkajjifbcmoeaaGreatDoor
set_option linter.unusedSimpArgs false
set_option linter.unusedVariables false
open Go.Abs Go.Proofs.NatL

def dbj : Cfg:=listT [(62,validDCT)] [34]
theorem dbj_ok : TblOk Tryz.prog dbj:=listE_ok (by simp only [List.mem_singleton,forall_eq]; exact flt) ⟨⟨de4,de4_ok,rfl⟩,trivial⟩
attribute [go_sem] dbj
def rankCT : CT:=mkCT [nDc] true fun l K=>match l with
 | [.inr [.i .i64 k,.b s,.b a,.ints .u32 xs,.i .i64 e]]=>K (.c (.i .i64 (if k = 0 then 0 else if s = true then -1 else 1)))
 | _=>False
def dj1 : Cfg:=addT 97 rankCT cf0
theorem dj1_ok : TblOk Tryz.prog dj1:=q_I cf0_ok Tryz.func97 fun l K h=>by
 split at h
 ·rename_i k s a xs e
  refine ⟨_,Ret.plain ?_ rfl,h⟩
  by_cases h0 : k = 0
  ·rw [if_pos h0]
   (refine q_H Tryz.func97 (fun F=>?_); simp only [q_z,q_y,Tryz.ntmps97,Tryz.results97])
   repeat' (first|with_reducible refine q_0 ?_|((with_reducible first|refine q_q dbj_ok fun K hK=>?_|refine q_r dbj_ok fun K hK=>?_);simp (maxSteps:=2000000) only [go_sem,↓reduceIte,reduceCtorEq,Nat.reduceLeDiff,Nat.reduceLT,Nat.reduceBEq,Nat.reduceAdd];(repeat1' with_reducible first|apply And.intro|(intro _;try exact q_v)|(refine hK _ ?_;clear hK K))<;>(try (clear hK K;exact q_u)))|(with_reducible refine q_s ?_;(first|apply q_J|apply q_K|apply q_L|apply q_M|apply q_N|apply q_O)<;>try (intro _;try exact q_v)))
   all_goals first | omega | exact q_A rfl | skip
  ·rw [if_neg h0]
   cases s
   all_goals
    (refine q_H Tryz.func97 (fun F=>?_); simp only [q_z,q_y,Tryz.ntmps97,Tryz.results97])
    repeat' (first|with_reducible refine q_0 ?_|((with_reducible first|refine q_q dbj_ok fun K hK=>?_|refine q_r dbj_ok fun K hK=>?_);simp (maxSteps:=2000000) only [go_sem,↓reduceIte,reduceCtorEq,Nat.reduceLeDiff,Nat.reduceLT,Nat.reduceBEq,Nat.reduceAdd];(repeat1' with_reducible first|apply And.intro|(intro _;try exact q_v)|(refine hK _ ?_;clear hK K))<;>(try (clear hK K;exact q_u)))|(with_reducible refine q_s ?_;(first|apply q_J|apply q_K|apply q_L|apply q_M|apply q_N|apply q_O)<;>try (intro _;try exact q_v)))
    all_goals first | omega | exact q_A rfl | skip
 ·exact h.elim
attribute [go_sem] rankCT
def cmpA (k : Int) (s : Bool) (m : Nat) (e : Int) (l : Int) (t : Bool) (n : Nat) (f : Int) (q : List D5) : AV :=
 if dbC q ≠ 0 then .t [.inl (.i .i64 0),fltQ (dbC q) (dbX 0 q)] else if nbC q ≠ 0 then .t [.inl (.i .i64 0),fltQ (nbC q) (nbX 0 q)] else .t [.inl (.i .i64 (cmpD ⟨k,s,m,e⟩ ⟨l,t,n,f⟩)),fltQ 0 0]
theorem cmpA_bad {k : Int} {s : Bool} {m : Nat} {e l : Int} {t : Bool} {n : Nat} {f : Int} {q : List D5} (h : dbC q ≠ 0) : cmpA k s m e l t n f q = .t [.inl (.i .i64 0),fltQ (dbC q) (dbX 0 q)]:=if_pos h
theorem cmpA_none {k : Int} {s : Bool} {m : Nat} {e l : Int} {t : Bool} {n : Nat} {f : Int} {q : List D5} (h : dbC q = 0) (h2 : nbC q ≠ 0) : cmpA k s m e l t n f q = .t [.inl (.i .i64 0),fltQ (nbC q) (nbX 0 q)]:=by
 unfold cmpA; rw [if_neg (fun g=>g h),if_pos h2]
theorem cmpA_ok {k : Int} {s : Bool} {m : Nat} {e l : Int} {t : Bool} {n : Nat} {f : Int} {q : List D5} (h : dbC q = 0) (h2 : nbC q = 0) : cmpA k s m e l t n f q = .t [.inl (.i .i64 (cmpD ⟨k,s,m,e⟩ ⟨l,t,n,f⟩)),fltQ 0 0]:=by
 unfold cmpA; rw [if_neg (fun g=>g h),if_neg (fun g=>g h2)]
def dbk : Cfg:=listT [(62,validDCT),(78,atCT),(97,rankCT),(93,ofDCT),(92,plusXCT)] [34]
theorem dbk_ok : TblOk Tryz.prog dbk:=listE_ok (by simp only [List.mem_singleton,forall_eq]; exact flt) ⟨⟨de4,de4_ok,rfl⟩,⟨de6,de6_ok,rfl⟩,⟨dj1,dj1_ok,rfl⟩,⟨df1,df1_ok,rfl⟩,⟨df2,df2_ok,rfl⟩,trivial⟩
attribute [go_sem] dbk
set_option maxRecDepth 100000 in
set_option maxHeartbeats 6400000 in
theorem cmp_ret (k l : Int) (s a t b : Bool) (xs ys : List Int) (e f : Int) (h1 : xs.length ≤ 140737488355328) (h2 : ys.length ≤ 140737488355328) (b1 : InB 4294967296 xs) (b2 : InB 4294967296 ys) :
  Ret Tryz.prog 29 false [.inr [.i .i64 k,.b s,.b a,.ints .u32 xs,.i .i64 e],.inr [.i .i64 l,.b t,.b b,.ints .u32 ys,.i .i64 f]] (cmpA k s (V 4294967296 xs) e l t (V 4294967296 ys) f [(k,s,a,xs,e),(l,t,b,ys,f)]):=by
 have hd : ∀ (q : List D5),q = [(k,s,a,xs,e),(l,t,b,ys,f)] → dbC q = 0 → okD k s a xs e = true ∧ okD l t b ys f = true:=by
  rintro q rfl h
  cases o1 : okD k s a xs e
  ·simp [dbC,okD5,o1] at h
  ·cases o2 : okD l t b ys f
   ·simp [dbC,okD5,o1,o2] at h
   ·exact ⟨rfl,rfl⟩
 have hn : ∀ (q : List D5),q = [(k,s,a,xs,e),(l,t,b,ys,f)] → nbC q = 0 → k ≠ 2 ∧ l ≠ 2:=by
  rintro q rfl h
  refine ⟨fun hk=>?_,fun hl=>?_⟩
  ·simp [nbC,hk] at h
  ·by_cases hk : k = 2
   ·simp [nbC,hk] at h
   ·simp [nbC,hk,hl] at h
 have hal : allD 140737488355328 [(k,s,a,xs,e),(l,t,b,ys,f)]:=⟨⟨h1,b1⟩,⟨h2,b2⟩,trivial⟩
 have hml : ([(k,s,a,xs,e),(l,t,b,ys,f)] : List D5).length = 2:=rfl
 have hrw : [rowD (k,s,a,xs,e),rowD (l,t,b,ys,f)] = ([(k,s,a,xs,e),(l,t,b,ys,f)] : List D5).map rowD:=rfl
 (refine q_H Tryz.func29 (fun F=>?_); simp only [q_z,q_y,Tryz.ntmps29,Tryz.results29])
 repeat' (first|with_reducible refine q_0 ?_|((with_reducible first|refine q_q dbk_ok fun K hK=>?_|refine q_r dbk_ok fun K hK=>?_);simp (maxSteps:=2000000) only [go_sem,↓reduceIte,reduceCtorEq,Nat.reduceLeDiff,Nat.reduceLT,Nat.reduceBEq,Nat.reduceAdd];(repeat1' with_reducible first|apply And.intro|(intro _;try exact q_v)|(refine hK _ ?_;clear hK K))<;>(try (clear hK K;exact q_u)))|(with_reducible refine q_s ?_;(first|apply q_J|apply q_K|apply q_L|apply q_M|apply q_N|apply q_O)<;>try (intro _;try exact q_v)))
 all_goals first | omega | skip
 rw [show [[C.i .i64 k,.b s,.b a,.ints .u32 xs,.i .i64 e],[C.i .i64 l,.b t,.b b,.ints .u32 ys,.i .i64 f]] = ([(k,s,a,xs,e),(l,t,b,ys,f)] : List D5).map rowD from rfl]
 generalize hq : [(k,s,a,xs,e),(l,t,b,ys,f)] = q at *
 refine q_G (ι:={ i : Nat // i ≤ 2 ∧ dbC (q.drop i) = dbC q ∧ dbX i (q.drop i) = dbX 0 q }) (fun i=>⟨86,[(2,.bx 0 0),(3,.bx 1 0),(4,.c (.i .i64 0)),(5,.bx 2 0),(15,.c (.sl 5 (q.map rowD))),(16,.c (.i .i64 2)),(17,.c (.i .i64 (i.1 : Nat)))],⟨[(2,[.c (.i .i64 0),.c (.i .i64 0)]),(1,aD l t b ys f),(0,aD k s a xs e)],[],[]⟩,3⟩) (fun i=>2 - i.1) ⟨0,by omega,rfl,rfl⟩ ?_ ?_
 ·exact q_D
 rintro ⟨i,g1,g2,g3⟩
 simp only at g1 g2 g3 ⊢
 obtain ⟨n1,n2⟩:=allD_get (i:=i) hal
 have hml' : (q.map rowD).length = 2:=by rw [List.length_map,hml]
 rcases Nat.lt_or_ge i 2 with hi | hi
 ·have hr:=rowD_get q i (by omega)
  rw [drop_getD5 q i (by omega),dbC] at g2
  rw [drop_getD5 q i (by omega),dbX] at g3
  unfold okD5 at g2 g3
  cases ho : okD (q.getD i d0).1 (q.getD i d0).2.1 (q.getD i d0).2.2.1 (q.getD i d0).2.2.2.1 (q.getD i d0).2.2.2.2
  ·simp only [ho,Bool.false_eq_true,if_false] at g2 g3
   have hcm:=cmpA_bad (k:=k) (s:=s) (m:=V 4294967296 xs) (e:=e) (l:=l) (t:=t) (n:=V 4294967296 ys) (f:=f) (q:=q) (by omega)
   rw [← g2,← g3] at hcm
   rw [hcm]
   repeat' (first|with_reducible refine q_0 ?_|((with_reducible first|refine q_q dbk_ok fun K hK=>?_|refine q_r dbk_ok fun K hK=>?_);simp (maxSteps:=2000000) only [go_sem,↓reduceIte,reduceCtorEq,Nat.reduceLeDiff,Nat.reduceLT,Nat.reduceBEq,Nat.reduceAdd,hr,ho,hml'];(repeat1' with_reducible first|apply And.intro|(intro _;try exact q_v)|(refine hK _ ?_;clear hK K))<;>(try (clear hK K;exact q_u)))|(with_reducible refine q_s ?_;(first|apply q_J|apply q_K|apply q_L|apply q_M|apply q_N|apply q_O)<;>try (intro _;try exact q_v)))
   all_goals first | omega | assumption | exact q_A rfl | skip
  ·simp only [ho,if_true] at g2 g3
   repeat' (first|with_reducible refine q_0 ?_|((with_reducible first|refine q_q dbk_ok fun K hK=>?_|refine q_r dbk_ok fun K hK=>?_);simp (maxSteps:=2000000) only [go_sem,↓reduceIte,reduceCtorEq,Nat.reduceLeDiff,Nat.reduceLT,Nat.reduceBEq,Nat.reduceAdd,hr,ho,hml'];(repeat1' with_reducible first|apply And.intro|(intro _;try exact q_v)|(refine hK _ ?_;clear hK K))<;>(try (clear hK K;exact q_u)))|(with_reducible refine q_s ?_;(first|apply q_J|apply q_K|apply q_L|apply q_M|apply q_N|apply q_O)<;>try (intro _;try exact q_v)))
   all_goals first | omega | assumption | skip
   refine q_F ⟨i + 1,hi,g2,by push_cast; exact g3⟩ ?_ (by simp only; omega)
   exact q_D
 obtain rfl : i = 2:=by omega
 rw [List.drop_eq_nil_of_le (by omega)] at g2
 have hdb : dbC q = 0:=g2.symm
 obtain ⟨o1,o2⟩:=hd q rfl hdb
 clear n1 n2 hd
 repeat' (first|with_reducible refine q_0 ?_|((with_reducible first|refine q_q dbk_ok fun K hK=>?_|refine q_r dbk_ok fun K hK=>?_);simp (maxSteps:=2000000) only [go_sem,↓reduceIte,reduceCtorEq,Nat.reduceLeDiff,Nat.reduceLT,Nat.reduceBEq,Nat.reduceAdd,hml'];(repeat1' with_reducible first|apply And.intro|(intro _;try exact q_v)|(refine hK _ ?_;clear hK K))<;>(try (clear hK K;exact q_u)))|(with_reducible refine q_s ?_;(first|apply q_J|apply q_K|apply q_L|apply q_M|apply q_N|apply q_O)<;>try (intro _;try exact q_v)))
 all_goals first | omega | skip
 rw [show [[C.i .i64 k,.b s,.b a,.ints .u32 xs,.i .i64 e],[C.i .i64 l,.b t,.b b,.ints .u32 ys,.i .i64 f]] = ([(k,s,a,xs,e),(l,t,b,ys,f)] : List D5).map rowD from rfl,hq]
 refine q_G (ι:={ i : Nat // i ≤ 2 ∧ nbC (q.drop i) = nbC q ∧ nbX i (q.drop i) = nbX 0 q }) (fun i=>⟨86,[(2,.bx 0 0),(3,.bx 1 0),(4,.c (.i .i64 0)),(5,.bx 2 0),(31,.c (.sl 5 (q.map rowD))),(32,.c (.i .i64 2)),(33,.c (.i .i64 (i.1 : Nat)))],⟨[(2,[.c (.i .i64 0),.c (.i .i64 0)]),(1,aD l t b ys f),(0,aD k s a xs e)],[],[]⟩,3⟩) (fun i=>2 - i.1) ⟨0,by omega,rfl,rfl⟩ ?_ ?_
 ·exact q_D
 rintro ⟨i,g1,g2,g3⟩
 simp only at g1 g2 g3 ⊢
 rcases Nat.lt_or_ge i 2 with hi | hi
 ·have hr:=rowD_get q i (by omega)
  rw [drop_getD5 q i (by omega),nbC] at g2
  rw [drop_getD5 q i (by omega),nbX] at g3
  by_cases ho : (q.getD i d0).1 = 2
  ·rw [if_pos ho] at g2 g3
   have hcm:=cmpA_none (k:=k) (s:=s) (m:=V 4294967296 xs) (e:=e) (l:=l) (t:=t) (n:=V 4294967296 ys) (f:=f) (q:=q) hdb (by omega)
   rw [← g2,← g3] at hcm
   rw [hcm]
   repeat' (first|with_reducible refine q_0 ?_|((with_reducible first|refine q_q dbk_ok fun K hK=>?_|refine q_r dbk_ok fun K hK=>?_);simp (maxSteps:=2000000) only [go_sem,↓reduceIte,reduceCtorEq,Nat.reduceLeDiff,Nat.reduceLT,Nat.reduceBEq,Nat.reduceAdd,hr,ho,hml'];(repeat1' with_reducible first|apply And.intro|(intro _;try exact q_v)|(refine hK _ ?_;clear hK K))<;>(try (clear hK K;exact q_u)))|(with_reducible refine q_s ?_;(first|apply q_J|apply q_K|apply q_L|apply q_M|apply q_N|apply q_O)<;>try (intro _;try exact q_v)))
   all_goals first | omega | assumption | exact q_A rfl | skip
  ·rw [if_neg ho] at g2 g3
   repeat' (first|with_reducible refine q_0 ?_|((with_reducible first|refine q_q dbk_ok fun K hK=>?_|refine q_r dbk_ok fun K hK=>?_);simp (maxSteps:=2000000) only [go_sem,↓reduceIte,reduceCtorEq,Nat.reduceLeDiff,Nat.reduceLT,Nat.reduceBEq,Nat.reduceAdd,hr,hml'];(repeat1' with_reducible first|apply And.intro|(intro _;try exact q_v)|(refine hK _ ?_;clear hK K))<;>(try (clear hK K;exact q_u)))|(with_reducible refine q_s ?_;(first|apply q_J|apply q_K|apply q_L|apply q_M|apply q_N|apply q_O)<;>try (intro _;try exact q_v)))
   all_goals first | omega | assumption | skip
   refine q_F ⟨i + 1,hi,g2,by push_cast; exact g3⟩ ?_ (by simp only; omega)
   exact q_D
 obtain rfl : i = 2:=by omega
 rw [List.drop_eq_nil_of_le (by omega)] at g2
 have hnb : nbC q = 0:=g2.symm
 obtain ⟨k2,l2⟩:=hn q rfl hnb
 rw [cmpA_ok hdb hnb]
 clear hn hal hml
 obtain ⟨rfl,rx,r1⟩:=okD_eq o1 b1
 obtain ⟨rfl,ry,r2⟩:=okD_eq o2 b2
 have t1 : Trd xs:=by rw [rx]; exact dg_trd _ (by omega) _
 have t2 : Trd ys:=by rw [ry]; exact dg_trd _ (by omega) _
 have ka : k = 0 ∨ k = 1 ∨ k = 2:=OkD_kind r1
 have kb : l = 0 ∨ l = 1 ∨ l = 2:=OkD_kind r2
 have hs : smP (V 4294967296 xs) e (V 4294967296 ys) f:=smP_ok r1 r2
 clear rx ry r1 r2
 by_cases hf : k = 0 ∧ l = 0
 ·obtain ⟨rfl,rfl⟩:=hf
  rw [cmp_fin]
  have e1 : ([1] : List Int) = dg 4294967296 1:=rfl
  have hsm : smP (V 4294967296 xs) e (V 4294967296 ys) f:=hs
  have hB : sumZ s (V 4294967296 xs) e (!t) (V 4294967296 ys) f ≠ 0 → sumB s (V 4294967296 xs) e (!t) (V 4294967296 ys) f (decide ((0 : Int) = 2)) = decide (sumZ s (V 4294967296 xs) e (!t) (V 4294967296 ys) f < 0):=fun h=>if_neg h
  have hl:=sumZ_len (s:=s) (t:=!t) hs
  generalize hz : sumZ s (V 4294967296 xs) e (!t) (V 4294967296 ys) f = Z at *
  generalize hb : sumB s (V 4294967296 xs) e (!t) (V 4294967296 ys) f (decide ((0 : Int) = 2)) = Bb at *
  have hl2:=ds_600 (n:=Z.natAbs) (by omega)
  have hp:=dg_len_pos 4294967296 Z.natAbs (by omega)
  unfold cmpZ
  rcases Int.lt_trichotomy Z 0 with h | h | h
  ·have hB:=hB (by omega)
   rw [if_pos h]
   rw [decide_eq_true h] at hB
   subst hB
   repeat' (first|with_reducible refine q_0 ?_|((with_reducible first|refine q_q dbk_ok fun K hK=>?_|refine q_r dbk_ok fun K hK=>?_);simp (maxSteps:=2000000) only [go_sem,↓reduceIte,reduceCtorEq,Nat.reduceLeDiff,Nat.reduceLT,Nat.reduceBEq,Nat.reduceAdd,e1,hz,hb];(repeat1' with_reducible first|apply And.intro|(intro _;try exact q_v)|(refine hK _ ?_;clear hK K))<;>(try (clear hK K;exact q_u)))|(with_reducible refine q_s ?_;(first|apply q_J|apply q_K|apply q_L|apply q_M|apply q_N|apply q_O)<;>try (intro _;try exact q_v)))
   all_goals first | omega | assumption | exact q_A rfl | skip
  ·rw [if_neg (by omega),if_pos h]
   clear hB
   have hp0 : (dg 4294967296 Z.natAbs).length = 0:=by omega
   repeat' (first|with_reducible refine q_0 ?_|((with_reducible first|refine q_q dbk_ok fun K hK=>?_|refine q_r dbk_ok fun K hK=>?_);simp (maxSteps:=2000000) only [go_sem,↓reduceIte,reduceCtorEq,Nat.reduceLeDiff,Nat.reduceLT,Nat.reduceBEq,Nat.reduceAdd,e1,hz,hb];(repeat1' with_reducible first|apply And.intro|(intro _;try exact q_v)|(refine hK _ ?_;clear hK K))<;>(try (clear hK K;exact q_u)))|(with_reducible refine q_s ?_;(first|apply q_J|apply q_K|apply q_L|apply q_M|apply q_N|apply q_O)<;>try (intro _;try exact q_v)))
   all_goals first | omega | assumption | exact q_A rfl | skip
  ·have hB:=hB (by omega)
   rw [if_neg (by omega),if_neg (by omega)]
   rw [decide_eq_false (by omega)] at hB
   subst hB
   repeat' (first|with_reducible refine q_0 ?_|((with_reducible first|refine q_q dbk_ok fun K hK=>?_|refine q_r dbk_ok fun K hK=>?_);simp (maxSteps:=2000000) only [go_sem,↓reduceIte,reduceCtorEq,Nat.reduceLeDiff,Nat.reduceLT,Nat.reduceBEq,Nat.reduceAdd,e1,hz,hb];(repeat1' with_reducible first|apply And.intro|(intro _;try exact q_v)|(refine hK _ ?_;clear hK K))<;>(try (clear hK K;exact q_u)))|(with_reducible refine q_s ?_;(first|apply q_J|apply q_K|apply q_L|apply q_M|apply q_N|apply q_O)<;>try (intro _;try exact q_v)))
   all_goals first | omega | assumption | exact q_A rfl | skip
 ·rw [cmp_inf (by simp only; omega)]
  unfold rkD
  simp only
  have hx : (if k = 0 then 0 else if s = true then -1 else 1 : Int) = 0 ↔ k = 0:=by (repeat' split) <;> omega
  have hy : (if l = 0 then 0 else if t = true then -1 else 1 : Int) = 0 ↔ l = 0:=by (repeat' split) <;> omega
  have hx2 : -1 ≤ (if k = 0 then 0 else if s = true then -1 else 1 : Int) ∧ (if k = 0 then 0 else if s = true then -1 else 1 : Int) ≤ 1:=by (repeat' split) <;> omega
  have hy2 : -1 ≤ (if l = 0 then 0 else if t = true then -1 else 1 : Int) ∧ (if l = 0 then 0 else if t = true then -1 else 1 : Int) ≤ 1:=by (repeat' split) <;> omega
  generalize hxx : (if k = 0 then 0 else if s = true then -1 else 1 : Int) = x at *
  generalize hyy : (if l = 0 then 0 else if t = true then -1 else 1 : Int) = y at *
  obtain ⟨hx2,hx3⟩:=hx2
  obtain ⟨hy2,hy3⟩:=hy2
  have hxy : ¬ (x = 0 ∧ y = 0):=fun h=>hf ⟨hx.1 h.1,hy.1 h.2⟩
  clear hs ka kb hf hx hy
  repeat' (first|with_reducible refine q_0 ?_|((with_reducible first|refine q_q dbk_ok fun K hK=>?_|refine q_r dbk_ok fun K hK=>?_);simp (maxSteps:=2000000) only [go_sem,↓reduceIte,reduceCtorEq,Nat.reduceLeDiff,Nat.reduceLT,Nat.reduceBEq,Nat.reduceAdd,hxx,hyy];(repeat1' with_reducible first|apply And.intro|(intro _;try exact q_v)|(refine hK _ ?_;clear hK K))<;>(try (clear hK K;exact q_u)))|(with_reducible refine q_s ?_;(first|apply q_J|apply q_K|apply q_L|apply q_M|apply q_N|apply q_O)<;>try (intro _;try exact q_v)))
  all_goals first | omega | assumption | exact q_A rfl | skip
end Go.Proofs.YtgkajjifbcmoeaaGreatDoor

namespace Go.Proofs.NatL
set_option linter.unusedSimpArgs false
set_option linter.unusedVariables false
theorem ce_zero {neg : Bool} {num den : Nat} {exp ideal p r mn : Int} (hn : 0 < num) (hd : 0 < den) (hp : 1 ≤ p) (h : (fitCE neg num den exp ideal p r mn).1 = 0) : (fitCE neg num den exp ideal p r mn).2 ≤ tinyE p mn + 1:=by
 have key : fitEx num den exp p mn = tinyE p mn ∨ 0 < qE num den exp (fitEx num den exp p mn):=by
  by_cases hx : firstE num den exp - p + 1 ≤ tinyE p mn
  ·left; unfold fitEx; omega
  ·right
   refine q_pos hn hd ?_
   unfold fitEx; omega
 have hge:=rdE_ge neg num den exp (fitEx num den exp p mn) r
 have hnum : 0 < ptN num exp (fitEx num den exp p mn):=Nat.lt_of_lt_of_le hn (ptN_ge _ _ _)
 by_cases hs : sE num den exp (fitEx num den exp p mn) = 0
 ·-- exact: the coefficient is not none
  exfalso
  have hq : 0 < qE num den exp (fitEx num den exp p mn):=by
   unfold qE sE at *
   have:=Nat.div_add_mod (ptN num exp (fitEx num den exp p mn)) (ptD den exp (fitEx num den exp p mn))
   rw [hs] at this
   rcases Nat.eq_zero_or_pos (ptN num exp (fitEx num den exp p mn) / ptD den exp (fitEx num den exp p mn)) with h0 | h0
   ·rw [h0] at this; omega
   ·exact h0
  rw [ce_exact hs] at h
  have tpos : ∀ (k c : Nat) (e : Int),0 < c → 0 < (twd k c e).1:=by
   intro k
   induction k with
   | zero=>intro c e hc; exact hc
   | succ k ih =>
    intro c e hc
    unfold twd; split
    ·exact ih _ _ (by omega)
    ·exact hc
  have:=tpos (ideal - fitEx num den exp p mn).toNat _ (fitEx num den exp p mn) (show 0 < rdE neg num den exp (fitEx num den exp p mn) r by omega)
  omega
 ·by_cases hl : p < (ds (rdE neg num den exp (fitEx num den exp p mn) r) : Int)
  ·rw [ce_long hs hl] at h ⊢
   simp only at h ⊢
   rcases key with k | k
   ·omega
   ·have h1 : rdE neg num den exp (fitEx num den exp p mn) r < 10:=by omega
    have h2:=ds_le (n:=rdE neg num den exp (fitEx num den exp p mn) r) (k:=1) (by omega)
    omega
  ·rw [ce_short hs hl] at h ⊢
   simp only at h ⊢
   rcases key with k | k <;> omega
theorem fit_ok {neg : Bool} {num den : Nat} {exp ideal : Int} {c : Cx} (hd : 0 < den) (hc : OkC c) : OkD (fitD neg num den exp ideal c.p c.r c.mn c.mx):=by
 obtain ⟨c1,c2,c3,c4,c5,c6,c7,c8⟩:=hc
 have ht : tinyE c.p c.mn = c.mn - c.p + 1:=rfl
 by_cases h0 : num = 0
 ·rw [(fit_zero neg den exp ideal c.p c.r c.mn c.mx h0).1]
  exact .inl ⟨rfl,by simp only; omega,by simp only; omega,by simp⟩
 ·have hn : 0 < num:=by omega
  have hz:=ce_zero (neg:=neg) (num:=num) (den:=den) (exp:=exp) (ideal:=ideal) (p:=c.p) (r:=c.r) (mn:=c.mn) hn hd c1
  have hw:=ce_low (neg:=neg) (num:=num) (den:=den) (exp:=exp) (ideal:=ideal) (p:=c.p) (r:=c.r) (mn:=c.mn)
  have hl:=ce_len (neg:=neg) (num:=num) (den:=den) (exp:=exp) (ideal:=ideal) (p:=c.p) (r:=c.r) (mn:=c.mn) hn hd c1
  generalize hCE : fitCE neg num den exp ideal c.p c.r c.mn = CE at *
  obtain ⟨x,y⟩:=CE
  simp only at hz hw hl
  by_cases ho : 0 < x ∧ c.mx < (ds x : Int) - 1 + y
  ·rw [(fit_over hn hCE ho).1]
   unfold ovf
   split
   ·exact .inr (.inl ⟨rfl,rfl,rfl⟩)
   ·refine .inl ⟨rfl,by simp only; omega,by simp only; omega,?_⟩
    have : 10 ^ c.p.toNat ≤ 10 ^ 60:=Nat.pow_le_pow_right (by omega) (by omega)
    have h2 : (10 : Nat) ^ 60 < 10 ^ 120:=Nat.pow_lt_pow_right (by omega) (by omega)
    simp only; omega
  ·rw [(fit_fine hn hCE ho).1]
   refine .inl ⟨rfl,by simp only; omega,?_,lt120.2 (by simp only; omega)⟩
   simp only
   rcases Nat.eq_zero_or_pos x with h | h
   ·have:=hz h; omega
   ·have:=ds_pos.2 h
    have h2 : ¬ c.mx < (ds x : Int) - 1 + y:=fun h3=>ho ⟨h,h3⟩
    omega
end Go.Proofs.NatL

namespace Go.Proofs.NatL
set_option linter.unusedSimpArgs false
set_option linter.unusedVariables false
def stD (neg : Bool) (n : Nat) (exp : Int) (inex : Bool) (ideal p r mx : Int) : Dc:=if stO n exp inex ideal p mx then ovf neg p r mx else ⟨0,neg,(stCE n exp inex ideal p).1,(stCE n exp inex ideal p).2⟩
def stS (n : Nat) (exp first : Int) (inex : Bool) (ideal p mn mx : Int) : Int:=if stO n exp inex ideal p mx then 9 else (if first < mn then 2 else 0) + (if inex then 1 + (if first < mn then 4 else 0) else 0)
theorem fit_st {neg : Bool} {num den : Nat} (hn : 0 < num) (hd : 0 < den) {exp ideal p r mn mx : Int} (hp : 1 ≤ p) :
  fitD neg num den exp ideal p r mn mx = stD neg (rdE neg num den exp (fitEx num den exp p mn) r) (fitEx num den exp p mn) (decide (sE num den exp (fitEx num den exp p mn) ≠ 0)) ideal p r mx ∧
  fitS neg num den exp ideal p r mn mx = stS (rdE neg num den exp (fitEx num den exp p mn) r) (fitEx num den exp p mn) (firstE num den exp) (decide (sE num den exp (fitEx num den exp p mn) ≠ 0)) ideal p mn mx:=by
 have h0 : ¬ num = 0:=by omega
 have hce : fitCE neg num den exp ideal p r mn = stCE (rdE neg num den exp (fitEx num den exp p mn) r) (fitEx num den exp p mn) (decide (sE num den exp (fitEx num den exp p mn) ≠ 0)) ideal p:=by
  unfold stCE
  by_cases hs : sE num den exp (fitEx num den exp p mn) = 0
  ·have hl:=fit_exact_len (neg:=neg) (r:=r) hn hd hp hs (ideal - fitEx num den exp p mn).toNat
   rw [ce_exact hs,decide_eq_false (by simpa using hs)]
   simp only [Bool.false_eq_true,if_false]
   rw [if_neg (by omega)]
  ·rw [decide_eq_true (by simpa using hs)]
   simp only [if_true]
   by_cases h2 : p < (ds (rdE neg num den exp (fitEx num den exp p mn) r) : Int)
   ·rw [ce_long hs h2,if_pos h2]
   ·rw [ce_short hs h2,if_neg h2]
 unfold fitD fitS stD stS stO
 rw [if_neg h0,if_neg h0,hce]
 refine ⟨rfl,?_⟩
 congr 1
 ·unfold sigE
  by_cases hs : sE num den exp (fitEx num den exp p mn) = 0
  ·rw [if_pos hs,decide_eq_false (by simpa using hs)]; rfl
  ·rw [if_neg hs,decide_eq_true (by simpa using hs)]; rfl
end Go.Proofs.NatL
namespace Go.Proofs.YtgkajjifbcmoeaaGreatDoor
set_option linter.unusedSimpArgs false
set_option linter.unusedVariables false
open Go.Abs Go.Proofs.NatL

def eb8 : Cfg:=listT [(106,ofCT),(15,smallCT),(70,limbsCT)] [34]
theorem eb8_ok : TblOk Tryz.prog eb8:=listE_ok (by simp only [List.mem_singleton,forall_eq]; exact flt) ⟨⟨db6,db6_ok,rfl⟩,⟨nt7,nt7_ok,rfl⟩,⟨ch1,ch1_ok,rfl⟩,trivial⟩
attribute [go_sem] eb8
def valueCT : CT:=mkCT [nDc] false fun l K=>match l with
 | [.inr [.i .i64 k,.b s,.b t,.ints .u32 xs,.i .i64 e]]=>(InB 4294967296 xs ∧ xs.length ≤ 600) ∧ K (.g (gE s (V 4294967296 xs) 1 e))
 | _=>False
def es1 : Cfg:=addT 67 valueCT cf0
theorem es1_ok : TblOk Tryz.prog es1:=q_I cf0_ok Tryz.func67 fun l K h=>by
 split at h
 ·rename_i k s t xs e
  obtain ⟨⟨h1,h2⟩,h⟩:=h
  refine ⟨_,?_,h⟩
  have t0 : (1 : Int).toNat = 1:=rfl
  (refine q_H Tryz.func67 (fun F=>?_); simp only [q_z,q_y,Tryz.ntmps67,Tryz.results67])
  repeat' (first|with_reducible refine q_0 ?_|((with_reducible first|refine q_q eb8_ok fun K hK=>?_|refine q_r eb8_ok fun K hK=>?_);simp (maxSteps:=2000000) only [go_sem,↓reduceIte,reduceCtorEq,Nat.reduceLeDiff,Nat.reduceLT,Nat.reduceBEq,Nat.reduceAdd,t0];(repeat1' with_reducible first|apply And.intro|(intro _;try exact q_v)|(refine hK _ ?_;clear hK K))<;>(try (clear hK K;exact q_u)))|(with_reducible refine q_s ?_;(first|apply q_J|apply q_K|apply q_L|apply q_M|apply q_N|apply q_O)<;>try (intro _;try exact q_v)))
  all_goals first | omega | assumption | exact q_A rfl | skip
 ·exact h.elim
def rfiniteCT : CT:=mkCT [.inl none,.inl (some (.ints .i64 []))] false fun l K=>match l with
 | [.inl (.b s),.inl (.ints .i64 xs),.inl (.i .i64 e)]=>(InB 65536 xs ∧ Trd xs ∧ xs.length ≤ 5000) ∧ K (.g (gDc ⟨0,s,V 65536 xs,e⟩))
 | _=>False
def es2 : Cfg:=addT 14 rfiniteCT cf0
theorem es2_ok : TblOk Tryz.prog es2:=q_I cf0_ok Tryz.func14 fun l K h=>by
 split at h
 ·rename_i s xs e
  obtain ⟨⟨h1,h2,h3⟩,h⟩:=h
  refine ⟨_,?_,h⟩
  (refine q_H Tryz.func14 (fun F=>?_); simp only [q_z,q_y,Tryz.ntmps14,Tryz.results14])
  repeat' (first|with_reducible refine q_0 ?_|((with_reducible first|refine q_q eb8_ok fun K hK=>?_|refine q_r eb8_ok fun K hK=>?_);simp (maxSteps:=2000000) only [go_sem,↓reduceIte,reduceCtorEq,Nat.reduceLeDiff,Nat.reduceLT,Nat.reduceBEq,Nat.reduceAdd];(repeat1' with_reducible first|apply And.intro|(intro _;try exact q_v)|(refine hK _ ?_;clear hK K))<;>(try (clear hK K;exact q_u)))|(with_reducible refine q_s ?_;(first|apply q_J|apply q_K|apply q_L|apply q_M|apply q_N|apply q_O)<;>try (intro _;try exact q_v)))
  all_goals first | omega | assumption | exact q_A rfl | skip
 ·exact h.elim
def es3 : Cfg:=addT 111 infiniteCT cf0
theorem es3_ok : TblOk Tryz.prog es3:=q_I cf0_ok Tryz.func111 fun l K h=>by
 split at h
 ·refine ⟨_,?_,h⟩
  (refine q_H Tryz.func111 (fun F=>?_); simp only [q_z,q_y,Tryz.ntmps111,Tryz.results111])
  repeat' (first|with_reducible refine q_0 ?_|((with_reducible first|refine q_q eb8_ok fun K hK=>?_|refine q_r eb8_ok fun K hK=>?_);simp (maxSteps:=2000000) only [go_sem,↓reduceIte,reduceCtorEq,Nat.reduceLeDiff,Nat.reduceLT,Nat.reduceBEq,Nat.reduceAdd];(repeat1' with_reducible first|apply And.intro|(intro _;try exact q_v)|(refine hK _ ?_;clear hK K))<;>(try (clear hK K;exact q_u)))|(with_reducible refine q_s ?_;(first|apply q_J|apply q_K|apply q_L|apply q_M|apply q_N|apply q_O)<;>try (intro _;try exact q_v)))
  all_goals first | omega | exact q_B [nDc] rfl rfl | exact q_A rfl | skip
 ·exact h.elim
def es4 : Cfg:=addT 110 noneDCT cf0
theorem es4_ok : TblOk Tryz.prog es4:=q_I cf0_ok Tryz.func110 fun l K h=>by
 split at h
 ·refine ⟨_,?_,h⟩
  (refine q_H Tryz.func110 (fun F=>?_); simp only [q_z,q_y,Tryz.ntmps110,Tryz.results110])
  repeat' (first|with_reducible refine q_0 ?_|((with_reducible first|refine q_q eb8_ok fun K hK=>?_|refine q_r eb8_ok fun K hK=>?_);simp (maxSteps:=2000000) only [go_sem,↓reduceIte,reduceCtorEq,Nat.reduceLeDiff,Nat.reduceLT,Nat.reduceBEq,Nat.reduceAdd];(repeat1' with_reducible first|apply And.intro|(intro _;try exact q_v)|(refine hK _ ?_;clear hK K))<;>(try (clear hK K;exact q_u)))|(with_reducible refine q_s ?_;(first|apply q_J|apply q_K|apply q_L|apply q_M|apply q_N|apply q_O)<;>try (intro _;try exact q_v)))
  all_goals first | omega | exact q_B [nDc] rfl rfl | exact q_A rfl | skip
 ·exact h.elim
def es5 : Cfg:=addT 114 isZeroCT cf0
theorem es5_ok : TblOk Tryz.prog es5:=q_I cf0_ok Tryz.func114 fun l K h=>by
 split at h
 ·rename_i k s t xs e
  refine ⟨_,Ret.plain ?_ rfl,h⟩
  by_cases h : k = 0
  ·(refine q_H Tryz.func114 (fun F=>?_); simp only [q_z,q_y,Tryz.ntmps114,Tryz.results114])
   repeat' (first|with_reducible refine q_0 ?_|((with_reducible first|refine q_q eb8_ok fun K hK=>?_|refine q_r eb8_ok fun K hK=>?_);simp (maxSteps:=2000000) only [go_sem,↓reduceIte,reduceCtorEq,Nat.reduceLeDiff,Nat.reduceLT,Nat.reduceBEq,Nat.reduceAdd];(repeat1' with_reducible first|apply And.intro|(intro _;try exact q_v)|(refine hK _ ?_;clear hK K))<;>(try (clear hK K;exact q_u)))|(with_reducible refine q_s ?_;(first|apply q_J|apply q_K|apply q_L|apply q_M|apply q_N|apply q_O)<;>try (intro _;try exact q_v)))
   all_goals first | omega | exact q_A (by simp [resAV,q_y,h]) | skip
  ·(refine q_H Tryz.func114 (fun F=>?_); simp only [q_z,q_y,Tryz.ntmps114,Tryz.results114])
   repeat' (first|with_reducible refine q_0 ?_|((with_reducible first|refine q_q eb8_ok fun K hK=>?_|refine q_r eb8_ok fun K hK=>?_);simp (maxSteps:=2000000) only [go_sem,↓reduceIte,reduceCtorEq,Nat.reduceLeDiff,Nat.reduceLT,Nat.reduceBEq,Nat.reduceAdd];(repeat1' with_reducible first|apply And.intro|(intro _;try exact q_v)|(refine hK _ ?_;clear hK K))<;>(try (clear hK K;exact q_u)))|(with_reducible refine q_s ?_;(first|apply q_J|apply q_K|apply q_L|apply q_M|apply q_N|apply q_O)<;>try (intro _;try exact q_v)))
   all_goals first | omega | exact q_A (by simp [resAV,q_y,h]) | skip
 ·exact h.elim
def leastCT : CT:=mkCT [] true fun l K=>match l with
 | [.inl (.i .i64 a),.inl (.i .i64 b)]=>K (.c (.i .i64 (min a b)))
 | _=>False
def es6 : Cfg:=addT 115 leastCT cf0
theorem es6_ok : TblOk Tryz.prog es6:=q_I cf0_ok Tryz.func115 fun l K h=>by
 split at h
 ·rename_i a b
  refine ⟨_,Ret.plain ?_ rfl,h⟩
  by_cases h : a < b
  ·have e : min a b = a:=by omega
   rw [e]
   (refine q_H Tryz.func115 (fun F=>?_); simp only [q_z,q_y,Tryz.ntmps115,Tryz.results115])
   repeat' (first|with_reducible refine q_0 ?_|((with_reducible first|refine q_q eb8_ok fun K hK=>?_|refine q_r eb8_ok fun K hK=>?_);simp (maxSteps:=2000000) only [go_sem,↓reduceIte,reduceCtorEq,Nat.reduceLeDiff,Nat.reduceLT,Nat.reduceBEq,Nat.reduceAdd];(repeat1' with_reducible first|apply And.intro|(intro _;try exact q_v)|(refine hK _ ?_;clear hK K))<;>(try (clear hK K;exact q_u)))|(with_reducible refine q_s ?_;(first|apply q_J|apply q_K|apply q_L|apply q_M|apply q_N|apply q_O)<;>try (intro _;try exact q_v)))
   all_goals first | omega | exact q_A rfl | skip
  ·have e : min a b = b:=by omega
   rw [e]
   (refine q_H Tryz.func115 (fun F=>?_); simp only [q_z,q_y,Tryz.ntmps115,Tryz.results115])
   repeat' (first|with_reducible refine q_0 ?_|((with_reducible first|refine q_q eb8_ok fun K hK=>?_|refine q_r eb8_ok fun K hK=>?_);simp (maxSteps:=2000000) only [go_sem,↓reduceIte,reduceCtorEq,Nat.reduceLeDiff,Nat.reduceLT,Nat.reduceBEq,Nat.reduceAdd];(repeat1' with_reducible first|apply And.intro|(intro _;try exact q_v)|(refine hK _ ?_;clear hK K))<;>(try (clear hK K;exact q_u)))|(with_reducible refine q_s ?_;(first|apply q_J|apply q_K|apply q_L|apply q_M|apply q_N|apply q_O)<;>try (intro _;try exact q_v)))
   all_goals first | omega | exact q_A rfl | skip
 ·exact h.elim
attribute [go_sem] valueCT rfiniteCT leastCT
theorem sgz_n {z : Int} (h : z ≠ 0) (c : Bool) : sgz z c = decide (z < 0):=by unfold sgz; rw [if_neg h]
def eb9 : Cfg:=listT [(116,rpartsCT),(189,(rI2CT 1048576 addF)),(15,smallCT)] [34]
theorem eb9_ok : TblOk Tryz.prog eb9:=listE_ok (by simp only [List.mem_singleton,forall_eq]; exact flt) ⟨⟨er2,er2_ok,rfl⟩,⟨jt10,jt10_ok,rfl⟩,⟨nt7,nt7_ok,rfl⟩,trivial⟩
attribute [go_sem] eb9
set_option maxHeartbeats 3200000 in
theorem rsum_ret (s t : Bool) (m n : Nat) (e f : Int) (fl : Bool) (h : smP m e n f) :
  Ret Tryz.prog 141 false [.inr (gE s m 1 e),.inr (gE t n 1 f),.inl (.b fl)] (.g (gE (sumB s m e t n f fl) (sumZ s m e t n f).natAbs 1 (min e f))):=by
 have hlen:=sumZ_len (s:=s) (t:=t) h
 obtain ⟨k1,k2⟩:=smP_len h
 obtain ⟨h1,h2,h3,h4,h5,h6,h7,h8⟩:=h
 have t0 : (1 : Int).toNat = 1:=rfl
 have hZ : sumZ s m e t n f = sg s (m * 10 ^ (e - min e f).toNat) + sg t (n * 10 ^ (f - min e f).toNat):=rfl
 have hB : sumB s m e t n f fl = if sumZ s m e t n f = 0 then (if s = t then s else fl) else decide (sumZ s m e t n f < 0):=rfl
 have one1:=one_ds
 obtain ⟨a1,a2⟩:=pt_ge (num:=m) (den:=1) (e:=e) (x:=min e f) (by omega)
 obtain ⟨a3,a4⟩:=pt_ge (num:=n) (den:=1) (e:=f) (x:=min e f) (by omega)
 have l1:=ds_65b (n:=m * 10 ^ (e - min e f).toNat) (by omega)
 have l2:=ds_65b (n:=n * 10 ^ (f - min e f).toNat) (by omega)
 generalize hM : m * 10 ^ (e - min e f).toNat = M at *
 generalize hN : n * 10 ^ (f - min e f).toNat = N at *
 generalize hX : min e f = X at *
 rw [hB]
 have l3:=ds_65b (n:=(sumZ s m e t n f).natAbs) (by omega)
 have d1 : (dg 65536 1).length ≤ 1:=by decide
 generalize hz : sumZ s m e t n f = Z at *
 have hZ':=hZ.symm
 have z0:=dg65_nil_iff Z.natAbs
 by_cases hZ0 : Z = 0
 ·rw [if_pos hZ0]
  have z1:=z0.2 (by omega)
  have q0 : dg 65536 Z.natAbs = []:=by rw [hZ0]; rfl
  have q1 : ∀ c,sgz Z c = c:=fun c=>by rw [hZ0]; rfl
  by_cases hfe : f < e
  ·have hx : X = f:=by omega
   subst hx
   cases s <;> cases t <;> cases fl
   all_goals
    (refine q_H Tryz.func141 (fun F=>?_); simp only [q_z,q_y,Tryz.ntmps141,Tryz.results141])
    repeat' (first|with_reducible refine q_0 ?_|((with_reducible first|refine q_q eb9_ok fun K hK=>?_|refine q_r eb9_ok fun K hK=>?_);simp (maxSteps:=2000000) only [go_sem,↓reduceIte,reduceCtorEq,Nat.reduceLeDiff,Nat.reduceLT,Nat.reduceBEq,Nat.reduceAdd,V65,sv65d,a1,a2,a3,a4,hZ',t0,q1];(repeat1' with_reducible first|apply And.intro|(intro _;try exact q_v)|(refine hK _ ?_;clear hK K))<;>(try (clear hK K;exact q_u)))|(with_reducible refine q_s ?_;(first|apply q_J|apply q_K|apply q_L|apply q_M|apply q_N|apply q_O)<;>try (intro _;try exact q_v)))
    all_goals first | omega | assumption | exact q_A rfl | skip
  ·have hx : X = e:=by omega
   subst hx
   cases s <;> cases t <;> cases fl
   all_goals
    (refine q_H Tryz.func141 (fun F=>?_); simp only [q_z,q_y,Tryz.ntmps141,Tryz.results141])
    repeat' (first|with_reducible refine q_0 ?_|((with_reducible first|refine q_q eb9_ok fun K hK=>?_|refine q_r eb9_ok fun K hK=>?_);simp (maxSteps:=2000000) only [go_sem,↓reduceIte,reduceCtorEq,Nat.reduceLeDiff,Nat.reduceLT,Nat.reduceBEq,Nat.reduceAdd,V65,sv65d,a1,a2,a3,a4,hZ',t0,q1];(repeat1' with_reducible first|apply And.intro|(intro _;try exact q_v)|(refine hK _ ?_;clear hK K))<;>(try (clear hK K;exact q_u)))|(with_reducible refine q_s ?_;(first|apply q_J|apply q_K|apply q_L|apply q_M|apply q_N|apply q_O)<;>try (intro _;try exact q_v)))
    all_goals first | omega | assumption | exact q_A rfl | skip
 ·rw [if_neg hZ0]
  have z1 : ¬ ((dg 65536 Z.natAbs).length : Int) = 0:=fun h=>hZ0 (by have:=z0.1 h; omega)
  have q1:=sgz_n hZ0
  by_cases hfe : f < e
  ·have hx : X = f:=by omega
   subst hx
   (refine q_H Tryz.func141 (fun F=>?_); simp only [q_z,q_y,Tryz.ntmps141,Tryz.results141])
   repeat' (first|with_reducible refine q_0 ?_|((with_reducible first|refine q_q eb9_ok fun K hK=>?_|refine q_r eb9_ok fun K hK=>?_);simp (maxSteps:=2000000) only [go_sem,↓reduceIte,reduceCtorEq,Nat.reduceLeDiff,Nat.reduceLT,Nat.reduceBEq,Nat.reduceAdd,V65,sv65d,a1,a2,a3,a4,hZ',t0,q1];(repeat1' with_reducible first|apply And.intro|(intro _;try exact q_v)|(refine hK _ ?_;clear hK K))<;>(try (clear hK K;exact q_u)))|(with_reducible refine q_s ?_;(first|apply q_J|apply q_K|apply q_L|apply q_M|apply q_N|apply q_O)<;>try (intro _;try exact q_v)))
   all_goals first | omega | assumption | exact q_A rfl | skip
  ·have hx : X = e:=by omega
   subst hx
   (refine q_H Tryz.func141 (fun F=>?_); simp only [q_z,q_y,Tryz.ntmps141,Tryz.results141])
   repeat' (first|with_reducible refine q_0 ?_|((with_reducible first|refine q_q eb9_ok fun K hK=>?_|refine q_r eb9_ok fun K hK=>?_);simp (maxSteps:=2000000) only [go_sem,↓reduceIte,reduceCtorEq,Nat.reduceLeDiff,Nat.reduceLT,Nat.reduceBEq,Nat.reduceAdd,V65,sv65d,a1,a2,a3,a4,hZ',t0,q1];(repeat1' with_reducible first|apply And.intro|(intro _;try exact q_v)|(refine hK _ ?_;clear hK K))<;>(try (clear hK K;exact q_u)))|(with_reducible refine q_s ?_;(first|apply q_J|apply q_K|apply q_L|apply q_M|apply q_N|apply q_O)<;>try (intro _;try exact q_v)))
   all_goals first | omega | assumption | exact q_A rfl | skip
def rsumCT : CT:=mkCT [nE,nE,.inl none] false fun l K=>match l with
 | [.inr [.b s,.ints .i64 xs,.ints .i64 ua,.i .i64 e],.inr [.b t,.ints .i64 ys,.ints .i64 ub,.i .i64 f],.inl (.b fl)] =>
   (InB 65536 xs ∧ Trd xs ∧ InB 65536 ys ∧ Trd ys ∧ ua = dg 65536 1 ∧ ub = dg 65536 1 ∧ smP (V 65536 xs) e (V 65536 ys) f) ∧
   K (.g (gE (sumB s (V 65536 xs) e t (V 65536 ys) f fl) (sumZ s (V 65536 xs) e t (V 65536 ys) f).natAbs 1 (min e f)))
 | _=>False
def es8 : Cfg:=addT 141 rsumCT cf0
theorem es8_ok : TblOk Tryz.prog es8:=q_I cf0_ok Tryz.func141 fun l K h=>by
 split at h
 ·rename_i s xs ua e t ys ub f fl
  obtain ⟨⟨h1,h2,h3,h4,rfl,rfl,h5⟩,h⟩:=h
  have e1:=dg_V 65536 (by omega) xs h1 h2
  have e2:=dg_V 65536 (by omega) ys h3 h4
  have:=rsum_ret s t _ _ e f fl h5
  rw [gE,gE,e1,e2] at this
  exact ⟨_,this,h⟩
 ·exact h.elim
attribute [go_sem] rsumCT
end Go.Proofs.YtgkajjifbcmoeaaGreatDoor

namespace Go.Abs
set_option linter.unusedSimpArgs false
set_option linter.unusedVariables false
theorem join_told {Q : Exit → St → Prop} {st : St} {ι : Type} {mid : ι → St} (i : ι) (h : FitP st (mid i)) : Join mid Q .normal st:=⟨i,h⟩
end Go.Abs
namespace Go.Proofs.YtgkajjifbcmoeaaGreatDoor
set_option linter.unusedSimpArgs false
set_option linter.unusedVariables false
open Go.Abs Go.Proofs.NatL

def eba : Cfg:=listT [(121,halveCT),(105,figCT),(56,rtenCT),(15,smallCT),(181,(rnumCT (fun xs ys=>V 65536 ys ≤ V 65536 xs) (· - ·))),(14,rfiniteCT),(111,infiniteCT)] [34]
theorem eba_ok : TblOk Tryz.prog eba:=listE_ok (by simp only [List.mem_singleton,forall_eq]; exact flt) ⟨⟨rg1,rg1_ok,rfl⟩,⟨nt11,nt11_ok,rfl⟩,⟨er1,er1_ok,rfl⟩,⟨nt7,nt7_ok,rfl⟩,⟨db10,db10_ok,rfl⟩,⟨es2,es2_ok,rfl⟩,⟨es3,es3_ok,rfl⟩,trivial⟩
attribute [go_sem] eba
abbrev cx4 (p r mn mx : Int) : List AV:=[.c (.i .i64 p),.c (.i .i64 r),.c (.i .i64 mn),.c (.i .i64 mx)]
attribute [go_sem] cx4
set_option maxRecDepth 100000 in
set_option maxHeartbeats 6400000 in
theorem settle_ret (s : Bool) (n : Nat) (e f : Int) (inex : Bool) (ideal p r mn mx : Int) (hn : ds n ≤ 5000) (he : -10000 ≤ e ∧ e ≤ 10000) (hi : -10000 ≤ ideal ∧ ideal ≤ 10000) (hc : okCx p r mn mx = true) :
  Ret Tryz.prog 132 false [.inl (.b s),.inl (.ints .i64 (dg 65536 n)),.inl (.i .i64 e),.inl (.i .i64 f),.inl (.b inex),.inl (.i .i64 ideal),.inr [.i .i64 p,.i .i64 r,.i .i64 mn,.i .i64 mx]]
   (.t [.inr (gDc (stD s n e inex ideal p r mx)),.inl (.i .i64 (stS n e f inex ideal p mn mx))]):=by
 obtain ⟨c1,c2,c3,c4,c5,c6,c7,c8⟩:=okCx_p hc
 have ten : (10 : Int).toNat = 10:=rfl
 have t0 : (1 : Int).toNat = 1:=rfl
 have hl:=ds_65b (n:=n) (by omega)
 obtain ⟨e1,e2⟩:=he
 obtain ⟨i1,i2⟩:=hi
 generalize hsg : (if f < mn then (2 : Int) else 0) + (if inex then 1 + (if f < mn then (4 : Int) else 0) else 0) = sg0
 have hsS : stS n e f inex ideal p mn mx = if stO n e inex ideal p mx then 9 else sg0:=by rw [← hsg]; rfl
 rw [hsS]
 have hq : stCE n e inex ideal p = (if p < (ds (if inex then (n,e) else twd (ideal - e).toNat n e).1 : Int) then ((if inex then (n,e) else twd (ideal - e).toNat n e).1 / 10,(if inex then (n,e) else twd (ideal - e).toNat n e).2 + 1) else (if inex then (n,e) else twd (ideal - e).toNat n e)):=rfl
 have hqb : ds (if inex then (n,e) else twd (ideal - e).toNat n e).1 ≤ 5000 ∧ -10000 ≤ (if inex then (n,e) else twd (ideal - e).toNat n e).2 ∧ (if inex then (n,e) else twd (ideal - e).toNat n e).2 ≤ 20000:=by
  cases inex
  ·simp only [Bool.false_eq_true,if_false]
   have w1:=(twd_le (ideal - e).toNat n e)
   have w2:=twd_exp (ideal - e).toNat n e
   have w3:=twd_len (ideal - e).toNat n e
   omega
  ·simp only [if_true]; omega
 generalize hQ : (if inex then (n,e) else twd (ideal - e).toNat n e) = Q at *
 have hO : stO n e inex ideal p mx ↔ (0 < (stCE n e inex ideal p).1 ∧ mx < (ds (stCE n e inex ideal p).1 : Int) - 1 + (stCE n e inex ideal p).2):=Iff.rfl
 unfold stD
 generalize hCE : stCE n e inex ideal p = CE at *
 obtain ⟨Cn,Ce⟩:=CE
 simp only at hO hq ⊢
 (refine q_H Tryz.func132 (fun F=>?_); simp only [q_z,q_y,Tryz.ntmps132,Tryz.results132])
 refine seq_cut4 (ι:=Unit) (fun _=>⟨124,[(0,.c (.b s)),(1,.c (.ints .i64 (dg 65536 n))),(2,.c (.i .i64 e)),(4,.c (.b inex)),(5,.c (.i .i64 ideal)),(13,.bx 0 0),(14,.bx 1 0),(16,.c (.i .i64 sg0))],⟨[(1,z5),(0,cx4 p r mn mx)],[],[]⟩,2⟩) (fun Y hY=>?_) ?_
 ·by_cases hf : f < mn
  ·simp only [if_pos hf] at hsg
   cases inex
   ·simp only [Bool.false_eq_true,if_false] at hsg
    repeat' (first|with_reducible refine q_0 ?_|((with_reducible first|refine q_q eba_ok fun K hK=>?_|refine q_r eba_ok fun K hK=>?_);simp (maxSteps:=2000000) only [go_sem,↓reduceIte,reduceCtorEq,Nat.reduceLeDiff,Nat.reduceLT,Nat.reduceBEq,Nat.reduceAdd];(repeat1' with_reducible first|apply And.intro|(intro _;try exact q_v)|(refine hK _ ?_;clear hK K))<;>(try (clear hK K;exact q_u)))|(with_reducible refine q_s ?_;(first|apply q_J|apply q_K|apply q_L|apply q_M|apply q_N|apply q_O)<;>try (intro _;try exact q_v)))
    all_goals first | omega | exact cut_fit hY () (by subst hsg; exact q_D) | skip
   ·simp only [if_true] at hsg
    repeat' (first|with_reducible refine q_0 ?_|((with_reducible first|refine q_q eba_ok fun K hK=>?_|refine q_r eba_ok fun K hK=>?_);simp (maxSteps:=2000000) only [go_sem,↓reduceIte,reduceCtorEq,Nat.reduceLeDiff,Nat.reduceLT,Nat.reduceBEq,Nat.reduceAdd];(repeat1' with_reducible first|apply And.intro|(intro _;try exact q_v)|(refine hK _ ?_;clear hK K))<;>(try (clear hK K;exact q_u)))|(with_reducible refine q_s ?_;(first|apply q_J|apply q_K|apply q_L|apply q_M|apply q_N|apply q_O)<;>try (intro _;try exact q_v)))
    all_goals first | omega | exact cut_fit hY () (by subst hsg; exact q_D) | skip
  ·simp only [if_neg hf] at hsg
   cases inex
   ·simp only [Bool.false_eq_true,if_false] at hsg
    repeat' (first|with_reducible refine q_0 ?_|((with_reducible first|refine q_q eba_ok fun K hK=>?_|refine q_r eba_ok fun K hK=>?_);simp (maxSteps:=2000000) only [go_sem,↓reduceIte,reduceCtorEq,Nat.reduceLeDiff,Nat.reduceLT,Nat.reduceBEq,Nat.reduceAdd];(repeat1' with_reducible first|apply And.intro|(intro _;try exact q_v)|(refine hK _ ?_;clear hK K))<;>(try (clear hK K;exact q_u)))|(with_reducible refine q_s ?_;(first|apply q_J|apply q_K|apply q_L|apply q_M|apply q_N|apply q_O)<;>try (intro _;try exact q_v)))
    all_goals first | omega | exact cut_fit hY () (by subst hsg; exact q_D) | skip
   ·simp only [if_true] at hsg
    repeat' (first|with_reducible refine q_0 ?_|((with_reducible first|refine q_q eba_ok fun K hK=>?_|refine q_r eba_ok fun K hK=>?_);simp (maxSteps:=2000000) only [go_sem,↓reduceIte,reduceCtorEq,Nat.reduceLeDiff,Nat.reduceLT,Nat.reduceBEq,Nat.reduceAdd];(repeat1' with_reducible first|apply And.intro|(intro _;try exact q_v)|(refine hK _ ?_;clear hK K))<;>(try (clear hK K;exact q_u)))|(with_reducible refine q_s ?_;(first|apply q_J|apply q_K|apply q_L|apply q_M|apply q_N|apply q_O)<;>try (intro _;try exact q_v)))
    all_goals first | omega | exact cut_fit hY () (by subst hsg; exact q_D) | skip
 intro _
 clear hsg
 refine seq_join (ι:=Unit) (fun _=>⟨124,[(0,.c (.b s)),(1,.c (.ints .i64 (dg 65536 Q.1))),(2,.c (.i .i64 Q.2)),(13,.bx 0 0),(14,.bx 1 0),(16,.c (.i .i64 sg0))],⟨[(1,z5),(0,cx4 p r mn mx)],[],[]⟩,2⟩) ?_ ?_
 ·with_reducible apply q_e
  refine q_G (ι:={ q : Nat × Int // (if inex then q else twd (ideal - q.2).toNat q.1 q.2) = Q ∧ ds q.1 ≤ 5000 ∧ -10000 ≤ q.2 ∧ q.2 ≤ 20000 }) (fun q=>⟨124,[(0,.c (.b s)),(1,.c (.ints .i64 (dg 65536 q.1.1))),(2,.c (.i .i64 q.1.2)),(4,.c (.b inex)),(5,.c (.i .i64 ideal)),(13,.bx 0 0),(14,.bx 1 0),(16,.c (.i .i64 sg0))],⟨[(1,z5),(0,cx4 p r mn mx)],[],[]⟩,2⟩) (fun q=>(ideal - q.1.2).toNat) ⟨(n,e),hQ,hn,by simp only; omega,by simp only; omega⟩ ?_ ?_
  ·exact q_D
  clear hqb hq hO
  rintro ⟨⟨k,x⟩,g1,g2,g3,g4⟩
  simp only at g1 g2 g3 g4 ⊢
  have lk:=ds_65b (n:=k) (by omega)
  cases inex
  ·simp only [Bool.false_eq_true,if_false] at g1
   by_cases hx : x < ideal
   ·obtain ⟨j,hj⟩ : ∃ j,(ideal - x).toNat = j + 1:=⟨(ideal - x).toNat - 1,by omega⟩
    have hj2 : (ideal - (x + 1)).toNat = j:=by omega
    rw [hj] at g1
    have ht : twd (j + 1) k x = if k % 10 = 0 then twd j (k / 10) (x + 1) else (k,x):=rfl
    rw [ht] at g1
    by_cases hk : k % 10 = 0
    ·rw [if_pos hk] at g1
     have hd:=ds_div10 k
     have hk2 : ((k % 10 : Nat) : Int) = 0:=by omega
     repeat' (first|with_reducible refine q_0 ?_|((with_reducible first|refine q_q eba_ok fun K hK=>?_|refine q_r eba_ok fun K hK=>?_);simp (maxSteps:=2000000) only [go_sem,↓reduceIte,reduceCtorEq,Nat.reduceLeDiff,Nat.reduceLT,Nat.reduceBEq,Nat.reduceAdd,V65,ten,hk2];(repeat1' with_reducible first|apply And.intro|(intro _;try exact q_v)|(refine hK _ ?_;clear hK K))<;>(try (clear hK K;exact q_u)))|(with_reducible refine q_s ?_;(first|apply q_J|apply q_K|apply q_L|apply q_M|apply q_N|apply q_O)<;>try (intro _;try exact q_v)))
     all_goals first | omega | skip
     refine q_F ⟨(k / 10,x + 1),by simp only [Bool.false_eq_true,if_false]; rw [hj2]; exact g1,by simp only; omega,by simp only; omega,by simp only; omega⟩ ?_ (by simp only; omega)
     exact q_D
    ·rw [if_neg hk] at g1
     subst g1
     have hk2 : ¬ ((k % 10 : Nat) : Int) = 0:=by omega
     repeat' (first|with_reducible refine q_0 ?_|((with_reducible first|refine q_q eba_ok fun K hK=>?_|refine q_r eba_ok fun K hK=>?_);simp (maxSteps:=2000000) only [go_sem,↓reduceIte,reduceCtorEq,Nat.reduceLeDiff,Nat.reduceLT,Nat.reduceBEq,Nat.reduceAdd,V65,ten];(repeat1' with_reducible first|apply And.intro|(intro _;try exact q_v)|(refine hK _ ?_;clear hK K))<;>(try (clear hK K;exact q_u)))|(with_reducible refine q_s ?_;(first|apply q_J|apply q_K|apply q_L|apply q_M|apply q_N|apply q_O)<;>try (intro _;try exact q_v)))
     all_goals first | omega | exact join_told () q_D | skip
   ·have hj : (ideal - x).toNat = 0:=by omega
    rw [hj] at g1
    have ht : twd 0 k x = (k,x):=rfl
    rw [ht] at g1
    subst g1
    repeat' (first|with_reducible refine q_0 ?_|((with_reducible first|refine q_q eba_ok fun K hK=>?_|refine q_r eba_ok fun K hK=>?_);simp (maxSteps:=2000000) only [go_sem,↓reduceIte,reduceCtorEq,Nat.reduceLeDiff,Nat.reduceLT,Nat.reduceBEq,Nat.reduceAdd];(repeat1' with_reducible first|apply And.intro|(intro _;try exact q_v)|(refine hK _ ?_;clear hK K))<;>(try (clear hK K;exact q_u)))|(with_reducible refine q_s ?_;(first|apply q_J|apply q_K|apply q_L|apply q_M|apply q_N|apply q_O)<;>try (intro _;try exact q_v)))
    all_goals first | omega | exact join_told () q_D | skip
  ·simp only [if_true] at g1
   subst g1
   repeat' (first|with_reducible refine q_0 ?_|((with_reducible first|refine q_q eba_ok fun K hK=>?_|refine q_r eba_ok fun K hK=>?_);simp (maxSteps:=2000000) only [go_sem,↓reduceIte,reduceCtorEq,Nat.reduceLeDiff,Nat.reduceLT,Nat.reduceBEq,Nat.reduceAdd];(repeat1' with_reducible first|apply And.intro|(intro _;try exact q_v)|(refine hK _ ?_;clear hK K))<;>(try (clear hK K;exact q_u)))|(with_reducible refine q_s ?_;(first|apply q_J|apply q_K|apply q_L|apply q_M|apply q_N|apply q_O)<;>try (intro _;try exact q_v)))
   all_goals first | omega | exact join_told () q_D | skip
 intro _
 clear hQ
 obtain ⟨Qn,Qe⟩:=Q
 simp only at hq hqb ⊢
 obtain ⟨qb1,qb2,qb3⟩:=hqb
 have lq:=ds_65b (n:=Qn) (by omega)
 have hd10:=ds_div10 Qn
 refine seq_join (ι:=Unit) (fun _=>⟨124,[(0,.c (.b s)),(1,.c (.ints .i64 (dg 65536 Cn))),(2,.c (.i .i64 Ce)),(13,.bx 0 0),(14,.bx 1 0),(16,.c (.i .i64 sg0))],⟨[(1,z5),(0,cx4 p r mn mx)],[],[]⟩,2⟩) ?_ ?_
 ·by_cases hl : p < (ds Qn : Int)
  ·rw [if_pos hl] at hq
   obtain ⟨rfl,rfl⟩:=Prod.mk.inj hq
   repeat' (first|with_reducible refine q_0 ?_|((with_reducible first|refine q_q eba_ok fun K hK=>?_|refine q_r eba_ok fun K hK=>?_);simp (maxSteps:=2000000) only [go_sem,↓reduceIte,reduceCtorEq,Nat.reduceLeDiff,Nat.reduceLT,Nat.reduceBEq,Nat.reduceAdd,V65,ten,fig_len];(repeat1' with_reducible first|apply And.intro|(intro _;try exact q_v)|(refine hK _ ?_;clear hK K))<;>(try (clear hK K;exact q_u)))|(with_reducible refine q_s ?_;(first|apply q_J|apply q_K|apply q_L|apply q_M|apply q_N|apply q_O)<;>try (intro _;try exact q_v)))
   all_goals first | omega | exact join_told () q_D | skip
  ·rw [if_neg hl] at hq
   obtain ⟨rfl,rfl⟩:=Prod.mk.inj hq
   repeat' (first|with_reducible refine q_0 ?_|((with_reducible first|refine q_q eba_ok fun K hK=>?_|refine q_r eba_ok fun K hK=>?_);simp (maxSteps:=2000000) only [go_sem,↓reduceIte,reduceCtorEq,Nat.reduceLeDiff,Nat.reduceLT,Nat.reduceBEq,Nat.reduceAdd,V65,ten,fig_len];(repeat1' with_reducible first|apply And.intro|(intro _;try exact q_v)|(refine hK _ ?_;clear hK K))<;>(try (clear hK K;exact q_u)))|(with_reducible refine q_s ?_;(first|apply q_J|apply q_K|apply q_L|apply q_M|apply q_N|apply q_O)<;>try (intro _;try exact q_v)))
   all_goals first | omega | exact join_told () q_D | skip
 intro _
 have hcb : ds Cn ≤ 5000 ∧ -10000 ≤ Ce ∧ Ce ≤ 20001:=by
  split at hq
  ·obtain ⟨rfl,rfl⟩:=Prod.mk.inj hq; omega
  ·obtain ⟨rfl,rfl⟩:=Prod.mk.inj hq; omega
 clear hq
 obtain ⟨cb1,cb2,cb3⟩:=hcb
 have lc:=ds_65b (n:=Cn) (by omega)
 have hd0:=ds_pos (n:=Cn)
 by_cases ho : stO n e inex ideal p mx
 ·obtain ⟨o1,o2⟩:=hO.1 ho
  rw [if_pos ho,if_pos ho]
  have o3:=hd0.2 o1
  have p0 : 10 ^ p.toNat - 1 ≤ 10 ^ p.toNat:=Nat.sub_le _ _
  have l10:=ds_65b (n:=10 ^ p.toNat) (by rw [ds_ten]; omega)
  have l11:=Nat.le_trans (dg_len_mono (B:=65536) (by omega) p0) l10
  have d1 : (dg 65536 1).length ≤ 1:=by decide
  have p1 : 1 ≤ 10 ^ p.toNat:=Nat.pow_pos (by omega)
  have hr : r = 0 ∨ r = 1 ∨ r = 2 ∨ r = 3 ∨ r = 4 ∨ r = 5 ∨ r = 6:=by omega
  clear hO hd0
  have cases2 : ∀ b : Bool,awayB r s true 1 = b → ovf s p r mx = if b = true then ⟨1,s,0,0⟩ else ⟨0,s,10 ^ p.toNat - 1,mx - p + 1⟩:=fun b hb=>by unfold ovf; rw [hb]
  rcases hr with rfl | rfl | rfl | rfl | rfl | rfl | rfl <;> cases s
  all_goals
   first
   | (rw [cases2 true rfl,if_pos rfl]; clear cases2)
   | (rw [cases2 false rfl,if_neg Bool.false_ne_true]; clear cases2)
  all_goals
   generalize hT : 10 ^ p.toNat = T at *
   repeat' (first|with_reducible refine q_0 ?_|((with_reducible first|refine q_q eba_ok fun K hK=>?_|refine q_r eba_ok fun K hK=>?_);simp (maxSteps:=2000000) only [go_sem,↓reduceIte,reduceCtorEq,Nat.reduceLeDiff,Nat.reduceLT,Nat.reduceBEq,Nat.reduceAdd,V65,ten,t0,fig_len,hT];(repeat1' with_reducible first|apply And.intro|(intro _;try exact q_v)|(refine hK _ ?_;clear hK K))<;>(try (clear hK K;exact q_u)))|(with_reducible refine q_s ?_;(first|apply q_J|apply q_K|apply q_L|apply q_M|apply q_N|apply q_O)<;>try (intro _;try exact q_v)))
   all_goals first | omega | assumption | exact q_A rfl | skip
 ·rw [if_neg ho,if_neg ho]
  have ho' : ¬ (0 < Cn ∧ mx < (ds Cn : Int) - 1 + Ce):=fun h=>ho (hO.2 h)
  clear hO
  by_cases hc0 : 0 < Cn
  ·have o3:=hd0.2 hc0
   repeat' (first|with_reducible refine q_0 ?_|((with_reducible first|refine q_q eba_ok fun K hK=>?_|refine q_r eba_ok fun K hK=>?_);simp (maxSteps:=2000000) only [go_sem,↓reduceIte,reduceCtorEq,Nat.reduceLeDiff,Nat.reduceLT,Nat.reduceBEq,Nat.reduceAdd,V65,ten,fig_len];(repeat1' with_reducible first|apply And.intro|(intro _;try exact q_v)|(refine hK _ ?_;clear hK K))<;>(try (clear hK K;exact q_u)))|(with_reducible refine q_s ?_;(first|apply q_J|apply q_K|apply q_L|apply q_M|apply q_N|apply q_O)<;>try (intro _;try exact q_v)))
   all_goals first | omega | assumption | exact q_A rfl | skip
  ·have o3 : ds Cn = 0:=by omega
   repeat' (first|with_reducible refine q_0 ?_|((with_reducible first|refine q_q eba_ok fun K hK=>?_|refine q_r eba_ok fun K hK=>?_);simp (maxSteps:=2000000) only [go_sem,↓reduceIte,reduceCtorEq,Nat.reduceLeDiff,Nat.reduceLT,Nat.reduceBEq,Nat.reduceAdd,V65,ten,fig_len];(repeat1' with_reducible first|apply And.intro|(intro _;try exact q_v)|(refine hK _ ?_;clear hK K))<;>(try (clear hK K;exact q_u)))|(with_reducible refine q_s ?_;(first|apply q_J|apply q_K|apply q_L|apply q_M|apply q_N|apply q_O)<;>try (intro _;try exact q_v)))
   all_goals first | omega | assumption | exact q_A rfl | skip
def settleCT : CT:=mkCT [.inl none,.inl (some (.ints .i64 []))] false fun l K=>match l with
 | [.inl (.b s),.inl (.ints .i64 xs),.inl (.i .i64 e),.inl (.i .i64 f),.inl (.b inex),.inl (.i .i64 ideal),.inr [.i .i64 p,.i .i64 r,.i .i64 mn,.i .i64 mx]] =>
   (InB 65536 xs ∧ Trd xs ∧ ds (V 65536 xs) ≤ 5000 ∧ (-10000 ≤ e ∧ e ≤ 10000) ∧ (-10000 ≤ ideal ∧ ideal ≤ 10000) ∧ okCx p r mn mx = true) ∧
   K (.t [.inr (gDc (stD s (V 65536 xs) e inex ideal p r mx)),.inl (.i .i64 (stS (V 65536 xs) e f inex ideal p mn mx))])
 | _=>False
def es9 : Cfg:=addT 132 settleCT cf0
theorem es9_ok : TblOk Tryz.prog es9:=q_I cf0_ok Tryz.func132 fun l K h=>by
 split at h
 ·rename_i s xs e f inex ideal p r mn mx
  obtain ⟨⟨h1,h2,h3,h4,h5,h6⟩,h⟩:=h
  have e1:=dg_V 65536 (by omega) xs h1 h2
  have:=settle_ret s (V 65536 xs) e f inex ideal p r mn mx h3 h4 h5 h6
  rw [e1] at this
  exact ⟨_,this,h⟩
 ·exact h.elim
attribute [go_sem] settleCT
end Go.Proofs.YtgkajjifbcmoeaaGreatDoor

namespace Go.Proofs.YtgkajjifbcmoeaaGreatDoor
set_option linter.unusedSimpArgs false
set_option linter.unusedVariables false
open Go.Abs Go.Proofs.NatL

def ebb : Cfg:=listT [(126,(xRCT fgP rFs)),(122,rroundedCT),(132,settleCT),(14,rfiniteCT)] [34]
theorem ebb_ok : TblOk Tryz.prog ebb:=listE_ok (by simp only [List.mem_singleton,forall_eq]; exact flt) ⟨⟨er4,er4_ok,rfl⟩,⟨er5,er5_ok,rfl⟩,⟨es9,es9_ok,rfl⟩,⟨es2,es2_ok,rfl⟩,trivial⟩
attribute [go_sem] ebb
set_option maxHeartbeats 3200000 in
theorem rfit_ret (s : Bool) (num den : Nat) (e ideal p r mn mx : Int) (hP : PF num den e) (hc : okCx p r mn mx = true) (hi : -10000 ≤ ideal ∧ ideal ≤ 10000) :
  Ret Tryz.prog 64 false [.inr (gE s num den e),.inl (.i .i64 ideal),.inr [.i .i64 p,.i .i64 r,.i .i64 mn,.i .i64 mx]]
   (.t [.inr (gDc (fitD s num den e ideal p r mn mx)),.inl (.i .i64 (fitS s num den e ideal p r mn mx))]):=by
 obtain ⟨c1,c2,c3,c4,c5,c6,c7,c8⟩:=okCx_p hc
 have hPP:=hP
 obtain ⟨p1,p2,p3,p4,p5⟩:=hPP
 obtain ⟨i1,i2⟩:=hi
 have hz:=dg65_nil_iff num
 have l1:=ds_65b (n:=num) (by omega)
 have l2:=ds_65b (n:=den) (by omega)
 by_cases h0 : num = 0
 ·obtain ⟨f1,f2⟩:=fit_zero s den e ideal p r mn mx h0
  rw [f1,f2]
  have hz:=hz.2 h0
  have ht : tinyE p mn = mn - p + 1:=rfl
  rw [ht]
  by_cases k1 : mx < ideal
  ·have e1 : min (max ideal (mn - p + 1)) mx = mx:=by omega
   rw [e1]
   (refine q_H Tryz.func64 (fun F=>?_); simp only [q_z,q_y,Tryz.ntmps64,Tryz.results64])
   repeat' (first|with_reducible refine q_0 ?_|((with_reducible first|refine q_q ebb_ok fun K hK=>?_|refine q_r ebb_ok fun K hK=>?_);simp (maxSteps:=2000000) only [go_sem,↓reduceIte,reduceCtorEq,Nat.reduceLeDiff,Nat.reduceLT,Nat.reduceBEq,Nat.reduceAdd,V65];(repeat1' with_reducible first|apply And.intro|(intro _;try exact q_v)|(refine hK _ ?_;clear hK K))<;>(try (clear hK K;exact q_u)))|(with_reducible refine q_s ?_;(first|apply q_J|apply q_K|apply q_L|apply q_M|apply q_N|apply q_O)<;>try (intro _;try exact q_v)))
   all_goals first | omega | assumption | exact q_A rfl | skip
  ·by_cases k2 : ideal < mn - p + 1
   ·have e1 : min (max ideal (mn - p + 1)) mx = mn - p + 1:=by omega
    rw [e1]
    (refine q_H Tryz.func64 (fun F=>?_); simp only [q_z,q_y,Tryz.ntmps64,Tryz.results64])
    repeat' (first|with_reducible refine q_0 ?_|((with_reducible first|refine q_q ebb_ok fun K hK=>?_|refine q_r ebb_ok fun K hK=>?_);simp (maxSteps:=2000000) only [go_sem,↓reduceIte,reduceCtorEq,Nat.reduceLeDiff,Nat.reduceLT,Nat.reduceBEq,Nat.reduceAdd,V65];(repeat1' with_reducible first|apply And.intro|(intro _;try exact q_v)|(refine hK _ ?_;clear hK K))<;>(try (clear hK K;exact q_u)))|(with_reducible refine q_s ?_;(first|apply q_J|apply q_K|apply q_L|apply q_M|apply q_N|apply q_O)<;>try (intro _;try exact q_v)))
    all_goals first | omega | assumption | exact q_A rfl | skip
   ·have e1 : min (max ideal (mn - p + 1)) mx = ideal:=by omega
    rw [e1]
    (refine q_H Tryz.func64 (fun F=>?_); simp only [q_z,q_y,Tryz.ntmps64,Tryz.results64])
    repeat' (first|with_reducible refine q_0 ?_|((with_reducible first|refine q_q ebb_ok fun K hK=>?_|refine q_r ebb_ok fun K hK=>?_);simp (maxSteps:=2000000) only [go_sem,↓reduceIte,reduceCtorEq,Nat.reduceLeDiff,Nat.reduceLT,Nat.reduceBEq,Nat.reduceAdd,V65];(repeat1' with_reducible first|apply And.intro|(intro _;try exact q_v)|(refine hK _ ?_;clear hK K))<;>(try (clear hK K;exact q_u)))|(with_reducible refine q_s ?_;(first|apply q_J|apply q_K|apply q_L|apply q_M|apply q_N|apply q_O)<;>try (intro _;try exact q_v)))
    all_goals first | omega | assumption | exact q_A rfl | skip
 have hn : 0 < num:=by omega
 have hz : ¬ ((dg 65536 num).length : Int) = 0:=fun h=>h0 (hz.1 h)
 obtain ⟨x1,x2⟩:=fitEx_bd hP hn ⟨c1,c2⟩ ⟨c5,c6⟩
 have hr:=rdE_len (neg:=s) (r:=r) (mn:=mn) hn p1 (exp:=e) ⟨c1,c2⟩
 obtain ⟨f1,f2⟩:=fit_st (neg:=s) (ideal:=ideal) (p:=p) (r:=r) (mn:=mn) (mx:=mx) hn p1 (exp:=e) c1
 rw [f1,f2]
 obtain ⟨b1,b2⟩:=first_bounds hn p1 e
 unfold guessE at b1 b2
 have hX : max (firstE num den e - p + 1) (mn - p + 1) = fitEx num den e p mn:=rfl
 obtain ⟨_,_,_,g4,g5⟩:=fit_at hP hn ⟨c1,c2⟩ ⟨c5,c6⟩
 generalize hR : rdE s num den e (fitEx num den e p mn) r = R at *
 generalize hSs : decide (sE num den e (fitEx num den e p mn) ≠ 0) = S at *
 generalize hF : firstE num den e = F at *
 generalize hXX : fitEx num den e p mn = X at *
 have l3:=ds_65b (n:=R) (by omega)
 by_cases hx : F - p + 1 < mn - p + 1
 ·have e1 : X = mn - p + 1:=by omega
  clear hX
  subst e1
  (refine q_H Tryz.func64 (fun F=>?_); simp only [q_z,q_y,Tryz.ntmps64,Tryz.results64])
  repeat' (first|with_reducible refine q_0 ?_|((with_reducible first|refine q_q ebb_ok fun K hK=>?_|refine q_r ebb_ok fun K hK=>?_);simp (maxSteps:=2000000) only [go_sem,↓reduceIte,reduceCtorEq,Nat.reduceLeDiff,Nat.reduceLT,Nat.reduceBEq,Nat.reduceAdd,V65,hF,hR,hSs];(repeat1' with_reducible first|apply And.intro|(intro _;try exact q_v)|(refine hK _ ?_;clear hK K))<;>(try (clear hK K;exact q_u)))|(with_reducible refine q_s ?_;(first|apply q_J|apply q_K|apply q_L|apply q_M|apply q_N|apply q_O)<;>try (intro _;try exact q_v)))
  all_goals first | omega | assumption | exact q_A rfl | skip
 ·have e1 : X = F - p + 1:=by omega
  clear hX
  subst e1
  (refine q_H Tryz.func64 (fun F=>?_); simp only [q_z,q_y,Tryz.ntmps64,Tryz.results64])
  repeat' (first|with_reducible refine q_0 ?_|((with_reducible first|refine q_q ebb_ok fun K hK=>?_|refine q_r ebb_ok fun K hK=>?_);simp (maxSteps:=2000000) only [go_sem,↓reduceIte,reduceCtorEq,Nat.reduceLeDiff,Nat.reduceLT,Nat.reduceBEq,Nat.reduceAdd,V65,hF,hR,hSs];(repeat1' with_reducible first|apply And.intro|(intro _;try exact q_v)|(refine hK _ ?_;clear hK K))<;>(try (clear hK K;exact q_u)))|(with_reducible refine q_s ?_;(first|apply q_J|apply q_K|apply q_L|apply q_M|apply q_N|apply q_O)<;>try (intro _;try exact q_v)))
  all_goals first | omega | assumption | exact q_A rfl | skip
def rfitCT : CT:=mkCT [nE,.inl none,.inr [none,none,none,none]] false fun l K=>match l with
 | [.inr [.b s,.ints .i64 xs,.ints .i64 ys,.i .i64 e],.inl (.i .i64 ideal),.inr [.i .i64 p,.i .i64 r,.i .i64 mn,.i .i64 mx]] =>
   (InB 65536 xs ∧ Trd xs ∧ InB 65536 ys ∧ Trd ys ∧ PF (V 65536 xs) (V 65536 ys) e ∧ okCx p r mn mx = true ∧ (-10000 ≤ ideal ∧ ideal ≤ 10000)) ∧
   K (.t [.inr (gDc (fitD s (V 65536 xs) (V 65536 ys) e ideal p r mn mx)),.inl (.i .i64 (fitS s (V 65536 xs) (V 65536 ys) e ideal p r mn mx))])
 | _=>False
def es10 : Cfg:=addT 64 rfitCT cf0
theorem es10_ok : TblOk Tryz.prog es10:=q_I cf0_ok Tryz.func64 fun l K h=>by
 split at h
 ·rename_i s xs ys e ideal p r mn mx
  obtain ⟨⟨h1,h2,h3,h4,h5,h6,h7⟩,h⟩:=h
  have e1:=dg_V 65536 (by omega) xs h1 h2
  have e2:=dg_V 65536 (by omega) ys h3 h4
  have:=rfit_ret s _ _ e ideal p r mn mx h5 h6 h7
  rw [gE,e1,e2] at this
  exact ⟨_,this,h⟩
 ·exact h.elim
attribute [go_sem] rfitCT
end Go.Proofs.YtgkajjifbcmoeaaGreatDoor

namespace Go.Proofs.YtgkajjifbcmoeaaGreatDoor
set_option linter.unusedSimpArgs false
set_option linter.unusedVariables false
open Go.Abs Go.Proofs.NatL

def ebo : Cfg:=listT [(110,noneDCT),(111,infiniteCT),(114,isZeroCT),(67,valueCT),(15,smallCT),(115,leastCT),(68,(rnumCT (fun _ _=>True) (· * ·))),(141,rsumCT),(64,rfitCT)] [34]
theorem ebo_ok : TblOk Tryz.prog ebo:=listE_ok (by simp only [List.mem_singleton,forall_eq]; exact flt) ⟨⟨es4,es4_ok,rfl⟩,⟨es3,es3_ok,rfl⟩,⟨es5,es5_ok,rfl⟩,⟨es1,es1_ok,rfl⟩,⟨nt7,nt7_ok,rfl⟩,⟨es6,es6_ok,rfl⟩,⟨db9,db9_ok,rfl⟩,⟨es8,es8_ok,rfl⟩,⟨es10,es10_ok,rfl⟩,trivial⟩
attribute [go_sem] ebo
end Go.Proofs.YtgkajjifbcmoeaaGreatDoor

namespace Go.Proofs.YtgkajjifbcmoeaaGreatDoor
set_option linter.unusedSimpArgs false
set_option linter.unusedVariables false
open Go.Abs Go.Proofs.NatL

theorem opp_ret (A : Dc) : Ret Tryz.prog 47 false [.inr (gDc A)] (.g (gDc (opD A))):=by
 obtain ⟨k,s,m,e⟩:=A
 unfold opD
 simp only
 by_cases h1 : k = 2
 ·rw [if_pos h1]
  (refine q_H Tryz.func47 (fun F=>?_); simp only [q_z,q_y,Tryz.ntmps47,Tryz.results47])
  repeat' (first|with_reducible refine q_0 ?_|((with_reducible first|refine q_q ebo_ok fun K hK=>?_|refine q_r ebo_ok fun K hK=>?_);simp (maxSteps:=2000000) only [go_sem,↓reduceIte,reduceCtorEq,Nat.reduceLeDiff,Nat.reduceLT,Nat.reduceBEq,Nat.reduceAdd];(repeat1' with_reducible first|apply And.intro|(intro _;try exact q_v)|(refine hK _ ?_;clear hK K))<;>(try (clear hK K;exact q_u)))|(with_reducible refine q_s ?_;(first|apply q_J|apply q_K|apply q_L|apply q_M|apply q_N|apply q_O)<;>try (intro _;try exact q_v)))
  all_goals first | omega | assumption | exact q_A rfl | skip
 ·rw [if_neg h1]
  (refine q_H Tryz.func47 (fun F=>?_); simp only [q_z,q_y,Tryz.ntmps47,Tryz.results47])
  repeat' (first|with_reducible refine q_0 ?_|((with_reducible first|refine q_q ebo_ok fun K hK=>?_|refine q_r ebo_ok fun K hK=>?_);simp (maxSteps:=2000000) only [go_sem,↓reduceIte,reduceCtorEq,Nat.reduceLeDiff,Nat.reduceLT,Nat.reduceBEq,Nat.reduceAdd];(repeat1' with_reducible first|apply And.intro|(intro _;try exact q_v)|(refine hK _ ?_;clear hK K))<;>(try (clear hK K;exact q_u)))|(with_reducible refine q_s ?_;(first|apply q_J|apply q_K|apply q_L|apply q_M|apply q_N|apply q_O)<;>try (intro _;try exact q_v)))
  all_goals first | omega | assumption | exact q_A rfl | skip
def oppOkCT : CT:=mkCT [nDc] false fun l K=>match l with
 | [.inr [.i .i64 k,.b s,.b a,.ints .u32 xs,.i .i64 e]]=>(InB 4294967296 xs ∧ okD k s a xs e = true) ∧ K (.g (gDc (opD ⟨k,s,V 4294967296 xs,e⟩)))
 | _=>False
def et7 : Cfg:=addT 47 oppOkCT cf0
theorem et7_ok : TblOk Tryz.prog et7:=q_I cf0_ok Tryz.func47 fun l K h=>by
 split at h
 ·rename_i k s a xs e
  obtain ⟨⟨h1,o1⟩,h⟩:=h
  obtain ⟨e1,r1⟩:=gDc_of o1 h1
  rw [e1]
  exact ⟨_,opp_ret _,h⟩
 ·exact h.elim
attribute [go_sem] oppOkCT
end Go.Proofs.YtgkajjifbcmoeaaGreatDoor

namespace Go.Proofs.YtgkajjifbcmoeaaGreatDoor
set_option linter.unusedSimpArgs false
set_option linter.unusedVariables false
open Go.Abs Go.Proofs.NatL

def ev1 : Cfg:=addT 144 rankCT cf0
theorem ev1_ok : TblOk Tryz.prog ev1:=q_I cf0_ok Tryz.func144 fun l K h=>by
 split at h
 ·rename_i k s a xs e
  refine ⟨_,Ret.plain ?_ rfl,h⟩
  by_cases h0 : k = 0
  ·rw [if_pos h0]
   (refine q_H Tryz.func144 (fun F=>?_); simp only [q_z,q_y,Tryz.ntmps144,Tryz.results144])
   repeat' (first|with_reducible refine q_0 ?_|((with_reducible first|refine q_q dbj_ok fun K hK=>?_|refine q_r dbj_ok fun K hK=>?_);simp (maxSteps:=2000000) only [go_sem,↓reduceIte,reduceCtorEq,Nat.reduceLeDiff,Nat.reduceLT,Nat.reduceBEq,Nat.reduceAdd];(repeat1' with_reducible first|apply And.intro|(intro _;try exact q_v)|(refine hK _ ?_;clear hK K))<;>(try (clear hK K;exact q_u)))|(with_reducible refine q_s ?_;(first|apply q_J|apply q_K|apply q_L|apply q_M|apply q_N|apply q_O)<;>try (intro _;try exact q_v)))
   all_goals first | omega | exact q_A rfl | skip
  ·rw [if_neg h0]
   cases s
   all_goals
    (refine q_H Tryz.func144 (fun F=>?_); simp only [q_z,q_y,Tryz.ntmps144,Tryz.results144])
    repeat' (first|with_reducible refine q_0 ?_|((with_reducible first|refine q_q dbj_ok fun K hK=>?_|refine q_r dbj_ok fun K hK=>?_);simp (maxSteps:=2000000) only [go_sem,↓reduceIte,reduceCtorEq,Nat.reduceLeDiff,Nat.reduceLT,Nat.reduceBEq,Nat.reduceAdd];(repeat1' with_reducible first|apply And.intro|(intro _;try exact q_v)|(refine hK _ ?_;clear hK K))<;>(try (clear hK K;exact q_u)))|(with_reducible refine q_s ?_;(first|apply q_J|apply q_K|apply q_L|apply q_M|apply q_N|apply q_O)<;>try (intro _;try exact q_v)))
    all_goals first | omega | exact q_A rfl | skip
 ·exact h.elim
def ebs : Cfg:=listT [(144,rankCT),(67,valueCT),(47,oppOkCT),(141,rsumCT)] [34]
theorem ebs_ok : TblOk Tryz.prog ebs:=listE_ok (by simp only [List.mem_singleton,forall_eq]; exact flt) ⟨⟨ev1,ev1_ok,rfl⟩,⟨es1,es1_ok,rfl⟩,⟨et7,et7_ok,rfl⟩,⟨es8,es8_ok,rfl⟩,trivial⟩
attribute [go_sem] ebs
set_option maxHeartbeats 3200000 in
theorem against_ret (A B : Dc) (hA : OkD A) (hB : OkD B) (hka : A.kind ≠ 2) (hkb : B.kind ≠ 2) : Ret Tryz.prog 65 false [.inr (gDc A),.inr (gDc B)] (.c (.i .i64 (cmpD A B))):=by
 have ka:=OkD_kind hA
 have kb:=OkD_kind hB
 have o2:=okD_g hB
 have hs : smP A.coef A.exp B.coef B.exp:=smP_ok hA hB
 have a1:=(okd_exp hA).1
 have b1:=(okd_exp hB).1
 have l1:=coef_len a1
 have l2:=coef_len b1
 obtain ⟨k,s,m,e⟩:=A
 obtain ⟨l,t,n,f⟩:=B
 simp only at ka kb hs l1 l2 hka hkb o2
 clear hA hB a1 b1
 by_cases hf : k = 0 ∧ l = 0
 ·obtain ⟨rfl,rfl⟩:=hf
  rw [cmp_fin]
  have t0 : (1 : Int).toNat = 1:=rfl
  have hO : opD ⟨0,t,n,f⟩ = ⟨0,!t,n,f⟩:=rfl
  have hB : sumZ s m e (!t) n f ≠ 0 → sumB s m e (!t) n f false = decide (sumZ s m e (!t) n f < 0):=fun h=>if_neg h
  have hl:=sumZ_len (s:=s) (t:=!t) hs
  generalize hz : sumZ s m e (!t) n f = Z at *
  generalize hb : sumB s m e (!t) n f false = Bb at *
  have hl2:=ds_65b (n:=Z.natAbs) (by omega)
  have hp:=dg_len_pos 65536 Z.natAbs (by omega)
  unfold cmpZ
  rcases Int.lt_trichotomy Z 0 with h | h | h
  ·have hB:=hB (by omega)
   rw [if_pos h]
   rw [decide_eq_true h] at hB
   subst hB
   (refine q_H Tryz.func65 (fun F=>?_); simp only [q_z,q_y,Tryz.ntmps65,Tryz.results65])
   repeat' (first|with_reducible refine q_0 ?_|((with_reducible first|refine q_q ebs_ok fun K hK=>?_|refine q_r ebs_ok fun K hK=>?_);simp (maxSteps:=2000000) only [go_sem,↓reduceIte,reduceCtorEq,Nat.reduceLeDiff,Nat.reduceLT,Nat.reduceBEq,Nat.reduceAdd,o2,V32,V65,t0,hO,hz,hb];(repeat1' with_reducible first|apply And.intro|(intro _;try exact q_v)|(refine hK _ ?_;clear hK K))<;>(try (clear hK K;exact q_u)))|(with_reducible refine q_s ?_;(first|apply q_J|apply q_K|apply q_L|apply q_M|apply q_N|apply q_O)<;>try (intro _;try exact q_v)))
   all_goals first | omega | assumption | exact q_A rfl | skip
  ·rw [if_neg (by omega),if_pos h]
   clear hB
   have hp0 : (dg 65536 Z.natAbs).length = 0:=by omega
   (refine q_H Tryz.func65 (fun F=>?_); simp only [q_z,q_y,Tryz.ntmps65,Tryz.results65])
   repeat' (first|with_reducible refine q_0 ?_|((with_reducible first|refine q_q ebs_ok fun K hK=>?_|refine q_r ebs_ok fun K hK=>?_);simp (maxSteps:=2000000) only [go_sem,↓reduceIte,reduceCtorEq,Nat.reduceLeDiff,Nat.reduceLT,Nat.reduceBEq,Nat.reduceAdd,o2,V32,V65,t0,hO,hz,hb];(repeat1' with_reducible first|apply And.intro|(intro _;try exact q_v)|(refine hK _ ?_;clear hK K))<;>(try (clear hK K;exact q_u)))|(with_reducible refine q_s ?_;(first|apply q_J|apply q_K|apply q_L|apply q_M|apply q_N|apply q_O)<;>try (intro _;try exact q_v)))
   all_goals first | omega | assumption | exact q_A rfl | skip
  ·have hB:=hB (by omega)
   rw [if_neg (by omega),if_neg (by omega)]
   rw [decide_eq_false (by omega)] at hB
   subst hB
   (refine q_H Tryz.func65 (fun F=>?_); simp only [q_z,q_y,Tryz.ntmps65,Tryz.results65])
   repeat' (first|with_reducible refine q_0 ?_|((with_reducible first|refine q_q ebs_ok fun K hK=>?_|refine q_r ebs_ok fun K hK=>?_);simp (maxSteps:=2000000) only [go_sem,↓reduceIte,reduceCtorEq,Nat.reduceLeDiff,Nat.reduceLT,Nat.reduceBEq,Nat.reduceAdd,o2,V32,V65,t0,hO,hz,hb];(repeat1' with_reducible first|apply And.intro|(intro _;try exact q_v)|(refine hK _ ?_;clear hK K))<;>(try (clear hK K;exact q_u)))|(with_reducible refine q_s ?_;(first|apply q_J|apply q_K|apply q_L|apply q_M|apply q_N|apply q_O)<;>try (intro _;try exact q_v)))
   all_goals first | omega | assumption | exact q_A rfl | skip
 ·rw [cmp_inf (by simp only; omega)]
  unfold rkD
  simp only
  have hx : (if k = 0 then 0 else if s = true then -1 else 1 : Int) = 0 ↔ k = 0:=by (repeat' split) <;> omega
  have hy : (if l = 0 then 0 else if t = true then -1 else 1 : Int) = 0 ↔ l = 0:=by (repeat' split) <;> omega
  have hx2 : -1 ≤ (if k = 0 then 0 else if s = true then -1 else 1 : Int) ∧ (if k = 0 then 0 else if s = true then -1 else 1 : Int) ≤ 1:=by (repeat' split) <;> omega
  have hy2 : -1 ≤ (if l = 0 then 0 else if t = true then -1 else 1 : Int) ∧ (if l = 0 then 0 else if t = true then -1 else 1 : Int) ≤ 1:=by (repeat' split) <;> omega
  generalize hxx : (if k = 0 then 0 else if s = true then -1 else 1 : Int) = x at *
  generalize hyy : (if l = 0 then 0 else if t = true then -1 else 1 : Int) = y at *
  obtain ⟨hx2,hx3⟩:=hx2
  obtain ⟨hy2,hy3⟩:=hy2
  have hxy : ¬ (x = 0 ∧ y = 0):=fun h=>hf ⟨hx.1 h.1,hy.1 h.2⟩
  have hmm : min (max (x - y) (-1)) 1 = if x < y then -1 else if y < x then 1 else 0:=by (repeat' split) <;> omega
  rw [hmm]
  clear hs ka kb hf hx hy hmm
  rcases Int.lt_trichotomy x y with h | h | h
  ·rw [if_pos h]
   (refine q_H Tryz.func65 (fun F=>?_); simp only [q_z,q_y,Tryz.ntmps65,Tryz.results65])
   repeat' (first|with_reducible refine q_0 ?_|((with_reducible first|refine q_q ebs_ok fun K hK=>?_|refine q_r ebs_ok fun K hK=>?_);simp (maxSteps:=2000000) only [go_sem,↓reduceIte,reduceCtorEq,Nat.reduceLeDiff,Nat.reduceLT,Nat.reduceBEq,Nat.reduceAdd,hxx,hyy];(repeat1' with_reducible first|apply And.intro|(intro _;try exact q_v)|(refine hK _ ?_;clear hK K))<;>(try (clear hK K;exact q_u)))|(with_reducible refine q_s ?_;(first|apply q_J|apply q_K|apply q_L|apply q_M|apply q_N|apply q_O)<;>try (intro _;try exact q_v)))
   all_goals first | omega | assumption | exact q_A rfl | skip
  ·rw [if_neg (by omega),if_neg (by omega)]
   (refine q_H Tryz.func65 (fun F=>?_); simp only [q_z,q_y,Tryz.ntmps65,Tryz.results65])
   repeat' (first|with_reducible refine q_0 ?_|((with_reducible first|refine q_q ebs_ok fun K hK=>?_|refine q_r ebs_ok fun K hK=>?_);simp (maxSteps:=2000000) only [go_sem,↓reduceIte,reduceCtorEq,Nat.reduceLeDiff,Nat.reduceLT,Nat.reduceBEq,Nat.reduceAdd,hxx,hyy];(repeat1' with_reducible first|apply And.intro|(intro _;try exact q_v)|(refine hK _ ?_;clear hK K))<;>(try (clear hK K;exact q_u)))|(with_reducible refine q_s ?_;(first|apply q_J|apply q_K|apply q_L|apply q_M|apply q_N|apply q_O)<;>try (intro _;try exact q_v)))
   all_goals first | omega | assumption | exact q_A rfl | skip
  ·rw [if_neg (by omega),if_pos h]
   (refine q_H Tryz.func65 (fun F=>?_); simp only [q_z,q_y,Tryz.ntmps65,Tryz.results65])
   repeat' (first|with_reducible refine q_0 ?_|((with_reducible first|refine q_q ebs_ok fun K hK=>?_|refine q_r ebs_ok fun K hK=>?_);simp (maxSteps:=2000000) only [go_sem,↓reduceIte,reduceCtorEq,Nat.reduceLeDiff,Nat.reduceLT,Nat.reduceBEq,Nat.reduceAdd,hxx,hyy];(repeat1' with_reducible first|apply And.intro|(intro _;try exact q_v)|(refine hK _ ?_;clear hK K))<;>(try (clear hK K;exact q_u)))|(with_reducible refine q_s ?_;(first|apply q_J|apply q_K|apply q_L|apply q_M|apply q_N|apply q_O)<;>try (intro _;try exact q_v)))
   all_goals first | omega | assumption | exact q_A rfl | skip
def againstCT : CT:=mkCT [nDc,nDc] true fun l K=>match l with
 | [.inr [.i .i64 k,.b s,.b a,.ints .u32 xs,.i .i64 e],.inr [.i .i64 l,.b t,.b b,.ints .u32 ys,.i .i64 f]] =>
   (InB 4294967296 xs ∧ InB 4294967296 ys ∧ okD k s a xs e = true ∧ okD l t b ys f = true ∧ k ≠ 2 ∧ l ≠ 2) ∧ K (.c (.i .i64 (cmpD ⟨k,s,V 4294967296 xs,e⟩ ⟨l,t,V 4294967296 ys,f⟩)))
 | _=>False
def ev2 : Cfg:=addT 65 againstCT cf0
theorem ev2_ok : TblOk Tryz.prog ev2:=q_I cf0_ok Tryz.func65 fun l K hk=>by
 split at hk
 ·rename_i k s a xs e l t b ys f
  obtain ⟨⟨h1,h2,o1,o2,k2,l2⟩,h⟩:=hk
  obtain ⟨e1,r1⟩:=gDc_of o1 h1
  obtain ⟨e2,r2⟩:=gDc_of o2 h2
  rw [e1,e2]
  exact ⟨_,(against_ret _ _ r1 r2 k2 l2).plain rfl,h⟩
 ·exact hk.elim
attribute [go_sem] againstCT
end Go.Proofs.YtgkajjifbcmoeaaGreatDoor
