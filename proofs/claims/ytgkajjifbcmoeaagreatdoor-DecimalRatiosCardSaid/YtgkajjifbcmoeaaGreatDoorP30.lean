import Derived.LaidMore
import Derived.Lay
import Derived.SevenTiedAt
import Derived.Stop.Joined
import Derived.Test.YtgkajjifbcmoeaaGreatDoorP25
import Derived.Test.YtgkajjifbcmoeaaGreatDoorP27
import Derived.Test.YtgkajjifbcmoeaaGreatDoorP29
namespace Go.Proofs.YtgkajjifbcmoeaaGreatDoor
set_option linter.unusedSimpArgs false
set_option linter.unusedVariables false
open Go.Abs Go.Proofs.NatL

def dcheck0CT : CT:=mkCT [.inr [none,none,none,none],.inl (some (.sl 5 []))] true fun l K=>match l with
 | [.inr [.i .i64 p,.i .i64 r,.i .i64 mn,.i .i64 mx],.inl (.sl 5 [])]=>K (.g [.i .i64 (if okCx p r mn mx then 0 else 4),.i .i64 (if okCx p r mn mx then 0 else -9)])
 | _=>False
def ey1 : Cfg:=addT 18 dcheck0CT cf0
theorem ey1_ok : TblOk Tryz.prog ey1:=q_I cf0_ok Tryz.func18 fun l K h=>by
 split at h
 ·rename_i p r mn mx
  exact ⟨_,(decimalFaults_ret p r mn mx [] (by simp) trivial).plain rfl,h⟩
 ·exact h.elim
def cmpACT : CT:=mkCT [nDc,nDc] true fun l K=>match l with
 | [.inr [.i .i64 k,.b s,.b a,.ints .u32 xs,.i .i64 e],.inr [.i .i64 l,.b t,.b b,.ints .u32 ys,.i .i64 f]] =>
   (xs.length ≤ 140737488355328 ∧ ys.length ≤ 140737488355328 ∧ InB 4294967296 xs ∧ InB 4294967296 ys) ∧ K (cmpA k s (V 4294967296 xs) e l t (V 4294967296 ys) f [(k,s,a,xs,e),(l,t,b,ys,f)])
 | _=>False
def dj3 : Cfg:=addT 29 cmpACT cf0
theorem dj3_ok : TblOk Tryz.prog dj3:=q_I cf0_ok Tryz.func29 fun l K hk=>by
 split at hk
 ·rename_i k s a xs e l t b ys f
  obtain ⟨⟨h1,h2,b1,b2⟩,h⟩:=hk
  exact ⟨_,(cmp_ret k l s a t b xs ys e f h1 h2 b1 b2).plain (by unfold cmpA; (repeat' split) <;> rfl),h⟩
 ·exact hk.elim
attribute [go_sem] dcheck0CT cmpACT
abbrev v2 : List AV:=[.u,.u]
attribute [go_sem] v2
def dli : Cfg:=listT [(62,validDCT),(32,validDCT),(63,checkCCT),(51,checkCCT),(28,ofQCT),(18,dcheck0CT),(50,validQCT),(33,atCT),(53,ratioOfCT),(64,rfitCT),(40,comesCT),(19,ratDCT),(29,cmpACT),(65,againstCT),(67,valueCT),(56,rtenCT),(68,(rnumCT (fun _ _=>True) (· * ·))),(69,(qT 60000 dpos lowF)),(66,givesCT),(31,tenthsCT)] [34]
theorem dli_ok : TblOk Tryz.prog dli:=listE_ok (by simp only [List.mem_singleton,forall_eq]; exact flt) ⟨⟨de4,de4_ok,rfl⟩,⟨er7,er7_ok,rfl⟩,⟨de5,de5_ok,rfl⟩,⟨er8,er8_ok,rfl⟩,⟨di1,di1_ok,rfl⟩,⟨ey1,ey1_ok,rfl⟩,⟨rq1,rq1_ok,rfl⟩,⟨jt0,jt0_ok,rfl⟩,⟨rq2,rq2_ok,rfl⟩,⟨es10,es10_ok,rfl⟩,⟨eu3,eu3_ok,rfl⟩,⟨di2,di2_ok,rfl⟩,⟨dj3,dj3_ok,rfl⟩,⟨ev2,ev2_ok,rfl⟩,⟨es1,es1_ok,rfl⟩,⟨er1,er1_ok,rfl⟩,⟨db9,db9_ok,rfl⟩,⟨rq3,rq3_ok,rfl⟩,⟨rq16,rq16_ok,rfl⟩,⟨dh5,dh5_ok,rfl⟩,trivial⟩
attribute [go_sem] dli
end Go.Proofs.YtgkajjifbcmoeaaGreatDoor

namespace Go.Proofs.YtgkajjifbcmoeaaGreatDoor
set_option linter.unusedSimpArgs false
set_option linter.unusedVariables false
open Go.Abs Go.Proofs.NatL

def PzR (o : Bool) (k : Int) (N : Int) (D : Nat) (v : Bool × List Int × Bool × List Int × Int × Int) : Prop :=
 (o = false → v = (false,[],false,[],6, -1)) ∧ (o = true ∧ k ≠ 0 → v = (false,[],false,[],13, -1)) ∧
 (o = true ∧ k = 0 → v = (decide (fN N D < 0),dg 4294967296 (fN N D).natAbs,false,dg 4294967296 (fD N D),fC N D,fI N D))
theorem cmpA_ex {k : Int} {s : Bool} {m : Nat} {e l : Int} {t : Bool} {n : Nat} {f : Int} (q : List D5) : ∃ kc fc fx : Int,cmpA k s m e l t n f q = .t [.inl (.i .i64 kc),fltQ fc fx] ∧
  ((dbC q ≠ 0 ∧ kc = 0 ∧ fc = dbC q ∧ fx = dbX 0 q) ∨ (dbC q = 0 ∧ nbC q ≠ 0 ∧ kc = 0 ∧ fc = nbC q ∧ fx = nbX 0 q) ∨ (dbC q = 0 ∧ nbC q = 0 ∧ kc = cmpD ⟨k,s,m,e⟩ ⟨l,t,n,f⟩ ∧ fc = 0 ∧ fx = 0)):=by
 by_cases h1 : dbC q = 0
 ·by_cases h2 : nbC q = 0
  ·exact ⟨_,_,_,cmpA_ok h1 h2,.inr (.inr ⟨h1,h2,rfl,rfl,rfl⟩)⟩
  ·exact ⟨_,_,_,cmpA_none h1 h2,.inr (.inl ⟨h1,h2,rfl,rfl,rfl⟩)⟩
 ·exact ⟨_,_,_,cmpA_bad h1,.inl ⟨h1,rfl,rfl,rfl⟩⟩
set_option maxRecDepth 100000 in
set_option maxHeartbeats 25600000 in
theorem dratios_ret (s t : Bool) (xs ys : List Int) (k l : Int) (s1 s2 a b : Bool) (x1 x2 : List Int) (e f p r mn mx : Int)
  (h0 : xs.length ≤ 140737488355328 ∧ ys.length ≤ 140737488355328) (h1 : x1.length ≤ 140737488355328) (h2 : x2.length ≤ 140737488355328) (b0 : InB 4294967296 xs ∧ InB 4294967296 ys) (b1 : InB 4294967296 x1) (b2 : InB 4294967296 x2) :
  Ret Tryz.prog 12 false [.inr [.b s,.ints .u32 xs,.b t,.ints .u32 ys],.inr [.i .i64 k,.b s1,.b a,.ints .u32 x1,.i .i64 e],.inr [.i .i64 l,.b s2,.b b,.ints .u32 x2,.i .i64 f],.inr [.i .i64 p,.i .i64 r,.i .i64 mn,.i .i64 mx]] (.c (.b true)):=by
 obtain ⟨h0,h0'⟩:=h0
 obtain ⟨b0,b0'⟩:=b0
 have hal : allD 140737488355328 [(k,s1,a,x1,e),(l,s2,b,x2,f)]:=⟨⟨h1,b1⟩,⟨h2,b2⟩,trivial⟩
 (refine q_H Tryz.func12 (fun F=>?_); simp only [q_z,q_y,Tryz.ntmps12,Tryz.results12])
 refine seq_cut9 (ι:=Unit) (fun _=>⟨213,[(5,.bx 1 0),(6,.bx 2 0),(8,.c (.b false)),(12,.bx 6 0)],⟨[(6,v2),(2,aD l s2 b x2 f),(1,aD k s1 a x1 e)],[],[]⟩,9⟩) (fun Y hY=>?_) ?_
 ·cases oD : okD k s1 a x1 e
  all_goals
   cases o0 : okCx p r mn mx
   ·repeat' (first|with_reducible refine q_0 ?_|((with_reducible first|refine q_q dli_ok fun K hK=>?_|refine q_r dli_ok fun K hK=>?_);simp (maxSteps:=2000000) only [go_sem,↓reduceIte,reduceCtorEq,Nat.reduceLeDiff,Nat.reduceLT,Nat.reduceBEq,Nat.reduceAdd,o0,oD];(repeat1' with_reducible first|apply And.intro|(intro _;try exact q_v)|(refine hK _ ?_;clear hK K))<;>(try (clear hK K;exact q_u)))|(with_reducible refine q_s ?_;(first|apply q_J|apply q_K|apply q_L|apply q_M|apply q_N|apply q_O)<;>try (intro _;try exact q_v)))
    all_goals first | omega | assumption | exact cut_fit hY () q_D | skip
   ·cases o1 : okQ s xs t ys
    ·repeat' (first|with_reducible refine q_0 ?_|((with_reducible first|refine q_q dli_ok fun K hK=>?_|refine q_r dli_ok fun K hK=>?_);simp (maxSteps:=2000000) only [go_sem,↓reduceIte,reduceCtorEq,Nat.reduceLeDiff,Nat.reduceLT,Nat.reduceBEq,Nat.reduceAdd,o0,o1,oD];(repeat1' with_reducible first|apply And.intro|(intro _;try exact q_v)|(refine hK _ ?_;clear hK K))<;>(try (clear hK K;exact q_u)))|(with_reducible refine q_s ?_;(first|apply q_J|apply q_K|apply q_L|apply q_M|apply q_N|apply q_O)<;>try (intro _;try exact q_v)))
     all_goals first | omega | assumption | exact cut_fit hY () q_D | skip
    ·obtain ⟨c1,c2,rfl,c4,c5⟩:=okQ_z o1
     have l1:=okZ_len c1
     have l2:=okZ_len c2
     have ex:=dg_V 4294967296 (by omega) xs b0 (okZ_trd c1)
     have ey:=dg_V 4294967296 (by omega) ys b0' (okZ_trd c2)
     have hd : 0 < V 4294967296 ys:=by rw [← ey] at c4; exact (dg_len_pos _ _ (by omega)).1 c4
     have hP:=PF_of hd (show (dg 4294967296 (V 4294967296 xs)).length ≤ 128 by rw [ex]; exact l1) (show (dg 4294967296 (V 4294967296 ys)).length ≤ 128 by rw [ey]; exact l2)
     have hok : OkD (ofD s (V 4294967296 xs) (V 4294967296 ys) ⟨p,r,mn,mx⟩):=fit_ok hd (OkC_b o0)
     have hl:=okd_len hok
     have g1 : fitD s (V 4294967296 xs) (V 4294967296 ys) 0 0 p r mn mx = ofD s (V 4294967296 xs) (V 4294967296 ys) ⟨p,r,mn,mx⟩:=rfl
     have g2 : fitS s (V 4294967296 xs) (V 4294967296 ys) 0 0 p r mn mx = ofS s (V 4294967296 xs) (V 4294967296 ys) ⟨p,r,mn,mx⟩:=rfl
     clear hok
     repeat' (first|with_reducible refine q_0 ?_|((with_reducible first|refine q_q dli_ok fun K hK=>?_|refine q_r dli_ok fun K hK=>?_);simp (maxSteps:=2000000) only [go_sem,↓reduceIte,reduceCtorEq,Nat.reduceLeDiff,Nat.reduceLT,Nat.reduceBEq,Nat.reduceAdd,o0,o1,oD,V65,g1,g2];(repeat1' with_reducible first|apply And.intro|(intro _;try exact q_v)|(refine hK _ ?_;clear hK K))<;>(try (clear hK K;exact q_u)))|(with_reducible refine q_s ?_;(first|apply q_J|apply q_K|apply q_L|apply q_M|apply q_N|apply q_O)<;>try (intro _;try exact q_v)))
     all_goals first | omega | assumption | exact cut_fit hY () q_D | skip
 intro _
 clear h0 h0' b0 b0'
 generalize hN0 : rdN (sg s1 (drN ⟨k,s1,V 4294967296 x1,e⟩)) (drD ⟨k,s1,V 4294967296 x1,e⟩) = N0
 generalize hD0 : rdD (sg s1 (drN ⟨k,s1,V 4294967296 x1,e⟩)) (drD ⟨k,s1,V 4294967296 x1,e⟩) = D0
 refine seq_join (ι:={ v : Bool × List Int × Bool × List Int × Int × Int // PzR (okD k s1 a x1 e) k N0 D0 v }) (fun v=>⟨213,[(5,.bx 1 0),(6,.bx 2 0),(8,.c (.b false)),(12,.bx 6 0),(16,.bx 9 0),(17,.bx 10 0)],⟨[(10,[.c (.i .i64 v.1.2.2.2.2.1),.c (.i .i64 v.1.2.2.2.2.2)]),(9,[.c (.b v.1.1),.c (.ints .u32 v.1.2.1),.c (.b v.1.2.2.1),.c (.ints .u32 v.1.2.2.2.1)]),(6,v2),(2,aD l s2 b x2 f),(1,aD k s1 a x1 e)],[],[]⟩,11⟩) ?_ ?_
 ·cases oD : okD k s1 a x1 e
  ·repeat' (first|with_reducible refine q_0 ?_|((with_reducible first|refine q_q dli_ok fun K hK=>?_|refine q_r dli_ok fun K hK=>?_);simp (maxSteps:=2000000) only [go_sem,↓reduceIte,reduceCtorEq,Nat.reduceLeDiff,Nat.reduceLT,Nat.reduceBEq,Nat.reduceAdd,oD];(repeat1' with_reducible first|apply And.intro|(intro _;try exact q_v)|(refine hK _ ?_;clear hK K))<;>(try (clear hK K;exact q_u)))|(with_reducible refine q_s ?_;(first|apply q_J|apply q_K|apply q_L|apply q_M|apply q_N|apply q_O)<;>try (intro _;try exact q_v)))
   all_goals first | omega | assumption | exact join_told ⟨(false,[],false,[],6, -1),⟨fun _=>rfl,fun h=>absurd h.1 (by decide),fun h=>absurd h.1 (by decide)⟩⟩ q_D | skip
  ·by_cases k0 : k = 0
   ·subst k0
    have n0 : ((0 : Int) ≠ 0) = False:=eq_false (fun h=>h rfl)
    repeat' (first|with_reducible refine q_0 ?_|((with_reducible first|refine q_q dli_ok fun K hK=>?_|refine q_r dli_ok fun K hK=>?_);simp (maxSteps:=2000000) only [go_sem,↓reduceIte,reduceCtorEq,Nat.reduceLeDiff,Nat.reduceLT,Nat.reduceBEq,Nat.reduceAdd,oD,n0,hN0,hD0];(repeat1' with_reducible first|apply And.intro|(intro _;try exact q_v)|(refine hK _ ?_;clear hK K))<;>(try (clear hK K;exact q_u)))|(with_reducible refine q_s ?_;(first|apply q_J|apply q_K|apply q_L|apply q_M|apply q_N|apply q_O)<;>try (intro _;try exact q_v)))
    all_goals first | omega | assumption | exact join_told ⟨(decide (fN N0 D0 < 0),dg 4294967296 (fN N0 D0).natAbs,false,dg 4294967296 (fD N0 D0),fC N0 D0,fI N0 D0),⟨fun h=>absurd h (by decide),fun h=>absurd rfl h.2,fun _=>rfl⟩⟩ q_D | skip
   ·have n0 : (k = 0) = False:=eq_false k0
    repeat' (first|with_reducible refine q_0 ?_|((with_reducible first|refine q_q dli_ok fun K hK=>?_|refine q_r dli_ok fun K hK=>?_);simp (maxSteps:=2000000) only [go_sem,↓reduceIte,reduceCtorEq,Nat.reduceLeDiff,Nat.reduceLT,Nat.reduceBEq,Nat.reduceAdd,oD,n0];(repeat1' with_reducible first|apply And.intro|(intro _;try exact q_v)|(refine hK _ ?_;clear hK K))<;>(try (clear hK K;exact q_u)))|(with_reducible refine q_s ?_;(first|apply q_J|apply q_K|apply q_L|apply q_M|apply q_N|apply q_O)<;>try (intro _;try exact q_v)))
    all_goals first | omega | assumption | exact join_told ⟨(false,[],false,[],13, -1),⟨fun h=>absurd h (by decide),fun _=>rfl,fun h=>absurd h.2 k0⟩⟩ q_D | skip
 rintro ⟨⟨g1,g2,g3,g4,g5,g6⟩,hv⟩
 simp only
 have hq2 : ([(k,s1,a,x1,e),(l,s2,b,x2,f)] : List D5).length = 2:=rfl
 obtain ⟨kc,fc,fx,hcm,hcf⟩:=cmpA_ex (k:=k) (s:=s1) (m:=V 4294967296 x1) (e:=e) (l:=l) (t:=s2) (n:=V 4294967296 x2) (f:=f) [(k,s1,a,x1,e),(l,s2,b,x2,f)]
 have hok : dbC [(k,s1,a,x1,e),(l,s2,b,x2,f)] = 0 → okD k s1 a x1 e = true ∧ okD l s2 b x2 f = true:=fun h=>by
  cases o1 : okD k s1 a x1 e
  ·simp [dbC,okD5,o1] at h
  ·cases o2 : okD l s2 b x2 f
   ·simp [dbC,okD5,o1,o2] at h
   ·exact ⟨rfl,rfl⟩
 have hkk : nbC [(k,s1,a,x1,e),(l,s2,b,x2,f)] = 0 → k ≠ 2 ∧ l ≠ 2:=fun h=>by
  refine ⟨fun hk=>?_,fun hl=>?_⟩
  ·simp [nbC,hk] at h
  ·by_cases hk : k = 2
   ·simp [nbC,hk] at h
   ·simp [nbC,hk,hl] at h
 refine seq_cut5 (ι:=Unit) (fun _=>⟨213,[(5,.bx 1 0),(8,.c (.b false)),(16,.bx 9 0),(17,.bx 10 0)],⟨[(10,[.c (.i .i64 g5),.c (.i .i64 g6)]),(9,[.c (.b g1),.c (.ints .u32 g2),.c (.b g3),.c (.ints .u32 g4)]),(1,aD k s1 a x1 e)],[],[]⟩,12⟩) (fun Y hY=>?_) ?_
 ·clear hv hN0 hD0
  repeat' (first|with_reducible refine q_0 ?_|((with_reducible first|refine q_q dli_ok fun K hK=>?_|refine q_r dli_ok fun K hK=>?_);simp (maxSteps:=2000000) only [go_sem,↓reduceIte,reduceCtorEq,Nat.reduceLeDiff,Nat.reduceLT,Nat.reduceBEq,Nat.reduceAdd,hcm];(repeat1' with_reducible first|apply And.intro|(intro _;try exact q_v)|(refine hK _ ?_;clear hK K))<;>(try (clear hK K;exact q_u)))|(with_reducible refine q_s ?_;(first|apply q_J|apply q_K|apply q_L|apply q_M|apply q_N|apply q_O)<;>try (intro _;try exact q_v)))
  all_goals first | omega | assumption | skip
  rw [show [[C.i .i64 k,.b s1,.b a,.ints .u32 x1,.i .i64 e],[C.i .i64 l,.b s2,.b b,.ints .u32 x2,.i .i64 f]] = ([(k,s1,a,x1,e),(l,s2,b,x2,f)] : List D5).map rowD from rfl]
  generalize hq : [(k,s1,a,x1,e),(l,s2,b,x2,f)] = q at *
  have hml' : (q.map rowD).length = 2:=by rw [List.length_map,hq2]
  refine q_G (ι:={ j : Nat × Int × Int // j.1 ≤ 2 ∧ ((j.2.1 = 0 ∧ j.2.2 = 0 ∧ dbC (q.drop j.1) = dbC q ∧ dbX j.1 (q.drop j.1) = dbX 0 q) ∨ (j.2.1 ≠ 0 ∧ j.2.1 = dbC q ∧ j.2.2 = dbX 0 q)) }) (fun j=>⟨213,[(5,.bx 1 0),(6,.bx 2 0),(8,.c (.b false)),(12,.bx 6 0),(16,.bx 9 0),(17,.bx 10 0),(18,.c (.i .i64 kc)),(19,.bx 11 0),(102,.c (.sl 5 (q.map rowD))),(103,.c (.i .i64 2)),(104,.c (.i .i64 (j.1.1 : Nat)))],⟨[(11,[.c (.i .i64 fc),.c (.i .i64 fx)]),(10,[.c (.i .i64 g5),.c (.i .i64 g6)]),(9,[.c (.b g1),.c (.ints .u32 g2),.c (.b g3),.c (.ints .u32 g4)]),(6,[.c (.i .i64 j.1.2.1),.c (.i .i64 j.1.2.2)]),(2,aD l s2 b x2 f),(1,aD k s1 a x1 e)],[],[]⟩,12⟩) (fun j=>2 - j.1.1) ⟨(0,0,0),by simp only; omega,.inl ⟨rfl,rfl,rfl,rfl⟩⟩ ?_ ?_
  ·exact q_D
  rintro ⟨⟨i,c,x⟩,i1,i2⟩
  simp only at i1 i2 ⊢
  obtain ⟨n1,n2⟩:=allD_get (i:=i) hal
  rcases Nat.lt_or_ge i 2 with hi | hi
  ·have hr:=rowD_get q i (by omega)
   rcases i2 with ⟨rfl,rfl,i3,i4⟩ | ⟨i3,i4,i5⟩
   ·rw [drop_getD5 q i (by omega),dbC] at i3
    rw [drop_getD5 q i (by omega),dbX] at i4
    unfold okD5 at i3 i4
    cases ho : okD (q.getD i d0).1 (q.getD i d0).2.1 (q.getD i d0).2.2.1 (q.getD i d0).2.2.2.1 (q.getD i d0).2.2.2.2
    ·simp only [ho,Bool.false_eq_true,if_false] at i3 i4
     repeat' (first|with_reducible refine q_0 ?_|((with_reducible first|refine q_q dli_ok fun K hK=>?_|refine q_r dli_ok fun K hK=>?_);simp (maxSteps:=2000000) only [go_sem,↓reduceIte,reduceCtorEq,Nat.reduceLeDiff,Nat.reduceLT,Nat.reduceBEq,Nat.reduceAdd,hr,ho,hml'];(repeat1' with_reducible first|apply And.intro|(intro _;try exact q_v)|(refine hK _ ?_;clear hK K))<;>(try (clear hK K;exact q_u)))|(with_reducible refine q_s ?_;(first|apply q_J|apply q_K|apply q_L|apply q_M|apply q_N|apply q_O)<;>try (intro _;try exact q_v)))
     all_goals first | omega | assumption | skip
     refine q_F ⟨(i + 1,6, -1 - (i : Int)),by simp only; omega,.inr ⟨by simp only; omega,i3,i4⟩⟩ ?_ (by simp only; omega)
     exact q_D
    ·simp only [ho,if_true] at i3 i4
     repeat' (first|with_reducible refine q_0 ?_|((with_reducible first|refine q_q dli_ok fun K hK=>?_|refine q_r dli_ok fun K hK=>?_);simp (maxSteps:=2000000) only [go_sem,↓reduceIte,reduceCtorEq,Nat.reduceLeDiff,Nat.reduceLT,Nat.reduceBEq,Nat.reduceAdd,hr,ho,hml'];(repeat1' with_reducible first|apply And.intro|(intro _;try exact q_v)|(refine hK _ ?_;clear hK K))<;>(try (clear hK K;exact q_u)))|(with_reducible refine q_s ?_;(first|apply q_J|apply q_K|apply q_L|apply q_M|apply q_N|apply q_O)<;>try (intro _;try exact q_v)))
     all_goals first | omega | assumption | skip
     refine q_F ⟨(i + 1,0,0),by simp only; omega,.inl ⟨rfl,rfl,i3,by push_cast; exact i4⟩⟩ ?_ (by simp only; omega)
     exact q_D
   ·repeat' (first|with_reducible refine q_0 ?_|((with_reducible first|refine q_q dli_ok fun K hK=>?_|refine q_r dli_ok fun K hK=>?_);simp (maxSteps:=2000000) only [go_sem,↓reduceIte,reduceCtorEq,Nat.reduceLeDiff,Nat.reduceLT,Nat.reduceBEq,Nat.reduceAdd,hr,hml'];(repeat1' with_reducible first|apply And.intro|(intro _;try exact q_v)|(refine hK _ ?_;clear hK K))<;>(try (clear hK K;exact q_u)))|(with_reducible refine q_s ?_;(first|apply q_J|apply q_K|apply q_L|apply q_M|apply q_N|apply q_O)<;>try (intro _;try exact q_v)))
    all_goals first | omega | assumption | skip
    refine q_F ⟨(i + 1,c,x),by simp only; omega,.inr ⟨i3,i4,i5⟩⟩ ?_ (by simp only; omega)
    exact q_D
  obtain rfl : i = 2:=by omega
  have hW : c = dbC q ∧ x = dbX 0 q ∧ (dbC q = 0 → x = 0):=by
   rcases i2 with ⟨rfl,rfl,i3,i4⟩ | ⟨i3,i4,i5⟩
   ·rw [List.drop_eq_nil_of_le (by omega)] at i3 i4
    exact ⟨i3,i4,fun _=>rfl⟩
   ·exact ⟨i4,i5,fun h=>absurd (i4.trans h) i3⟩
  obtain ⟨w1,w2,w3⟩:=hW
  clear n1 n2
  repeat' (first|with_reducible refine q_0 ?_|((with_reducible first|refine q_q dli_ok fun K hK=>?_|refine q_r dli_ok fun K hK=>?_);simp (maxSteps:=2000000) only [go_sem,↓reduceIte,reduceCtorEq,Nat.reduceLeDiff,Nat.reduceLT,Nat.reduceBEq,Nat.reduceAdd,hml'];(repeat1' with_reducible first|apply And.intro|(intro _;try exact q_v)|(refine hK _ ?_;clear hK K))<;>(try (clear hK K;exact q_u)))|(with_reducible refine q_s ?_;(first|apply q_J|apply q_K|apply q_L|apply q_M|apply q_N|apply q_O)<;>try (intro _;try exact q_v)))
  all_goals first | omega | assumption | skip
  rw [show [[C.i .i64 k,.b s1,.b a,.ints .u32 x1,.i .i64 e],[C.i .i64 l,.b s2,.b b,.ints .u32 x2,.i .i64 f]] = ([(k,s1,a,x1,e),(l,s2,b,x2,f)] : List D5).map rowD from rfl,hq]
  refine q_G (ι:={ j : Nat × Int × Int // j.1 ≤ 2 ∧ ((dbC q ≠ 0 ∧ j.2.1 = dbC q ∧ j.2.2 = dbX 0 q) ∨ (dbC q = 0 ∧ j.2.1 = 0 ∧ j.2.2 = 0 ∧ nbC (q.drop j.1) = nbC q ∧ nbX j.1 (q.drop j.1) = nbX 0 q) ∨ (dbC q = 0 ∧ j.2.1 ≠ 0 ∧ j.2.1 = nbC q ∧ j.2.2 = nbX 0 q)) }) (fun j=>⟨213,[(5,.bx 1 0),(6,.bx 2 0),(8,.c (.b false)),(12,.bx 6 0),(16,.bx 9 0),(17,.bx 10 0),(18,.c (.i .i64 kc)),(19,.bx 11 0),(123,.c (.sl 5 (q.map rowD))),(124,.c (.i .i64 2)),(125,.c (.i .i64 (j.1.1 : Nat)))],⟨[(11,[.c (.i .i64 fc),.c (.i .i64 fx)]),(10,[.c (.i .i64 g5),.c (.i .i64 g6)]),(9,[.c (.b g1),.c (.ints .u32 g2),.c (.b g3),.c (.ints .u32 g4)]),(6,[.c (.i .i64 j.1.2.1),.c (.i .i64 j.1.2.2)]),(2,aD l s2 b x2 f),(1,aD k s1 a x1 e)],[],[]⟩,12⟩) (fun j=>2 - j.1.1) ⟨(0,c,x),by simp only; omega,by
   by_cases h : dbC q = 0
   ·exact .inr (.inl ⟨h,w1.trans h,w3 h,rfl,rfl⟩)
   ·exact .inl ⟨h,w1,w2⟩⟩ ?_ ?_
  ·exact q_D
  rintro ⟨⟨i,c',x'⟩,j1,j2⟩
  simp only at j1 j2 ⊢
  rcases Nat.lt_or_ge i 2 with hi | hi
  ·have hr:=rowD_get q i (by omega)
   rcases j2 with ⟨j3,j4,j5⟩ | ⟨j3,rfl,rfl,j4,j5⟩ | ⟨j3,j4,j5,j6⟩
   ·have hc0 : c' ≠ 0:=fun h=>j3 (j4.symm.trans h)
    repeat' (first|with_reducible refine q_0 ?_|((with_reducible first|refine q_q dli_ok fun K hK=>?_|refine q_r dli_ok fun K hK=>?_);simp (maxSteps:=2000000) only [go_sem,↓reduceIte,reduceCtorEq,Nat.reduceLeDiff,Nat.reduceLT,Nat.reduceBEq,Nat.reduceAdd,hr,hml'];(repeat1' with_reducible first|apply And.intro|(intro _;try exact q_v)|(refine hK _ ?_;clear hK K))<;>(try (clear hK K;exact q_u)))|(with_reducible refine q_s ?_;(first|apply q_J|apply q_K|apply q_L|apply q_M|apply q_N|apply q_O)<;>try (intro _;try exact q_v)))
    all_goals first | omega | assumption | skip
    refine q_F ⟨(i + 1,c',x'),by simp only; omega,.inl ⟨j3,j4,j5⟩⟩ ?_ (by simp only; omega)
    exact q_D
   ·rw [drop_getD5 q i (by omega),nbC] at j4
    rw [drop_getD5 q i (by omega),nbX] at j5
    by_cases ho : (q.getD i d0).1 = 2
    ·rw [if_pos ho] at j4 j5
     repeat' (first|with_reducible refine q_0 ?_|((with_reducible first|refine q_q dli_ok fun K hK=>?_|refine q_r dli_ok fun K hK=>?_);simp (maxSteps:=2000000) only [go_sem,↓reduceIte,reduceCtorEq,Nat.reduceLeDiff,Nat.reduceLT,Nat.reduceBEq,Nat.reduceAdd,hr,hml'];(repeat1' with_reducible first|apply And.intro|(intro _;try exact q_v)|(refine hK _ ?_;clear hK K))<;>(try (clear hK K;exact q_u)))|(with_reducible refine q_s ?_;(first|apply q_J|apply q_K|apply q_L|apply q_M|apply q_N|apply q_O)<;>try (intro _;try exact q_v)))
     all_goals first | omega | assumption | skip
     refine q_F ⟨(i + 1,13, -1 - (i : Int)),by simp only; omega,.inr (.inr ⟨j3,by simp only; omega,j4,j5⟩)⟩ ?_ (by simp only; omega)
     exact q_D
    ·rw [if_neg ho] at j4 j5
     repeat' (first|with_reducible refine q_0 ?_|((with_reducible first|refine q_q dli_ok fun K hK=>?_|refine q_r dli_ok fun K hK=>?_);simp (maxSteps:=2000000) only [go_sem,↓reduceIte,reduceCtorEq,Nat.reduceLeDiff,Nat.reduceLT,Nat.reduceBEq,Nat.reduceAdd,hr,hml'];(repeat1' with_reducible first|apply And.intro|(intro _;try exact q_v)|(refine hK _ ?_;clear hK K))<;>(try (clear hK K;exact q_u)))|(with_reducible refine q_s ?_;(first|apply q_J|apply q_K|apply q_L|apply q_M|apply q_N|apply q_O)<;>try (intro _;try exact q_v)))
     all_goals first | omega | assumption | skip
     refine q_F ⟨(i + 1,0,0),by simp only; omega,.inr (.inl ⟨j3,rfl,rfl,j4,by push_cast; exact j5⟩)⟩ ?_ (by simp only; omega)
     exact q_D
   ·repeat' (first|with_reducible refine q_0 ?_|((with_reducible first|refine q_q dli_ok fun K hK=>?_|refine q_r dli_ok fun K hK=>?_);simp (maxSteps:=2000000) only [go_sem,↓reduceIte,reduceCtorEq,Nat.reduceLeDiff,Nat.reduceLT,Nat.reduceBEq,Nat.reduceAdd,hr,hml'];(repeat1' with_reducible first|apply And.intro|(intro _;try exact q_v)|(refine hK _ ?_;clear hK K))<;>(try (clear hK K;exact q_u)))|(with_reducible refine q_s ?_;(first|apply q_J|apply q_K|apply q_L|apply q_M|apply q_N|apply q_O)<;>try (intro _;try exact q_v)))
    all_goals first | omega | assumption | skip
    refine q_F ⟨(i + 1,c',x'),by simp only; omega,.inr (.inr ⟨j3,j4,j5,j6⟩)⟩ ?_ (by simp only; omega)
    exact q_D
  obtain rfl : i = 2:=by omega
  have hV : (dbC q ≠ 0 ∧ c' = dbC q ∧ x' = dbX 0 q) ∨ (dbC q = 0 ∧ c' = nbC q ∧ x' = nbX 0 q):=by
   rcases j2 with j2 | ⟨j3,rfl,rfl,j4,j5⟩ | ⟨j3,j4,j5,j6⟩
   ·exact .inl j2
   ·rw [List.drop_eq_nil_of_le (by omega)] at j4 j5
    exact .inr ⟨j3,j4,j5⟩
   ·exact .inr ⟨j3,j5,j6⟩
  rcases hcf with ⟨u1,rfl,u3,u4⟩ | ⟨u1,u2,rfl,u4,u5⟩ | ⟨u1,u2,u3,u4,u5⟩
  ·have v1 : fc = c':=by omega
   have v2' : fx = x':=by omega
   have v3 : c' ≠ 0:=by omega
   subst v1 v2'
   clear hV hok hkk
   repeat' (first|with_reducible refine q_0 ?_|((with_reducible first|refine q_q dli_ok fun K hK=>?_|refine q_r dli_ok fun K hK=>?_);simp (maxSteps:=2000000) only [go_sem,↓reduceIte,reduceCtorEq,Nat.reduceLeDiff,Nat.reduceLT,Nat.reduceBEq,Nat.reduceAdd,hml'];(repeat1' with_reducible first|apply And.intro|(intro _;try exact q_v)|(refine hK _ ?_;clear hK K))<;>(try (clear hK K;exact q_u)))|(with_reducible refine q_s ?_;(first|apply q_J|apply q_K|apply q_L|apply q_M|apply q_N|apply q_O)<;>try (intro _;try exact q_v)))
   all_goals first | omega | assumption | exact cut_fit hY () q_D | skip
  ·have v1 : fc = c':=by omega
   have v2' : fx = x':=by omega
   have v3 : c' ≠ 0:=by omega
   subst v1 v2'
   clear hV hok hkk
   repeat' (first|with_reducible refine q_0 ?_|((with_reducible first|refine q_q dli_ok fun K hK=>?_|refine q_r dli_ok fun K hK=>?_);simp (maxSteps:=2000000) only [go_sem,↓reduceIte,reduceCtorEq,Nat.reduceLeDiff,Nat.reduceLT,Nat.reduceBEq,Nat.reduceAdd,hml'];(repeat1' with_reducible first|apply And.intro|(intro _;try exact q_v)|(refine hK _ ?_;clear hK K))<;>(try (clear hK K;exact q_u)))|(with_reducible refine q_s ?_;(first|apply q_J|apply q_K|apply q_L|apply q_M|apply q_N|apply q_O)<;>try (intro _;try exact q_v)))
   all_goals first | omega | assumption | exact cut_fit hY () q_D | skip
  ·obtain ⟨o1,o2⟩:=hok u1
   obtain ⟨k2,l2⟩:=hkk u2
   have v1 : c' = 0:=by omega
   have v2' : x' = 0:=by
    rcases hV with ⟨h,_⟩ | ⟨_,h1,h2⟩
    ·exact absurd u1 h
    ·rw [h2,← hq]; simp [nbX,k2,l2]
   subst u4 u5 v1 v2'
   clear hV hok hkk
   have u3:=u3.symm
   repeat' (first|with_reducible refine q_0 ?_|((with_reducible first|refine q_q dli_ok fun K hK=>?_|refine q_r dli_ok fun K hK=>?_);simp (maxSteps:=2000000) only [go_sem,↓reduceIte,reduceCtorEq,Nat.reduceLeDiff,Nat.reduceLT,Nat.reduceBEq,Nat.reduceAdd,hml',o1,o2,u3];(repeat1' with_reducible first|apply And.intro|(intro _;try exact q_v)|(refine hK _ ?_;clear hK K))<;>(try (clear hK K;exact q_u)))|(with_reducible refine q_s ?_;(first|apply q_J|apply q_K|apply q_L|apply q_M|apply q_N|apply q_O)<;>try (intro _;try exact q_v)))
   all_goals first | omega | assumption | exact cut_fit hY () q_D | skip
 intro _
 clear hcm hcf hok hkk hal hq2
 obtain ⟨p1,p2,p3⟩:=hv
 cases oD : okD k s1 a x1 e
 ·cases p1 oD
  repeat' (first|with_reducible refine q_0 ?_|((with_reducible first|refine q_q dli_ok fun K hK=>?_|refine q_r dli_ok fun K hK=>?_);simp (maxSteps:=2000000) only [go_sem,↓reduceIte,reduceCtorEq,Nat.reduceLeDiff,Nat.reduceLT,Nat.reduceBEq,Nat.reduceAdd,oD];(repeat1' with_reducible first|apply And.intro|(intro _;try exact q_v)|(refine hK _ ?_;clear hK K))<;>(try (clear hK K;exact q_u)))|(with_reducible refine q_s ?_;(first|apply q_J|apply q_K|apply q_L|apply q_M|apply q_N|apply q_O)<;>try (intro _;try exact q_v)))
  all_goals first | omega | assumption | exact q_A rfl | exact q_A (by simp [resAV,q_y]) | skip
 by_cases k0 : k = 0
 ·cases p3 ⟨oD,k0⟩
  subst k0
  obtain ⟨_,r1⟩:=gDc_of oD b1
  obtain ⟨d1,d2⟩:=dr_len r1
  obtain ⟨d3,d4,d5⟩:=okd_exp r1
  have hdp:=drD_pos ⟨0,s1,V 4294967296 x1,e⟩
  have l3:=ds_65b (n:=drN ⟨0,s1,V 4294967296 x1,e⟩) (by omega)
  have l4:=ds_65b (n:=drD ⟨0,s1,V 4294967296 x1,e⟩) (by omega)
  have l5:=ds_65b (n:=V 4294967296 x1) (by simp only at d3; omega)
  have q1 : drN ⟨0,s1,V 4294967296 x1,e⟩ = V 4294967296 x1 * 10 ^ e.toNat:=rfl
  have q2 : drD ⟨0,s1,V 4294967296 x1,e⟩ = 10 ^ (-e).toNat:=rfl
  have z1:=fN_len N0 D0
  have z2:=fD_len N0 D0
  have t0 : (1 : Int).toNat = 1:=rfl
  have hl1 : x1.length ≤ 600:=by
   obtain ⟨_,hx,_⟩:=okD_eq oD b1
   have:=coef_len d3
   rw [hx]; exact Nat.le_trans this (by omega)
  simp only at d3 d4 d5
  clear r1 p1 p2 p3
  generalize hN : drN ⟨0,s1,V 4294967296 x1,e⟩ = N at *
  generalize hD : drD ⟨0,s1,V 4294967296 x1,e⟩ = D at *
  by_cases he : 0 < e
  ·have u3 : (-e).toNat = 0:=by omega
   rw [u3,Nat.pow_zero] at q2
   subst q2
   have q1:=q1.symm
   have l6:=ds_65b (n:=10 ^ e.toNat) (by rw [ds_ten]; omega)
   repeat' (first|with_reducible refine q_0 ?_|((with_reducible first|refine q_q dli_ok fun K hK=>?_|refine q_r dli_ok fun K hK=>?_);simp (maxSteps:=2000000) only [go_sem,↓reduceIte,reduceCtorEq,Nat.reduceLeDiff,Nat.reduceLT,Nat.reduceBEq,Nat.reduceAdd,oD,t0,q1,hN0,hD0,sv32,V32,sv65,V65,svz65,Nrm_g,Nrm_n,sv32n,sv65d];(repeat1' with_reducible first|apply And.intro|(intro _;try exact q_v)|(refine hK _ ?_;clear hK K))<;>(try (clear hK K;exact q_u)))|(with_reducible refine q_s ?_;(first|apply q_J|apply q_K|apply q_L|apply q_M|apply q_N|apply q_O)<;>try (intro _;try exact q_v)))
   all_goals first | omega | assumption | exact q_A rfl | exact q_A (by simp [resAV,q_y]) | skip
  ·have u3 : e.toNat = 0:=by omega
   rw [u3,Nat.pow_zero,Nat.mul_one] at q1
   have q2 : 10 ^ (0 - e).toNat = D:=by rw [Int.zero_sub]; exact q2.symm
   subst q1
   repeat' (first|with_reducible refine q_0 ?_|((with_reducible first|refine q_q dli_ok fun K hK=>?_|refine q_r dli_ok fun K hK=>?_);simp (maxSteps:=2000000) only [go_sem,↓reduceIte,reduceCtorEq,Nat.reduceLeDiff,Nat.reduceLT,Nat.reduceBEq,Nat.reduceAdd,oD,t0,q2,hN0,hD0,sv32,V32,sv65,V65,svz65,Nrm_g,Nrm_n,sv32n,sv65d];(repeat1' with_reducible first|apply And.intro|(intro _;try exact q_v)|(refine hK _ ?_;clear hK K))<;>(try (clear hK K;exact q_u)))|(with_reducible refine q_s ?_;(first|apply q_J|apply q_K|apply q_L|apply q_M|apply q_N|apply q_O)<;>try (intro _;try exact q_v)))
   all_goals first | omega | assumption | exact q_A rfl | exact q_A (by simp [resAV,q_y]) | skip
 ·cases p2 ⟨oD,k0⟩
  repeat' (first|with_reducible refine q_0 ?_|((with_reducible first|refine q_q dli_ok fun K hK=>?_|refine q_r dli_ok fun K hK=>?_);simp (maxSteps:=2000000) only [go_sem,↓reduceIte,reduceCtorEq,Nat.reduceLeDiff,Nat.reduceLT,Nat.reduceBEq,Nat.reduceAdd,oD];(repeat1' with_reducible first|apply And.intro|(intro _;try exact q_v)|(refine hK _ ?_;clear hK K))<;>(try (clear hK K;exact q_u)))|(with_reducible refine q_s ?_;(first|apply q_J|apply q_K|apply q_L|apply q_M|apply q_N|apply q_O)<;>try (intro _;try exact q_v)))
  all_goals first | omega | assumption | exact q_A rfl | exact q_A (by simp [resAV,q_y]) | skip
end Go.Proofs.YtgkajjifbcmoeaaGreatDoor

namespace Go.Proofs.YtgkajjifbcmoeaaGreatDoor
set_option linter.unusedSimpArgs false
set_option linter.unusedVariables false
open Go.Abs Go.Proofs.NatL Go.ChangeShapes Go.WideShapes Go.ChangeAt Go.RowKit

set_option maxRecDepth 100000 in
theorem open_Decimal {H : Type} {enc : TypeId × Value → H} {W : World} {base : Nat} {v : Value} {d : DataW H} {p : List MemPlace} (hval : Value.okWide Tryz.prog W .any base 26 v) (h : DataW.Trod enc Tryz.prog W 0 (fun _=>true) true 26 v d p) (hs : Sized Tryz.prog 26 d) :
  ∃ (k : Int) (s a : Bool) (xs : List Int) (e : Int),RdS W Top (.inr [.i .i64 k,.b s,.b a,.ints .u32 xs,.i .i64 e]) v ∧ xs.length ≤ 140737488355328 ∧ InB 4294967296 xs:=by
 obtain ⟨cs,rfl,hcs⟩:=okWide_struct Tryz.underlying26 hval
 obtain ⟨fuel,hf⟩:=h
 obtain ⟨ys,n,_,hy,hl,hlen,hfs⟩:=DataW.trod_struct Tryz.underlying26 hf
 cases hy
 match ys,hlen with
 | [y0,y1,y2,y3],_ =>
 have f0 : DataW.trod enc Tryz.prog W 0 (fun _=>true) true n 3 ((cs.toList.drop 0).take (Tryz.prog.cellsOf 3)) = some y0:=hfs 0 _ rfl
 rw [cells_int] at f0
 have f1 : DataW.trod enc Tryz.prog W 0 (fun _=>true) true n 4 ((cs.toList.drop 1).take (Tryz.prog.cellsOf 4)) = some y1:=hfs 1 _ rfl
 rw [cells_bool] at f1
 have f2 : DataW.trod enc Tryz.prog W 0 (fun _=>true) true n 24 ((cs.toList.drop 2).take (Tryz.prog.cellsOf 24)) = some y2:=hfs 2 _ rfl
 rw [cells_Int] at f2
 have f3 : DataW.trod enc Tryz.prog W 0 (fun _=>true) true n 3 ((cs.toList.drop 4).take (Tryz.prog.cellsOf 3)) = some y3:=hfs 3 _ rfl
 rw [cells_int] at f3
 have hl : cs.toList.length = Tryz.prog.cellsOf 26:=hl
 obtain ⟨z0,hs⟩:=szd_cons (szd_struct Tryz.underlying26 hs)
 obtain ⟨z1,hs⟩:=szd_cons hs
 obtain ⟨z2,hs⟩:=szd_cons hs
 obtain ⟨k,e0,_,_⟩:=DataW.trod_int Tryz.underlying3 f0
 obtain ⟨s,e1,_⟩:=DataW.trod_bool Tryz.underlying4 f1
 obtain ⟨a,xs,r2,l2,b2⟩:=int_cells f2 z2
 obtain ⟨e,e3,_,_⟩:=DataW.trod_int Tryz.underlying3 f3
 refine ⟨k,s,a,xs,e,⟨cs,rfl,?_⟩,l2,b2⟩
 have hlen : cs.toList.length = 5:=by rw [hl]; kernel_rfl
 match hq : cs.toList,hlen with
 | [a0,a1,a2,a3,a4],_ =>
 rw [hq] at e0 e1 r2 e3
 simp only [List.drop_zero,List.drop_succ_cons,List.take_succ_cons,List.take_zero,List.cons.injEq,and_true] at e0 e1 r2 e3
 subst e0; subst e1; subst e3
 exact rdL_append (rdL_one (.i .i64 k)) (rdL_append (rdL_one (.b s)) (rdL_append r2 (rdL_one (.i .i64 e))))
end Go.Proofs.YtgkajjifbcmoeaaGreatDoor

namespace Go.Proofs.YtgkajjifbcmoeaaGreatDoor
set_option linter.unusedSimpArgs false
set_option linter.unusedVariables false
open Go.Abs Go.Proofs.NatL Go.ChangeShapes Go.WideShapes Go.ChangeAt Go.RowKit

set_option maxRecDepth 100000 in
theorem decimalRatios_contract (H : Type) (enc : TypeId × Value → H) (W : World) (base : Nat) (args : Array Value) (ds gs : List (DataW H)) (before : List MemPlace)
  (hval : ∀ (j : Nat) t v,Tryz.f12.params[j]? = some t → args[j]? = some v → Value.okWide Tryz.prog W .any base t v)
  (hW : DataW.Whole enc Tryz.prog Tryz.f12.params.toList Rows.decimalRatiosSpec.vars false W args.toList ds gs before)
  (hz : (DataW.weightsEach Tryz.prog (Tryz.f12.params.toList ++ Rows.decimalRatiosSpec.plain.varTypes Tryz.prog) (ds ++ gs)).all (· ≤ reachBytes) = true) :
  Calls Tryz.prog 12 args W fun e W'=>∃ v,e = .returned v ∧ Rows.decimalRatiosSpec.post enc Tryz.prog Tryz.f12 false true false false W args v W':=by
 have hW':=hW
 obtain ⟨p,q,hA0,hV,rfl,hfz,hnd⟩:=hW
 have hA : DataW.TrodAll enc Tryz.prog W 0 (fun _=>true) true Tryz.f12.params.toList args.toList ds p:=hA0
 rw [Tryz.params12] at hA hval hz
 obtain ⟨v0,vs0,d0,ds0,p0,q0,hargs,rfl,rfl,h0,r'0⟩:=trodAll_cons hA
 obtain ⟨v1,vs1,d1,ds1,p1,q1,rfl,rfl,rfl,h1,r'1⟩:=trodAll_cons r'0
 obtain ⟨v2,vs2,d2,ds2,p2,q2,rfl,rfl,rfl,h2,r'2⟩:=trodAll_cons r'1
 obtain ⟨v3,vs3,d3,ds3,p3,q3,rfl,rfl,rfl,h3,r'3⟩:=trodAll_cons r'2
 obtain ⟨rfl,rfl,rfl⟩:=trodAll_nil r'3
 obtain rfl : args = #[v0,v1,v2,v3]:=by cases args; simp_all
 obtain ⟨rfl,rfl⟩:=trodVars_none hV
 obtain ⟨s0,hz⟩:=szd_cons hz
 obtain ⟨s1,hz⟩:=szd_cons hz
 obtain ⟨s2,hz⟩:=szd_cons hz
 obtain ⟨s3,hz⟩:=szd_cons hz
 obtain ⟨s_0a,x0a,s_0b,x0b,r0,l0,b0⟩:=open_Ratio (hval 0 _ v0 rfl rfl) h0 s0
 obtain ⟨k_1,s_1,a_1,x1,e_1,r1,l1,b1⟩:=open_Decimal (hval 1 _ v1 rfl rfl) h1 s1
 obtain ⟨k_2,s_2,a_2,x2,e_2,r2,l2,b2⟩:=open_Decimal (hval 2 _ v2 rfl rfl) h2 s2
 obtain ⟨p_3,r_3,m_3,n_3,r3⟩:=open_Context (hval 3 _ v3 rfl rfl) h3
 refine law_post [.inr [.b s_0a,.ints .u32 x0a,.b s_0b,.ints .u32 x0b],.inr [.i .i64 k_1,.b s_1,.b a_1,.ints .u32 x1,.i .i64 e_1],.inr [.i .i64 k_2,.b s_2,.b a_2,.ints .u32 x2,.i .i64 e_2],.inr [.i .i64 p_3,.i .i64 r_3,.i .i64 m_3,.i .i64 n_3]] kids full (by rw [Tryz.params12]; decide +kernel) rfl rfl Tryz.underlying4 rfl hW' rfl ?_ (dratios_ret s_0a s_0b x0a x0b k_1 k_2 s_1 s_2 a_1 a_2 x1 x2 e_1 e_2 p_3 r_3 m_3 n_3 l0 l1 l2 b0 b1 b2)
 intro j y u hy hu
 match j with
 | 0=>cases hy; cases hu; exact r0
 | 1=>cases hy; cases hu; exact r1
 | 2=>cases hy; cases hu; exact r2
 | 3=>cases hy; cases hu; exact r3
 | _ + 4=>simp at hy

set_option maxRecDepth 100000 in
theorem decimalRatios_lifted (os : Os) (started : os.Started) (H : Type) (enc : TypeId × Value → H) :
  ReturnsInHanded {} Tryz.checked os 12 .any (fun w args=>(Rows.decimalRatiosSpec.pre enc Tryz.prog Tryz.f12 Rows.decimalRatiosRow.domain false w args ∧ laidMetH Tryz.prog Rows.decimalRatiosRow.laid w) ∧ sizedMet enc Tryz.prog Tryz.f12 (OpenSpec.ofChange Rows.decimalRatiosSpec) false w args) (Rows.decimalRatiosSpec.post enc Tryz.prog Tryz.f12 false true false false):=by
 refine returnsInHanded_of_change_and (C:=Tryz.checked) (X:=fun w _=>laidMetH Tryz.prog Rows.decimalRatiosRow.laid w) (fun _ _ _ hh h=>h.of_heap hh) own_knob started (by kernel_rfl) Tryz.func12
  (ChangeSpec.witness_shaped (enc:=enc) (C:=Tryz.checked) (os:=os) (X:=fun w _=>laidMetH Tryz.prog Rows.decimalRatiosRow.laid w) false (World.laidAll Tryz.prog os Rows.decimalRatiosRow.laid) #[.agg #[.bool false,.slice none 0 0,.bool false,.slice none 0 0],.agg #[.int .i64 0,.bool false,.bool false,.slice none 0 0,.int .i64 0],.agg #[.int .i64 0,.bool false,.bool false,.slice none 0 0,.int .i64 0],.agg #[.int .i64 0,.int .i64 0,.int .i64 0,.int .i64 0]] 8 (World.laidAll_os _ _ _)
   (World.shaped_of_ZipB (by kernel_rfl) (by kernel_rfl)) (by kernel_rfl) (by kernel_rfl) (by kernel_rfl)
   (by rw [MakeChecks.laidMetH_plain _ _ _ (by kernel_rfl)]; exact laidMet_laidAll _ (by kernel_rfl) (by kernel_rfl))) ?_
 intro W base args ds gs before hval hW _ hz _ _
 exact decimalRatios_contract H enc W base args ds gs before hval hW hz

theorem decimalRatios_h1 : Rows.decimalRatiosRow.wf (OpenSpec.ofChange Rows.decimalRatiosSpec) = true:=by kernel_rfl
theorem decimalRatios_h2 : laidOutB Tryz.pinned.checked.prog = true:=by kernel_rfl
theorem decimalRatios_h3 : mapsRowed Tryz.pinned.checked.prog = true:=by kernel_rfl
theorem decimalRatios_h4 : (Rows.decimalRatiosRow.inPlace == Tryz.pinned.checked.prog.inPlace 12) = true:=by kernel_rfl
theorem decimalRatios_h5 : (Rows.decimalRatiosRow.unfollowed == Tryz.pinned.checked.prog.unfollowed 12) = true:=by kernel_rfl
theorem decimalRatios_h6 : (Rows.decimalRatiosRow.recurses == Tryz.pinned.checked.prog.recurses 12) = true:=by kernel_rfl
theorem decimalRatios_h7 : (Rows.decimalRatiosRow.named == Tryz.pinned.checked.prog.varsNamed 12) = true:=by kernel_rfl
theorem decimalRatios_h8 : (Rows.decimalRatiosRow.plainKeys == Tryz.pinned.checked.prog.plainKeys) = true:=by kernel_rfl
theorem decimalRatios_and {a b : Bool} (ha : a = true) (hb : b = true) : (a && b) = true:=by rw [ha,hb]; rfl
theorem decimalRatios_facts : joinedFacts Tryz.pinned.checked.prog 12 Tryz.f12 Rows.decimalRatiosSpec Rows.decimalRatiosRow = true:=by
 unfold joinedFacts
 repeat' (with_reducible refine decimalRatios_and ?_ ?_)
 all_goals first
  | with_reducible exact decimalRatios_h1
  | with_reducible exact decimalRatios_h2
  | with_reducible exact decimalRatios_h3
  | with_reducible exact decimalRatios_h4
  | with_reducible exact decimalRatios_h5
  | with_reducible exact decimalRatios_h6
  | with_reducible exact decimalRatios_h7
  | with_reducible exact decimalRatios_h8
  | kernel_rfl

theorem decimalRatios_holds : Rows.DecimalRatiosSaid :=
 OpenClaim.holds_of_wide 12 Tryz.f12 rfl rfl rfl rfl rfl rfl rfl ⟨rfl,rfl,rfl,rfl,rfl⟩ rfl rfl rfl rfl rfl (by kernel_rfl) Tryz.func12 decimalRatios_facts
  (of_decide_eq_true (by kernel_rfl)) (by unfold Func.isWrapper; first | (rw [if_pos (by decide +kernel)]; kernel_rfl) | (rw [if_neg (by decide +kernel)]; exact ⟨rfl,rfl⟩))
  (fun os started H enc _=>decimalRatios_lifted os started H enc)

end Go.Proofs.YtgkajjifbcmoeaaGreatDoor
