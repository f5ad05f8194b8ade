import Derived.Test.YtgkajjifbcmoeaaGreatDoorM43
import Derived.Test.YtgkajjifbcmoeaaGreatDoorM77
import Derived.Test.YtgkajjifbcmoeaaGreatDoorM78
namespace Go.Proofs.YtgkajjifbcmoeaaGreatDoor
set_option linter.unusedSimpArgs false
set_option linter.unusedVariables false
open Go.Abs Go.Proofs.NatL

def dbj : Cfg:=listT [(62,validDCT)] [34]
theorem dbj_ok : TblOk Tryz.prog dbj:=listE_ok (by simp only [List.mem_singleton,forall_eq]; exact flt) ⟨⟨de4,de4_ok,rfl⟩,trivial⟩
attribute [go_sem] dbj
def rankCT : CT:=mkCT [nDc] true fun l K=>match l with
 | [.inr [.i .i64 k,.b s,.b a,.ints .u32 xs,.i .i64 e]]=>K (.c (.i .i64 (if k = 0 then 0 else if s = true then -1 else 1)))
 | _=>False
def dj1 : Cfg:=addT 97 rankCT cf0
theorem dj1_ok : TblOk Tryz.prog dj1:=q_I cf0_ok Tryz.func97 fun l K h=>by
 split at h
 ·rename_i k s a xs e
  refine ⟨_,Ret.plain ?_ rfl,h⟩
  by_cases h0 : k = 0
  ·rw [if_pos h0]
   (refine q_H Tryz.func97 (fun F=>?_); simp only [q_z,q_y,Tryz.ntmps97,Tryz.results97])
   repeat' (first|(with_reducible first|apply q_a|apply q_b|apply q_c|apply q_d|apply q_e|apply q_f|apply q_g|apply q_h|apply q_i|apply q_j|apply q_k|apply q_m|apply q_n|apply q_o|apply q_p|refine q_l ?_)|((with_reducible first|refine q_q dbj_ok fun K hK=>?_|refine q_r dbj_ok fun K hK=>?_);simp (maxSteps:=2000000) only [go_sem,↓reduceIte,reduceCtorEq,Nat.reduceLeDiff,Nat.reduceLT,Nat.reduceBEq,Nat.reduceAdd];(repeat1' with_reducible first|apply And.intro|(intro _;try exact q_v)|(refine hK _ ?_;clear hK K))<;>(try (clear hK K;exact q_u)))|(with_reducible refine q_s ?_;(first|apply q_J|apply q_K|apply q_L|apply q_M|apply q_N|apply q_O)<;>try (intro _;try exact q_v))|with_reducible refine q_t ?_)
   all_goals first | omega | exact q_A rfl | skip
  ·rw [if_neg h0]
   cases s
   all_goals
    (refine q_H Tryz.func97 (fun F=>?_); simp only [q_z,q_y,Tryz.ntmps97,Tryz.results97])
    repeat' (first|(with_reducible first|apply q_a|apply q_b|apply q_c|apply q_d|apply q_e|apply q_f|apply q_g|apply q_h|apply q_i|apply q_j|apply q_k|apply q_m|apply q_n|apply q_o|apply q_p|refine q_l ?_)|((with_reducible first|refine q_q dbj_ok fun K hK=>?_|refine q_r dbj_ok fun K hK=>?_);simp (maxSteps:=2000000) only [go_sem,↓reduceIte,reduceCtorEq,Nat.reduceLeDiff,Nat.reduceLT,Nat.reduceBEq,Nat.reduceAdd];(repeat1' with_reducible first|apply And.intro|(intro _;try exact q_v)|(refine hK _ ?_;clear hK K))<;>(try (clear hK K;exact q_u)))|(with_reducible refine q_s ?_;(first|apply q_J|apply q_K|apply q_L|apply q_M|apply q_N|apply q_O)<;>try (intro _;try exact q_v))|with_reducible refine q_t ?_)
    all_goals first | omega | exact q_A rfl | skip
 ·exact h.elim
attribute [go_sem] rankCT
def cmpA (k : Int) (s : Bool) (m : Nat) (e : Int) (l : Int) (t : Bool) (n : Nat) (f : Int) (q : List D5) : AV :=
 if dbC q ≠ 0 then .t [.inl (.i .i64 0),fltQ (dbC q) (dbX 0 q)] else if nbC q ≠ 0 then .t [.inl (.i .i64 0),fltQ (nbC q) (nbX 0 q)] else .t [.inl (.i .i64 (cmpD ⟨k,s,m,e⟩ ⟨l,t,n,f⟩)),fltQ 0 0]
theorem cmpA_bad {k : Int} {s : Bool} {m : Nat} {e l : Int} {t : Bool} {n : Nat} {f : Int} {q : List D5} (h : dbC q ≠ 0) : cmpA k s m e l t n f q = .t [.inl (.i .i64 0),fltQ (dbC q) (dbX 0 q)]:=if_pos h
theorem cmpA_none {k : Int} {s : Bool} {m : Nat} {e l : Int} {t : Bool} {n : Nat} {f : Int} {q : List D5} (h : dbC q = 0) (h2 : nbC q ≠ 0) : cmpA k s m e l t n f q = .t [.inl (.i .i64 0),fltQ (nbC q) (nbX 0 q)]:=by
 unfold cmpA; rw [if_neg (fun g=>g h),if_pos h2]
theorem cmpA_ok {k : Int} {s : Bool} {m : Nat} {e l : Int} {t : Bool} {n : Nat} {f : Int} {q : List D5} (h : dbC q = 0) (h2 : nbC q = 0) : cmpA k s m e l t n f q = .t [.inl (.i .i64 (cmpD ⟨k,s,m,e⟩ ⟨l,t,n,f⟩)),fltQ 0 0]:=by
 unfold cmpA; rw [if_neg (fun g=>g h),if_neg (fun g=>g h2)]
def dbk : Cfg:=listT [(62,validDCT),(78,atCT),(97,rankCT),(93,ofDCT),(92,plusXCT)] [34]
theorem dbk_ok : TblOk Tryz.prog dbk:=listE_ok (by simp only [List.mem_singleton,forall_eq]; exact flt) ⟨⟨de4,de4_ok,rfl⟩,⟨de6,de6_ok,rfl⟩,⟨dj1,dj1_ok,rfl⟩,⟨df1,df1_ok,rfl⟩,⟨df2,df2_ok,rfl⟩,trivial⟩
attribute [go_sem] dbk
set_option maxRecDepth 100000 in
set_option maxHeartbeats 6400000 in
theorem cmp_ret (k l : Int) (s a t b : Bool) (xs ys : List Int) (e f : Int) (h1 : xs.length ≤ 140737488355328) (h2 : ys.length ≤ 140737488355328) (b1 : InB 4294967296 xs) (b2 : InB 4294967296 ys) :
  Ret Tryz.prog 29 false [.inr [.i .i64 k,.b s,.b a,.ints .u32 xs,.i .i64 e],.inr [.i .i64 l,.b t,.b b,.ints .u32 ys,.i .i64 f]] (cmpA k s (V 4294967296 xs) e l t (V 4294967296 ys) f [(k,s,a,xs,e),(l,t,b,ys,f)]):=by
 have hd : ∀ (q : List D5),q = [(k,s,a,xs,e),(l,t,b,ys,f)] → dbC q = 0 → okD k s a xs e = true ∧ okD l t b ys f = true:=by
  rintro q rfl h
  cases o1 : okD k s a xs e
  ·simp [dbC,okD5,o1] at h
  ·cases o2 : okD l t b ys f
   ·simp [dbC,okD5,o1,o2] at h
   ·exact ⟨rfl,rfl⟩
 have hn : ∀ (q : List D5),q = [(k,s,a,xs,e),(l,t,b,ys,f)] → nbC q = 0 → k ≠ 2 ∧ l ≠ 2:=by
  rintro q rfl h
  refine ⟨fun hk=>?_,fun hl=>?_⟩
  ·simp [nbC,hk] at h
  ·by_cases hk : k = 2
   ·simp [nbC,hk] at h
   ·simp [nbC,hk,hl] at h
 have hal : allD 140737488355328 [(k,s,a,xs,e),(l,t,b,ys,f)]:=⟨⟨h1,b1⟩,⟨h2,b2⟩,trivial⟩
 have hml : ([(k,s,a,xs,e),(l,t,b,ys,f)] : List D5).length = 2:=rfl
 have hrw : [rowD (k,s,a,xs,e),rowD (l,t,b,ys,f)] = ([(k,s,a,xs,e),(l,t,b,ys,f)] : List D5).map rowD:=rfl
 (refine q_H Tryz.func29 (fun F=>?_); simp only [q_z,q_y,Tryz.ntmps29,Tryz.results29])
 repeat' (first|(with_reducible first|apply q_a|apply q_b|apply q_c|apply q_d|apply q_e|apply q_f|apply q_g|apply q_h|apply q_i|apply q_j|apply q_k|apply q_m|apply q_n|apply q_o|apply q_p|refine q_l ?_)|((with_reducible first|refine q_q dbk_ok fun K hK=>?_|refine q_r dbk_ok fun K hK=>?_);simp (maxSteps:=2000000) only [go_sem,↓reduceIte,reduceCtorEq,Nat.reduceLeDiff,Nat.reduceLT,Nat.reduceBEq,Nat.reduceAdd];(repeat1' with_reducible first|apply And.intro|(intro _;try exact q_v)|(refine hK _ ?_;clear hK K))<;>(try (clear hK K;exact q_u)))|(with_reducible refine q_s ?_;(first|apply q_J|apply q_K|apply q_L|apply q_M|apply q_N|apply q_O)<;>try (intro _;try exact q_v))|with_reducible refine q_t ?_)
 all_goals first | omega | skip
 rw [show [[C.i .i64 k,.b s,.b a,.ints .u32 xs,.i .i64 e],[C.i .i64 l,.b t,.b b,.ints .u32 ys,.i .i64 f]] = ([(k,s,a,xs,e),(l,t,b,ys,f)] : List D5).map rowD from rfl]
 generalize hq : [(k,s,a,xs,e),(l,t,b,ys,f)] = q at *
 refine q_G (ι:={ i : Nat // i ≤ 2 ∧ dbC (q.drop i) = dbC q ∧ dbX i (q.drop i) = dbX 0 q }) (fun i=>⟨86,[(2,.bx 0 0),(3,.bx 1 0),(4,.c (.i .i64 0)),(5,.bx 2 0),(15,.c (.sl 5 (q.map rowD))),(16,.c (.i .i64 2)),(17,.c (.i .i64 (i.1 : Nat)))],⟨[(2,[.c (.i .i64 0),.c (.i .i64 0)]),(1,aD l t b ys f),(0,aD k s a xs e)],[],[]⟩,3⟩) (fun i=>2 - i.1) ⟨0,by omega,rfl,rfl⟩ ?_ ?_
 ·exact q_D
 rintro ⟨i,g1,g2,g3⟩
 simp only at g1 g2 g3 ⊢
 obtain ⟨n1,n2⟩:=allD_get (i:=i) hal
 have hml' : (q.map rowD).length = 2:=by rw [List.length_map,hml]
 rcases Nat.lt_or_ge i 2 with hi | hi
 ·have hr:=rowD_get q i (by omega)
  rw [drop_getD5 q i (by omega),dbC] at g2
  rw [drop_getD5 q i (by omega),dbX] at g3
  unfold okD5 at g2 g3
  cases ho : okD (q.getD i d0).1 (q.getD i d0).2.1 (q.getD i d0).2.2.1 (q.getD i d0).2.2.2.1 (q.getD i d0).2.2.2.2
  ·simp only [ho,Bool.false_eq_true,if_false] at g2 g3
   have hcm:=cmpA_bad (k:=k) (s:=s) (m:=V 4294967296 xs) (e:=e) (l:=l) (t:=t) (n:=V 4294967296 ys) (f:=f) (q:=q) (by omega)
   rw [← g2,← g3] at hcm
   rw [hcm]
   repeat' (first|(with_reducible first|apply q_a|apply q_b|apply q_c|apply q_d|apply q_e|apply q_f|apply q_g|apply q_h|apply q_i|apply q_j|apply q_k|apply q_m|apply q_n|apply q_o|apply q_p|refine q_l ?_)|((with_reducible first|refine q_q dbk_ok fun K hK=>?_|refine q_r dbk_ok fun K hK=>?_);simp (maxSteps:=2000000) only [go_sem,↓reduceIte,reduceCtorEq,Nat.reduceLeDiff,Nat.reduceLT,Nat.reduceBEq,Nat.reduceAdd,hr,ho,hml'];(repeat1' with_reducible first|apply And.intro|(intro _;try exact q_v)|(refine hK _ ?_;clear hK K))<;>(try (clear hK K;exact q_u)))|(with_reducible refine q_s ?_;(first|apply q_J|apply q_K|apply q_L|apply q_M|apply q_N|apply q_O)<;>try (intro _;try exact q_v))|with_reducible refine q_t ?_)
   all_goals first | omega | assumption | exact q_A rfl | skip
  ·simp only [ho,if_true] at g2 g3
   repeat' (first|(with_reducible first|apply q_a|apply q_b|apply q_c|apply q_d|apply q_e|apply q_f|apply q_g|apply q_h|apply q_i|apply q_j|apply q_k|apply q_m|apply q_n|apply q_o|apply q_p|refine q_l ?_)|((with_reducible first|refine q_q dbk_ok fun K hK=>?_|refine q_r dbk_ok fun K hK=>?_);simp (maxSteps:=2000000) only [go_sem,↓reduceIte,reduceCtorEq,Nat.reduceLeDiff,Nat.reduceLT,Nat.reduceBEq,Nat.reduceAdd,hr,ho,hml'];(repeat1' with_reducible first|apply And.intro|(intro _;try exact q_v)|(refine hK _ ?_;clear hK K))<;>(try (clear hK K;exact q_u)))|(with_reducible refine q_s ?_;(first|apply q_J|apply q_K|apply q_L|apply q_M|apply q_N|apply q_O)<;>try (intro _;try exact q_v))|with_reducible refine q_t ?_)
   all_goals first | omega | assumption | skip
   refine q_F ⟨i + 1,hi,g2,by push_cast; exact g3⟩ ?_ (by simp only; omega)
   exact q_D
 obtain rfl : i = 2:=by omega
 rw [List.drop_eq_nil_of_le (by omega)] at g2
 have hdb : dbC q = 0:=g2.symm
 obtain ⟨o1,o2⟩:=hd q rfl hdb
 clear n1 n2 hd
 repeat' (first|(with_reducible first|apply q_a|apply q_b|apply q_c|apply q_d|apply q_e|apply q_f|apply q_g|apply q_h|apply q_i|apply q_j|apply q_k|apply q_m|apply q_n|apply q_o|apply q_p|refine q_l ?_)|((with_reducible first|refine q_q dbk_ok fun K hK=>?_|refine q_r dbk_ok fun K hK=>?_);simp (maxSteps:=2000000) only [go_sem,↓reduceIte,reduceCtorEq,Nat.reduceLeDiff,Nat.reduceLT,Nat.reduceBEq,Nat.reduceAdd,hml'];(repeat1' with_reducible first|apply And.intro|(intro _;try exact q_v)|(refine hK _ ?_;clear hK K))<;>(try (clear hK K;exact q_u)))|(with_reducible refine q_s ?_;(first|apply q_J|apply q_K|apply q_L|apply q_M|apply q_N|apply q_O)<;>try (intro _;try exact q_v))|with_reducible refine q_t ?_)
 all_goals first | omega | skip
 rw [show [[C.i .i64 k,.b s,.b a,.ints .u32 xs,.i .i64 e],[C.i .i64 l,.b t,.b b,.ints .u32 ys,.i .i64 f]] = ([(k,s,a,xs,e),(l,t,b,ys,f)] : List D5).map rowD from rfl,hq]
 refine q_G (ι:={ i : Nat // i ≤ 2 ∧ nbC (q.drop i) = nbC q ∧ nbX i (q.drop i) = nbX 0 q }) (fun i=>⟨86,[(2,.bx 0 0),(3,.bx 1 0),(4,.c (.i .i64 0)),(5,.bx 2 0),(31,.c (.sl 5 (q.map rowD))),(32,.c (.i .i64 2)),(33,.c (.i .i64 (i.1 : Nat)))],⟨[(2,[.c (.i .i64 0),.c (.i .i64 0)]),(1,aD l t b ys f),(0,aD k s a xs e)],[],[]⟩,3⟩) (fun i=>2 - i.1) ⟨0,by omega,rfl,rfl⟩ ?_ ?_
 ·exact q_D
 rintro ⟨i,g1,g2,g3⟩
 simp only at g1 g2 g3 ⊢
 rcases Nat.lt_or_ge i 2 with hi | hi
 ·have hr:=rowD_get q i (by omega)
  rw [drop_getD5 q i (by omega),nbC] at g2
  rw [drop_getD5 q i (by omega),nbX] at g3
  by_cases ho : (q.getD i d0).1 = 2
  ·rw [if_pos ho] at g2 g3
   have hcm:=cmpA_none (k:=k) (s:=s) (m:=V 4294967296 xs) (e:=e) (l:=l) (t:=t) (n:=V 4294967296 ys) (f:=f) (q:=q) hdb (by omega)
   rw [← g2,← g3] at hcm
   rw [hcm]
   repeat' (first|(with_reducible first|apply q_a|apply q_b|apply q_c|apply q_d|apply q_e|apply q_f|apply q_g|apply q_h|apply q_i|apply q_j|apply q_k|apply q_m|apply q_n|apply q_o|apply q_p|refine q_l ?_)|((with_reducible first|refine q_q dbk_ok fun K hK=>?_|refine q_r dbk_ok fun K hK=>?_);simp (maxSteps:=2000000) only [go_sem,↓reduceIte,reduceCtorEq,Nat.reduceLeDiff,Nat.reduceLT,Nat.reduceBEq,Nat.reduceAdd,hr,ho,hml'];(repeat1' with_reducible first|apply And.intro|(intro _;try exact q_v)|(refine hK _ ?_;clear hK K))<;>(try (clear hK K;exact q_u)))|(with_reducible refine q_s ?_;(first|apply q_J|apply q_K|apply q_L|apply q_M|apply q_N|apply q_O)<;>try (intro _;try exact q_v))|with_reducible refine q_t ?_)
   all_goals first | omega | assumption | exact q_A rfl | skip
  ·rw [if_neg ho] at g2 g3
   repeat' (first|(with_reducible first|apply q_a|apply q_b|apply q_c|apply q_d|apply q_e|apply q_f|apply q_g|apply q_h|apply q_i|apply q_j|apply q_k|apply q_m|apply q_n|apply q_o|apply q_p|refine q_l ?_)|((with_reducible first|refine q_q dbk_ok fun K hK=>?_|refine q_r dbk_ok fun K hK=>?_);simp (maxSteps:=2000000) only [go_sem,↓reduceIte,reduceCtorEq,Nat.reduceLeDiff,Nat.reduceLT,Nat.reduceBEq,Nat.reduceAdd,hr,hml'];(repeat1' with_reducible first|apply And.intro|(intro _;try exact q_v)|(refine hK _ ?_;clear hK K))<;>(try (clear hK K;exact q_u)))|(with_reducible refine q_s ?_;(first|apply q_J|apply q_K|apply q_L|apply q_M|apply q_N|apply q_O)<;>try (intro _;try exact q_v))|with_reducible refine q_t ?_)
   all_goals first | omega | assumption | skip
   refine q_F ⟨i + 1,hi,g2,by push_cast; exact g3⟩ ?_ (by simp only; omega)
   exact q_D
 obtain rfl : i = 2:=by omega
 rw [List.drop_eq_nil_of_le (by omega)] at g2
 have hnb : nbC q = 0:=g2.symm
 obtain ⟨k2,l2⟩:=hn q rfl hnb
 rw [cmpA_ok hdb hnb]
 clear hn hal hml
 obtain ⟨rfl,rx,r1⟩:=okD_eq o1 b1
 obtain ⟨rfl,ry,r2⟩:=okD_eq o2 b2
 have t1 : Trd xs:=by rw [rx]; exact dg_trd _ (by omega) _
 have t2 : Trd ys:=by rw [ry]; exact dg_trd _ (by omega) _
 have ka : k = 0 ∨ k = 1 ∨ k = 2:=OkD_kind r1
 have kb : l = 0 ∨ l = 1 ∨ l = 2:=OkD_kind r2
 have hs : smP (V 4294967296 xs) e (V 4294967296 ys) f:=smP_ok r1 r2
 clear rx ry r1 r2
 by_cases hf : k = 0 ∧ l = 0
 ·obtain ⟨rfl,rfl⟩:=hf
  rw [cmp_fin]
  have e1 : ([1] : List Int) = dg 4294967296 1:=rfl
  have hsm : smP (V 4294967296 xs) e (V 4294967296 ys) f:=hs
  have hB : sumZ s (V 4294967296 xs) e (!t) (V 4294967296 ys) f ≠ 0 → sumB s (V 4294967296 xs) e (!t) (V 4294967296 ys) f (decide ((0 : Int) = 2)) = decide (sumZ s (V 4294967296 xs) e (!t) (V 4294967296 ys) f < 0):=fun h=>if_neg h
  have hl:=sumZ_len (s:=s) (t:=!t) hs
  generalize hz : sumZ s (V 4294967296 xs) e (!t) (V 4294967296 ys) f = Z at *
  generalize hb : sumB s (V 4294967296 xs) e (!t) (V 4294967296 ys) f (decide ((0 : Int) = 2)) = Bb at *
  have hl2:=ds_600 (n:=Z.natAbs) (by omega)
  have hp:=dg_len_pos 4294967296 Z.natAbs (by omega)
  unfold cmpZ
  rcases Int.lt_trichotomy Z 0 with h | h | h
  ·have hB:=hB (by omega)
   rw [if_pos h]
   rw [decide_eq_true h] at hB
   subst hB
   repeat' (first|(with_reducible first|apply q_a|apply q_b|apply q_c|apply q_d|apply q_e|apply q_f|apply q_g|apply q_h|apply q_i|apply q_j|apply q_k|apply q_m|apply q_n|apply q_o|apply q_p|refine q_l ?_)|((with_reducible first|refine q_q dbk_ok fun K hK=>?_|refine q_r dbk_ok fun K hK=>?_);simp (maxSteps:=2000000) only [go_sem,↓reduceIte,reduceCtorEq,Nat.reduceLeDiff,Nat.reduceLT,Nat.reduceBEq,Nat.reduceAdd,e1,hz,hb];(repeat1' with_reducible first|apply And.intro|(intro _;try exact q_v)|(refine hK _ ?_;clear hK K))<;>(try (clear hK K;exact q_u)))|(with_reducible refine q_s ?_;(first|apply q_J|apply q_K|apply q_L|apply q_M|apply q_N|apply q_O)<;>try (intro _;try exact q_v))|with_reducible refine q_t ?_)
   all_goals first | omega | assumption | exact q_A rfl | skip
  ·rw [if_neg (by omega),if_pos h]
   clear hB
   have hp0 : (dg 4294967296 Z.natAbs).length = 0:=by omega
   repeat' (first|(with_reducible first|apply q_a|apply q_b|apply q_c|apply q_d|apply q_e|apply q_f|apply q_g|apply q_h|apply q_i|apply q_j|apply q_k|apply q_m|apply q_n|apply q_o|apply q_p|refine q_l ?_)|((with_reducible first|refine q_q dbk_ok fun K hK=>?_|refine q_r dbk_ok fun K hK=>?_);simp (maxSteps:=2000000) only [go_sem,↓reduceIte,reduceCtorEq,Nat.reduceLeDiff,Nat.reduceLT,Nat.reduceBEq,Nat.reduceAdd,e1,hz,hb];(repeat1' with_reducible first|apply And.intro|(intro _;try exact q_v)|(refine hK _ ?_;clear hK K))<;>(try (clear hK K;exact q_u)))|(with_reducible refine q_s ?_;(first|apply q_J|apply q_K|apply q_L|apply q_M|apply q_N|apply q_O)<;>try (intro _;try exact q_v))|with_reducible refine q_t ?_)
   all_goals first | omega | assumption | exact q_A rfl | skip
  ·have hB:=hB (by omega)
   rw [if_neg (by omega),if_neg (by omega)]
   rw [decide_eq_false (by omega)] at hB
   subst hB
   repeat' (first|(with_reducible first|apply q_a|apply q_b|apply q_c|apply q_d|apply q_e|apply q_f|apply q_g|apply q_h|apply q_i|apply q_j|apply q_k|apply q_m|apply q_n|apply q_o|apply q_p|refine q_l ?_)|((with_reducible first|refine q_q dbk_ok fun K hK=>?_|refine q_r dbk_ok fun K hK=>?_);simp (maxSteps:=2000000) only [go_sem,↓reduceIte,reduceCtorEq,Nat.reduceLeDiff,Nat.reduceLT,Nat.reduceBEq,Nat.reduceAdd,e1,hz,hb];(repeat1' with_reducible first|apply And.intro|(intro _;try exact q_v)|(refine hK _ ?_;clear hK K))<;>(try (clear hK K;exact q_u)))|(with_reducible refine q_s ?_;(first|apply q_J|apply q_K|apply q_L|apply q_M|apply q_N|apply q_O)<;>try (intro _;try exact q_v))|with_reducible refine q_t ?_)
   all_goals first | omega | assumption | exact q_A rfl | skip
 ·rw [cmp_inf (by simp only; omega)]
  unfold rkD
  simp only
  have hx : (if k = 0 then 0 else if s = true then -1 else 1 : Int) = 0 ↔ k = 0:=by (repeat' split) <;> omega
  have hy : (if l = 0 then 0 else if t = true then -1 else 1 : Int) = 0 ↔ l = 0:=by (repeat' split) <;> omega
  have hx2 : -1 ≤ (if k = 0 then 0 else if s = true then -1 else 1 : Int) ∧ (if k = 0 then 0 else if s = true then -1 else 1 : Int) ≤ 1:=by (repeat' split) <;> omega
  have hy2 : -1 ≤ (if l = 0 then 0 else if t = true then -1 else 1 : Int) ∧ (if l = 0 then 0 else if t = true then -1 else 1 : Int) ≤ 1:=by (repeat' split) <;> omega
  generalize hxx : (if k = 0 then 0 else if s = true then -1 else 1 : Int) = x at *
  generalize hyy : (if l = 0 then 0 else if t = true then -1 else 1 : Int) = y at *
  obtain ⟨hx2,hx3⟩:=hx2
  obtain ⟨hy2,hy3⟩:=hy2
  have hxy : ¬ (x = 0 ∧ y = 0):=fun h=>hf ⟨hx.1 h.1,hy.1 h.2⟩
  clear hs ka kb hf hx hy
  repeat' (first|(with_reducible first|apply q_a|apply q_b|apply q_c|apply q_d|apply q_e|apply q_f|apply q_g|apply q_h|apply q_i|apply q_j|apply q_k|apply q_m|apply q_n|apply q_o|apply q_p|refine q_l ?_)|((with_reducible first|refine q_q dbk_ok fun K hK=>?_|refine q_r dbk_ok fun K hK=>?_);simp (maxSteps:=2000000) only [go_sem,↓reduceIte,reduceCtorEq,Nat.reduceLeDiff,Nat.reduceLT,Nat.reduceBEq,Nat.reduceAdd,hxx,hyy];(repeat1' with_reducible first|apply And.intro|(intro _;try exact q_v)|(refine hK _ ?_;clear hK K))<;>(try (clear hK K;exact q_u)))|(with_reducible refine q_s ?_;(first|apply q_J|apply q_K|apply q_L|apply q_M|apply q_N|apply q_O)<;>try (intro _;try exact q_v))|with_reducible refine q_t ?_)
  all_goals first | omega | assumption | exact q_A rfl | skip
def cmpCT : CT:=mkCT [nDc,nDc] true fun l K=>match l with
 | [.inr [.i .i64 k,.b s,.b a,.ints .u32 xs,.i .i64 e],.inr [.i .i64 l,.b t,.b b,.ints .u32 ys,.i .i64 f]] =>
   (xs.length ≤ 140737488355328 ∧ ys.length ≤ 140737488355328 ∧ InB 4294967296 xs ∧ InB 4294967296 ys) ∧
   (if okD k s a xs e = true then (if okD l t b ys f = true then (if k = 2 then K (.t [.inl (.i .i64 0),fltQ 13 (-1)]) else if l = 2 then K (.t [.inl (.i .i64 0),fltQ 13 (-2)]) else K (.t [.inl (.i .i64 (cmpD ⟨k,s,V 4294967296 xs,e⟩ ⟨l,t,V 4294967296 ys,f⟩)),fltQ 0 0])) else K (.t [.inl (.i .i64 0),fltQ 6 (-2)])) else K (.t [.inl (.i .i64 0),fltQ 6 (-1)]))
 | _=>False
def dj2 : Cfg:=addT 29 cmpCT cf0
theorem dj2_ok : TblOk Tryz.prog dj2:=q_I cf0_ok Tryz.func29 fun l K hk=>by
 split at hk
 ·rename_i k s a xs e l t b ys f
  obtain ⟨⟨h1,h2,b1,b2⟩,h⟩:=hk
  refine ⟨_,(cmp_ret k l s a t b xs ys e f h1 h2 b1 b2).plain (by unfold cmpA; (repeat' split) <;> rfl),?_⟩
  cases o1 : okD k s a xs e
  ·have u1 : dbC [(k,s,a,xs,e),(l,t,b,ys,f)] = 6:=by simp [dbC,okD5,o1]
   have u2 : dbX 0 [(k,s,a,xs,e),(l,t,b,ys,f)] = -1:=by simp [dbX,okD5,o1]
   rw [cmpA_bad (by omega),u1,u2]
   simp only [o1,Bool.false_eq_true,if_false] at h
   exact h
  cases o2 : okD l t b ys f
  ·have u1 : dbC [(k,s,a,xs,e),(l,t,b,ys,f)] = 6:=by simp [dbC,okD5,o1,o2]
   have u2 : dbX 0 [(k,s,a,xs,e),(l,t,b,ys,f)] = -2:=by simp [dbX,okD5,o1,o2]
   rw [cmpA_bad (by omega),u1,u2]
   simp only [o1,o2,Bool.false_eq_true,if_false,if_true] at h
   exact h
  have u0 : dbC [(k,s,a,xs,e),(l,t,b,ys,f)] = 0:=by simp [dbC,okD5,o1,o2]
  simp only [o1,o2,if_true] at h
  by_cases k2 : k = 2
  ·have u1 : nbC [(k,s,a,xs,e),(l,t,b,ys,f)] = 13:=by simp [nbC,k2]
   have u2 : nbX 0 [(k,s,a,xs,e),(l,t,b,ys,f)] = -1:=by simp [nbX,k2]
   rw [cmpA_none u0 (by omega),u1,u2]
   rw [if_pos k2] at h
   exact h
  rw [if_neg k2] at h
  by_cases l2 : l = 2
  ·have u1 : nbC [(k,s,a,xs,e),(l,t,b,ys,f)] = 13:=by simp [nbC,k2,l2]
   have u2 : nbX 0 [(k,s,a,xs,e),(l,t,b,ys,f)] = -2:=by simp [nbX,k2,l2]
   rw [cmpA_none u0 (by omega),u1,u2]
   rw [if_pos l2] at h
   exact h
  ·have u1 : nbC [(k,s,a,xs,e),(l,t,b,ys,f)] = 0:=by simp [nbC,k2,l2]
   rw [cmpA_ok u0 u1]
   rw [if_neg l2] at h
   exact h
 ·exact hk.elim
attribute [go_sem] cmpCT
end Go.Proofs.YtgkajjifbcmoeaaGreatDoor
