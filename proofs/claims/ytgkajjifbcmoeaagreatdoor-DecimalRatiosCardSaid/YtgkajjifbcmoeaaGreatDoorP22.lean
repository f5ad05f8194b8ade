import Derived.Test.YtgkajjifbcmoeaaGreatDoorP13
import Derived.Test.YtgkajjifbcmoeaaGreatDoorP17
import Derived.Test.YtgkajjifbcmoeaaGreatDoorP20
import Derived.Test.YtgkajjifbcmoeaaGreatDoorP5
namespace Go.Proofs.NatL
set_option linter.unusedSimpArgs false
set_option linter.unusedVariables false
theorem odd65' (n : Nat) : decide (((n % 65536 % 2 : Nat) : Int) = 1) = decide (n % 2 = 1):=by
 congr 1
 exact propext ⟨fun h=>by omega,fun h=>by omega⟩
theorem dg65_nil_iff (n : Nat) : ((dg 65536 n).length : Int) = 0 ↔ n = 0:=by
 have:=dg_len_pos 65536 n (by omega)
 omega
end Go.Proofs.NatL
namespace Go.Proofs.YtgkajjifbcmoeaaGreatDoor
set_option linter.unusedSimpArgs false
set_option linter.unusedVariables false
open Go.Abs Go.Proofs.NatL

abbrev gE (s : Bool) (num den : Nat) (e : Int) : List C:=[.b s,.ints .i64 (dg 65536 num),.ints .i64 (dg 65536 den),.i .i64 e]
abbrev nE : Option C ⊕ List (Option C):=.inr [none,some (.ints .i64 []),some (.ints .i64 []),none]
def eb2 : Cfg:=listT [(56,rtenCT),(68,(rnumCT (fun _ _=>True) (· * ·)))] [34]
theorem eb2_ok : TblOk Tryz.prog eb2:=listE_ok (by simp only [List.mem_singleton,forall_eq]; exact flt) ⟨⟨er1,er1_ok,rfl⟩,⟨db9,db9_ok,rfl⟩,trivial⟩
attribute [go_sem] eb2
theorem ptP_len {num den : Nat} {e x : Int} (h : ptP num den e x) : (dg 65536 (ptN num e x)).length ≤ 4200 ∧ (dg 65536 (ptD den e x)).length ≤ 4200 ∧ (dg 65536 num).length ≤ 4200 ∧ (dg 65536 den).length ≤ 4200:=by
 obtain ⟨h1,h2,h3,h4,h5,h6⟩:=h
 refine ⟨ds_65b ?_,ds_65b ?_,ds_65b (by omega),ds_65b (by omega)⟩
 ·unfold ptN; split
  ·exact ds_mul10 (by omega)
  ·omega
 ·unfold ptD; split
  ·omega
  ·exact ds_mul10 (by omega)
set_option maxHeartbeats 1600000 in
theorem parts_ret' (s : Bool) (num den : Nat) (e x : Int) (h : ptP num den e x) : Ret Tryz.prog 116 false [.inr (gE s num den e),.inl (.i .i64 x)]
  (.t [.inl (.ints .i64 (dg 65536 (ptN num e x))),.inl (.ints .i64 (dg 65536 (ptD den e x)))]):=by
 obtain ⟨k1,k2,k3,k4⟩:=ptP_len h
 obtain ⟨h1,h2,h3,h4,h5,h6⟩:=h
 rcases int_lt_ge (e - x) 0 with h0 | h0
 ·obtain ⟨e1,e2⟩:=pt_lt (num:=num) (den:=den) h0
  rw [e1] at k1
  rw [e2] at k2
  rw [e1,e2]
  have e3 : x - e = -(e - x):=by omega
  have l3:=ds_65b (n:=10 ^ (-(e - x)).toNat) (by rw [ds_ten]; omega)
  generalize hT : 10 ^ (-(e - x)).toNat = T at *
  (refine q_H Tryz.func116 (fun F=>?_); simp only [q_z,q_y,Tryz.ntmps116,Tryz.results116])
  repeat' (first|with_reducible refine q_0 ?_|((with_reducible first|refine q_q eb2_ok fun K hK=>?_|refine q_r eb2_ok fun K hK=>?_);simp (maxSteps:=2000000) only [go_sem,↓reduceIte,reduceCtorEq,Nat.reduceLeDiff,Nat.reduceLT,Nat.reduceBEq,Nat.reduceAdd,V65,e3,hT];(repeat1' with_reducible first|apply And.intro|(intro _;try exact q_v)|(refine hK _ ?_;clear hK K))<;>(try (clear hK K;exact q_u)))|(with_reducible refine q_s ?_;(first|apply q_J|apply q_K|apply q_L|apply q_M|apply q_N|apply q_O)<;>try (intro _;try exact q_v)))
  all_goals first | omega | exact q_A rfl | skip
 ·obtain ⟨e1,e2⟩:=pt_ge (num:=num) (den:=den) h0
  rw [e1] at k1
  rw [e2] at k2
  rw [e1,e2]
  have l3:=ds_65b (n:=10 ^ (e - x).toNat) (by rw [ds_ten]; omega)
  generalize hT : 10 ^ (e - x).toNat = T at *
  (refine q_H Tryz.func116 (fun F=>?_); simp only [q_z,q_y,Tryz.ntmps116,Tryz.results116])
  repeat' (first|with_reducible refine q_0 ?_|((with_reducible first|refine q_q eb2_ok fun K hK=>?_|refine q_r eb2_ok fun K hK=>?_);simp (maxSteps:=2000000) only [go_sem,↓reduceIte,reduceCtorEq,Nat.reduceLeDiff,Nat.reduceLT,Nat.reduceBEq,Nat.reduceAdd,V65,hT];(repeat1' with_reducible first|apply And.intro|(intro _;try exact q_v)|(refine hK _ ?_;clear hK K))<;>(try (clear hK K;exact q_u)))|(with_reducible refine q_s ?_;(first|apply q_J|apply q_K|apply q_L|apply q_M|apply q_N|apply q_O)<;>try (intro _;try exact q_v)))
  all_goals first | omega | exact q_A rfl | skip
def rpartsCT : CT:=mkCT [nE,.inl none] false fun l K=>match l with
 | [.inr [.b s,.ints .i64 xs,.ints .i64 ys,.i .i64 e],.inl (.i .i64 x)]=>(InB 65536 xs ∧ Trd xs ∧ InB 65536 ys ∧ Trd ys ∧ ptP (V 65536 xs) (V 65536 ys) e x) ∧
   K (.t [.inl (.ints .i64 (dg 65536 (ptN (V 65536 xs) e x))),.inl (.ints .i64 (dg 65536 (ptD (V 65536 ys) e x)))])
 | _=>False
def er2 : Cfg:=addT 116 rpartsCT cf0
theorem er2_ok : TblOk Tryz.prog er2:=q_I cf0_ok Tryz.func116 fun l K h=>by
 split at h
 ·rename_i s xs ys e x
  obtain ⟨⟨h1,h2,h3,h4,h5⟩,h⟩:=h
  have e1:=dg_V 65536 (by omega) xs h1 h2
  have e2:=dg_V 65536 (by omega) ys h3 h4
  have:=parts_ret' s _ _ e x h5
  rw [gE,e1,e2] at this
  exact ⟨_,this,h⟩
 ·exact h.elim
attribute [go_sem] rpartsCT
set_option maxHeartbeats 1600000 in
theorem up_ret (r : Int) (s o : Bool) (h : Int) (h0 : 0 ≤ r) (h6 : r ≤ 6) : Ret Tryz.prog 130 false [.inl (.i .i64 r),.inl (.b s),.inl (.b o),.inl (.i .i64 h)] (.c (.b (awayB r s o h))):=by
 have hr : r = 0 ∨ r = 1 ∨ r = 2 ∨ r = 3 ∨ r = 4 ∨ r = 5 ∨ r = 6:=by omega
 rcases hr with rfl | rfl | rfl | rfl | rfl | rfl | rfl
 all_goals
  rcases Int.lt_trichotomy h 0 with hh | hh | hh
  all_goals
   (refine q_H Tryz.func130 (fun F=>?_); simp only [q_z,q_y,Tryz.ntmps130,Tryz.results130])
   repeat' (first|with_reducible refine q_0 ?_|((with_reducible first|refine q_q eb2_ok fun K hK=>?_|refine q_r eb2_ok fun K hK=>?_);simp (maxSteps:=2000000) only [go_sem,↓reduceIte,reduceCtorEq,Nat.reduceLeDiff,Nat.reduceLT,Nat.reduceBEq,Nat.reduceAdd];(repeat1' with_reducible first|apply And.intro|(intro _;try exact q_v)|(refine hK _ ?_;clear hK K))<;>(try (clear hK K;exact q_u)))|(with_reducible refine q_s ?_;(first|apply q_J|apply q_K|apply q_L|apply q_M|apply q_N|apply q_O)<;>try (intro _;try exact q_v)))
   all_goals first | omega | (refine q_A ?_; simp [resAV,q_y,awayB, *]; done) | (refine q_A ?_; simp [resAV,q_y,awayB]; omega) | skip
def upCT : CT:=mkCT [] true fun l K=>match l with
 | [.inl (.i .i64 r),.inl (.b s),.inl (.b o),.inl (.i .i64 h)]=>(0 ≤ r ∧ r ≤ 6) ∧ K (.c (.b (awayB r s o h)))
 | _=>False
def er3 : Cfg:=addT 130 upCT cf0
theorem er3_ok : TblOk Tryz.prog er3:=q_I cf0_ok Tryz.func130 fun l K h=>by
 split at h
 ·exact ⟨_,(up_ret _ _ _ _ h.1.1 h.1.2).plain rfl,h.2⟩
 ·exact h.elim
attribute [go_sem] upCT
def eb3 : Cfg:=listT [(116,rpartsCT),(105,figCT),(128,rcmpCT)] [34]
theorem eb3_ok : TblOk Tryz.prog eb3:=listE_ok (by simp only [List.mem_singleton,forall_eq]; exact flt) ⟨⟨er2,er2_ok,rfl⟩,⟨nt11,nt11_ok,rfl⟩,⟨db7,db7_ok,rfl⟩,trivial⟩
attribute [go_sem] eb3
set_option maxHeartbeats 1600000 in
theorem rfirst_ret (s : Bool) (num den : Nat) (e : Int) (h : fgP num den e) : Ret Tryz.prog 126 false [.inr (gE s num den e)] (.c (.i .i64 (firstE num den e))):=by
 obtain ⟨h1,h2,h3,h4,h5,h6⟩:=h
 have ten : (10 : Int).toNat = 10:=rfl
 have l1:=ds_65b (n:=num) (by omega)
 have l2:=ds_65b (n:=den) (by omega)
 obtain ⟨b1,b2⟩:=first_bounds h1 h2 e
 unfold guessE at b1 b2
 have key:=fun f=>first_stop (f:=f) h1 h2 e
 have key2:=(first_is h1 h2 e).1
 generalize hF : firstE num den e = F0 at *
 (refine q_H Tryz.func126 (fun F=>?_); simp only [q_z,q_y,Tryz.ntmps126,Tryz.results126])
 repeat' (first|with_reducible refine q_0 ?_|((with_reducible first|refine q_q eb3_ok fun K hK=>?_|refine q_r eb3_ok fun K hK=>?_);simp (maxSteps:=2000000) only [go_sem,↓reduceIte,reduceCtorEq,Nat.reduceLeDiff,Nat.reduceLT,Nat.reduceBEq,Nat.reduceAdd,V65,ten,fig_len];(repeat1' with_reducible first|apply And.intro|(intro _;try exact q_v)|(refine hK _ ?_;clear hK K))<;>(try (clear hK K;exact q_u)))|(with_reducible refine q_s ?_;(first|apply q_J|apply q_K|apply q_L|apply q_M|apply q_N|apply q_O)<;>try (intro _;try exact q_v)))
 all_goals first | omega | skip
 refine q_G (ι:={ f : Int // F0 ≤ f ∧ f ≤ (ds num : Int) - ds den + e + 1 }) (fun f=>⟨32,[(1,.bx 0 0),(3,.c (.i .i64 f.1))],⟨[(0,[.c (.b s),.c (.ints .i64 (dg 65536 num)),.c (.ints .i64 (dg 65536 den)),.c (.i .i64 e)])],[],[]⟩,1⟩) (fun f=>(f.1 - F0).toNat) ⟨(ds num : Int) - ds den + e + 1,by omega,by omega⟩ ?_ ?_
 ·exact q_D
 rintro ⟨f,g1,g2⟩
 simp only at g1 g2 ⊢
 obtain ⟨k1,k2,_,_⟩:=ptP_len (num:=num) (den:=den) (e:=e) (x:=f) ⟨by omega,by omega,by omega,by omega,by omega,by omega⟩
 have hc:=cmp3_ge (ptN num e f) (ptD den e f)
 have kf:=key f
 clear key
 by_cases hf : ptD den e f ≤ ptN num e f
 ·have:=kf hf g1
  subst this
  have hc:=hc.2 hf
  clear kf
  repeat' (first|with_reducible refine q_0 ?_|((with_reducible first|refine q_q eb3_ok fun K hK=>?_|refine q_r eb3_ok fun K hK=>?_);simp (maxSteps:=2000000) only [go_sem,↓reduceIte,reduceCtorEq,Nat.reduceLeDiff,Nat.reduceLT,Nat.reduceBEq,Nat.reduceAdd,V65];(repeat1' with_reducible first|apply And.intro|(intro _;try exact q_v)|(refine hK _ ?_;clear hK K))<;>(try (clear hK K;exact q_u)))|(with_reducible refine q_s ?_;(first|apply q_J|apply q_K|apply q_L|apply q_M|apply q_N|apply q_O)<;>try (intro _;try exact q_v)))
  all_goals first | omega | exact q_A rfl | skip
 ·have hne : f ≠ F0:=fun h=>hf (by rw [h]; exact key2)
  have hc : ¬ 0 ≤ cmp3 (ptN num e f) (ptD den e f):=fun h=>hf (hc.1 h)
  clear kf
  repeat' (first|with_reducible refine q_0 ?_|((with_reducible first|refine q_q eb3_ok fun K hK=>?_|refine q_r eb3_ok fun K hK=>?_);simp (maxSteps:=2000000) only [go_sem,↓reduceIte,reduceCtorEq,Nat.reduceLeDiff,Nat.reduceLT,Nat.reduceBEq,Nat.reduceAdd,V65];(repeat1' with_reducible first|apply And.intro|(intro _;try exact q_v)|(refine hK _ ?_;clear hK K))<;>(try (clear hK K;exact q_u)))|(with_reducible refine q_s ?_;(first|apply q_J|apply q_K|apply q_L|apply q_M|apply q_N|apply q_O)<;>try (intro _;try exact q_v)))
  all_goals first | omega | skip
  refine q_F ⟨f - 1,by omega,by omega⟩ ?_ (by simp only; omega)
  exact q_D
def xRCT (q : Nat → Nat → Int → Prop) (r : Bool → Nat → Nat → Int → AV) : CT:=mkCT [nE] false fun l K=>match l with
 | [.inr [.b s,.ints .i64 xs,.ints .i64 ys,.i .i64 e]]=>(InB 65536 xs ∧ Trd xs ∧ InB 65536 ys ∧ Trd ys ∧ q (V 65536 xs) (V 65536 ys) e) ∧ K (r s (V 65536 xs) (V 65536 ys) e)
 | _=>False
def er4 : Cfg:=addT 126 (xRCT fgP rFs) cf0
theorem er4_ok : TblOk Tryz.prog er4:=q_I cf0_ok Tryz.func126 fun l K h=>by
 split at h
 ·rename_i s xs ys e
  obtain ⟨⟨h1,h2,h3,h4,h5⟩,h⟩:=h
  have e1:=dg_V 65536 (by omega) xs h1 h2
  have e2:=dg_V 65536 (by omega) ys h3 h4
  have:=rfirst_ret s _ _ e h5
  rw [gE,e1,e2] at this
  exact ⟨_,this,h⟩
 ·exact h.elim
attribute [go_sem] xRCT
def eb4 : Cfg:=listT [(116,rpartsCT),(130,upCT),(117,rdivCT),(129,doubleCT),(15,smallCT),(131,(rnumCT (fun _ _=>True) (· + ·))),(128,rcmpCT)] [34]
theorem eb4_ok : TblOk Tryz.prog eb4:=listE_ok (by simp only [List.mem_singleton,forall_eq]; exact flt) ⟨⟨er2,er2_ok,rfl⟩,⟨er3,er3_ok,rfl⟩,⟨jt13,jt13_ok,rfl⟩,⟨rg2,rg2_ok,rfl⟩,⟨nt7,nt7_ok,rfl⟩,⟨db8,db8_ok,rfl⟩,⟨db7,db7_ok,rfl⟩,trivial⟩
attribute [go_sem] eb4
set_option maxHeartbeats 1600000 in
theorem rrounded_ret (s : Bool) (num den : Nat) (e x r : Int) (h : ptP num den e x) (hd : 0 < den) (hr : 0 ≤ r ∧ r ≤ 6) :
  Ret Tryz.prog 122 false [.inr (gE s num den e),.inl (.i .i64 x),.inl (.i .i64 r)]
  (.t [.inl (.ints .i64 (dg 65536 (rdE s num den e x r))),.inl (.b (decide (sE num den e x ≠ 0)))]):=by
 obtain ⟨k1,k2,k3,k4⟩:=ptP_len h
 obtain ⟨h1,h2,h3,h4,h5,h6⟩:=h
 obtain ⟨r1,r2⟩:=hr
 have hp:=ptD_pos hd e x
 have b1 : qE num den e x ≤ ptN num e x:=Nat.div_le_self _ _
 have b2 : sE num den e x < ptD den e x:=Nat.mod_lt _ hp
 have l1:=Nat.le_trans (dg_len_mono (B:=65536) (by omega) b1) k1
 have l2:=Nat.le_trans (dg_len_mono (B:=65536) (by omega) (Nat.le_of_lt b2)) k2
 have l3:=add_len (B:=65536) (by omega) l2 l2
 have d1 : (dg 65536 1).length ≤ 1:=by decide
 have t0 : (1 : Int).toNat = 1:=rfl
 have hodd:=odd65' (qE num den e x)
 have hq:=dg65_nil_iff (qE num den e x)
 have hz:=dg65_nil_iff (sE num den e x)
 have e2 : sE num den e x + sE num den e x = 2 * sE num den e x:=by omega
 have e3 : 2 * sE num den e x + (false : Bool).toNat = 2 * sE num den e x:=rfl
 have e4 : ptN num e x / ptD den e x = qE num den e x:=rfl
 have e5 : ptN num e x % ptD den e x = sE num den e x:=rfl
 rw [e2] at l3
 unfold rdE
 generalize hQ : qE num den e x = Q at *
 generalize hS : sE num den e x = S at *
 generalize hN : ptN num e x = N at *
 generalize hD : ptD den e x = D at *
 by_cases hs : S = 0
 ·rw [if_pos hs]
  have hs0:=hz.2 hs
  subst hs
  (refine q_H Tryz.func122 (fun F=>?_); simp only [q_z,q_y,Tryz.ntmps122,Tryz.results122])
  repeat' (first|with_reducible refine q_0 ?_|((with_reducible first|refine q_q eb4_ok fun K hK=>?_|refine q_r eb4_ok fun K hK=>?_);simp (maxSteps:=2000000) only [go_sem,↓reduceIte,reduceCtorEq,Nat.reduceLeDiff,Nat.reduceLT,Nat.reduceBEq,Nat.reduceAdd,V65,hN,hD,e4,e5];(repeat1' with_reducible first|apply And.intro|(intro _;try exact q_v)|(refine hK _ ?_;clear hK K))<;>(try (clear hK K;exact q_u)))|(with_reducible refine q_s ?_;(first|apply q_J|apply q_K|apply q_L|apply q_M|apply q_N|apply q_O)<;>try (intro _;try exact q_v)))
  all_goals first | omega | exact q_A rfl | skip
 ·rw [if_neg hs]
  have hs0 : ¬ ((dg 65536 S).length : Int) = 0:=fun k=>hs (hz.1 k)
  have hs1 : decide (S ≠ 0) = true:=decide_eq_true hs
  rw [hs1]
  by_cases hq0 : Q = 0
  ·have hq1:=hq.2 hq0
   have hq2 : decide (Q % 2 = 1) = false:=decide_eq_false (by omega)
   rw [hq2]
   cases ha : awayB r s false (cmp3 (2 * S) D)
   all_goals
    (refine q_H Tryz.func122 (fun F=>?_); simp only [q_z,q_y,Tryz.ntmps122,Tryz.results122])
    repeat' (first|with_reducible refine q_0 ?_|((with_reducible first|refine q_q eb4_ok fun K hK=>?_|refine q_r eb4_ok fun K hK=>?_);simp (maxSteps:=2000000) only [go_sem,↓reduceIte,reduceCtorEq,Nat.reduceLeDiff,Nat.reduceLT,Nat.reduceBEq,Nat.reduceAdd,V65,hN,hD,e4,e5,e3,t0,ha];(repeat1' with_reducible first|apply And.intro|(intro _;try exact q_v)|(refine hK _ ?_;clear hK K))<;>(try (clear hK K;exact q_u)))|(with_reducible refine q_s ?_;(first|apply q_J|apply q_K|apply q_L|apply q_M|apply q_N|apply q_O)<;>try (intro _;try exact q_v)))
    all_goals first | omega | exact q_A rfl | skip
  ·have hq1 : ¬ ((dg 65536 Q).length : Int) = 0:=fun k=>hq0 (hq.1 k)
   cases ha : awayB r s (decide (Q % 2 = 1)) (cmp3 (2 * S) D)
   all_goals
    (refine q_H Tryz.func122 (fun F=>?_); simp only [q_z,q_y,Tryz.ntmps122,Tryz.results122])
    repeat' (first|with_reducible refine q_0 ?_|((with_reducible first|refine q_q eb4_ok fun K hK=>?_|refine q_r eb4_ok fun K hK=>?_);simp (maxSteps:=2000000) only [go_sem,↓reduceIte,reduceCtorEq,Nat.reduceLeDiff,Nat.reduceLT,Nat.reduceBEq,Nat.reduceAdd,V65,hN,hD,e4,e5,e3,t0,hodd,ha];(repeat1' with_reducible first|apply And.intro|(intro _;try exact q_v)|(refine hK _ ?_;clear hK K))<;>(try (clear hK K;exact q_u)))|(with_reducible refine q_s ?_;(first|apply q_J|apply q_K|apply q_L|apply q_M|apply q_N|apply q_O)<;>try (intro _;try exact q_v)))
    all_goals first | omega | exact q_A rfl | skip
def rroundedCT : CT:=mkCT [nE,.inl none,.inl none] false fun l K=>match l with
 | [.inr [.b s,.ints .i64 xs,.ints .i64 ys,.i .i64 e],.inl (.i .i64 x),.inl (.i .i64 r)]=>(InB 65536 xs ∧ Trd xs ∧ InB 65536 ys ∧ Trd ys ∧ ptP (V 65536 xs) (V 65536 ys) e x ∧ 0 < V 65536 ys ∧ (0 ≤ r ∧ r ≤ 6)) ∧
   K (.t [.inl (.ints .i64 (dg 65536 (rdE s (V 65536 xs) (V 65536 ys) e x r))),.inl (.b (decide (sE (V 65536 xs) (V 65536 ys) e x ≠ 0)))])
 | _=>False
def er5 : Cfg:=addT 122 rroundedCT cf0
theorem er5_ok : TblOk Tryz.prog er5:=q_I cf0_ok Tryz.func122 fun l K h=>by
 split at h
 ·rename_i s xs ys e x r
  obtain ⟨⟨h1,h2,h3,h4,h5,h6,h7⟩,h⟩:=h
  have e1:=dg_V 65536 (by omega) xs h1 h2
  have e2:=dg_V 65536 (by omega) ys h3 h4
  have:=rrounded_ret s _ _ e x r h5 h6 h7
  rw [gE,e1,e2] at this
  exact ⟨_,this,h⟩
 ·exact h.elim
attribute [go_sem] rroundedCT
end Go.Proofs.YtgkajjifbcmoeaaGreatDoor

namespace Go.Proofs.NatL
set_option linter.unusedSimpArgs false
set_option linter.unusedVariables false
end Go.Proofs.NatL
namespace Go.Proofs.YtgkajjifbcmoeaaGreatDoor
set_option linter.unusedSimpArgs false
set_option linter.unusedVariables false
open Go.Abs Go.Proofs.NatL

def eb7 : Cfg:=listT [(51,checkCCT),(32,validDCT),(33,atCT)] [34]
theorem eb7_ok : TblOk Tryz.prog eb7:=listE_ok (by simp only [List.mem_singleton,forall_eq]; exact flt) ⟨⟨er8,er8_ok,rfl⟩,⟨er7,er7_ok,rfl⟩,⟨jt0,jt0_ok,rfl⟩,trivial⟩
attribute [go_sem] eb7
set_option maxRecDepth 100000 in
set_option maxHeartbeats 1600000 in
theorem decimalFaults_ret (p r mn mx : Int) (l : List D5) (hn : l.length ≤ 1000) (hl : allD 140737488355328 l) :
  Ret Tryz.prog 18 false [.inr [.i .i64 p,.i .i64 r,.i .i64 mn,.i .i64 mx],.inl (.sl 5 (l.map rowD))] (.g [.i .i64 (dcC p r mn mx l),.i .i64 (dcX p r mn mx l)]):=by
 unfold dcC dcX
 cases hc : okCx p r mn mx
 ·simp only [Bool.false_eq_true,if_false]
  (refine q_H Tryz.func18 (fun F=>?_); simp only [q_z,q_y,Tryz.ntmps18,Tryz.results18])
  repeat' (first|with_reducible refine q_0 ?_|((with_reducible first|refine q_q eb7_ok fun K hK=>?_|refine q_r eb7_ok fun K hK=>?_);simp (maxSteps:=2000000) only [go_sem,↓reduceIte,reduceCtorEq,Nat.reduceLeDiff,Nat.reduceLT,Nat.reduceBEq,Nat.reduceAdd,hc,List.length_map];(repeat1' with_reducible first|apply And.intro|(intro _;try exact q_v)|(refine hK _ ?_;clear hK K))<;>(try (clear hK K;exact q_u)))|(with_reducible refine q_s ?_;(first|apply q_J|apply q_K|apply q_L|apply q_M|apply q_N|apply q_O)<;>try (intro _;try exact q_v)))
  all_goals first | omega | exact q_A rfl | skip
 simp only [if_true]
 (refine q_H Tryz.func18 (fun F=>?_); simp only [q_z,q_y,Tryz.ntmps18,Tryz.results18])
 repeat' (first|with_reducible refine q_0 ?_|((with_reducible first|refine q_q eb7_ok fun K hK=>?_|refine q_r eb7_ok fun K hK=>?_);simp (maxSteps:=2000000) only [go_sem,↓reduceIte,reduceCtorEq,Nat.reduceLeDiff,Nat.reduceLT,Nat.reduceBEq,Nat.reduceAdd,hc,List.length_map];(repeat1' with_reducible first|apply And.intro|(intro _;try exact q_v)|(refine hK _ ?_;clear hK K))<;>(try (clear hK K;exact q_u)))|(with_reducible refine q_s ?_;(first|apply q_J|apply q_K|apply q_L|apply q_M|apply q_N|apply q_O)<;>try (intro _;try exact q_v)))
 all_goals first | omega | skip
 refine q_G (ι:={ i : Nat // i ≤ l.length ∧ dbC (l.drop i) = dbC l ∧ dbX i (l.drop i) = dbX 0 l }) (fun i=>⟨26,[(1,.c (.sl 5 (l.map rowD))),(4,.bx 1 0),(5,.c (.i .i64 (i.1 : Nat)))],⟨[(1,[.c (.i .i64 0),.c (.i .i64 0)])],[],[]⟩,2⟩) (fun i=>l.length - i.1) ⟨0,by simp,rfl,rfl⟩ ?_ ?_
 ·exact q_D
 rintro ⟨i,g1,g2,g3⟩
 simp only at g1 g2 g3 ⊢
 obtain ⟨n1,n2⟩:=allD_get (i:=i) hl
 rcases Nat.lt_or_ge i l.length with hi | hi
 ·have hr:=rowD_get l i hi
  rw [drop_getD5 l i hi,dbC] at g2
  rw [drop_getD5 l i hi,dbX] at g3
  unfold okD5 at g2 g3
  cases ho : okD (l.getD i d0).1 (l.getD i d0).2.1 (l.getD i d0).2.2.1 (l.getD i d0).2.2.2.1 (l.getD i d0).2.2.2.2
  ·simp only [ho,Bool.false_eq_true,if_false] at g2 g3
   repeat' (first|with_reducible refine q_0 ?_|((with_reducible first|refine q_q eb7_ok fun K hK=>?_|refine q_r eb7_ok fun K hK=>?_);simp (maxSteps:=2000000) only [go_sem,↓reduceIte,reduceCtorEq,Nat.reduceLeDiff,Nat.reduceLT,Nat.reduceBEq,Nat.reduceAdd,hr,ho,List.length_map];(repeat1' with_reducible first|apply And.intro|(intro _;try exact q_v)|(refine hK _ ?_;clear hK K))<;>(try (clear hK K;exact q_u)))|(with_reducible refine q_s ?_;(first|apply q_J|apply q_K|apply q_L|apply q_M|apply q_N|apply q_O)<;>try (intro _;try exact q_v)))
   all_goals first | omega | assumption | exact q_A (by rw [← g2,← g3]; rfl) | skip
  ·simp only [ho,if_true] at g2 g3
   repeat' (first|with_reducible refine q_0 ?_|((with_reducible first|refine q_q eb7_ok fun K hK=>?_|refine q_r eb7_ok fun K hK=>?_);simp (maxSteps:=2000000) only [go_sem,↓reduceIte,reduceCtorEq,Nat.reduceLeDiff,Nat.reduceLT,Nat.reduceBEq,Nat.reduceAdd,hr,ho,List.length_map];(repeat1' with_reducible first|apply And.intro|(intro _;try exact q_v)|(refine hK _ ?_;clear hK K))<;>(try (clear hK K;exact q_u)))|(with_reducible refine q_s ?_;(first|apply q_J|apply q_K|apply q_L|apply q_M|apply q_N|apply q_O)<;>try (intro _;try exact q_v)))
   all_goals first | omega | assumption | skip
   refine q_F ⟨i + 1,hi,g2,by push_cast; exact g3⟩ ?_ (by simp only; omega)
   exact q_D
 ·have hi' : i = l.length:=by omega
  subst hi'
  rw [List.drop_length] at g2 g3
  repeat' (first|with_reducible refine q_0 ?_|((with_reducible first|refine q_q eb7_ok fun K hK=>?_|refine q_r eb7_ok fun K hK=>?_);simp (maxSteps:=2000000) only [go_sem,↓reduceIte,reduceCtorEq,Nat.reduceLeDiff,Nat.reduceLT,Nat.reduceBEq,Nat.reduceAdd,List.length_map];(repeat1' with_reducible first|apply And.intro|(intro _;try exact q_v)|(refine hK _ ?_;clear hK K))<;>(try (clear hK K;exact q_u)))|(with_reducible refine q_s ?_;(first|apply q_J|apply q_K|apply q_L|apply q_M|apply q_N|apply q_O)<;>try (intro _;try exact q_v)))
  all_goals first | omega | exact q_A (by rw [← g2,← g3]; rfl) | skip
end Go.Proofs.YtgkajjifbcmoeaaGreatDoor
