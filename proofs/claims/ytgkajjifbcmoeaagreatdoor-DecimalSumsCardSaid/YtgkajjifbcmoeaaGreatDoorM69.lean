import Derived.Test.YtgkajjifbcmoeaaGreatDoorM57
import Derived.Test.YtgkajjifbcmoeaaGreatDoorM68
namespace Go.Proofs.YtgkajjifbcmoeaaGreatDoor
set_option linter.unusedSimpArgs false
set_option linter.unusedVariables false
open Go.Abs Go.Proofs.NatL

def dR2CT (f : Dc → Dc → Dc) (g : Dc → Dc → Int) : CT:=mkCT [nDc,nDc] false fun l K=>match l with
 | [.inr [.i .i64 k,.b s,.b a,.ints .u32 xs,.i .i64 e],.inr [.i .i64 l,.b t,.b b,.ints .u32 ys,.i .i64 e']] =>
   (InB 4294967296 xs ∧ InB 4294967296 ys ∧ okD k s a xs e = true ∧ okD l t b ys e' = true) ∧
   K (rDI (f ⟨k,s,V 4294967296 xs,e⟩ ⟨l,t,V 4294967296 ys,e'⟩) (g ⟨k,s,V 4294967296 xs,e⟩ ⟨l,t,V 4294967296 ys,e'⟩))
 | _=>False
def odD (A B : Dc) : Dc:=if A.kind = 2 ∨ B.kind = 2 then dNone else if A.kind = B.kind ∧ A.neg ≠ B.neg then dNone else if A.kind = 1 then A else B
def odS (A B : Dc) : Int:=if A.kind = 2 ∨ B.kind = 2 then 0 else if A.kind = B.kind ∧ A.neg ≠ B.neg then 32 else 0
set_option maxHeartbeats 1600000 in
theorem odd_ok (A B : Dc) (hA : OkD A) (hB : OkD B) : Ret Tryz.prog 140 false [.inr (gDc A),.inr (gDc B)] (rDI (odD A B) (odS A B)):=by
 have ka:=OkD_kind hA
 have kb:=OkD_kind hB
 clear hA hB
 obtain ⟨k,s,m,e⟩:=A
 obtain ⟨l,t,n,f⟩:=B
 unfold odD odS
 simp only at ka kb ⊢
 by_cases h1 : k = 2 ∨ l = 2
 ·rw [if_pos h1,if_pos h1]
  (refine q_H Tryz.func140 (fun F=>?_); simp only [q_z,q_y,Tryz.ntmps140,Tryz.results140])
  repeat' (first|(with_reducible first|apply q_a|apply q_b|apply q_c|apply q_d|apply q_e|apply q_f|apply q_g|apply q_h|apply q_i|apply q_j|apply q_k|apply q_m|apply q_n|apply q_o|apply q_p|refine q_l ?_)|((with_reducible first|refine q_q ebo_ok fun K hK=>?_|refine q_r ebo_ok fun K hK=>?_);simp (maxSteps:=2000000) only [go_sem,↓reduceIte,reduceCtorEq,Nat.reduceLeDiff,Nat.reduceLT,Nat.reduceBEq,Nat.reduceAdd];(repeat1' with_reducible first|apply And.intro|(intro _;try exact q_v)|(refine hK _ ?_;clear hK K))<;>(try (clear hK K;exact q_u)))|(with_reducible refine q_s ?_;(first|apply q_J|apply q_K|apply q_L|apply q_M|apply q_N|apply q_O)<;>try (intro _;try exact q_v))|with_reducible refine q_t ?_)
  all_goals first | omega | assumption | exact q_A rfl | skip
 rw [if_neg h1,if_neg h1]
 by_cases h2 : k = l ∧ s ≠ t
 ·rw [if_pos h2,if_pos h2]
  obtain ⟨h2,h3⟩:=h2
  cases s <;> cases t
  all_goals first | exact absurd rfl h3 | skip
  all_goals
   (refine q_H Tryz.func140 (fun F=>?_); simp only [q_z,q_y,Tryz.ntmps140,Tryz.results140])
   repeat' (first|(with_reducible first|apply q_a|apply q_b|apply q_c|apply q_d|apply q_e|apply q_f|apply q_g|apply q_h|apply q_i|apply q_j|apply q_k|apply q_m|apply q_n|apply q_o|apply q_p|refine q_l ?_)|((with_reducible first|refine q_q ebo_ok fun K hK=>?_|refine q_r ebo_ok fun K hK=>?_);simp (maxSteps:=2000000) only [go_sem,↓reduceIte,reduceCtorEq,Nat.reduceLeDiff,Nat.reduceLT,Nat.reduceBEq,Nat.reduceAdd];(repeat1' with_reducible first|apply And.intro|(intro _;try exact q_v)|(refine hK _ ?_;clear hK K))<;>(try (clear hK K;exact q_u)))|(with_reducible refine q_s ?_;(first|apply q_J|apply q_K|apply q_L|apply q_M|apply q_N|apply q_O)<;>try (intro _;try exact q_v))|with_reducible refine q_t ?_)
   all_goals first | omega | assumption | exact q_A rfl | skip
 rw [if_neg h2,if_neg h2]
 by_cases h3 : k = 1
 ·rw [if_pos h3]
  cases s <;> cases t
  all_goals
   (refine q_H Tryz.func140 (fun F=>?_); simp only [q_z,q_y,Tryz.ntmps140,Tryz.results140])
   repeat' (first|(with_reducible first|apply q_a|apply q_b|apply q_c|apply q_d|apply q_e|apply q_f|apply q_g|apply q_h|apply q_i|apply q_j|apply q_k|apply q_m|apply q_n|apply q_o|apply q_p|refine q_l ?_)|((with_reducible first|refine q_q ebo_ok fun K hK=>?_|refine q_r ebo_ok fun K hK=>?_);simp (maxSteps:=2000000) only [go_sem,↓reduceIte,reduceCtorEq,Nat.reduceLeDiff,Nat.reduceLT,Nat.reduceBEq,Nat.reduceAdd];(repeat1' with_reducible first|apply And.intro|(intro _;try exact q_v)|(refine hK _ ?_;clear hK K))<;>(try (clear hK K;exact q_u)))|(with_reducible refine q_s ?_;(first|apply q_J|apply q_K|apply q_L|apply q_M|apply q_N|apply q_O)<;>try (intro _;try exact q_v))|with_reducible refine q_t ?_)
   all_goals first | omega | assumption | exact q_A rfl | exact absurd ⟨by omega,by decide⟩ h2 | skip
 ·rw [if_neg h3]
  cases s <;> cases t
  all_goals
   (refine q_H Tryz.func140 (fun F=>?_); simp only [q_z,q_y,Tryz.ntmps140,Tryz.results140])
   repeat' (first|(with_reducible first|apply q_a|apply q_b|apply q_c|apply q_d|apply q_e|apply q_f|apply q_g|apply q_h|apply q_i|apply q_j|apply q_k|apply q_m|apply q_n|apply q_o|apply q_p|refine q_l ?_)|((with_reducible first|refine q_q ebo_ok fun K hK=>?_|refine q_r ebo_ok fun K hK=>?_);simp (maxSteps:=2000000) only [go_sem,↓reduceIte,reduceCtorEq,Nat.reduceLeDiff,Nat.reduceLT,Nat.reduceBEq,Nat.reduceAdd];(repeat1' with_reducible first|apply And.intro|(intro _;try exact q_v)|(refine hK _ ?_;clear hK K))<;>(try (clear hK K;exact q_u)))|(with_reducible refine q_s ?_;(first|apply q_J|apply q_K|apply q_L|apply q_M|apply q_N|apply q_O)<;>try (intro _;try exact q_v))|with_reducible refine q_t ?_)
   all_goals first | omega | assumption | exact q_A rfl | exact absurd ⟨by omega,by decide⟩ h2 | skip
end Go.Proofs.YtgkajjifbcmoeaaGreatDoor

namespace Go.Proofs.YtgkajjifbcmoeaaGreatDoor
set_option linter.unusedSimpArgs false
set_option linter.unusedVariables false
open Go.Abs Go.Proofs.NatL

theorem odd_sp {A B : Dc} (hA : OkD A) (hB : OkD B) (h : A.kind ≠ 0 ∨ B.kind ≠ 0) : odD A B = spD A B ∧ odS A B = spS A B:=by
 obtain ⟨k,s,m,e⟩:=A
 obtain ⟨l,t,n,f⟩:=B
 unfold odD odS spD spS dNone dInf
 rcases hA with ⟨a1,_⟩ | ⟨a1,a2,a3⟩ | ⟨a1,a2,a3,a4⟩ <;> rcases hB with ⟨b1,_⟩ | ⟨b1,b2,b3⟩ | ⟨b1,b2,b3,b4⟩ <;> simp only at * <;> subst_vars <;> first | omega | (cases s <;> cases t <;> simp; done) | (cases t <;> simp; done) | (cases s <;> simp; done) | (simp; done)
def et6 : Cfg:=addT 140 (dR2CT odD odS) cf0
theorem et6_ok : TblOk Tryz.prog et6:=q_I cf0_ok Tryz.func140 fun l K hk=>by
 split at hk
 ·rename_i k s a xs e l t b ys e'
  obtain ⟨⟨h1,h2,o1,o2⟩,h⟩:=hk
  obtain ⟨e1,r1⟩:=gDc_of o1 h1
  obtain ⟨e2,r2⟩:=gDc_of o2 h2
  rw [e1,e2]
  exact ⟨_,odd_ok _ _ r1 r2,h⟩
 ·exact hk.elim
attribute [go_sem] dR2CT
set_option maxHeartbeats 3200000 in
theorem prod_fin (s t : Bool) (m n : Nat) (e f : Int) (hm : ds m ≤ 120) (hn : ds n ≤ 120) (h1 : -1200 ≤ e) (h2 : e ≤ 1200) (h3 : -1200 ≤ f) (h4 : f ≤ 1200) :
  Ret Tryz.prog 142 false [.inr (gDc ⟨0,s,m,e⟩),.inr (gDc ⟨0,t,n,f⟩)]
   (.t [.inr (gE (s != t) (m * n) 1 (e + f)),.inr (gDc d00),.inl (.i .i64 0),.inl (.b true)]):=by
 have t0 : (1 : Int).toNat = 1:=rfl
 have l1:=coef_len hm
 have l2:=coef_len hn
 have l3:=ds_65b (n:=m) (by omega)
 have l4:=ds_65b (n:=n) (by omega)
 (refine q_H Tryz.func142 (fun F=>?_); simp only [q_z,q_y,Tryz.ntmps142,Tryz.results142])
 repeat' (first|(with_reducible first|apply q_a|apply q_b|apply q_c|apply q_d|apply q_e|apply q_f|apply q_g|apply q_h|apply q_i|apply q_j|apply q_k|apply q_m|apply q_n|apply q_o|apply q_p|refine q_l ?_)|((with_reducible first|refine q_q ebo_ok fun K hK=>?_|refine q_r ebo_ok fun K hK=>?_);simp (maxSteps:=2000000) only [go_sem,↓reduceIte,reduceCtorEq,Nat.reduceLeDiff,Nat.reduceLT,Nat.reduceBEq,Nat.reduceAdd,V32,V65,t0];(repeat1' with_reducible first|apply And.intro|(intro _;try exact q_v)|(refine hK _ ?_;clear hK K))<;>(try (clear hK K;exact q_u)))|(with_reducible refine q_s ?_;(first|apply q_J|apply q_K|apply q_L|apply q_M|apply q_N|apply q_O)<;>try (intro _;try exact q_v))|with_reducible refine q_t ?_)
 all_goals first | omega | assumption | exact q_B [nE,nDc] rfl rfl | exact q_A rfl | skip
set_option maxHeartbeats 3200000 in
theorem prod_inf (A B : Dc) (hA : OkD A) (hB : OkD B) (h : ¬ (A.kind = 0 ∧ B.kind = 0)) :
  Ret Tryz.prog 142 false [.inr (gDc A),.inr (gDc B)]
   (.t [.inr (gE false 0 0 0),.inr (gDc (enD A B)),.inl (.i .i64 (enS A B)),.inl (.b false)]):=by
 have ka:=OkD_kind hA
 have kb:=OkD_kind hB
 have a1:=(okd_exp hA).1
 have b1:=(okd_exp hB).1
 have l1:=coef_len a1
 have l2:=coef_len b1
 have z1:=dg_nil_iff A.coef
 have z2:=dg_nil_iff B.coef
 obtain ⟨k,s,m,e⟩:=A
 obtain ⟨l,t,n,f⟩:=B
 unfold enD enS
 simp only at ka kb l1 l2 z1 z2 h ⊢
 clear hA hB
 by_cases h1 : k = 2 ∨ l = 2
 ·rw [if_pos h1,if_pos h1]
  (refine q_H Tryz.func142 (fun F=>?_); simp only [q_z,q_y,Tryz.ntmps142,Tryz.results142])
  repeat' (first|(with_reducible first|apply q_a|apply q_b|apply q_c|apply q_d|apply q_e|apply q_f|apply q_g|apply q_h|apply q_i|apply q_j|apply q_k|apply q_m|apply q_n|apply q_o|apply q_p|refine q_l ?_)|((with_reducible first|refine q_q ebo_ok fun K hK=>?_|refine q_r ebo_ok fun K hK=>?_);simp (maxSteps:=2000000) only [go_sem,↓reduceIte,reduceCtorEq,Nat.reduceLeDiff,Nat.reduceLT,Nat.reduceBEq,Nat.reduceAdd,V32,V65];(repeat1' with_reducible first|apply And.intro|(intro _;try exact q_v)|(refine hK _ ?_;clear hK K))<;>(try (clear hK K;exact q_u)))|(with_reducible refine q_s ?_;(first|apply q_J|apply q_K|apply q_L|apply q_M|apply q_N|apply q_O)<;>try (intro _;try exact q_v))|with_reducible refine q_t ?_)
  all_goals first | omega | assumption | exact q_B [nE,nDc] rfl rfl | exact q_A rfl | skip
 rw [if_neg h1,if_neg h1]
 by_cases h2 : (k = 0 ∧ m = 0) ∨ (l = 0 ∧ n = 0)
 ·rw [if_pos h2,if_pos h2]
  (refine q_H Tryz.func142 (fun F=>?_); simp only [q_z,q_y,Tryz.ntmps142,Tryz.results142])
  repeat' (first|(with_reducible first|apply q_a|apply q_b|apply q_c|apply q_d|apply q_e|apply q_f|apply q_g|apply q_h|apply q_i|apply q_j|apply q_k|apply q_m|apply q_n|apply q_o|apply q_p|refine q_l ?_)|((with_reducible first|refine q_q ebo_ok fun K hK=>?_|refine q_r ebo_ok fun K hK=>?_);simp (maxSteps:=2000000) only [go_sem,↓reduceIte,reduceCtorEq,Nat.reduceLeDiff,Nat.reduceLT,Nat.reduceBEq,Nat.reduceAdd,V32,V65];(repeat1' with_reducible first|apply And.intro|(intro _;try exact q_v)|(refine hK _ ?_;clear hK K))<;>(try (clear hK K;exact q_u)))|(with_reducible refine q_s ?_;(first|apply q_J|apply q_K|apply q_L|apply q_M|apply q_N|apply q_O)<;>try (intro _;try exact q_v))|with_reducible refine q_t ?_)
  all_goals first | omega | assumption | exact q_B [nE,nDc] rfl rfl | exact q_A rfl | skip
 rw [if_neg h2,if_neg h2]
 (refine q_H Tryz.func142 (fun F=>?_); simp only [q_z,q_y,Tryz.ntmps142,Tryz.results142])
 repeat' (first|(with_reducible first|apply q_a|apply q_b|apply q_c|apply q_d|apply q_e|apply q_f|apply q_g|apply q_h|apply q_i|apply q_j|apply q_k|apply q_m|apply q_n|apply q_o|apply q_p|refine q_l ?_)|((with_reducible first|refine q_q ebo_ok fun K hK=>?_|refine q_r ebo_ok fun K hK=>?_);simp (maxSteps:=2000000) only [go_sem,↓reduceIte,reduceCtorEq,Nat.reduceLeDiff,Nat.reduceLT,Nat.reduceBEq,Nat.reduceAdd,V32,V65];(repeat1' with_reducible first|apply And.intro|(intro _;try exact q_v)|(refine hK _ ?_;clear hK K))<;>(try (clear hK K;exact q_u)))|(with_reducible refine q_s ?_;(first|apply q_J|apply q_K|apply q_L|apply q_M|apply q_N|apply q_O)<;>try (intro _;try exact q_v))|with_reducible refine q_t ?_)
 all_goals first | omega | assumption | exact q_B [nE,nDc] rfl rfl | exact q_A rfl | skip
def rproductCT : CT:=mkCT [nDc,nDc] false fun l K=>match l with
 | [.inr [.i .i64 k,.b s,.b a,.ints .u32 xs,.i .i64 e],.inr [.i .i64 l,.b t,.b b,.ints .u32 ys,.i .i64 f]] =>
   (InB 4294967296 xs ∧ InB 4294967296 ys ∧ okD k s a xs e = true ∧ okD l t b ys f = true) ∧
   ((k = 0 ∧ l = 0) → K (.t [.inr (gE (s != t) (V 4294967296 xs * V 4294967296 ys) 1 (e + f)),.inr (gDc d00),.inl (.i .i64 0),.inl (.b true)])) ∧
   (¬ (k = 0 ∧ l = 0) → K (.t [.inr (gE false 0 0 0),.inr (gDc (enD ⟨k,s,V 4294967296 xs,e⟩ ⟨l,t,V 4294967296 ys,f⟩)),.inl (.i .i64 (enS ⟨k,s,V 4294967296 xs,e⟩ ⟨l,t,V 4294967296 ys,f⟩)),.inl (.b false)]))
 | _=>False
def et8 : Cfg:=addT 142 rproductCT cf0
theorem et8_ok : TblOk Tryz.prog et8:=q_I cf0_ok Tryz.func142 fun l K hk=>by
 split at hk
 ·rename_i k s a xs e l t b ys f
  obtain ⟨⟨h1,h2,o1,o2⟩,q1,q2⟩:=hk
  obtain ⟨e1,r1⟩:=gDc_of o1 h1
  obtain ⟨e2,r2⟩:=gDc_of o2 h2
  rw [e1,e2]
  by_cases h : k = 0 ∧ l = 0
  ·have q:=q1 h
   obtain ⟨rfl,rfl⟩:=h
   obtain ⟨a1,a2,a3⟩:=okd_exp r1
   obtain ⟨b1,b2,b3⟩:=okd_exp r2
   exact ⟨_,prod_fin s t _ _ e f a1 b1 a2 a3 b2 b3,q⟩
  ·exact ⟨_,prod_inf _ _ r1 r2 h,q2 h⟩
 ·exact hk.elim
attribute [go_sem] rproductCT
end Go.Proofs.YtgkajjifbcmoeaaGreatDoor

namespace Go.Proofs.YtgkajjifbcmoeaaGreatDoor
set_option linter.unusedSimpArgs false
set_option linter.unusedVariables false
open Go.Abs Go.Proofs.NatL

def ebp : Cfg:=listT [(140,(dR2CT odD odS)),(142,rproductCT),(67,valueCT),(115,leastCT),(141,rsumCT),(64,rfitCT)] [34]
theorem ebp_ok : TblOk Tryz.prog ebp:=listE_ok (by simp only [List.mem_singleton,forall_eq]; exact flt) ⟨⟨et6,et6_ok,rfl⟩,⟨et8,et8_ok,rfl⟩,⟨es1,es1_ok,rfl⟩,⟨es6,es6_ok,rfl⟩,⟨es8,es8_ok,rfl⟩,⟨es10,es10_ok,rfl⟩,trivial⟩
attribute [go_sem] ebp
set_option maxRecDepth 100000 in
set_option maxHeartbeats 3200000 in
theorem rAdd_ok (A B : Dc) (c : Cx) (hA : OkD A) (hB : OkD B) (hc : OkC c) : Ret Tryz.prog 59 false [.inr (gDc A),.inr (gDc B),.inr (gCx c)] (rDI (addD A B c) (addS A B c)):=by
 have o0:=okCx_c hc
 have o1:=okD_g hA
 have o2:=okD_g hB
 obtain ⟨a1,a2,a3⟩:=okd_exp hA
 obtain ⟨b1,b2,b3⟩:=okd_exp hB
 have l1:=coef_len a1
 have l2:=coef_len b1
 have hs:=smP_ok hA hB
 have hP:=PF_sum (s:=A.neg) (t:=B.neg) hs
 have hsp:=fun h=>add_sp c hA hB h
 have hod:=fun h=>odd_sp hA hB h
 obtain ⟨k,s,m,e⟩:=A
 obtain ⟨l,t,n,f⟩:=B
 obtain ⟨p,r,mn,mx⟩:=c
 simp only at o0 o1 o2 a1 a2 a3 b1 b2 b3 l1 l2 hs hP hsp hod
 clear hA hB hc
 by_cases h : k = 0 ∧ l = 0
 ·obtain ⟨rfl,rfl⟩:=h
  clear hsp hod
  have e1 : flr ⟨p,r,mn,mx⟩ = decide (r = 2):=rfl
  have t0 : (1 : Int).toNat = 1:=rfl
  obtain ⟨q1,q2⟩:=add_ff (s:=s) (t:=t) (m:=m) (n:=n) (e:=e) (f:=f) ⟨p,r,mn,mx⟩
  rw [q1,q2,e1]
  clear q1 q2 e1
  have w:=sumZ_len (s:=s) (t:=t) hs
  have w1 : -1200 ≤ min e f ∧ min e f ≤ 1200:=by omega
  obtain ⟨w1,w2⟩:=w1
  generalize hX : min e f = X at *
  (refine q_H Tryz.func59 (fun F=>?_); simp only [q_z,q_y,Tryz.ntmps59,Tryz.results59])
  repeat' (first|(with_reducible first|apply q_a|apply q_b|apply q_c|apply q_d|apply q_e|apply q_f|apply q_g|apply q_h|apply q_i|apply q_j|apply q_k|apply q_m|apply q_n|apply q_o|apply q_p|refine q_l ?_)|((with_reducible first|refine q_q ebp_ok fun K hK=>?_|refine q_r ebp_ok fun K hK=>?_);simp (maxSteps:=2000000) only [go_sem,↓reduceIte,reduceCtorEq,Nat.reduceLeDiff,Nat.reduceLT,Nat.reduceBEq,Nat.reduceAdd,o0,o1,o2,V32,V65,t0,hX];(repeat1' with_reducible first|apply And.intro|(intro _;try exact q_v)|(refine hK _ ?_;clear hK K))<;>(try (clear hK K;exact q_u)))|(with_reducible refine q_s ?_;(first|apply q_J|apply q_K|apply q_L|apply q_M|apply q_N|apply q_O)<;>try (intro _;try exact q_v))|with_reducible refine q_t ?_)
  all_goals first | omega | assumption | exact q_A rfl | skip
 ·have h' : k ≠ 0 ∨ l ≠ 0:=by omega
  obtain ⟨q1,q2⟩:=hsp h'
  obtain ⟨q3,q4⟩:=hod h'
  rw [q1,q2,← q3,← q4]
  clear hs hP hsp hod q1 q2 q3 q4
  (refine q_H Tryz.func59 (fun F=>?_); simp only [q_z,q_y,Tryz.ntmps59,Tryz.results59])
  repeat' (first|(with_reducible first|apply q_a|apply q_b|apply q_c|apply q_d|apply q_e|apply q_f|apply q_g|apply q_h|apply q_i|apply q_j|apply q_k|apply q_m|apply q_n|apply q_o|apply q_p|refine q_l ?_)|((with_reducible first|refine q_q ebp_ok fun K hK=>?_|refine q_r ebp_ok fun K hK=>?_);simp (maxSteps:=2000000) only [go_sem,↓reduceIte,reduceCtorEq,Nat.reduceLeDiff,Nat.reduceLT,Nat.reduceBEq,Nat.reduceAdd,o0,o1,o2,V32,V65];(repeat1' with_reducible first|apply And.intro|(intro _;try exact q_v)|(refine hK _ ?_;clear hK K))<;>(try (clear hK K;exact q_u)))|(with_reducible refine q_s ?_;(first|apply q_J|apply q_K|apply q_L|apply q_M|apply q_N|apply q_O)<;>try (intro _;try exact q_v))|with_reducible refine q_t ?_)
  all_goals first | omega | assumption | exact q_A rfl | skip
def et9 : Cfg:=addT 59 (opR2CT addD addS) cf0
theorem et9_ok : TblOk Tryz.prog et9:=q_I cf0_ok Tryz.func59 fun l K h =>
 opR2_tr (f:=addD) (g:=addS) (fun A B c hA hB hc=>rAdd_ok A B c hA hB hc) l K h
set_option maxRecDepth 100000 in
set_option maxHeartbeats 3200000 in
theorem rMul_ok (A B : Dc) (c : Cx) (hA : OkD A) (hB : OkD B) (hc : OkC c) : Ret Tryz.prog 60 false [.inr (gDc A),.inr (gDc B),.inr (gCx c)] (rDI (mulD A B c) (mulS A B c)):=by
 have o0:=okCx_c hc
 have o1:=okD_g hA
 have o2:=okD_g hB
 obtain ⟨a1,a2,a3⟩:=okd_exp hA
 obtain ⟨b1,b2,b3⟩:=okd_exp hB
 have l1:=coef_len a1
 have l2:=coef_len b1
 have hP:=PF_mul a1 b1 ⟨a2,a3⟩ ⟨b2,b3⟩
 have hsp:=mul_en (A:=A) (B:=B) c
 obtain ⟨k,s,m,e⟩:=A
 obtain ⟨l,t,n,f⟩:=B
 obtain ⟨p,r,mn,mx⟩:=c
 simp only at o0 o1 o2 a1 a2 a3 b1 b2 b3 l1 l2 hP hsp
 clear hA hB hc
 by_cases h : k = 0 ∧ l = 0
 ·obtain ⟨rfl,rfl⟩:=h
  clear hsp
  have t0 : (1 : Int).toNat = 1:=rfl
  obtain ⟨q1,q2⟩:=mul_ff (s:=s) (t:=t) (m:=m) (n:=n) (e:=e) (f:=f) ⟨p,r,mn,mx⟩
  rw [q1,q2]
  clear q1 q2
  (refine q_H Tryz.func60 (fun F=>?_); simp only [q_z,q_y,Tryz.ntmps60,Tryz.results60])
  repeat' (first|(with_reducible first|apply q_a|apply q_b|apply q_c|apply q_d|apply q_e|apply q_f|apply q_g|apply q_h|apply q_i|apply q_j|apply q_k|apply q_m|apply q_n|apply q_o|apply q_p|refine q_l ?_)|((with_reducible first|refine q_q ebp_ok fun K hK=>?_|refine q_r ebp_ok fun K hK=>?_);simp (maxSteps:=2000000) only [go_sem,↓reduceIte,reduceCtorEq,Nat.reduceLeDiff,Nat.reduceLT,Nat.reduceBEq,Nat.reduceAdd,o0,o1,o2,V32,V65,t0];(repeat1' with_reducible first|apply And.intro|(intro _;try exact q_v)|(refine hK _ ?_;clear hK K))<;>(try (clear hK K;exact q_u)))|(with_reducible refine q_s ?_;(first|apply q_J|apply q_K|apply q_L|apply q_M|apply q_N|apply q_O)<;>try (intro _;try exact q_v))|with_reducible refine q_t ?_)
  all_goals first | omega | assumption | exact q_A rfl | skip
 ·obtain ⟨q1,q2⟩:=hsp (by omega)
  rw [q1,q2]
  clear hP hsp q1 q2
  (refine q_H Tryz.func60 (fun F=>?_); simp only [q_z,q_y,Tryz.ntmps60,Tryz.results60])
  repeat' (first|(with_reducible first|apply q_a|apply q_b|apply q_c|apply q_d|apply q_e|apply q_f|apply q_g|apply q_h|apply q_i|apply q_j|apply q_k|apply q_m|apply q_n|apply q_o|apply q_p|refine q_l ?_)|((with_reducible first|refine q_q ebp_ok fun K hK=>?_|refine q_r ebp_ok fun K hK=>?_);simp (maxSteps:=2000000) only [go_sem,↓reduceIte,reduceCtorEq,Nat.reduceLeDiff,Nat.reduceLT,Nat.reduceBEq,Nat.reduceAdd,o0,o1,o2,V32,V65,h];(repeat1' with_reducible first|apply And.intro|(intro _;try exact q_v)|(refine hK _ ?_;clear hK K))<;>(try (clear hK K;exact q_u)))|(with_reducible refine q_s ?_;(first|apply q_J|apply q_K|apply q_L|apply q_M|apply q_N|apply q_O)<;>try (intro _;try exact q_v))|with_reducible refine q_t ?_)
  all_goals first | omega | assumption | exact q_A rfl | skip
def et10 : Cfg:=addT 60 (opR2CT mulD mulS) cf0
theorem et10_ok : TblOk Tryz.prog et10:=q_I cf0_ok Tryz.func60 fun l K h =>
 opR2_tr (f:=mulD) (g:=mulS) (fun A B c hA hB hc=>rMul_ok A B c hA hB hc) l K h
end Go.Proofs.YtgkajjifbcmoeaaGreatDoor
