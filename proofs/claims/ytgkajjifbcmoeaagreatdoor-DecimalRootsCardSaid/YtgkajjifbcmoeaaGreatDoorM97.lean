import Derived.Test.YtgkajjifbcmoeaaGreatDoorM58
import Derived.Test.YtgkajjifbcmoeaaGreatDoorM78
import Derived.Test.YtgkajjifbcmoeaaGreatDoorM96
namespace Go.Proofs.NatL
set_option linter.unusedSimpArgs false
set_option linter.unusedVariables false
theorem sq_st {A : Dc} {c : Cx} (hA : OkD A) (hc : OkC c) (h0 : A.kind = 0) (hm : 0 < A.coef) (hn : A.neg = false) {first x : Int} {num den n : Nat}
  (hf : first = hfE (firstE A.coef 1 A.exp)) (hx : x = max (first - c.p + 1) (tinyE c.p c.mn)) (hnum : num = ptN A.coef A.exp (2 * x)) (hden : den = ptD 1 A.exp (2 * x)) (hr : n = rt (num / den)) :
  sqD A c = stD false (rtN num den n c.r) x (decide (n * n * den ≠ num)) (hfE A.exp) c.p c.r c.mx ∧ sqS A c = stS (rtN num den n c.r) x first (decide (n * n * den ≠ num)) (hfE A.exp) c.p c.mn c.mx:=by
 obtain ⟨c1,c2,_⟩:=hc
 have hd:=ds_pos.2 hm
 have h1:=hf_is A.exp
 have h2:=hf_is (firstE A.coef 1 A.exp)
 rw [first_one hm] at h2 hf
 rw [← hf] at h2
 obtain ⟨r1,r2,r3,r4,r5⟩:=root_fit (m:=A.coef) (R:=rt (sqN A c)) (n:=n) (num:=num) (den:=den) (e:=A.exp) (h:=hfE A.exp) (E:=hfE A.exp - c.p - 2) (first:=first) (x:=x) (p:=c.p) (r:=c.r) (mn:=c.mn) hm c1 h1 rfl h2 hx rfl hnum hden hr
 have g1 : ¬ A.kind = 2:=by omega
 have g2 : ¬ (A.neg = true ∧ ¬ (A.kind = 0 ∧ A.coef = 0)):=fun h=>by rw [hn] at h; exact absurd h.1 (by decide)
 have g3 : ¬ A.kind = 1:=by omega
 unfold sqD sqS
 rw [if_neg g1,if_neg g2,if_neg g3,if_neg g1,if_neg g2,if_neg g3,hn]
 have hst:=fit_st (neg:=false) (num:=sqX A c) (den:=1) (exp:=sqE A c) (ideal:=hfE A.exp) (p:=c.p) (r:=c.r) (mn:=c.mn) (mx:=c.mx) r1 (by omega) c1
 have e1 : firstE (sqX A c) 1 (sqE A c) = first:=r2
 have e2 : fitEx (sqX A c) 1 (sqE A c) c.p c.mn = x:=r3
 have e3 : rdE false (sqX A c) 1 (sqE A c) x c.r = rtN num den n c.r:=r4
 have e4 : decide (sE (sqX A c) 1 (sqE A c) x ≠ 0) = decide (n * n * den ≠ num):=r5
 rw [e1,e2,e3,e4] at hst
 exact hst
theorem sq_zero {A : Dc} {c : Cx} (h0 : A.kind = 0) (hm : A.coef = 0) : sqD A c = ⟨0,A.neg,0,min (max (hfE A.exp) (tinyE c.p c.mn)) c.mx⟩ ∧ sqS A c = 0:=by
 have g1 : ¬ A.kind = 2:=by omega
 have g2 : ¬ (A.neg = true ∧ ¬ (A.kind = 0 ∧ A.coef = 0)):=fun h=>h.2 ⟨h0,hm⟩
 have g3 : ¬ A.kind = 1:=by omega
 have hN : sqN A c = 0:=by unfold sqN; rw [hm,Nat.zero_mul]
 have hX : sqX A c = 0:=by unfold sqX rtX; rw [hN,rt_zero]; rfl
 unfold sqD sqS
 rw [if_neg g1,if_neg g2,if_neg g3,if_neg g1,if_neg g2,if_neg g3]
 exact fit_zero A.neg 1 (sqE A c) (hfE A.exp) c.p c.r c.mn c.mx hX
theorem rtN_len {num den n k : Nat} {r : Int} (hd : 0 < den) (hk : 1 ≤ k) (h : ds num ≤ k) (hr : n = rt (num / den)) : ds n ≤ k ∧ ds (rtN num den n r) ≤ k + 1:=by
 have h1 : n ≤ num:=by rw [hr]; exact Nat.le_trans (rt_le _) (Nat.div_le_self _ _)
 have h2:=ds_le_of_le h1 h
 refine ⟨h2,?_⟩
 have h3 : rtN num den n r ≤ num + 1:=by unfold rtN; (repeat' split) <;> omega
 exact ds_le_of_le h3 (ds_add h (by have:=one_ds; omega))
end Go.Proofs.NatL
namespace Go.Proofs.YtgkajjifbcmoeaaGreatDoor
set_option linter.unusedSimpArgs false
set_option linter.unusedVariables false
open Go.Abs Go.Proofs.NatL

def ebu : Cfg:=listT [(110,noneDCT),(114,isZeroCT),(67,valueCT),(64,rfitCT),(126,(xRCT fgP rFs)),(116,rpartsCT),(130,upCT),(117,rdivCT),(127,rootCT),(129,doubleCT),(15,smallCT),(68,(rnumCT (fun _ _=>True) (· * ·))),(131,(rnumCT (fun _ _=>True) (· + ·))),(128,rcmpCT),(132,settleCT)] [34]
theorem ebu_ok : TblOk Tryz.prog ebu:=listE_ok (by simp only [List.mem_singleton,forall_eq]; exact flt) ⟨⟨es4,es4_ok,rfl⟩,⟨es5,es5_ok,rfl⟩,⟨es1,es1_ok,rfl⟩,⟨es10,es10_ok,rfl⟩,⟨er4,er4_ok,rfl⟩,⟨er2,er2_ok,rfl⟩,⟨er3,er3_ok,rfl⟩,⟨jt13,jt13_ok,rfl⟩,⟨jt14,jt14_ok,rfl⟩,⟨rg2,rg2_ok,rfl⟩,⟨nt7,nt7_ok,rfl⟩,⟨db9,db9_ok,rfl⟩,⟨db8,db8_ok,rfl⟩,⟨db7,db7_ok,rfl⟩,⟨es9,es9_ok,rfl⟩,trivial⟩
attribute [go_sem] ebu
set_option maxRecDepth 100000 in
set_option maxHeartbeats 3200000 in
theorem rootOf_odd (A : Dc) (c : Cx) (hA : OkD A) (hc : OkC c) (h : A.kind ≠ 0 ∨ A.coef = 0 ∨ A.neg = true) : Ret Tryz.prog 49 false [.inr (gDc A),.inr (gCx c)] (rDI (sqD A c) (sqS A c)):=by
 have o0:=okCx_c hc
 have ka:=OkD_kind hA
 have hi : A.kind = 1 → A.coef = 0 ∧ A.exp = 0:=fun h=>by rcases hA with ⟨g,_⟩ | ⟨_,g⟩ | ⟨g,_⟩ <;> first | exact g | omega
 obtain ⟨a1,a2,a3⟩:=okd_exp hA
 have l1:=coef_len a1
 have hP:=PF_one a1 ⟨a2,a3⟩
 have z1:=dg_nil_iff A.coef
 have hz:=fun (h0 : A.kind = 0) (hm : A.coef = 0)=>sq_zero (c:=c) h0 hm
 obtain ⟨u1,u2⟩:=hf_is A.exp
 have hr:=hf_ref A.exp
 have ha:=and1 A.exp
 have t0 : (1 : Int).toNat = 1:=rfl
 obtain ⟨k,s,m,e⟩:=A
 obtain ⟨p,r,mn,mx⟩:=c
 simp only at o0 ka hi a1 a2 a3 l1 hP z1 hz u1 u2 hr ha h
 clear hA hc
 by_cases k2 : k = 2
 ·have g : sqD ⟨k,s,m,e⟩ ⟨p,r,mn,mx⟩ = dNone ∧ sqS ⟨k,s,m,e⟩ ⟨p,r,mn,mx⟩ = 0:=by unfold sqD sqS; rw [if_pos k2,if_pos k2]; exact ⟨rfl,rfl⟩
  rw [g.1,g.2]
  clear hz g hi
  (refine q_H Tryz.func49 (fun F=>?_); simp only [q_z,q_y,Tryz.ntmps49,Tryz.results49])
  repeat' (first|(with_reducible first|apply q_a|apply q_b|apply q_c|apply q_d|apply q_e|apply q_f|apply q_g|apply q_h|apply q_i|apply q_j|apply q_k|apply q_m|apply q_n|apply q_o|apply q_p|refine q_l ?_)|((with_reducible first|refine q_q ebu_ok fun K hK=>?_|refine q_r ebu_ok fun K hK=>?_);simp (maxSteps:=2000000) only [go_sem,↓reduceIte,reduceCtorEq,Nat.reduceLeDiff,Nat.reduceLT,Nat.reduceBEq,Nat.reduceAdd,o0,V32];(repeat1' with_reducible first|apply And.intro|(intro _;try exact q_v)|(refine hK _ ?_;clear hK K))<;>(try (clear hK K;exact q_u)))|(with_reducible refine q_s ?_;(first|apply q_J|apply q_K|apply q_L|apply q_M|apply q_N|apply q_O)<;>try (intro _;try exact q_v))|with_reducible refine q_t ?_)
  all_goals first | omega | assumption | exact q_A rfl | skip
 by_cases kn : s = true ∧ ¬ (k = 0 ∧ m = 0)
 ·have g : sqD ⟨k,s,m,e⟩ ⟨p,r,mn,mx⟩ = dNone ∧ sqS ⟨k,s,m,e⟩ ⟨p,r,mn,mx⟩ = 32:=by unfold sqD sqS; rw [if_neg k2,if_pos kn,if_neg k2,if_pos kn]; exact ⟨rfl,rfl⟩
  rw [g.1,g.2]
  clear hz g hi
  obtain ⟨rfl,kn⟩:=kn
  (refine q_H Tryz.func49 (fun F=>?_); simp only [q_z,q_y,Tryz.ntmps49,Tryz.results49])
  repeat' (first|(with_reducible first|apply q_a|apply q_b|apply q_c|apply q_d|apply q_e|apply q_f|apply q_g|apply q_h|apply q_i|apply q_j|apply q_k|apply q_m|apply q_n|apply q_o|apply q_p|refine q_l ?_)|((with_reducible first|refine q_q ebu_ok fun K hK=>?_|refine q_r ebu_ok fun K hK=>?_);simp (maxSteps:=2000000) only [go_sem,↓reduceIte,reduceCtorEq,Nat.reduceLeDiff,Nat.reduceLT,Nat.reduceBEq,Nat.reduceAdd,o0,V32];(repeat1' with_reducible first|apply And.intro|(intro _;try exact q_v)|(refine hK _ ?_;clear hK K))<;>(try (clear hK K;exact q_u)))|(with_reducible refine q_s ?_;(first|apply q_J|apply q_K|apply q_L|apply q_M|apply q_N|apply q_O)<;>try (intro _;try exact q_v))|with_reducible refine q_t ?_)
  all_goals first | omega | assumption | exact q_A rfl | skip
 by_cases k1 : k = 1
 ·have g : sqD ⟨k,s,m,e⟩ ⟨p,r,mn,mx⟩ = dInf false ∧ sqS ⟨k,s,m,e⟩ ⟨p,r,mn,mx⟩ = 0:=by unfold sqD sqS; rw [if_neg k2,if_neg kn,if_pos k1,if_neg k2,if_neg kn,if_pos k1]; exact ⟨rfl,rfl⟩
  rw [g.1,g.2]
  obtain ⟨rfl,rfl⟩:=hi k1
  have hs : s = false:=by
   cases s
   ·rfl
   ·exact absurd ⟨rfl,fun h=>by omega⟩ kn
  subst hs
  clear hz g
  (refine q_H Tryz.func49 (fun F=>?_); simp only [q_z,q_y,Tryz.ntmps49,Tryz.results49])
  repeat' (first|(with_reducible first|apply q_a|apply q_b|apply q_c|apply q_d|apply q_e|apply q_f|apply q_g|apply q_h|apply q_i|apply q_j|apply q_k|apply q_m|apply q_n|apply q_o|apply q_p|refine q_l ?_)|((with_reducible first|refine q_q ebu_ok fun K hK=>?_|refine q_r ebu_ok fun K hK=>?_);simp (maxSteps:=2000000) only [go_sem,↓reduceIte,reduceCtorEq,Nat.reduceLeDiff,Nat.reduceLT,Nat.reduceBEq,Nat.reduceAdd,o0,V32];(repeat1' with_reducible first|apply And.intro|(intro _;try exact q_v)|(refine hK _ ?_;clear hK K))<;>(try (clear hK K;exact q_u)))|(with_reducible refine q_s ?_;(first|apply q_J|apply q_K|apply q_L|apply q_M|apply q_N|apply q_O)<;>try (intro _;try exact q_v))|with_reducible refine q_t ?_)
  all_goals first | omega | assumption | exact q_A (by subst k1; rfl) | skip
 have k0 : k = 0:=by omega
 have m0 : m = 0:=by
  rcases h with h | h | h
  ·exact absurd k0 h
  ·exact h
  ·rcases Nat.eq_zero_or_pos m with g | g
   ·exact g
   ·exact absurd ⟨h,fun q=>by omega⟩ kn
 obtain ⟨g1,g2⟩:=hz k0 m0
 rw [g1,g2]
 subst k0 m0
 obtain ⟨f1,f2⟩:=fit_zero s 1 e (hfE e) p r mn mx (show (0 : Nat) = 0 from rfl)
 generalize hH : hfE e = H at *
 cases s
 all_goals
  (refine q_H Tryz.func49 (fun F=>?_); simp only [q_z,q_y,Tryz.ntmps49,Tryz.results49])
  repeat' (first|(with_reducible first|apply q_a|apply q_b|apply q_c|apply q_d|apply q_e|apply q_f|apply q_g|apply q_h|apply q_i|apply q_j|apply q_k|apply q_m|apply q_n|apply q_o|apply q_p|refine q_l ?_)|((with_reducible first|refine q_q ebu_ok fun K hK=>?_|refine q_r ebu_ok fun K hK=>?_);simp (maxSteps:=2000000) only [go_sem,↓reduceIte,reduceCtorEq,Nat.reduceLeDiff,Nat.reduceLT,Nat.reduceBEq,Nat.reduceAdd,o0,V32,V65,t0,ha,hr,f1,f2];(repeat1' with_reducible first|apply And.intro|(intro _;try exact q_v)|(refine hK _ ?_;clear hK K))<;>(try (clear hK K;exact q_u)))|(with_reducible refine q_s ?_;(first|apply q_J|apply q_K|apply q_L|apply q_M|apply q_N|apply q_O)<;>try (intro _;try exact q_v))|with_reducible refine q_t ?_)
  all_goals first | omega | assumption | exact q_A rfl | skip
set_option maxRecDepth 100000 in
set_option maxHeartbeats 12800000 in
theorem rootOf_ok (m : Nat) (e : Int) (c : Cx) (hA : OkD ⟨0,false,m,e⟩) (hc : OkC c) (hm : 0 < m) : Ret Tryz.prog 49 false [.inr (gDc ⟨0,false,m,e⟩),.inr (gCx c)] (rDI (sqD ⟨0,false,m,e⟩ c) (sqS ⟨0,false,m,e⟩ c)):=by
 have o0:=okCx_c hc
 obtain ⟨a1,a2,a3⟩:=okd_exp hA
 have l1:=coef_len a1
 have z1:=dg_nil_iff m
 have hd:=ds_pos.2 hm
 obtain ⟨u1,u2⟩:=hf_is e
 have hr1:=hf_ref e
 have ha1:=and1 e
 have hfo:=first_one hm e
 obtain ⟨v1,v2⟩:=hf_is (firstE m 1 e)
 have hr2:=hf_ref (firstE m 1 e)
 have ha2:=and1 (firstE m 1 e)
 have t0 : (1 : Int).toNat = 1:=rfl
 have st:=sq_st (A:=⟨0,false,m,e⟩) (c:=c) hA hc rfl hm rfl rfl rfl rfl rfl rfl
 obtain ⟨p,r,mn,mx⟩:=c
 obtain ⟨c1,c2,c3,c4,c5,c6,c7,c8⟩:=hc
 simp only at st o0 c1 c2 c3 c4 c5 c6 c7 c8 l1 a1 a2 a3
 rw [st.1,st.2]
 clear st hA
 have ht : tinyE p mn = mn - p + 1:=rfl
 generalize hF : firstE m 1 e = f at *
 generalize hI : hfE e = ideal at *
 generalize hG : hfE f = first at *
 generalize hX : max (first - p + 1) (tinyE p mn) = x at *
 have x1 : -1060 ≤ x ∧ x ≤ 700:=by omega
 obtain ⟨x1,x2⟩:=x1
 have hn1 : ds (ptN m e (2 * x)) ≤ 3500:=by
  rcases int_lt_ge (e - 2 * x) 0 with h | h
  ·rw [(pt_lt (den:=1) h).1]; omega
  ·rw [(pt_ge (den:=1) h).1]; exact ds_mul10 (by omega)
 have hd1 : ds (ptD 1 e (2 * x)) ≤ 2700:=by
  rcases int_lt_ge (e - 2 * x) 0 with h | h
  ·rw [(pt_lt (num:=m) h).2]; exact ds_mul10 (by have:=one_ds; omega)
  ·rw [(pt_ge (num:=m) h).2]; have:=one_ds; omega
 have hd0 : 0 < ptD 1 e (2 * x):=ptD_pos (by omega) _ _
 generalize hnum : ptN m e (2 * x) = num at *
 generalize hden : ptD 1 e (2 * x) = den at *
 have hq1:=ds_le_of_le (Nat.div_le_self num den) hn1
 obtain ⟨q1,q2⟩:=rtN_len (r:=r) hd0 (by omega) hn1 (rfl : rt (num / den) = rt (num / den))
 generalize hQ : num / den = Q at *
 generalize hn : rt Q = n at *
 (refine q_H Tryz.func49 (fun F=>?_); simp only [q_z,q_y,Tryz.ntmps49,Tryz.results49])
 refine seq_cut9 (ι:=Unit) (fun _=>⟨139,[(2,.bx 0 0),(3,.bx 1 0),(4,.bx 2 0),(5,.c (.i .i64 0)),(6,.c (.i .i64 ideal)),(7,.bx 3 0),(9,.c (.i .i64 first)),(10,.c (.i .i64 x))],⟨[(3,[.c (.b false),.c (.ints .i64 (dg 65536 m)),.c (.ints .i64 (dg 65536 1)),.c (.i .i64 e)]),(2,z5),(1,cx4 p r mn mx),(0,aD 0 false false (dg 4294967296 m) e)],[],[]⟩,4⟩) (fun Y hY=>?_) ?_
 ·have one1:=one_ds
  by_cases hx : first - p + 1 < mn - p + 1
  ·have e1 : x = mn - p + 1:=by omega
   subst e1
   clear hX
   repeat' (first|(with_reducible first|apply q_a|apply q_b|apply q_c|apply q_d|apply q_e|apply q_f|apply q_g|apply q_h|apply q_i|apply q_j|apply q_k|apply q_m|apply q_n|apply q_o|apply q_p|refine q_l ?_)|((with_reducible first|refine q_q ebu_ok fun K hK=>?_|refine q_r ebu_ok fun K hK=>?_);simp (maxSteps:=2000000) only [go_sem,↓reduceIte,reduceCtorEq,Nat.reduceLeDiff,Nat.reduceLT,Nat.reduceBEq,Nat.reduceAdd,o0,V32,V65,t0,ha1,hr1,hF,ha2,hr2];(repeat1' with_reducible first|apply And.intro|(intro _;try exact q_v)|(refine hK _ ?_;clear hK K))<;>(try (clear hK K;exact q_u)))|(with_reducible refine q_s ?_;(first|apply q_J|apply q_K|apply q_L|apply q_M|apply q_N|apply q_O)<;>try (intro _;try exact q_v))|with_reducible refine q_t ?_)
   all_goals first | omega | assumption | exact cut_fit hY () q_D | skip
  ·have e1 : x = first - p + 1:=by omega
   subst e1
   clear hX
   repeat' (first|(with_reducible first|apply q_a|apply q_b|apply q_c|apply q_d|apply q_e|apply q_f|apply q_g|apply q_h|apply q_i|apply q_j|apply q_k|apply q_m|apply q_n|apply q_o|apply q_p|refine q_l ?_)|((with_reducible first|refine q_q ebu_ok fun K hK=>?_|refine q_r ebu_ok fun K hK=>?_);simp (maxSteps:=2000000) only [go_sem,↓reduceIte,reduceCtorEq,Nat.reduceLeDiff,Nat.reduceLT,Nat.reduceBEq,Nat.reduceAdd,o0,V32,V65,t0,ha1,hr1,hF,ha2,hr2];(repeat1' with_reducible first|apply And.intro|(intro _;try exact q_v)|(refine hK _ ?_;clear hK K))<;>(try (clear hK K;exact q_u)))|(with_reducible refine q_s ?_;(first|apply q_J|apply q_K|apply q_L|apply q_M|apply q_N|apply q_O)<;>try (intro _;try exact q_v))|with_reducible refine q_t ?_)
   all_goals first | omega | assumption | exact cut_fit hY () q_D | skip
 intro _
 have y0:=ds_65b (n:=num) (by omega)
 have y1:=ds_65b (n:=den) (by omega)
 have y2:=ds_65b (n:=n) (by omega)
 have y3:=ds_65b (n:=Q) (by omega)
 have w1:=ds_mul q1 q1
 have w2:=ds_mul w1 hd1
 have y4:=ds_65b (n:=n * n) (by omega)
 have y5:=ds_65b (n:=n * n * den) (by omega)
 have one1:=one_ds
 have cz : cmp3 (n * n * den) num = 0 ↔ n * n * den = num:=by unfold cmp3; (repeat' split) <;> omega
 by_cases hin : n * n * den = num
 ·have e1 : rtN num den n r = n:=if_pos hin
  have e2 : decide (n * n * den ≠ num) = false:=decide_eq_false (by omega)
  rw [e1,e2]
  have cz:=cz.2 hin
  repeat' (first|(with_reducible first|apply q_a|apply q_b|apply q_c|apply q_d|apply q_e|apply q_f|apply q_g|apply q_h|apply q_i|apply q_j|apply q_k|apply q_m|apply q_n|apply q_o|apply q_p|refine q_l ?_)|((with_reducible first|refine q_q ebu_ok fun K hK=>?_|refine q_r ebu_ok fun K hK=>?_);simp (maxSteps:=2000000) only [go_sem,↓reduceIte,reduceCtorEq,Nat.reduceLeDiff,Nat.reduceLT,Nat.reduceBEq,Nat.reduceAdd,o0,V65,t0,hnum,hden,hQ,hn,cz];(repeat1' with_reducible first|apply And.intro|(intro _;try exact q_v)|(refine hK _ ?_;clear hK K))<;>(try (clear hK K;exact q_u)))|(with_reducible refine q_s ?_;(first|apply q_J|apply q_K|apply q_L|apply q_M|apply q_N|apply q_O)<;>try (intro _;try exact q_v))|with_reducible refine q_t ?_)
  all_goals first | omega | assumption | exact q_A rfl | skip
 have e2 : decide (n * n * den ≠ num) = true:=decide_eq_true hin
 have cz : (cmp3 (n * n * den) num = 0) = False:=eq_false (fun h=>hin (cz.1 h))
 have w3 : ds (2 * n + 1) ≤ 3502:=ds_le_of_le (b:=n * 10 + 1) (by omega) (ds_add (k:=3501) (by have:=ds_mul10 (a:=n) (n:=1) (k:=3501) (by omega); rwa [Nat.pow_one] at this) (by omega))
 have w4:=ds_mul w3 w3
 have w5:=ds_mul w4 hd1
 have w6 : ds (2 * num) ≤ 3501:=ds_le_of_le (b:=num * 10) (by omega) (by have:=ds_mul10 (a:=num) (n:=1) (k:=3501) (by omega); rwa [Nat.pow_one] at this)
 have w7 : ds (2 * (2 * num)) ≤ 3502:=ds_le_of_le (b:=2 * num * 10) (by omega) (by have:=ds_mul10 (a:=2 * num) (n:=1) (k:=3502) (by omega); rwa [Nat.pow_one] at this)
 have y6:=ds_65b (n:=2 * n + 1) (by omega)
 have y7:=ds_65b (n:=(2 * n + 1) * (2 * n + 1)) (by omega)
 have y8:=ds_65b (n:=(2 * n + 1) * (2 * n + 1) * den) (by omega)
 have y9:=ds_65b (n:=2 * num) (by omega)
 have y10:=ds_65b (n:=2 * (2 * num)) (by omega)
 have e4 : 2 * (2 * num) = 4 * num:=by omega
 have e5 : ∀ z : Nat,2 * z + (false : Bool).toNat = 2 * z:=fun z=>rfl
 have e6 : 2 * n + (true : Bool).toNat = 2 * n + 1:=rfl
 rw [e4] at y10
 have hodd:=odd65' n
 have hq0:=dg65_nil_iff n
 have e3 : rtN num den n r = if awayB r false (decide (n % 2 = 1)) (cmp3 (4 * num) ((2 * n + 1) * (2 * n + 1) * den)) = true then n + 1 else n:=if_neg hin
 rw [e2,e3]
 rw [e3] at q2
 generalize hM : (2 * n + 1) * (2 * n + 1) = MM at *
 generalize hMd : MM * den = MD at *
 generalize hcc : cmp3 (4 * num) MD = c4 at *
 have d1 : (dg 65536 1).length ≤ 1:=by decide
 by_cases hn0 : n = 0
 ·have hn1:=hq0.2 hn0
  have hq2 : decide (n % 2 = 1) = false:=decide_eq_false (by omega)
  rw [hq2] at q2 ⊢
  cases ha : awayB r false false c4
  all_goals
   rw [ha] at q2
   simp only [Bool.false_eq_true,if_false,if_true] at q2 ⊢
   repeat' (first|(with_reducible first|apply q_a|apply q_b|apply q_c|apply q_d|apply q_e|apply q_f|apply q_g|apply q_h|apply q_i|apply q_j|apply q_k|apply q_m|apply q_n|apply q_o|apply q_p|refine q_l ?_)|((with_reducible first|refine q_q ebu_ok fun K hK=>?_|refine q_r ebu_ok fun K hK=>?_);simp (maxSteps:=2000000) only [go_sem,↓reduceIte,reduceCtorEq,Nat.reduceLeDiff,Nat.reduceLT,Nat.reduceBEq,Nat.reduceAdd,o0,V65,t0,hnum,hden,hQ,hn,e5,e6,e4,hM,hMd,hcc,cz,not_false_eq_true,decide_true,ha];(repeat1' with_reducible first|apply And.intro|(intro _;try exact q_v)|(refine hK _ ?_;clear hK K))<;>(try (clear hK K;exact q_u)))|(with_reducible refine q_s ?_;(first|apply q_J|apply q_K|apply q_L|apply q_M|apply q_N|apply q_O)<;>try (intro _;try exact q_v))|with_reducible refine q_t ?_)
   all_goals first | omega | assumption | exact q_A rfl | skip
 ·have hn1 : ¬ ((dg 65536 n).length : Int) = 0:=fun k=>hn0 (hq0.1 k)
  cases ha : awayB r false (decide (n % 2 = 1)) c4
  all_goals
   rw [ha] at q2
   simp only [Bool.false_eq_true,if_false,if_true] at q2 ⊢
   repeat' (first|(with_reducible first|apply q_a|apply q_b|apply q_c|apply q_d|apply q_e|apply q_f|apply q_g|apply q_h|apply q_i|apply q_j|apply q_k|apply q_m|apply q_n|apply q_o|apply q_p|refine q_l ?_)|((with_reducible first|refine q_q ebu_ok fun K hK=>?_|refine q_r ebu_ok fun K hK=>?_);simp (maxSteps:=2000000) only [go_sem,↓reduceIte,reduceCtorEq,Nat.reduceLeDiff,Nat.reduceLT,Nat.reduceBEq,Nat.reduceAdd,o0,V65,t0,hnum,hden,hQ,hn,e5,e6,e4,hM,hMd,hcc,cz,not_false_eq_true,decide_true,hodd,ha];(repeat1' with_reducible first|apply And.intro|(intro _;try exact q_v)|(refine hK _ ?_;clear hK K))<;>(try (clear hK K;exact q_u)))|(with_reducible refine q_s ?_;(first|apply q_J|apply q_K|apply q_L|apply q_M|apply q_N|apply q_O)<;>try (intro _;try exact q_v))|with_reducible refine q_t ?_)
   all_goals first | omega | assumption | exact q_A rfl | skip
def rootOfCT : CT:=mkCT [nDc,nC] false fun l K=>match l with
 | [.inr [.i .i64 k,.b s,.b a,.ints .u32 xs,.i .i64 e],.inr [.i .i64 p,.i .i64 r,.i .i64 mn,.i .i64 mx]] =>
   (InB 4294967296 xs ∧ okD k s a xs e = true ∧ okCx p r mn mx = true) ∧
   K (rDI (sqD ⟨k,s,V 4294967296 xs,e⟩ ⟨p,r,mn,mx⟩) (sqS ⟨k,s,V 4294967296 xs,e⟩ ⟨p,r,mn,mx⟩))
 | _=>False
theorem rRoot_ok (A : Dc) (c : Cx) (hA : OkD A) (hc : OkC c) : Ret Tryz.prog 49 false [.inr (gDc A),.inr (gCx c)] (rDI (sqD A c) (sqS A c)):=by
 by_cases h : A.kind ≠ 0 ∨ A.coef = 0 ∨ A.neg = true
 ·exact rootOf_odd A c hA hc h
 ·obtain ⟨k,s,m,e⟩:=A
  simp only [ne_eq,not_or,Decidable.not_not,Bool.not_eq_true] at h
  obtain ⟨rfl,h2,rfl⟩:=h
  exact rootOf_ok m e c hA hc (by omega)
def exr1 : Cfg:=addT 49 rootOfCT cf0
theorem exr1_ok : TblOk Tryz.prog exr1:=q_I cf0_ok Tryz.func49 fun l K h =>
 opR1_tr (f:=sqD) (g:=sqS) (fun A c hA hc=>rRoot_ok A c hA hc) l K h
attribute [go_sem] rootOfCT
end Go.Proofs.YtgkajjifbcmoeaaGreatDoor
