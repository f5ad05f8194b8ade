import Derived.Test.YtgkajjifbcmoeaaGreatDoorP26
import Derived.Test.YtgkajjifbcmoeaaGreatDoorP32
namespace Go.Proofs.NatL
set_option linter.unusedSimpArgs false
set_option linter.unusedVariables false
structure Far (p mn mx : Int) : Prop where
 p1 : 1 ≤ p
 p2 : p ≤ 60
 mn1 : -999 ≤ mn
 mn2 : mn ≤ -900
 mx1 : 900 ≤ mx
 mx2 : mx ≤ 999
def Sh (m d : Nat) : Prop:=0 < d ∧ ds m ≤ 590 ∧ ds d ≤ 590
theorem sh_of {m d : Nat} (hd : 0 < d) (h1 : (dg 4294967296 m).length ≤ 60) (h2 : (dg 4294967296 d).length ≤ 60) : Sh m d:=by
 have a:=lim_ds (j:=21) h1 (by omega)
 have b:=lim_ds (j:=21) h2 (by omega)
 exact ⟨hd,by omega,by omega⟩
theorem far_at {m d : Nat} (h : Sh m d) (hm : 0 < m) {p mn mx : Int} (hF : Far p mn mx) : -592 ≤ firstE m d 0 ∧ firstE m d 0 ≤ 590 ∧ fitEx m d 0 p mn = firstE m d 0 - p + 1:=by
 obtain ⟨h1,h2,h3⟩:=h
 obtain ⟨p1,p2,n1,n2,x1,x2⟩:=hF
 obtain ⟨b1,b2⟩:=first_bounds hm h1 0
 have d1:=ds_pos.2 h1
 have m1:=ds_pos.2 hm
 unfold guessE at b1 b2
 refine ⟨by omega,by omega,?_⟩
 unfold fitEx tinyE; omega
theorem far_fit {s : Bool} {m d : Nat} (h : Sh m d) (hm : 0 < m) {p mn mx : Int} (hF : Far p mn mx) (r : Int) :
  fitD s m d 0 0 p r mn mx = ⟨0,s,(fitCE s m d 0 0 p r mn).1,(fitCE s m d 0 0 p r mn).2⟩ ∧ fitS s m d 0 0 p r mn mx = (if sE m d 0 (fitEx m d 0 p mn) = 0 then 0 else 1):=by
 obtain ⟨f1,f2,f3⟩:=far_at h hm hF
 obtain ⟨h1,h2,h3⟩:=h
 obtain ⟨p1,p2,n1,n2,x1,x2⟩:=hF
 obtain ⟨K,hK⟩ : ∃ K : Nat,K = 2000:=⟨_,rfl⟩
 have hv:=ce_val (s:=s) (i:=0) (r:=r) (e:=0) (p:=p) (mn:=mn) (K:=K) hm h1 p1 (by unfold tinyE; omega)
 have hlow:=ce_low (neg:=s) (num:=m) (den:=d) (exp:=0) (ideal:=0) (p:=p) (r:=r) (mn:=mn)
 have hle:=fit_round_le (neg:=s) (r:=r) (mn:=mn) hm h1 (exp:=0) p1
 generalize hCE : fitCE s m d 0 0 p r mn = CE at *
 obtain ⟨c,x⟩:=CE
 have hv : c * 10 ^ (x + (K : Int)).toNat = rdE s m d 0 (fitEx m d 0 p mn) r * 10 ^ (fitEx m d 0 p mn + (K : Int)).toNat:=hv
 have hlow : tinyE p mn ≤ x:=hlow
 have ht : tinyE p mn = mn - p + 1:=rfl
 have ho : ¬ (0 < c ∧ mx < (ds c : Int) - 1 + x):=fun ho=>by
  rw [over_iff (K:=K) (by omega) (by omega),hv] at ho
  have h5:=Nat.mul_le_mul_right (10 ^ (fitEx m d 0 p mn + (K : Int)).toNat) hle
  rw [← Nat.pow_add] at h5
  have h6 : 10 ^ (p.toNat + (fitEx m d 0 p mn + (K : Int)).toNat) < 10 ^ (mx + 1 + (K : Int)).toNat:=Nat.pow_lt_pow_right (by omega) (by rw [f3]; omega)
  omega
 obtain ⟨g1,g2⟩:=fit_fine hm hCE ho
 rw [g1,g2]
 refine ⟨rfl,?_⟩
 unfold sigE
 have hfn : ¬ firstE m d 0 < mn:=by omega
 rw [if_neg hfn,if_neg hfn]
 split <;> rfl
theorem far_exact {s : Bool} {m d : Nat} {p mn : Int} (r r' : Int) (hs : sE m d 0 (fitEx m d 0 p mn) = 0) : fitCE s m d 0 0 p r mn = fitCE s m d 0 0 p r' mn:=by
 rw [ce_exact hs,ce_exact hs]
 unfold rdE
 rw [if_pos hs,if_pos hs]
def upC (R : Nat) (x p : Int) : Nat × Int:=if p < (ds R : Int) then (R / 10,x + 1) else (R,x)
theorem far_round {s : Bool} {m d : Nat} {p mn r : Int} (hs : ¬ sE m d 0 (fitEx m d 0 p mn) = 0) : fitCE s m d 0 0 p r mn = upC (rdE s m d 0 (fitEx m d 0 p mn) r) (fitEx m d 0 p mn) p:=by
 unfold fitCE upC
 rw [if_neg hs]
theorem rd_floor (s : Bool) {m d : Nat} {x : Int} (hs : ¬ sE m d 0 x = 0) : rdE s m d 0 x 2 = if s = true then qE m d 0 x + 1 else qE m d 0 x:=by
 unfold rdE
 rw [if_neg hs]
 rfl
theorem rd_ceil (s : Bool) {m d : Nat} {x : Int} (hs : ¬ sE m d 0 x = 0) : rdE s m d 0 x 3 = if s = true then qE m d 0 x else qE m d 0 x + 1:=by
 unfold rdE
 rw [if_neg hs]
 cases s <;> rfl
theorem rd_any (s : Bool) {m d : Nat} {x r : Int} (hs : ¬ sE m d 0 x = 0) : rdE s m d 0 x r = qE m d 0 x ∨ rdE s m d 0 x r = qE m d 0 x + 1:=by
 unfold rdE
 rw [if_neg hs]
 split
 ·exact .inr rfl
 ·exact .inl rfl
theorem upC_exp {m d : Nat} (hm : 0 < m) (hd : 0 < d) {p mn : Int} (hp : 1 ≤ p) : (upC (qE m d 0 (fitEx m d 0 p mn)) (fitEx m d 0 p mn) p).2 = fitEx m d 0 p mn ∧ fitEx m d 0 p mn ≤ (upC (qE m d 0 (fitEx m d 0 p mn) + 1) (fitEx m d 0 p mn) p).2:=by
 have h:=qE_lt (mn:=mn) hm hd 0 hp
 have h2:=ds_le h
 unfold upC
 rw [if_neg (by omega)]
 refine ⟨rfl,?_⟩
 split
 ·simp only; omega
 ·exact Int.le_refl _
theorem q_around {m d : Nat} (hd : 0 < d) {x : Int} {K : Nat} (hx : 0 ≤ x + K) : qE m d 0 x * 10 ^ (x + K).toNat * d ≤ m * 10 ^ K ∧ m * 10 ^ K < (qE m d 0 x + 1) * 10 ^ (x + K).toNat * d ∧ (sE m d 0 x = 0 → qE m d 0 x * 10 ^ (x + K).toNat * d = m * 10 ^ K):=by
 obtain ⟨k,h1,h2⟩:=pt_up m d (e:=0) (x:=x) (K:=K) (by omega) hx
 have hq : qE m d 0 x = ptN m 0 x / ptD d 0 x:=rfl
 have hm:=Nat.div_add_mod (ptN m 0 x) (ptD d 0 x)
 have hl:=Nat.mod_lt (ptN m 0 x) (ptD_pos hd 0 x)
 have hs : sE m d 0 x = ptN m 0 x % ptD d 0 x:=rfl
 rw [← hq,← hs] at hm
 rw [← hs] at hl
 have hu : m * 10 ^ K = upN m 0 K:=by unfold upN; rw [show (0 + (K : Int)).toNat = K by omega]
 rw [hu,h1]
 have e1 : ∀ q : Nat,q * 10 ^ (x + (K : Int)).toNat * d = ptD d 0 x * q * 10 ^ k:=fun q=>by
  rw [Nat.mul_assoc,Nat.mul_comm (10 ^ (x + (K : Int)).toNat) d,h2]; ac_rfl
 rw [e1,e1]
 generalize ptD d 0 x = D at *
 generalize ptN m 0 x = N at *
 generalize sE m d 0 x = sm at *
 generalize qE m d 0 x = q at *
 have hT:=ten_pos k
 refine ⟨Nat.mul_le_mul_right _ (by omega),Nat.mul_lt_mul_of_pos_right (by rw [Nat.mul_add,Nat.mul_one]; omega) hT,fun h=>?_⟩
 rw [h] at hm
 rw [← hm]; rfl
theorem dr_val {A : Dc} {K : Nat} (h : 0 ≤ A.exp + K) : drN A * 10 ^ K = mgK A K * drD A:=by
 unfold drN drD mgK
 rw [Nat.mul_assoc,Nat.mul_assoc,← Nat.pow_add,← Nat.pow_add]
 congr 2
 omega
end Go.Proofs.NatL

namespace Go.Proofs.NatL
set_option linter.unusedSimpArgs false
set_option linter.unusedVariables false
theorem dr_small {s : Bool} {D : Dc} {p mn mx : Int} (h : fitR s D p mn mx) (hk : D.kind = 0) (hF : Far p mn mx) : ds (drN D) ≤ 1100 ∧ ds (drD D) ≤ 1100 ∧ D.coef < 10 ^ 120 ∧ -1060 ≤ D.exp ∧ D.exp ≤ 1000:=by
 obtain ⟨p1,p2,n1,n2,x1,x2⟩:=hF
 obtain ⟨_,h | ⟨_,h2,h3,h4,h5⟩⟩:=h
 ·omega
 have ht : tinyE p mn = mn - p + 1:=rfl
 have he : D.exp ≤ 1000:=by
  rcases Nat.eq_zero_or_pos D.coef with h0 | h0
  ·have:=h5 h0; omega
  ·have:=ds_pos.2 h0; omega
 refine ⟨?_,?_,lt120.2 (by omega),by omega,he⟩
 ·unfold drN
  rcases Nat.eq_zero_or_pos D.coef with h0 | h0
  ·rw [h0,Nat.zero_mul,ds_zero]; omega
  ·exact ds_mul10 (by omega)
 ·unfold drD; rw [ds_ten]; omega
theorem sg_val {D : Dc} {K : Nat} (h : 0 ≤ D.exp + K) : sg D.neg (drN D) * (10 ^ K : Nat) = sg D.neg (mgK D K) * (drD D : Int):=by
 rw [← sg_mulT,dr_val h,sg_mulT]
theorem le_val {D : Dc} {K d : Nat} {z : Int} (h : 0 ≤ D.exp + K) : (sg D.neg (drN D) * d ≤ z * drD D ↔ sg D.neg (mgK D K) * d ≤ z * (10 ^ K : Nat)) ∧ (z * drD D ≤ sg D.neg (drN D) * d ↔ z * (10 ^ K : Nat) ≤ sg D.neg (mgK D K) * d):=by
 have hv:=sg_val h
 have hT : (0 : Int) < (10 ^ K : Nat):=by have:=ten_pos K; omega
 have hD : (0 : Int) < (drD D : Nat):=by have:=drD_pos D; omega
 generalize ((10 ^ K : Nat) : Int) = T at *
 generalize (drD D : Int) = P at *
 generalize sg D.neg (drN D) = N at *
 generalize sg D.neg (mgK D K) = M at *
 have e1 : N * d * T = M * d * P:=by rw [Int.mul_right_comm,hv,Int.mul_right_comm]
 have e2 : z * P * T = z * T * P:=Int.mul_right_comm _ _ _
 constructor
 ·constructor
  ·intro q
   have:=Int.mul_le_mul_of_nonneg_right q (Int.le_of_lt hT)
   rw [e1,e2] at this
   exact Int.le_of_mul_le_mul_right this hD
  ·intro q
   have:=Int.mul_le_mul_of_nonneg_right q (Int.le_of_lt hD)
   rw [← e1,← e2] at this
   exact Int.le_of_mul_le_mul_right this hT
 ·constructor
  ·intro q
   have:=Int.mul_le_mul_of_nonneg_right q (Int.le_of_lt hT)
   rw [e1,e2] at this
   exact Int.le_of_mul_le_mul_right this hD
  ·intro q
   have:=Int.mul_le_mul_of_nonneg_right q (Int.le_of_lt hD)
   rw [← e1,← e2] at this
   exact Int.le_of_mul_le_mul_right this hT
theorem unit_val {A B : Dc} {K : Nat} {x : Int} (hA : 0 ≤ A.exp + K) (hB : 0 ≤ B.exp + K) (hx : 0 ≤ x + K) (h : sg B.neg (mgK B K) - sg A.neg (mgK A K) = (10 ^ (x + K).toNat : Nat)) :
  (sg B.neg (drN B) * drD A - sg A.neg (drN A) * drD B) * (10 ^ (-x).toNat : Nat) = (10 ^ x.toNat : Nat) * ((drD B * drD A : Nat) : Int):=by
 have v1:=sg_val hA
 have v2:=sg_val hB
 have hT : ((10 ^ K : Nat) : Int) ≠ 0:=by have:=ten_pos K; omega
 have e0 : ((10 ^ (x + K).toNat : Nat) : Int) * (10 ^ (-x).toNat : Nat) = (10 ^ x.toNat : Nat) * (10 ^ K : Nat):=by
  rw [← Int.natCast_mul,← Int.natCast_mul,← Nat.pow_add,← Nat.pow_add]
  congr 2
  omega
 rw [Int.natCast_mul]
 generalize ((10 ^ K : Nat) : Int) = T at *
 generalize ((10 ^ (x + K).toNat : Nat) : Int) = U at *
 generalize ((10 ^ (-x).toNat : Nat) : Int) = Y at *
 generalize ((10 ^ x.toNat : Nat) : Int) = W at *
 generalize (drD A : Int) = P at *
 generalize (drD B : Int) = Q at *
 generalize sg A.neg (drN A) = M at *
 generalize sg B.neg (drN B) = N at *
 generalize sg A.neg (mgK A K) = m at *
 generalize sg B.neg (mgK B K) = n at *
 refine Int.eq_of_mul_eq_mul_right hT ?_
 have e1 : (N * P - M * Q) * T = (n - m) * (Q * P):=by
  rw [Int.sub_mul,Int.sub_mul,Int.mul_right_comm N,Int.mul_right_comm M,v1,v2]
  congr 1
  ·rw [Int.mul_assoc]
  ·rw [Int.mul_assoc,Int.mul_comm P Q]
 rw [Int.mul_right_comm,e1,h,Int.mul_right_comm,e0]
 ac_rfl
theorem far_facts {z : Int} {d : Nat} {p mn mx r : Int} (hs : Sh z.natAbs d) (hF : Far p mn mx) :
  ∃ A B E : Dc,∃ n : Int,fitD (decide (z < 0)) z.natAbs d 0 0 p 2 mn mx = A ∧ fitD (decide (z < 0)) z.natAbs d 0 0 p 3 mn mx = B ∧ fitD (decide (z < 0)) z.natAbs d 0 0 p r mn mx = E ∧
   fitS (decide (z < 0)) z.natAbs d 0 0 p 2 mn mx = n ∧ fitS (decide (z < 0)) z.natAbs d 0 0 p 3 mn mx = n ∧ fitS (decide (z < 0)) z.natAbs d 0 0 p r mn mx = n ∧
   A.kind = 0 ∧ B.kind = 0 ∧ E.kind = 0 ∧ (E = A ∨ E = B) ∧
   ((n = 0 ∧ A = B ∧ sg A.neg (drN A) * d = z * drD A) ∨ (n = 1 ∧ sg A.neg (drN A) * d ≤ z * drD A ∧ z * drD B ≤ sg B.neg (drN B) * d ∧
    (sg B.neg (drN B) * drD A - sg A.neg (drN A) * drD B) * (10 ^ (-min A.exp B.exp).toNat : Nat) = (10 ^ (min A.exp B.exp).toNat : Nat) * ((drD B * drD A : Nat) : Int))):=by
 have hz : z = sg (decide (z < 0)) z.natAbs:=(sg_self z).symm
 generalize hsn : decide (z < 0) = s at *
 obtain ⟨K,hK⟩ : ∃ K : Nat,K = 2000:=⟨_,rfl⟩
 rcases Nat.eq_zero_or_pos z.natAbs with hm0 | hm
 ·have f:=fun r=>fit_zero s d 0 0 p r mn mx hm0
  refine ⟨_,_,_,0,rfl,rfl,rfl,(f 2).2,(f 3).2,(f r).2,?_⟩
  rw [(f 2).1,(f 3).1,(f r).1]
  refine ⟨rfl,rfl,rfl,.inl rfl,.inl ⟨rfl,rfl,?_⟩⟩
  have z0 : z = 0:=by omega
  rw [z0]
  unfold drN
  simp only [Nat.zero_mul,Int.zero_mul]
  cases s <;> simp [sg]
 have hd:=hs.1
 obtain ⟨f1,f2,f3⟩:=far_at hs hm hF
 have ft:=fun r=>far_fit (s:=s) hs hm hF r
 have hFF:=hF
 obtain ⟨p1,p2,n1,n2,x1,x2⟩:=hFF
 have ht : tinyE p mn = mn - p + 1:=rfl
 have hv:=fun r=>ce_val (s:=s) (i:=0) (r:=r) (e:=0) (p:=p) (mn:=mn) (K:=K) hm hd p1 (by omega)
 have hlow:=fun r=>ce_low (neg:=s) (num:=z.natAbs) (den:=d) (exp:=0) (ideal:=0) (p:=p) (r:=r) (mn:=mn)
 have qa:=q_around (m:=z.natAbs) hd (x:=fitEx z.natAbs d 0 p mn) (K:=K) (by omega)
 refine ⟨_,_,_,if sE z.natAbs d 0 (fitEx z.natAbs d 0 p mn) = 0 then 0 else 1,rfl,rfl,rfl,(ft 2).2,(ft 3).2,(ft r).2,?_⟩
 rw [(ft 2).1,(ft 3).1,(ft r).1]
 refine ⟨rfl,rfl,rfl,?_⟩
 have hz2 : z * (10 ^ K : Nat) = sg s (z.natAbs * 10 ^ K):=by rw [sg_mulT,← hz]
 by_cases he : sE z.natAbs d 0 (fitEx z.natAbs d 0 p mn) = 0
 ·rw [far_exact 3 2 he,far_exact r 2 he,if_pos he]
  refine ⟨.inl rfl,.inl ⟨rfl,rfl,?_⟩⟩
  have hr2 : rdE s z.natAbs d 0 (fitEx z.natAbs d 0 p mn) 2 = qE z.natAbs d 0 (fitEx z.natAbs d 0 p mn):=by unfold rdE; rw [if_pos he]
  have hv2:=hv 2
  rw [hr2] at hv2
  have h1:=le_val (D:=⟨0,s,(fitCE s z.natAbs d 0 0 p 2 mn).1,(fitCE s z.natAbs d 0 0 p 2 mn).2⟩) (K:=K) (d:=d) (z:=z) (by have:=hlow 2; simp only; omega)
  have hmg : mgK ⟨0,s,(fitCE s z.natAbs d 0 0 p 2 mn).1,(fitCE s z.natAbs d 0 0 p 2 mn).2⟩ K = qE z.natAbs d 0 (fitEx z.natAbs d 0 p mn) * 10 ^ (fitEx z.natAbs d 0 p mn + (K : Int)).toNat:=hv2
  have heq : sg s (mgK ⟨0,s,(fitCE s z.natAbs d 0 0 p 2 mn).1,(fitCE s z.natAbs d 0 0 p 2 mn).2⟩ K) * d = z * (10 ^ K : Nat):=by
   rw [hz2,hmg,← sg_mulT,qa.2.2 he]
  exact Int.le_antisymm (h1.1.2 (Int.le_of_eq heq)) (h1.2.2 (Int.le_of_eq heq.symm))
 ·rw [if_neg he]
  have u1:=far_round (s:=s) (p:=p) (mn:=mn) (r:=2) he
  have u2:=far_round (s:=s) (p:=p) (mn:=mn) (r:=3) he
  have u3:=far_round (s:=s) (p:=p) (mn:=mn) (r:=r) he
  have v1:=rd_floor s he
  have v2:=rd_ceil s he
  have v3:=rd_any s (r:=r) he
  have e1:=upC_exp (mn:=mn) hm hd p1
  have l2:=hlow 2
  have l3:=hlow 3
  have hv2:=hv 2
  have hv3:=hv 3
  rw [v1] at hv2
  rw [v2] at hv3
  rw [v1] at u1
  rw [v2] at u2
  generalize fitCE s z.natAbs d 0 0 p 2 mn = C2 at *
  generalize fitCE s z.natAbs d 0 0 p 3 mn = C3 at *
  generalize fitCE s z.natAbs d 0 0 p r mn = C4 at *
  generalize rdE s z.natAbs d 0 (fitEx z.natAbs d 0 p mn) r = R at *
  generalize qE z.natAbs d 0 (fitEx z.natAbs d 0 p mn) = q at *
  generalize hX : fitEx z.natAbs d 0 p mn = x at *
  have hmin : min C2.2 C3.2 = x:=by
   rw [u1,u2]
   cases s <;> simp only [Bool.false_eq_true,if_true,if_false] <;> omega
  refine ⟨?_,.inr ⟨rfl,?_,?_,?_⟩⟩
  ·rw [u1,u2,u3]
   rcases v3 with v3 | v3 <;> rw [v3] <;> cases s <;> simp
  ·have h1:=le_val (D:=⟨0,s,C2.1,C2.2⟩) (K:=K) (d:=d) (z:=z) (by simp only; omega)
   refine h1.1.2 ?_
   have hmg : mgK ⟨0,s,C2.1,C2.2⟩ K = (if s = true then q + 1 else q) * 10 ^ (x + (K : Int)).toNat:=hv2
   simp only [hmg]
   rw [hz2,← sg_mulT]
   cases s
   ·simp only [Bool.false_eq_true,if_false,sgf]; omega
   ·simp only [if_true,sgt]; omega
  ·have h1:=le_val (D:=⟨0,s,C3.1,C3.2⟩) (K:=K) (d:=d) (z:=z) (by simp only; omega)
   refine h1.2.2 ?_
   have hmg : mgK ⟨0,s,C3.1,C3.2⟩ K = (if s = true then q else q + 1) * 10 ^ (x + (K : Int)).toNat:=hv3
   simp only [hmg]
   rw [hz2,← sg_mulT]
   cases s
   ·simp only [Bool.false_eq_true,if_false,sgf]; omega
   ·simp only [if_true,sgt]; omega
  ·have h1:=unit_val (A:=⟨0,s,C2.1,C2.2⟩) (B:=⟨0,s,C3.1,C3.2⟩) (K:=K) (x:=x) (by simp only; omega) (by simp only; omega) (by omega) (by
    have m1 : mgK ⟨0,s,C2.1,C2.2⟩ K = (if s = true then q + 1 else q) * 10 ^ (x + (K : Int)).toNat:=hv2
    have m2 : mgK ⟨0,s,C3.1,C3.2⟩ K = (if s = true then q else q + 1) * 10 ^ (x + (K : Int)).toNat:=hv3
    simp only [m1,m2]
    cases s
    ·simp only [Bool.false_eq_true,if_false,sgf,Nat.add_mul,Nat.one_mul]; omega
    ·simp only [if_true,sgt,Nat.add_mul,Nat.one_mul]; omega)
   simp only [hmin]
   exact h1
end Go.Proofs.NatL

namespace Go.Proofs.NatL
set_option linter.unusedSimpArgs false
set_option linter.unusedVariables false
theorem ord_rd {N z : Int} {D d : Nat} (hD : 0 < D) : cmpZ (rdN N D * d) (z * rdD N D) = cmpZ (N * d) (z * D):=by
 have v:=rd_val N D
 have hp:=rdD_pos N hD
 rw [← cmpZ_mul (rdN N D * d) (z * rdD N D) (T:=(D : Int)) (by omega),← cmpZ_mul (N * d) (z * D) (T:=(rdD N D : Int)) (by omega)]
 rw [Int.mul_right_comm (rdN N D),v,Int.mul_right_comm z,Int.mul_right_comm N]
theorem cmpZ_eq {a b : Int} (h : a = b) : cmpZ a b = 0:=by unfold cmpZ; rw [if_neg (by omega),if_pos h]
theorem cmpZ_le {a b : Int} (h : a ≤ b) : cmpZ a b ≤ 0:=by unfold cmpZ; (repeat' split) <;> omega
theorem cmpZ_ge {a b : Int} (h : b ≤ a) : 0 ≤ cmpZ a b:=by unfold cmpZ; (repeat' split) <;> omega
theorem unit_rd {M N : Int} {P Q U W : Nat} (hP : 0 < P) (hQ : 0 < Q) (h : (N * P - M * Q) * (W : Int) = (U : Int) * ((Q * P : Nat) : Int)) :
  cmpZ (rdN (rdN N Q * rdD M P - rdN M P * rdD N Q) (rdD N Q * rdD M P) * W) (U * rdD (rdN N Q * rdD M P - rdN M P * rdD N Q) (rdD N Q * rdD M P)) = 0:=by
 have p1:=rdD_pos M hP
 have p2:=rdD_pos N hQ
 rw [ord_rd (Nat.mul_pos p2 p1)]
 refine cmpZ_eq ?_
 have v1:=rd_val M P
 have v2:=rd_val N Q
 generalize rdN M P = m at *
 generalize rdN N Q = n at *
 generalize rdD M P = c at *
 generalize rdD N Q = e at *
 have hne : ((Q : Int) * P) ≠ 0:=Int.mul_ne_zero (by omega) (by omega)
 refine Int.eq_of_mul_eq_mul_right hne ?_
 rw [Int.natCast_mul] at h ⊢
 have e1 : (n * c - m * e) * W * ((Q : Int) * P) = (e : Int) * c * ((N * P - M * Q) * W):=by
  have a1 : (n * c - m * e) * ((Q : Int) * P) = (e : Int) * c * (N * P - M * Q):=by
   rw [Int.sub_mul,Int.mul_sub]
   have b1 : n * c * ((Q : Int) * P) = n * Q * (c * P):=by ac_rfl
   have b2 : m * e * ((Q : Int) * P) = m * P * (e * Q):=by ac_rfl
   rw [b1,b2,v1,v2]
   congr 1 <;> ac_rfl
  rw [Int.mul_right_comm,a1]; ac_rfl
 rw [e1,h]; ac_rfl
end Go.Proofs.NatL

namespace Go.Proofs.NatL
set_option linter.unusedSimpArgs false
set_option linter.unusedVariables false
def finB : List D5 → Bool
 | []=>true
 | p :: l=>okD5 p && decide (p.1 = 0) && finB l
end Go.Proofs.NatL
namespace Go.Proofs.YtgkajjifbcmoeaaGreatDoor
set_option linter.unusedSimpArgs false
set_option linter.unusedVariables false
open Go.Abs Go.Proofs.NatL

def ebt : Cfg:=listT [(32,validDCT)] [34]
theorem ebt_ok : TblOk Tryz.prog ebt:=listE_ok (by simp only [List.mem_singleton,forall_eq]; exact flt) ⟨⟨er7,er7_ok,rfl⟩,trivial⟩
attribute [go_sem] ebt
set_option maxHeartbeats 1600000 in
theorem dfin_ret (l : List D5) (hn : l.length ≤ 1000) (hl : allD 140737488355328 l) :
  Ret Tryz.prog 52 false [.inl (.sl 5 (l.map rowD))] (.c (.b (finB l))):=by
 (refine q_H Tryz.func52 (fun F=>?_); simp only [q_z,q_y,Tryz.ntmps52,Tryz.results52])
 repeat' (first|with_reducible refine q_0 ?_|((with_reducible first|refine q_q ebt_ok fun K hK=>?_|refine q_r ebt_ok fun K hK=>?_);simp (maxSteps:=2000000) only [go_sem,↓reduceIte,reduceCtorEq,Nat.reduceLeDiff,Nat.reduceLT,Nat.reduceBEq,Nat.reduceAdd,List.length_map];(repeat1' with_reducible first|apply And.intro|(intro _;try exact q_v)|(refine hK _ ?_;clear hK K))<;>(try (clear hK K;exact q_u)))|(with_reducible refine q_s ?_;(first|apply q_J|apply q_K|apply q_L|apply q_M|apply q_N|apply q_O)<;>try (intro _;try exact q_v)))
 all_goals first | omega | skip
 refine q_G (ι:={ i : Nat // i ≤ l.length ∧ finB (l.drop i) = finB l }) (fun i=>⟨20,[(5,.c (.sl 5 (l.map rowD))),(6,.c (.i .i64 l.length)),(7,.c (.i .i64 (i.1 : Nat)))],⟨[],[],[]⟩,0⟩) (fun i=>l.length - i.1) ⟨0,by simp,rfl⟩ ?_ ?_
 ·exact q_D
 rintro ⟨i,g1,g2⟩
 simp only at g1 g2 ⊢
 obtain ⟨n1,n2⟩:=allD_get (i:=i) hl
 rcases Nat.lt_or_ge i l.length with hi | hi
 ·have hr:=rowD_get l i hi
  rw [drop_getD5 l i hi,finB] at g2
  unfold okD5 at g2
  cases ho : okD (l.getD i d0).1 (l.getD i d0).2.1 (l.getD i d0).2.2.1 (l.getD i d0).2.2.2.1 (l.getD i d0).2.2.2.2
  ·have hg : finB l = false:=by rw [← g2,ho]; rfl
   repeat' (first|with_reducible refine q_0 ?_|((with_reducible first|refine q_q ebt_ok fun K hK=>?_|refine q_r ebt_ok fun K hK=>?_);simp (maxSteps:=2000000) only [go_sem,↓reduceIte,reduceCtorEq,Nat.reduceLeDiff,Nat.reduceLT,Nat.reduceBEq,Nat.reduceAdd,hr,ho,List.length_map];(repeat1' with_reducible first|apply And.intro|(intro _;try exact q_v)|(refine hK _ ?_;clear hK K))<;>(try (clear hK K;exact q_u)))|(with_reducible refine q_s ?_;(first|apply q_J|apply q_K|apply q_L|apply q_M|apply q_N|apply q_O)<;>try (intro _;try exact q_v)))
   all_goals first | omega | assumption | exact q_A (by rw [hg]; rfl) | skip
  ·by_cases hk : (l.getD i d0).1 = 0
   ·have hg : finB (l.drop (i + 1)) = finB l:=by rw [← g2,ho,decide_eq_true hk]; rfl
    rw [hk] at ho
    repeat' (first|with_reducible refine q_0 ?_|((with_reducible first|refine q_q ebt_ok fun K hK=>?_|refine q_r ebt_ok fun K hK=>?_);simp (maxSteps:=2000000) only [go_sem,↓reduceIte,reduceCtorEq,Nat.reduceLeDiff,Nat.reduceLT,Nat.reduceBEq,Nat.reduceAdd,hr,ho,hk,List.length_map];(repeat1' with_reducible first|apply And.intro|(intro _;try exact q_v)|(refine hK _ ?_;clear hK K))<;>(try (clear hK K;exact q_u)))|(with_reducible refine q_s ?_;(first|apply q_J|apply q_K|apply q_L|apply q_M|apply q_N|apply q_O)<;>try (intro _;try exact q_v)))
    all_goals first | omega | assumption | skip
    refine q_F ⟨i + 1,hi,hg⟩ ?_ (by simp only; omega)
    exact q_D
   ·have hg : finB l = false:=by rw [← g2,ho,decide_eq_false hk]; rfl
    repeat' (first|with_reducible refine q_0 ?_|((with_reducible first|refine q_q ebt_ok fun K hK=>?_|refine q_r ebt_ok fun K hK=>?_);simp (maxSteps:=2000000) only [go_sem,↓reduceIte,reduceCtorEq,Nat.reduceLeDiff,Nat.reduceLT,Nat.reduceBEq,Nat.reduceAdd,hr,ho,List.length_map];(repeat1' with_reducible first|apply And.intro|(intro _;try exact q_v)|(refine hK _ ?_;clear hK K))<;>(try (clear hK K;exact q_u)))|(with_reducible refine q_s ?_;(first|apply q_J|apply q_K|apply q_L|apply q_M|apply q_N|apply q_O)<;>try (intro _;try exact q_v)))
    all_goals first | omega | assumption | exact q_A (by rw [hg]; rfl) | skip
 ·have hi' : i = l.length:=by omega
  subst hi'
  rw [List.drop_length] at g2
  have hg : finB l = true:=g2.symm
  repeat' (first|with_reducible refine q_0 ?_|((with_reducible first|refine q_q ebt_ok fun K hK=>?_|refine q_r ebt_ok fun K hK=>?_);simp (maxSteps:=2000000) only [go_sem,↓reduceIte,reduceCtorEq,Nat.reduceLeDiff,Nat.reduceLT,Nat.reduceBEq,Nat.reduceAdd,List.length_map];(repeat1' with_reducible first|apply And.intro|(intro _;try exact q_v)|(refine hK _ ?_;clear hK K))<;>(try (clear hK K;exact q_u)))|(with_reducible refine q_s ?_;(first|apply q_J|apply q_K|apply q_L|apply q_M|apply q_N|apply q_O)<;>try (intro _;try exact q_v)))
  all_goals first | omega | exact q_A (by rw [hg]; rfl) | skip
def finiteDCT : CT:=mkCT [] true fun l K=>match l with
 | [.inl (.sl 5 rows)]=>match unD rows with
  | some l=>(l.length ≤ 1000 ∧ allD 140737488355328 l) ∧ K (.c (.b (finB l)))
  | none=>False
 | _=>False
def ew1 : Cfg:=addT 52 finiteDCT cf0
theorem ew1_ok : TblOk Tryz.prog ew1:=q_I cf0_ok Tryz.func52 fun l K h=>by
 split at h
 ·split at h
  ·rename_i l hl
   rw [unD_some hl]
   exact ⟨_,(dfin_ret l h.1.1 h.1.2).plain rfl,h.2⟩
  ·exact h.elim
 ·exact h.elim
attribute [go_sem] finiteDCT finB
end Go.Proofs.YtgkajjifbcmoeaaGreatDoor
