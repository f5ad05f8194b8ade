import Derived.Test.YtgkajjifbcmoeaaGreatDoorM48
import Derived.Test.YtgkajjifbcmoeaaGreatDoorM51
import Derived.Test.YtgkajjifbcmoeaaGreatDoorM70
import Derived.Test.YtgkajjifbcmoeaaGreatDoorM87
namespace Go.Proofs.NatL
set_option linter.unusedSimpArgs false
set_option linter.unusedVariables false
theorem away0 (s o : Bool) (h : Int) : awayB 0 s o h = false:=rfl
theorem rdE0 (s : Bool) (n d : Nat) (e x : Int) : rdE s n d e x 0 = qE n d e x:=by
 unfold rdE
 rw [away0]
 split
 ·rfl
 ·rw [if_neg (by decide)]
theorem fit_selfS {s : Bool} {c : Nat} {e p r mn mx : Int} (hl : (ds c : Int) ≤ p) (hw : tinyE p mn ≤ e) (ho : ¬ (0 < c ∧ mx < (ds c : Int) - 1 + e)) (h0 : c = 0 → e ≤ mx) (hm : mn ≤ e) :
  fitD s c 1 e e p r mn mx = ⟨0,s,c,e⟩ ∧ fitS s c 1 e e p r mn mx = 0:=by
 obtain ⟨h1,h2⟩:=fit_self (s:=s) (r:=r) hl hw ho h0
 refine ⟨h1,?_⟩
 rcases Nat.eq_zero_or_pos c with hz | hc
 ·exact (fit_zero s 1 e e p r mn mx hz).2
 ·have hf:=first_one hc e
  have hx : fitEx c 1 e p mn ≤ e:=by unfold fitEx; rw [hf]; omega
  obtain ⟨g1,g2⟩:=pt_ge (num:=c) (den:=1) (e:=e) (x:=fitEx c 1 e p mn) (by omega)
  have hs : sE c 1 e (fitEx c 1 e p mn) = 0:=by unfold sE; rw [g2]; exact Nat.mod_one _
  have hd:=ds_pos.2 hc
  have hq : qE c 1 e (fitEx c 1 e p mn) = c * 10 ^ (e - fitEx c 1 e p mn).toNat:=by unfold qE; rw [g2,g1,Nat.div_one]
  have hCE : fitCE s c 1 e e p r mn = (c,e):=by
   rw [ce_exact hs]
   unfold rdE
   rw [if_pos hs,hq,twd_mul]
   congr 1; omega
  rw [(fit_fine hc hCE ho).2]
  unfold sigE
  rw [if_pos hs,hf,if_neg (by omega)]
  rfl
theorem q_cut {n d : Nat} {e x : Int} {K : Nat} (he : 0 ≤ e + K) (hx : x ≤ 0) (hxK : 0 ≤ x + K) : qE n d e x * 10 ^ (x + K).toNat / 10 ^ K = qE n d e 0:=by
 have h1:=qE_up n d he hxK
 have h2:=qE_up n d (x:=0) he (by omega)
 rw [h1,h2,show (0 + (K : Int)).toNat = K by omega]
 have e1 : 10 ^ K = 10 ^ (-x).toNat * 10 ^ (x + K).toNat:=by rw [← Nat.pow_add]; congr 1; omega
 rw [e1,Nat.mul_div_mul_right _ _ (ten_pos _),Nat.div_div_eq_div_mul]
 congr 1
 ac_rfl
theorem wide_len {m : Nat} (h : m < 2 ^ 64) : ds m ≤ 20:=ds_le (Nat.lt_of_lt_of_le h (by decide))
abbrev cW : Cx:=⟨60,0, -900,900⟩
theorem cW_ok : OkC cW:=⟨by decide,by decide,by decide,by decide,by decide,by decide,by decide,by decide⟩
theorem div_fin {A B : Dc} (c : Cx) (ha : A.kind = 0) (hb : B.kind = 0) (hn : B.coef ≠ 0) : divD A B c = fitD (A.neg != B.neg) A.coef B.coef (A.exp - B.exp) (A.exp - B.exp) c.p c.r c.mn c.mx ∧ divS A B c = fitS (A.neg != B.neg) A.coef B.coef (A.exp - B.exp) (A.exp - B.exp) c.p c.r c.mn c.mx:=by
 have h1 : ¬ (A.kind = 2 ∨ B.kind = 2):=by omega
 have h2 : ¬ ((A.kind = 1 ∧ B.kind = 1) ∨ ((A.kind = 0 ∧ A.coef = 0) ∧ (B.kind = 0 ∧ B.coef = 0))):=by omega
 have h3 : ¬ A.kind = 1:=by omega
 have h4 : ¬ B.kind = 1:=by omega
 unfold divD divS
 rw [if_neg h1,if_neg h2,if_neg h3,if_neg h4,if_neg hn,if_neg h1,if_neg h2,if_neg h3,if_neg h4,if_neg hn]
 exact ⟨rfl,rfl⟩
theorem rem_fin {A B : Dc} (c : Cx) (ha : A.kind = 0) (hb : B.kind = 0) (hn : B.coef ≠ 0) : remD A B c = fitD A.neg (remN A B) 1 (min A.exp B.exp) (min A.exp B.exp) c.p c.r c.mn c.mx ∧ remS A B c = fitS A.neg (remN A B) 1 (min A.exp B.exp) (min A.exp B.exp) c.p c.r c.mn c.mx:=by
 have h1 : ¬ (A.kind = 2 ∨ B.kind = 2):=by omega
 have h2 : ¬ (A.kind = 1 ∨ (B.kind = 0 ∧ B.coef = 0)):=by omega
 have h3 : ¬ B.kind = 1:=by omega
 unfold remD remS
 rw [if_neg h1,if_neg h2,if_neg h3,if_neg h1,if_neg h2,if_neg h3]
 exact ⟨rfl,rfl⟩
theorem fma_fin {A B D : Dc} (c : Cx) (ha : A.kind = 0) (hb : B.kind = 0) (hd : D.kind = 0) :
  fmaD A B D c = fitD (sumB (A.neg != B.neg) (A.coef * B.coef) (A.exp + B.exp) D.neg D.coef D.exp (flr c)) (sumZ (A.neg != B.neg) (A.coef * B.coef) (A.exp + B.exp) D.neg D.coef D.exp).natAbs 1 (min (A.exp + B.exp) D.exp) (min (A.exp + B.exp) D.exp) c.p c.r c.mn c.mx ∧
  fmaS A B D c = fitS (sumB (A.neg != B.neg) (A.coef * B.coef) (A.exp + B.exp) D.neg D.coef D.exp (flr c)) (sumZ (A.neg != B.neg) (A.coef * B.coef) (A.exp + B.exp) D.neg D.coef D.exp).natAbs 1 (min (A.exp + B.exp) D.exp) (min (A.exp + B.exp) D.exp) c.p c.r c.mn c.mx:=by
 have h1 : ¬ (A.kind ≠ 0 ∨ B.kind ≠ 0):=by omega
 have h2 : ¬ D.kind ≠ 0:=by omega
 unfold fmaD fmaS
 rw [if_neg h1,if_neg h2,if_neg h1,if_neg h2]
 exact ⟨rfl,rfl⟩
theorem back_rem {s t : Bool} {m n : Nat} {e f : Int} (hm : m < 2 ^ 64) (hn0 : 0 < n) (he : -10 ≤ e ∧ e ≤ 10) (hf : -10 ≤ f ∧ f ≤ 10) :
  remD ⟨0,s,m,e⟩ ⟨0,t,n,f⟩ cW = ⟨0,s,m * 10 ^ (e - min e f).toNat % (n * 10 ^ (f - min e f).toNat),min e f⟩ ∧ remS ⟨0,s,m,e⟩ ⟨0,t,n,f⟩ cW = 0:=by
 have l1:=wide_len hm
 have hl : ds (m * 10 ^ (e - min e f).toNat) ≤ 40:=ds_mul10 (by omega)
 have hl2:=ds_le_of_le (Nat.mod_le (m * 10 ^ (e - min e f).toNat) (n * 10 ^ (f - min e f).toNat)) hl
 have hR : remN ⟨0,s,m,e⟩ ⟨0,t,n,f⟩ = m * 10 ^ (e - min e f).toNat % (n * 10 ^ (f - min e f).toNat):=rfl
 obtain ⟨g1,g2⟩:=rem_fin (A:=⟨0,s,m,e⟩) (B:=⟨0,t,n,f⟩) cW rfl rfl (by simp only; omega)
 rw [g1,g2,hR]
 generalize m * 10 ^ (e - min e f).toNat % (n * 10 ^ (f - min e f).toNat) = R at *
 exact fit_selfS (c:=R) (e:=min e f) (p:=60) (r:=0) (mn := -900) (mx:=900) (by omega) (by unfold tinyE; omega) (by omega) (by omega) (by omega)
theorem q_min {m n : Nat} {e f : Int} : qE m n (e - f) 0 = m * 10 ^ (e - min e f).toNat / (n * 10 ^ (f - min e f).toNat):=by
 unfold qE
 rcases int_lt_ge (e - f - 0) 0 with h | h
 ·obtain ⟨g1,g2⟩:=pt_lt (num:=m) (den:=n) h
  rw [g1,g2,show (e - min e f).toNat = 0 by omega,show (-(e - f - 0)).toNat = (f - min e f).toNat by omega,Nat.pow_zero,Nat.mul_one]
 ·obtain ⟨g1,g2⟩:=pt_ge (num:=m) (den:=n) h
  rw [g1,g2,show (f - min e f).toNat = 0 by omega,show (e - f - 0).toNat = (e - min e f).toNat by omega,Nat.pow_zero,Nat.mul_one]
theorem qt_fin {s : Bool} {c : Nat} {x : Int} {Q : Nat} (hq : qE c 1 x 0 = Q) (hl : ds Q ≤ 60) : qtD ⟨0,s,c,x⟩ 0 cW = ⟨0,s,Q,0⟩:=by
 have k1 : ¬ ((0 : Int) = 2):=by decide
 have k2 : ¬ ((0 : Int) = 1 ∨ 0 < tinyE cW.p cW.mn ∨ cW.mx < 0):=by unfold tinyE; simp
 have k3 : rdE s c 1 x 0 cW.r = Q:=(rdE0 _ _ _ _ _).trans hq
 have k4 : ¬ qtBad Q 0 cW:=by unfold qtBad; simp only; omega
 unfold qtD
 simp only [k3]
 rw [if_neg k1,if_neg k2,if_neg k4]
theorem back_div {s t : Bool} {m n : Nat} {e f : Int} (hm : m < 2 ^ 64) (hn : n < 2 ^ 64) (hn0 : 0 < n) (he : -10 ≤ e ∧ e ≤ 10) (hf : -10 ≤ f ∧ f ≤ 10) :
  (divS ⟨0,s,m,e⟩ ⟨0,t,n,f⟩ cW = 0 ∨ divS ⟨0,s,m,e⟩ ⟨0,t,n,f⟩ cW = 1) ∧
  qtD (divD ⟨0,s,m,e⟩ ⟨0,t,n,f⟩ cW) 0 cW = ⟨0,s != t,m * 10 ^ (e - min e f).toNat / (n * 10 ^ (f - min e f).toNat),0⟩:=by
 have l1:=wide_len hm
 have hQ : m * 10 ^ (e - min e f).toNat / (n * 10 ^ (f - min e f).toNat) ≤ m * 10 ^ (e - min e f).toNat:=Nat.div_le_self _ _
 have hl : ds (m * 10 ^ (e - min e f).toNat) ≤ 40:=ds_mul10 (by omega)
 have hl2:=ds_le_of_le hQ hl
 obtain ⟨K,hK⟩ : ∃ K : Nat,K = 2000:=⟨_,rfl⟩
 obtain ⟨g1,g2⟩:=div_fin (A:=⟨0,s,m,e⟩) (B:=⟨0,t,n,f⟩) cW rfl rfl (by simp only; omega)
 rw [g1,g2]
 simp only
 rcases Nat.eq_zero_or_pos m with h0 | hm0
 ·obtain ⟨f1,f2⟩:=fit_zero (s != t) n (e - f) (e - f) cW.p cW.r cW.mn cW.mx h0
  rw [f1,f2]
  refine ⟨.inl rfl,qt_fin ?_ (by omega)⟩
  have hq:=qE_up 0 1 (e:=min (max (e - f) (tinyE cW.p cW.mn)) cW.mx) (x:=0) (K:=K) (by unfold tinyE; simp only; omega) (by omega)
  rw [hq,h0]
  unfold upN
  rw [Nat.zero_mul,Nat.zero_mul,Nat.zero_div,Nat.zero_div]
 ·have hg:=(first_bounds hm0 hn0 (e - f)).2
  have hg2:=(first_bounds hm0 hn0 (e - f)).1
  unfold guessE at hg hg2
  have n1:=ds_pos.2 hn0
  have m1:=ds_pos.2 hm0
  have n2:=wide_len hn
  have hx : fitEx m n (e - f) cW.p cW.mn = firstE m n (e - f) - 59:=by unfold fitEx tinyE; simp only; omega
  have hv:=ce_val (s:=s != t) (i:=e - f) (r:=cW.r) (e:=e - f) (p:=cW.p) (mn:=cW.mn) (K:=K) hm0 hn0 (by decide) (by unfold tinyE; simp only; omega)
  have hlow:=ce_low (neg:=s != t) (num:=m) (den:=n) (exp:=e - f) (ideal:=e - f) (p:=cW.p) (r:=cW.r) (mn:=cW.mn)
  have hlt:=qE_lt (mn:=cW.mn) hm0 hn0 (e - f) (p:=cW.p) (by decide)
  have hrd : rdE (s != t) m n (e - f) (fitEx m n (e - f) cW.p cW.mn) cW.r = qE m n (e - f) (fitEx m n (e - f) cW.p cW.mn):=rdE0 _ _ _ _ _
  have hc:=q_cut (n:=m) (d:=n) (e:=e - f) (x:=fitEx m n (e - f) cW.p cW.mn) (K:=K) (by omega) (by omega) (by omega)
  rw [hrd] at hv
  rw [← hv,q_min] at hc
  have hlow : -959 ≤ (fitCE (s != t) m n (e - f) (e - f) cW.p cW.r cW.mn).2:=hlow
  generalize hCE : fitCE (s != t) m n (e - f) (e - f) cW.p cW.r cW.mn = CE at *
  obtain ⟨c,x⟩:=CE
  have hv : c * 10 ^ (x + (K : Int)).toNat = qE m n (e - f) (fitEx m n (e - f) cW.p cW.mn) * 10 ^ (fitEx m n (e - f) cW.p cW.mn + (K : Int)).toNat:=hv
  have hlow : -959 ≤ x:=hlow
  have hc : c * 10 ^ (x + (K : Int)).toNat / 10 ^ K = m * 10 ^ (e - min e f).toNat / (n * 10 ^ (f - min e f).toNat):=hc
  have ho : ¬ (0 < c ∧ cW.mx < (ds c : Int) - 1 + x):=fun ho=>by
   rw [over_iff (K:=K) (by omega) (by simp only; omega),hv] at ho
   have h5:=Nat.mul_lt_mul_of_pos_right hlt (ten_pos (fitEx m n (e - f) cW.p cW.mn + (K : Int)).toNat)
   rw [← Nat.pow_add] at h5
   have h6:=pow_mono (a:=cW.p.toNat + (fitEx m n (e - f) cW.p cW.mn + (K : Int)).toNat) (b:=(cW.mx + 1 + (K : Int)).toNat) (by
    have e1 : cW.p.toNat = 60:=rfl
    have e2 : cW.mx = 900:=rfl
    rw [e1,e2]; omega)
   omega
  obtain ⟨f1,f2⟩:=fit_fine hm0 hCE ho
  rw [f1,f2]
  refine ⟨?_,qt_fin ?_ (by omega)⟩
  ·unfold sigE
   have e1 : ¬ firstE m n (e - f) < cW.mn:=by have : cW.mn = -900:=rfl; omega
   rw [if_neg e1,if_neg e1]
   split
   ·exact .inl rfl
   ·exact .inr rfl
  ·have hq:=qE_up c 1 (e:=x) (x:=0) (K:=K) (by omega) (by omega)
   unfold upN at hq
   rw [hq,Nat.one_mul,show ((0 : Int) + (K : Int)).toNat = K by omega]
   exact hc
theorem back_fma {s t : Bool} {m n : Nat} {e f : Int} (hm : m < 2 ^ 64) (hn0 : 0 < n) (he : -10 ≤ e ∧ e ≤ 10) (hf : -10 ≤ f ∧ f ≤ 10) :
  fmaD ⟨0,s != t,m * 10 ^ (e - min e f).toNat / (n * 10 ^ (f - min e f).toNat),0⟩ ⟨0,t,n,f⟩ ⟨0,s,m * 10 ^ (e - min e f).toNat % (n * 10 ^ (f - min e f).toNat),min e f⟩ cW = ⟨0,s,m * 10 ^ (e - min e f).toNat,min e f⟩ ∧
  fmaS ⟨0,s != t,m * 10 ^ (e - min e f).toNat / (n * 10 ^ (f - min e f).toNat),0⟩ ⟨0,t,n,f⟩ ⟨0,s,m * 10 ^ (e - min e f).toNat % (n * 10 ^ (f - min e f).toNat),min e f⟩ cW = 0:=by
 have l1:=wide_len hm
 have hl : ds (m * 10 ^ (e - min e f).toNat) ≤ 40:=ds_mul10 (by omega)
 have hdm:=Nat.div_add_mod (m * 10 ^ (e - min e f).toNat) (n * 10 ^ (f - min e f).toNat)
 generalize m * 10 ^ (e - min e f).toNat = M at *
 have hs : ((s != t) != t) = s:=by cases s <;> cases t <;> rfl
 have hmin : min (0 + f) (min e f) = min e f:=by omega
 obtain ⟨g1,g2⟩:=fma_fin (A:=⟨0,s != t,M / (n * 10 ^ (f - min e f).toNat),0⟩) (B:=⟨0,t,n,f⟩) (D:=⟨0,s,M % (n * 10 ^ (f - min e f).toNat),min e f⟩) cW rfl rfl rfl
 rw [g1,g2]
 simp only [hs]
 obtain ⟨q1,q2⟩:=sum_same (s:=s) (m:=M / (n * 10 ^ (f - min e f).toNat) * n) (e:=0 + f) (n:=M % (n * 10 ^ (f - min e f).toNat)) (f:=min e f) (flr cW) (M:=M / (n * 10 ^ (f - min e f).toNat) * n * 10 ^ (f - min e f).toNat) (N:=M % (n * 10 ^ (f - min e f).toNat)) (by rw [hmin,Int.zero_add]) (by rw [hmin,show (min e f - min e f).toNat = 0 by omega,Nat.pow_zero,Nat.mul_one])
 have q3 : M / (n * 10 ^ (f - min e f).toNat) * n * 10 ^ (f - min e f).toNat + M % (n * 10 ^ (f - min e f).toNat) = M:=by
  rw [show M / (n * 10 ^ (f - min e f).toNat) * n * 10 ^ (f - min e f).toNat = n * 10 ^ (f - min e f).toNat * (M / (n * 10 ^ (f - min e f).toNat)) by ac_rfl]; exact hdm
 rw [q1,q2,q3,hmin]
 exact fit_selfS (c:=M) (e:=min e f) (p:=60) (r:=0) (mn := -900) (mx:=900) (by omega) (by unfold tinyE; omega) (by omega) (by omega) (by omega)
theorem back_okM {s : Bool} {m : Nat} {e f : Int} (hm : m < 2 ^ 64) (he : -10 ≤ e ∧ e ≤ 10) (hf : -10 ≤ f ∧ f ≤ 10) : OkD ⟨0,s,m * 10 ^ (e - min e f).toNat,min e f⟩:=by
 have l1:=wide_len hm
 have hl : ds (m * 10 ^ (e - min e f).toNat) ≤ 40:=ds_mul10 (by omega)
 exact .inl ⟨rfl,by simp only; omega,by simp only; omega,lt120.2 (by simp only; omega)⟩
theorem back_cmp {s : Bool} {m : Nat} {e f : Int} (hm : m < 2 ^ 64) (he : -10 ≤ e ∧ e ≤ 10) (hf : -10 ≤ f ∧ f ≤ 10) : cmpD ⟨0,s,m * 10 ^ (e - min e f).toNat,min e f⟩ ⟨0,s,m,e⟩ = 0:=by
 have l1:=wide_len hm
 have o1:=back_okM (s:=s) hm he hf
 have o2 : OkD ⟨0,s,m,e⟩:=.inl ⟨rfl,by simp only; omega,by simp only; omega,lt120.2 (by simp only; omega)⟩
 rw [cmp_xv o1 o2 (by simp) (by simp) (Nat.le_refl 1200)]
 have e1 : xv ⟨0,s,m * 10 ^ (e - min e f).toNat,min e f⟩ 1200 = xv ⟨0,s,m,e⟩ 1200:=by
  unfold xv mgK
  simp only
  rw [if_neg (by decide),if_neg (by decide),Nat.mul_assoc,← Nat.pow_add,show (e - min e f).toNat + (min e f + ((1200 : Nat) : Int)).toNat = (e + ((1200 : Nat) : Int)).toNat by omega]
 rw [e1]
 unfold cmpZ
 rw [if_neg (by omega),if_pos rfl]
theorem back_less {R n : Nat} {e f : Int} (hn : n < 2 ^ 64) (he : -10 ≤ e ∧ e ≤ 10) (hf : -10 ≤ f ∧ f ≤ 10) (hR : R < n * 10 ^ (f - min e f).toNat) : cmpD ⟨0,false,R,min e f⟩ ⟨0,false,n,f⟩ = -1:=by
 have l1:=wide_len hn
 have hl : ds (n * 10 ^ (f - min e f).toNat) ≤ 40:=ds_mul10 (by omega)
 have hl2:=ds_le_of_le (Nat.le_of_lt hR) hl
 have o1 : OkD ⟨0,false,R,min e f⟩:=.inl ⟨rfl,by simp only; omega,by simp only; omega,lt120.2 (by simp only; omega)⟩
 have o2 : OkD ⟨0,false,n,f⟩:=.inl ⟨rfl,by simp only; omega,by simp only; omega,lt120.2 (by simp only; omega)⟩
 rw [cmp_xv o1 o2 (by simp) (by simp) (Nat.le_refl 1200)]
 unfold xv mgK
 simp only
 rw [if_neg (by decide),if_neg (by decide),sgf,sgf]
 have h1:=Nat.mul_lt_mul_of_pos_right hR (ten_pos (min e f + ((1200 : Nat) : Int)).toNat)
 rw [Nat.mul_assoc,← Nat.pow_add,show (f - min e f).toNat + (min e f + ((1200 : Nat) : Int)).toNat = (f + ((1200 : Nat) : Int)).toNat by omega] at h1
 unfold cmpZ
 rw [if_pos (by omega)]
end Go.Proofs.NatL

namespace Go.Proofs.NatL
set_option linter.unusedSimpArgs false
set_option linter.unusedVariables false
def finB : List D5 → Bool
 | []=>true
 | p :: l=>okD5 p && decide (p.1 = 0) && finB l
end Go.Proofs.NatL
namespace Go.Proofs.YtgkajjifbcmoeaaGreatDoor
set_option linter.unusedSimpArgs false
set_option linter.unusedVariables false
open Go.Abs Go.Proofs.NatL

def ebt : Cfg:=listT [(32,validDCT)] [34]
theorem ebt_ok : TblOk Tryz.prog ebt:=listE_ok (by simp only [List.mem_singleton,forall_eq]; exact flt) ⟨⟨er7,er7_ok,rfl⟩,trivial⟩
attribute [go_sem] ebt
set_option maxHeartbeats 1600000 in
theorem dfin_ret (l : List D5) (hn : l.length ≤ 1000) (hl : allD 140737488355328 l) :
  Ret Tryz.prog 52 false [.inl (.sl 5 (l.map rowD))] (.c (.b (finB l))):=by
 (refine q_H Tryz.func52 (fun F=>?_); simp only [q_z,q_y,Tryz.ntmps52,Tryz.results52])
 repeat' (first|(with_reducible first|apply q_a|apply q_b|apply q_c|apply q_d|apply q_e|apply q_f|apply q_g|apply q_h|apply q_i|apply q_j|apply q_k|apply q_m|apply q_n|apply q_o|apply q_p|refine q_l ?_)|((with_reducible first|refine q_q ebt_ok fun K hK=>?_|refine q_r ebt_ok fun K hK=>?_);simp (maxSteps:=2000000) only [go_sem,↓reduceIte,reduceCtorEq,Nat.reduceLeDiff,Nat.reduceLT,Nat.reduceBEq,Nat.reduceAdd,List.length_map];(repeat1' with_reducible first|apply And.intro|(intro _;try exact q_v)|(refine hK _ ?_;clear hK K))<;>(try (clear hK K;exact q_u)))|(with_reducible refine q_s ?_;(first|apply q_J|apply q_K|apply q_L|apply q_M|apply q_N|apply q_O)<;>try (intro _;try exact q_v))|with_reducible refine q_t ?_)
 all_goals first | omega | skip
 refine q_G (ι:={ i : Nat // i ≤ l.length ∧ finB (l.drop i) = finB l }) (fun i=>⟨20,[(5,.c (.sl 5 (l.map rowD))),(6,.c (.i .i64 l.length)),(7,.c (.i .i64 (i.1 : Nat)))],⟨[],[],[]⟩,0⟩) (fun i=>l.length - i.1) ⟨0,by simp,rfl⟩ ?_ ?_
 ·exact q_D
 rintro ⟨i,g1,g2⟩
 simp only at g1 g2 ⊢
 obtain ⟨n1,n2⟩:=allD_get (i:=i) hl
 rcases Nat.lt_or_ge i l.length with hi | hi
 ·have hr:=rowD_get l i hi
  rw [drop_getD5 l i hi,finB] at g2
  unfold okD5 at g2
  cases ho : okD (l.getD i d0).1 (l.getD i d0).2.1 (l.getD i d0).2.2.1 (l.getD i d0).2.2.2.1 (l.getD i d0).2.2.2.2
  ·have hg : finB l = false:=by rw [← g2,ho]; rfl
   repeat' (first|(with_reducible first|apply q_a|apply q_b|apply q_c|apply q_d|apply q_e|apply q_f|apply q_g|apply q_h|apply q_i|apply q_j|apply q_k|apply q_m|apply q_n|apply q_o|apply q_p|refine q_l ?_)|((with_reducible first|refine q_q ebt_ok fun K hK=>?_|refine q_r ebt_ok fun K hK=>?_);simp (maxSteps:=2000000) only [go_sem,↓reduceIte,reduceCtorEq,Nat.reduceLeDiff,Nat.reduceLT,Nat.reduceBEq,Nat.reduceAdd,hr,ho,List.length_map];(repeat1' with_reducible first|apply And.intro|(intro _;try exact q_v)|(refine hK _ ?_;clear hK K))<;>(try (clear hK K;exact q_u)))|(with_reducible refine q_s ?_;(first|apply q_J|apply q_K|apply q_L|apply q_M|apply q_N|apply q_O)<;>try (intro _;try exact q_v))|with_reducible refine q_t ?_)
   all_goals first | omega | assumption | exact q_A (by rw [hg]; rfl) | skip
  ·by_cases hk : (l.getD i d0).1 = 0
   ·have hg : finB (l.drop (i + 1)) = finB l:=by rw [← g2,ho,decide_eq_true hk]; rfl
    rw [hk] at ho
    repeat' (first|(with_reducible first|apply q_a|apply q_b|apply q_c|apply q_d|apply q_e|apply q_f|apply q_g|apply q_h|apply q_i|apply q_j|apply q_k|apply q_m|apply q_n|apply q_o|apply q_p|refine q_l ?_)|((with_reducible first|refine q_q ebt_ok fun K hK=>?_|refine q_r ebt_ok fun K hK=>?_);simp (maxSteps:=2000000) only [go_sem,↓reduceIte,reduceCtorEq,Nat.reduceLeDiff,Nat.reduceLT,Nat.reduceBEq,Nat.reduceAdd,hr,ho,hk,List.length_map];(repeat1' with_reducible first|apply And.intro|(intro _;try exact q_v)|(refine hK _ ?_;clear hK K))<;>(try (clear hK K;exact q_u)))|(with_reducible refine q_s ?_;(first|apply q_J|apply q_K|apply q_L|apply q_M|apply q_N|apply q_O)<;>try (intro _;try exact q_v))|with_reducible refine q_t ?_)
    all_goals first | omega | assumption | skip
    refine q_F ⟨i + 1,hi,hg⟩ ?_ (by simp only; omega)
    exact q_D
   ·have hg : finB l = false:=by rw [← g2,ho,decide_eq_false hk]; rfl
    repeat' (first|(with_reducible first|apply q_a|apply q_b|apply q_c|apply q_d|apply q_e|apply q_f|apply q_g|apply q_h|apply q_i|apply q_j|apply q_k|apply q_m|apply q_n|apply q_o|apply q_p|refine q_l ?_)|((with_reducible first|refine q_q ebt_ok fun K hK=>?_|refine q_r ebt_ok fun K hK=>?_);simp (maxSteps:=2000000) only [go_sem,↓reduceIte,reduceCtorEq,Nat.reduceLeDiff,Nat.reduceLT,Nat.reduceBEq,Nat.reduceAdd,hr,ho,List.length_map];(repeat1' with_reducible first|apply And.intro|(intro _;try exact q_v)|(refine hK _ ?_;clear hK K))<;>(try (clear hK K;exact q_u)))|(with_reducible refine q_s ?_;(first|apply q_J|apply q_K|apply q_L|apply q_M|apply q_N|apply q_O)<;>try (intro _;try exact q_v))|with_reducible refine q_t ?_)
    all_goals first | omega | assumption | exact q_A (by rw [hg]; rfl) | skip
 ·have hi' : i = l.length:=by omega
  subst hi'
  rw [List.drop_length] at g2
  have hg : finB l = true:=g2.symm
  repeat' (first|(with_reducible first|apply q_a|apply q_b|apply q_c|apply q_d|apply q_e|apply q_f|apply q_g|apply q_h|apply q_i|apply q_j|apply q_k|apply q_m|apply q_n|apply q_o|apply q_p|refine q_l ?_)|((with_reducible first|refine q_q ebt_ok fun K hK=>?_|refine q_r ebt_ok fun K hK=>?_);simp (maxSteps:=2000000) only [go_sem,↓reduceIte,reduceCtorEq,Nat.reduceLeDiff,Nat.reduceLT,Nat.reduceBEq,Nat.reduceAdd,List.length_map];(repeat1' with_reducible first|apply And.intro|(intro _;try exact q_v)|(refine hK _ ?_;clear hK K))<;>(try (clear hK K;exact q_u)))|(with_reducible refine q_s ?_;(first|apply q_J|apply q_K|apply q_L|apply q_M|apply q_N|apply q_O)<;>try (intro _;try exact q_v))|with_reducible refine q_t ?_)
  all_goals first | omega | exact q_A (by rw [hg]; rfl) | skip
def finiteDCT : CT:=mkCT [] true fun l K=>match l with
 | [.inl (.sl 5 rows)]=>match unD rows with
  | some l=>(l.length ≤ 1000 ∧ allD 140737488355328 l) ∧ K (.c (.b (finB l)))
  | none=>False
 | _=>False
def ew1 : Cfg:=addT 52 finiteDCT cf0
theorem ew1_ok : TblOk Tryz.prog ew1:=q_I cf0_ok Tryz.func52 fun l K h=>by
 split at h
 ·split at h
  ·rename_i l hl
   rw [unD_some hl]
   exact ⟨_,(dfin_ret l h.1.1 h.1.2).plain rfl,h.2⟩
  ·exact h.elim
 ·exact h.elim
attribute [go_sem] finiteDCT finB
end Go.Proofs.YtgkajjifbcmoeaaGreatDoor
