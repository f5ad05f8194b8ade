import Derived.Laws.Externs
import Derived.Test.YtgkajjifbcmoeaaGreatDoorR14
namespace Go.Proofs.NatL
set_option linter.unusedSimpArgs false
set_option linter.unusedVariables false
theorem div_fin {A B : Dc} (c : Cx) (ha : A.kind = 0) (hb : B.kind = 0) (hn : B.coef ≠ 0) : divD A B c = fitD (A.neg != B.neg) A.coef B.coef (A.exp - B.exp) (A.exp - B.exp) c.p c.r c.mn c.mx ∧ divS A B c = fitS (A.neg != B.neg) A.coef B.coef (A.exp - B.exp) (A.exp - B.exp) c.p c.r c.mn c.mx:=by
 have h1 : ¬ (A.kind = 2 ∨ B.kind = 2):=by omega
 have h2 : ¬ ((A.kind = 1 ∧ B.kind = 1) ∨ ((A.kind = 0 ∧ A.coef = 0) ∧ (B.kind = 0 ∧ B.coef = 0))):=by omega
 have h3 : ¬ A.kind = 1:=by omega
 have h4 : ¬ B.kind = 1:=by omega
 unfold divD divS
 rw [if_neg h1,if_neg h2,if_neg h3,if_neg h4,if_neg hn,if_neg h1,if_neg h2,if_neg h3,if_neg h4,if_neg hn]
 exact ⟨rfl,rfl⟩
end Go.Proofs.NatL

namespace Go.Proofs.NatL
set_option linter.unusedSimpArgs false
set_option linter.unusedVariables false
structure Far (p mn mx : Int) : Prop where
 p1 : 1 ≤ p
 p2 : p ≤ 60
 mn1 : -999 ≤ mn
 mn2 : mn ≤ -900
 mx1 : 900 ≤ mx
 mx2 : mx ≤ 999
theorem dr_val {A : Dc} {K : Nat} (h : 0 ≤ A.exp + K) : drN A * 10 ^ K = mgK A K * drD A:=by
 unfold drN drD mgK
 rw [Nat.mul_assoc,Nat.mul_assoc,← Nat.pow_add,← Nat.pow_add]
 congr 2
 omega
end Go.Proofs.NatL

namespace Go.Proofs.NatL
set_option linter.unusedSimpArgs false
set_option linter.unusedVariables false
theorem sg_val {D : Dc} {K : Nat} (h : 0 ≤ D.exp + K) : sg D.neg (drN D) * (10 ^ K : Nat) = sg D.neg (mgK D K) * (drD D : Int):=by
 rw [← sg_mulT,dr_val h,sg_mulT]
end Go.Proofs.NatL

namespace Go.Proofs.NatL
set_option linter.unusedSimpArgs false
set_option linter.unusedVariables false
theorem fit_kind (s : Bool) (num den : Nat) (exp i p r mn mx : Int) : (fitD s num den exp i p r mn mx).kind ≠ 2:=by
 unfold fitD ovf
 (repeat' split) <;> simp
theorem op_k (A : Dc) : (opD A).kind = A.kind ∧ (opD A).coef = A.coef ∧ (opD A).exp = A.exp:=by
 unfold opD; split <;> exact ⟨rfl,rfl,rfl⟩
theorem op_neg {A : Dc} (h : A.kind ≠ 2) : (opD A).neg = !A.neg:=by unfold opD; rw [if_neg h]
end Go.Proofs.NatL

namespace Go.Proofs.NatL
set_option linter.unusedSimpArgs false
set_option linter.unusedVariables false
theorem veq_s {n d : Nat} {e : Int} {n' d' : Nat} {e' : Int} (hd : 0 < d) (hd' : 0 < d') (h : vle n d e n' d' e') (h' : vle n' d' e' n d e) (x : Int) : qE n d e x = qE n' d' e' x ∧ (sE n d e x = 0 ↔ sE n' d' e' x = 0):=by
 have q1:=qE_le hd hd' h x
 have q2:=qE_le hd' hd h' x
 have hq : qE n d e x = qE n' d' e' x:=by omega
 have s1:=sE_le hd hd' h hq
 have s2:=sE_le hd' hd h' hq.symm
 have p1:=ptD_pos hd e x
 have p2:=ptD_pos hd' e' x
 refine ⟨hq,fun hz=>?_,fun hz=>?_⟩
 ·rw [hz,Nat.zero_mul] at s2
  rcases Nat.mul_eq_zero.1 (Nat.le_zero.1 s2) with h1 | h1
  ·exact h1
  ·omega
 ·rw [hz,Nat.zero_mul] at s1
  rcases Nat.mul_eq_zero.1 (Nat.le_zero.1 s1) with h1 | h1
  ·exact h1
  ·omega
theorem veq_pos {n d : Nat} {e : Int} {n' d' : Nat} {e' : Int} (hd' : 0 < d') (h : vle n d e n' d' e') (hn : 0 < n) : 0 < n':=by
 obtain ⟨J,j1,j2,j3⟩:=h
 rcases Nat.eq_zero_or_pos n' with rfl | h1
 ·unfold upN at j3
  rw [Nat.zero_mul,Nat.zero_mul] at j3
  have:=Nat.mul_pos (Nat.mul_pos hn (ten_pos (e + (J : Int)).toNat)) hd'
  omega
 ·exact h1
theorem fitS_same {s : Bool} {n d : Nat} {e i : Int} {n' d' : Nat} {e' i' : Int} {p r mn mx : Int} (hd : 0 < d) (hd' : 0 < d') (hp : 1 ≤ p) (hmn : mn ≤ 0) (hmx : 0 ≤ mx) (h : vle n d e n' d' e') (h' : vle n' d' e' n d e) :
  fitS s n d e i p r mn mx = fitS s n' d' e' i' p r mn mx:=by
 have ht : tinyE p mn = mn - p + 1:=rfl
 rcases Nat.eq_zero_or_pos n with h0 | hn
 ·have h0' : n' = 0:=by
   rcases Nat.eq_zero_or_pos n' with g | g
   ·exact g
   ·have:=veq_pos hd h' g; omega
  rw [(fit_zero s d e i p r mn mx h0).2,(fit_zero s d' e' i' p r mn mx h0').2]
 ·have hn':=veq_pos hd' h hn
  have f1:=first_le hn hn' hd hd' h
  have f2:=first_le hn' hn hd' hd h'
  have hf : firstE n d e = firstE n' d' e':=by omega
  have hx : fitEx n d e p mn = fitEx n' d' e' p mn:=by unfold fitEx; rw [hf]
  obtain ⟨hq,hs⟩:=veq_s hd hd' h h' (fitEx n' d' e' p mn)
  obtain ⟨K,hK⟩ : ∃ K : Nat,0 ≤ tinyE p mn + K:=⟨(tinyE p mn).natAbs,by omega⟩
  have m1:=rd_mono (s:=s) (r:=r) hn hn' hd hd' hp h hK
  have m2:=rd_mono (s:=s) (r:=r) hn' hn hd' hd hp h' hK
  have v1:=ce_val (s:=s) (i:=i) (r:=r) hn hd (e:=e) hp hK
  have v2:=ce_val (s:=s) (i:=i') (r:=r) hn' hd' (e:=e') hp hK
  have w1:=ce_low (neg:=s) (num:=n) (den:=d) (exp:=e) (ideal:=i) (p:=p) (r:=r) (mn:=mn)
  have w2:=ce_low (neg:=s) (num:=n') (den:=d') (exp:=e') (ideal:=i') (p:=p) (r:=r) (mn:=mn)
  rw [← v1,← v2] at m1 m2
  clear v1 v2
  have hsig : sigE n d e p mn = sigE n' d' e' p mn:=by
   unfold sigE
   rw [hf,hx]
   by_cases hz : sE n d e (fitEx n' d' e' p mn) = 0
   ·rw [if_pos hz,if_pos (hs.1 hz)]
   ·rw [if_neg hz,if_neg (fun g=>hz (hs.2 g))]
  generalize hCE : fitCE s n d e i p r mn = CE at *
  generalize hCE' : fitCE s n' d' e' i' p r mn = CE' at *
  obtain ⟨x,y⟩:=CE
  obtain ⟨x',y'⟩:=CE'
  simp only at m1 m2 w1 w2
  by_cases ho : 0 < x ∧ mx < (ds x : Int) - 1 + y
  ·have ho' : 0 < x' ∧ mx < (ds x' : Int) - 1 + y':=by
    rw [over_iff (K:=K) (by omega) (by omega)] at ho ⊢
    exact Nat.le_trans ho m1
   rw [(fit_over hn hCE ho).2,(fit_over hn' hCE' ho').2]
  ·have ho' : ¬ (0 < x' ∧ mx < (ds x' : Int) - 1 + y'):=fun ho'=>ho (by
    rw [over_iff (K:=K) (by omega) (by omega)] at ho' ⊢
    exact Nat.le_trans ho' m2)
   rw [(fit_fine hn hCE ho).2,(fit_fine hn' hCE' ho').2,hsig]
theorem fit_same {s s' : Bool} {n d : Nat} {e i : Int} {n' d' : Nat} {e' i' : Int} {c : Cx} (hc : OkC c) (hd : 0 < d) (hd' : 0 < d') (h : vle n d e n' d' e') (h' : vle n' d' e' n d e) (hss : 0 < n → s = s') :
  cmpD (fitD s n d e i c.p c.r c.mn c.mx) (fitD s' n' d' e' i' c.p c.r c.mn c.mx) = 0 ∧ fitS s n d e i c.p c.r c.mn c.mx = fitS s' n' d' e' i' c.p c.r c.mn c.mx:=by
 have o1:=fit_ok (neg:=s) (num:=n) (exp:=e) (ideal:=i) hd hc
 have o2:=fit_ok (neg:=s') (num:=n') (exp:=e') (ideal:=i') hd' hc
 have ht:=tiny_K hc (Nat.le_refl 1200)
 obtain ⟨c1,c2,c3,c4,c5,c6,c7,c8⟩:=hc
 have k1:=fit_kind s n d e i c.p c.r c.mn c.mx
 have k2:=fit_kind s' n' d' e' i' c.p c.r c.mn c.mx
 rcases Nat.eq_zero_or_pos n with h0 | hn
 ·have h0' : n' = 0:=by
   rcases Nat.eq_zero_or_pos n' with g | g
   ·exact g
   ·have:=veq_pos hd h' g; omega
  obtain ⟨a1,a2⟩:=fit_zero s d e i c.p c.r c.mn c.mx h0
  obtain ⟨b1,b2⟩:=fit_zero s' d' e' i' c.p c.r c.mn c.mx h0'
  refine ⟨?_,by rw [a2,b2]⟩
  rw [cmp_xv o1 o2 k1 k2 (Nat.le_refl 1200),a1,b1]
  unfold xv mgK cmpZ
  simp only [Nat.zero_mul]
  cases s <;> cases s' <;> simp [sg]
 ·obtain rfl:=hss hn
  refine ⟨?_,fitS_same hd hd' c1 c6 c7 h h'⟩
  have m1:=fit_mono (s:=s) (r:=c.r) (i:=i) (i':=i') hd hd' c1 c6 c7 h ht
  have m2:=fit_mono (s:=s) (r:=c.r) (i:=i') (i':=i) hd' hd c1 c6 c7 h' ht
  have g1:=fit_is s (n:=n) e i c.r hd c1 c6 c7
  have g2:=fit_is s (n:=n') e' i' c.r hd' c1 c6 c7
  have hx : xv (fitD s n d e i c.p c.r c.mn c.mx) 1200 = xv (fitD s n' d' e' i' c.p c.r c.mn c.mx) 1200:=by
   generalize fitD s n d e i c.p c.r c.mn c.mx = A at *
   generalize fitD s n' d' e' i' c.p c.r c.mn c.mx = B at *
   unfold xv
   rw [g1.1,g2.1]
   by_cases ka : A.kind = 1
   ·have kb : B.kind = 1:=by rcases m1 with m | ⟨m,_⟩ <;> omega
    rw [if_pos ka,if_pos kb]
   ·have kb : ¬ B.kind = 1:=fun hb=>by rcases m2 with m | ⟨m,_⟩ <;> omega
    rw [if_neg ka,if_neg kb]
    congr 1
    rcases m1 with m | ⟨_,_,m⟩
    ·omega
    ·rcases m2 with m' | ⟨_,_,m'⟩
     ·omega
     ·omega
  rw [cmp_xv o1 o2 k1 k2 (Nat.le_refl 1200),hx]
  unfold cmpZ
  rw [if_neg (by omega),if_pos rfl]
end Go.Proofs.NatL

namespace Go.Proofs.NatL
set_option linter.unusedSimpArgs false
set_option linter.unusedVariables false
def isR (A : Dc) (x : Int) (c : Nat) : Prop:=0 < c ∧ ∀ K : Nat,0 ≤ A.exp + K → x * (10 ^ K : Nat) = sg A.neg (mgK A K) * (c : Int)
theorem isR_rd (A : Dc) : isR A (rdN (sg A.neg (drN A)) (drD A)) (rdD (sg A.neg (drN A)) (drD A)):=by
 have hp:=drD_pos A
 refine ⟨rdD_pos _ hp,fun K h=>?_⟩
 have v:=rd_val (sg A.neg (drN A)) (drD A)
 have w:=sg_val h
 have hne : ((drD A : Nat) : Int) ≠ 0:=by omega
 generalize rdN (sg A.neg (drN A)) (drD A) = x at *
 generalize rdD (sg A.neg (drN A)) (drD A) = c at *
 refine Int.eq_of_mul_eq_mul_right hne ?_
 rw [Int.mul_right_comm,v,Int.mul_right_comm,w,Int.mul_right_comm]
theorem vq_of {n d : Nat} {e : Int} {N : Int} {D : Nat} {K : Nat} (hD : 0 < D) (he : 0 ≤ e + K) (h : upN n e K * D = N.natAbs * 10 ^ K * d) :
  vle n d e (rdN N D).natAbs (rdD N D) 0 ∧ vle (rdN N D).natAbs (rdD N D) 0 n d e:=by
 have v:=congrArg Int.natAbs (rd_val N D)
 rw [Int.natAbs_mul,Int.natAbs_mul,Int.natAbs_natCast,Int.natAbs_natCast] at v
 have hu : upN (rdN N D).natAbs 0 K = (rdN N D).natAbs * 10 ^ K:=by unfold upN; rw [show (0 + (K : Int)).toNat = K by omega]
 have key : upN n e K * rdD N D = upN (rdN N D).natAbs 0 K * d:=by
  rw [hu]
  refine Nat.eq_of_mul_eq_mul_right hD ?_
  rw [Nat.mul_right_comm,h]
  have e1 : (rdN N D).natAbs * 10 ^ K * d * D = (rdN N D).natAbs * D * 10 ^ K * d:=by ac_rfl
  rw [e1,v]; ac_rfl
 exact ⟨⟨K,he,by omega,Nat.le_of_eq key⟩,⟨K,by omega,he,Nat.le_of_eq key.symm⟩⟩
theorem sumZ_up {s t : Bool} {m n : Nat} {e f : Int} {K : Nat} (h1 : 0 ≤ e + K) (h2 : 0 ≤ f + K) : sumZ s m e t n f * (10 ^ (min e f + (K : Int)).toNat : Nat) = sg s (m * 10 ^ (e + (K : Int)).toNat) + sg t (n * 10 ^ (f + (K : Int)).toNat):=by
 unfold sumZ
 rw [Int.add_mul,← sg_mulT,← sg_mulT,Nat.mul_assoc,Nat.mul_assoc,← Nat.pow_add,← Nat.pow_add,show (e - min e f).toNat + (min e f + (K : Int)).toNat = (e + (K : Int)).toNat by omega,show (f - min e f).toNat + (min e f + (K : Int)).toNat = (f + (K : Int)).toNat by omega]
theorem add_fin {A B : Dc} (c : Cx) (ha : A.kind = 0) (hb : B.kind = 0) : addD A B c = fitD (sumB A.neg A.coef A.exp B.neg B.coef B.exp (flr c)) (sumZ A.neg A.coef A.exp B.neg B.coef B.exp).natAbs 1 (min A.exp B.exp) (min A.exp B.exp) c.p c.r c.mn c.mx ∧ addS A B c = fitS (sumB A.neg A.coef A.exp B.neg B.coef B.exp (flr c)) (sumZ A.neg A.coef A.exp B.neg B.coef B.exp).natAbs 1 (min A.exp B.exp) (min A.exp B.exp) c.p c.r c.mn c.mx:=by
 have h1 : ¬ (A.kind = 2 ∨ B.kind = 2):=by omega
 have h2 : ¬ (A.kind = 1 ∧ B.kind = 1 ∧ A.neg ≠ B.neg):=by omega
 have h3 : ¬ A.kind = 1:=by omega
 have h4 : ¬ B.kind = 1:=by omega
 unfold addD addS
 rw [if_neg h1,if_neg h2,if_neg h3,if_neg h4,if_neg h1,if_neg h2,if_neg h3,if_neg h4]
 exact ⟨rfl,rfl⟩
theorem top_add {A B : Dc} {c : Cx} {x y : Int} {a b : Nat} (hc : OkC c) (hA : OkD A) (hB : OkD B) (ka : A.kind = 0) (kb : B.kind = 0) (rA : isR A x a) (rB : isR B y b) :
  cmpD (addD A B c) (ofD (decide (rdN (x * b + y * a) (a * b) < 0)) (rdN (x * b + y * a) (a * b)).natAbs (rdD (x * b + y * a) (a * b)) c) = 0 ∧
  addS A B c = ofS (decide (rdN (x * b + y * a) (a * b) < 0)) (rdN (x * b + y * a) (a * b)).natAbs (rdD (x * b + y * a) (a * b)) c:=by
 obtain ⟨a1,a2,a3⟩:=okd_exp hA
 obtain ⟨b1,b2,b3⟩:=okd_exp hB
 obtain ⟨pa,ra⟩:=rA
 obtain ⟨pb,rb⟩:=rB
 obtain ⟨g1,g2⟩:=add_fin c ka kb
 have hab:=Nat.mul_pos pa pb
 rw [g1,g2]
 obtain ⟨K,hK⟩ : ∃ K : Nat,K = 1200:=⟨_,rfl⟩
 have hx:=ra K (by omega)
 have hy:=rb K (by omega)
 have hz:=sumZ_up (s:=A.neg) (t:=B.neg) (m:=A.coef) (n:=B.coef) (e:=A.exp) (f:=B.exp) (K:=K) (by omega) (by omega)
 have hW : (x * b + y * a) * (10 ^ K : Nat) = sumZ A.neg A.coef A.exp B.neg B.coef B.exp * (10 ^ (min A.exp B.exp + (K : Int)).toNat : Nat) * ((a * b : Nat) : Int):=by
  rw [hz,Int.add_mul,Int.mul_right_comm x,hx,Int.mul_right_comm y,hy,Int.natCast_mul,Int.add_mul]
  unfold mgK
  congr 1 <;> ac_rfl
 have hT:=ten_pos (min A.exp B.exp + (K : Int)).toNat
 have hT2:=ten_pos K
 have hv:=vq_of (n:=(sumZ A.neg A.coef A.exp B.neg B.coef B.exp).natAbs) (d:=1) (e:=min A.exp B.exp) (N:=x * b + y * a) (D:=a * b) (K:=K) hab (by omega) (by
  have:=congrArg Int.natAbs hW
  rw [Int.natAbs_mul,Int.natAbs_mul,Int.natAbs_mul,Int.natAbs_natCast,Int.natAbs_natCast,Int.natAbs_natCast] at this
  unfold upN
  rw [Nat.mul_one,this])
 refine fit_same hc (by omega) (rdD_pos _ hab) hv.1 hv.2 (fun hn=>?_)
 rw [rdN_neg _ hab]
 have hz0 : sumZ A.neg A.coef A.exp B.neg B.coef B.exp ≠ 0:=by omega
 unfold sumB
 rw [if_neg hz0]
 refine decide_eq_decide.2 ?_
 generalize sumZ A.neg A.coef A.exp B.neg B.coef B.exp = Z at *
 generalize x * (b : Int) + y * a = N at *
 have p1 : (0 : Int) < (10 ^ K : Nat):=by omega
 have p2 : (0 : Int) < (10 ^ (min A.exp B.exp + (K : Int)).toNat : Nat):=by omega
 have p3 : (0 : Int) < ((a * b : Nat) : Int):=by omega
 constructor
 ·intro h
  have q1:=Int.mul_neg_of_neg_of_pos (Int.mul_neg_of_neg_of_pos h p2) p3
  rw [← hW] at q1
  rcases int_lt_ge N 0 with h1 | h1
  ·exact h1
  ·have:=Int.mul_nonneg h1 (Int.le_of_lt p1); omega
 ·intro h
  have q1:=Int.mul_neg_of_neg_of_pos h p1
  rw [hW] at q1
  rcases int_lt_ge Z 0 with h1 | h1
  ·exact h1
  ·have:=Int.mul_nonneg (Int.mul_nonneg h1 (Int.le_of_lt p2)) (Int.le_of_lt p3); omega
theorem isR_op {A : Dc} {x : Int} {a : Nat} (h : isR A x a) (ha : A.kind = 0) : isR (opD A) (-x) a:=by
 obtain ⟨e1,e2,e3⟩:=op_k A
 have e4:=op_neg (A:=A) (by omega)
 refine ⟨h.1,fun K hK=>?_⟩
 rw [e3] at hK
 have:=h.2 K hK
 have hm : mgK (opD A) K = mgK A K:=by unfold mgK; rw [e2,e3]
 rw [hm,e4,sg_not,Int.neg_mul,this,Int.neg_mul]
theorem top_sub {A B : Dc} {c : Cx} {x y : Int} {a b : Nat} (hc : OkC c) (hA : OkD A) (hB : OkD B) (ka : A.kind = 0) (kb : B.kind = 0) (rA : isR A x a) (rB : isR B y b) :
  cmpD (addD A (opD B) c) (ofD (decide (rdN (x * b - y * a) (a * b) < 0)) (rdN (x * b - y * a) (a * b)).natAbs (rdD (x * b - y * a) (a * b)) c) = 0 ∧
  addS A (opD B) c = ofS (decide (rdN (x * b - y * a) (a * b) < 0)) (rdN (x * b - y * a) (a * b)).natAbs (rdD (x * b - y * a) (a * b)) c:=by
 have h:=top_add hc hA (opD_ok hB) ka ((op_k B).1.trans kb) rA (isR_op rB kb)
 rw [Int.neg_mul,← Int.sub_eq_add_neg] at h
 exact h
theorem mul_fin {A B : Dc} (c : Cx) (ha : A.kind = 0) (hb : B.kind = 0) : mulD A B c = fitD (A.neg != B.neg) (A.coef * B.coef) 1 (A.exp + B.exp) (A.exp + B.exp) c.p c.r c.mn c.mx ∧ mulS A B c = fitS (A.neg != B.neg) (A.coef * B.coef) 1 (A.exp + B.exp) (A.exp + B.exp) c.p c.r c.mn c.mx:=by
 have h1 : ¬ (A.kind = 2 ∨ B.kind = 2):=by omega
 have h2 : A.kind = 0 ∧ B.kind = 0:=⟨ha,hb⟩
 unfold mulD mulS
 rw [if_neg h1,if_pos h2,if_neg h1,if_pos h2]
 exact ⟨rfl,rfl⟩
theorem isR_abs {A : Dc} {x : Int} {a K : Nat} (h : isR A x a) (hK : 0 ≤ A.exp + K) : x.natAbs * 10 ^ K = mgK A K * a:=by
 have:=congrArg Int.natAbs (h.2 K hK)
 rw [Int.natAbs_mul,Int.natAbs_mul,Int.natAbs_natCast,Int.natAbs_natCast,sg_abs] at this
 exact this
theorem isR_sign {A : Dc} {x : Int} {a : Nat} (h : isR A x a) (hA : OkD A) (hm : 0 < A.coef) : x ≠ 0 ∧ decide (x < 0) = A.neg:=by
 obtain ⟨a1,a2,a3⟩:=okd_exp hA
 obtain ⟨hp,hr⟩:=h
 obtain ⟨K,hK⟩ : ∃ K : Nat,K = 1200:=⟨_,rfl⟩
 have h1:=hr K (by omega)
 have hmg : 0 < mgK A K:=Nat.mul_pos hm (ten_pos _)
 have hT:=ten_pos K
 have hW : x * (10 ^ K : Nat) = sg A.neg (mgK A K * a):=by rw [sg_mulT]; exact h1
 have hp2:=Nat.mul_pos hmg hp
 generalize mgK A K * a = W at *
 have p1 : (0 : Int) < (10 ^ K : Nat):=by omega
 generalize ((10 ^ K : Nat) : Int) = T at *
 cases hs : A.neg
 ·rw [hs,sgf] at hW
  have hx : 0 < x:=by
   rcases int_lt_ge 0 x with h | h
   ·exact h
   ·have:=Int.mul_nonneg (show 0 ≤ -x by omega) (Int.le_of_lt p1); rw [Int.neg_mul] at this; omega
  exact ⟨by omega,decide_eq_false (by omega)⟩
 ·rw [hs,sgt] at hW
  have hx : x < 0:=by
   rcases int_lt_ge x 0 with h | h
   ·exact h
   ·have:=Int.mul_nonneg h (Int.le_of_lt p1); omega
  exact ⟨by omega,decide_eq_true hx⟩
theorem mul_sign {x y : Int} (hx : x ≠ 0) (hy : y ≠ 0) : decide (x * y < 0) = (decide (x < 0) != decide (y < 0)):=by
 rcases Int.lt_or_gt_of_ne hx with h1 | h1 <;> rcases Int.lt_or_gt_of_ne hy with h2 | h2
 ·have h3 : ¬ x * y < 0:=by have:=Int.mul_pos_of_neg_of_neg h1 h2; omega
  rw [decide_eq_true h1,decide_eq_true h2,decide_eq_false h3]; rfl
 ·have h3 : ¬ y < 0:=by omega
  rw [decide_eq_true h1,decide_eq_false h3,decide_eq_true (Int.mul_neg_of_neg_of_pos h1 h2)]; rfl
 ·have h3 : ¬ x < 0:=by omega
  rw [decide_eq_false h3,decide_eq_true h2,decide_eq_true (Int.mul_neg_of_pos_of_neg h1 h2)]; rfl
 ·have h3 : ¬ x * y < 0:=by have:=Int.mul_pos h1 h2; omega
  have h4 : ¬ x < 0:=by omega
  have h5 : ¬ y < 0:=by omega
  rw [decide_eq_false h4,decide_eq_false h5,decide_eq_false h3]; rfl
theorem top_mul {A B : Dc} {c : Cx} {x y : Int} {a b : Nat} (hc : OkC c) (hA : OkD A) (hB : OkD B) (ka : A.kind = 0) (kb : B.kind = 0) (rA : isR A x a) (rB : isR B y b) :
  cmpD (mulD A B c) (ofD (decide (rdN (x * y) (a * b) < 0)) (rdN (x * y) (a * b)).natAbs (rdD (x * y) (a * b)) c) = 0 ∧
  mulS A B c = ofS (decide (rdN (x * y) (a * b) < 0)) (rdN (x * y) (a * b)).natAbs (rdD (x * y) (a * b)) c:=by
 obtain ⟨a1,a2,a3⟩:=okd_exp hA
 obtain ⟨b1,b2,b3⟩:=okd_exp hB
 obtain ⟨g1,g2⟩:=mul_fin c ka kb
 have hab:=Nat.mul_pos rA.1 rB.1
 rw [g1,g2]
 obtain ⟨K,hK⟩ : ∃ K : Nat,K = 1200:=⟨_,rfl⟩
 have hx:=isR_abs rA (K:=K) (by omega)
 have hy:=isR_abs rB (K:=K) (by omega)
 have hv:=vq_of (n:=A.coef * B.coef) (d:=1) (e:=A.exp + B.exp) (N:=x * y) (D:=a * b) (K:=K + K) hab (by omega) (by
  rw [Int.natAbs_mul,Nat.mul_one,Nat.pow_add]
  have e1 : x.natAbs * y.natAbs * (10 ^ K * 10 ^ K) = x.natAbs * 10 ^ K * (y.natAbs * 10 ^ K):=by ac_rfl
  rw [e1,hx,hy]
  unfold upN mgK
  have e2 : A.coef * 10 ^ (A.exp + (K : Int)).toNat * a * (B.coef * 10 ^ (B.exp + (K : Int)).toNat * b) = A.coef * B.coef * (10 ^ (A.exp + (K : Int)).toNat * 10 ^ (B.exp + (K : Int)).toNat) * (a * b):=by ac_rfl
  rw [e2,← Nat.pow_add,show (A.exp + B.exp + ((K + K : Nat) : Int)).toNat = (A.exp + (K : Int)).toNat + (B.exp + (K : Int)).toNat by omega])
 refine fit_same hc (by omega) (rdD_pos _ hab) hv.1 hv.2 (fun hn=>?_)
 have ha0 : 0 < A.coef:=Nat.pos_of_ne_zero fun h=>by rw [h,Nat.zero_mul] at hn; omega
 have hb0 : 0 < B.coef:=Nat.pos_of_ne_zero fun h=>by rw [h,Nat.mul_zero] at hn; omega
 obtain ⟨x0,xs⟩:=isR_sign rA hA ha0
 obtain ⟨y0,ys⟩:=isR_sign rB hB hb0
 rw [rdN_neg _ hab,mul_sign x0 y0,xs,ys]
theorem top_div {A B : Dc} {c : Cx} {x y : Int} {a b : Nat} (hc : OkC c) (hA : OkD A) (hB : OkD B) (ka : A.kind = 0) (kb : B.kind = 0) (hb0 : 0 < B.coef) (rA : isR A x a) (rB : isR B y b) :
  y ≠ 0 ∧ cmpD (divD A B c) (ofD (decide (rdN (x * tn y b) (a * y.natAbs) < 0)) (rdN (x * tn y b) (a * y.natAbs)).natAbs (rdD (x * tn y b) (a * y.natAbs)) c) = 0 ∧
  divS A B c = ofS (decide (rdN (x * tn y b) (a * y.natAbs) < 0)) (rdN (x * tn y b) (a * y.natAbs)).natAbs (rdD (x * tn y b) (a * y.natAbs)) c:=by
 obtain ⟨a1,a2,a3⟩:=okd_exp hA
 obtain ⟨b1,b2,b3⟩:=okd_exp hB
 obtain ⟨g1,g2⟩:=div_fin (A:=A) (B:=B) c ka kb (by omega)
 obtain ⟨y0,ys⟩:=isR_sign rB hB hb0
 refine ⟨y0,?_⟩
 have hab:=Nat.mul_pos rA.1 (show 0 < y.natAbs by omega)
 rw [g1,g2]
 obtain ⟨K,hK⟩ : ∃ K : Nat,K = 2500:=⟨_,rfl⟩
 have hx:=isR_abs rA (K:=K) (by omega)
 have hy:=isR_abs rB (K:=K) (by omega)
 have htn : (x * tn y b).natAbs = x.natAbs * b:=by rw [Int.natAbs_mul]; unfold tn; rw [sg_abs]
 have hv:=vq_of (n:=A.coef) (d:=B.coef) (e:=A.exp - B.exp) (N:=x * tn y b) (D:=a * y.natAbs) (K:=K) hab (by omega) (by
  rw [htn]
  refine Nat.eq_of_mul_eq_mul_right (ten_pos K) ?_
  have e1 : x.natAbs * b * 10 ^ K * B.coef * 10 ^ K = (x.natAbs * 10 ^ K) * b * B.coef * 10 ^ K:=by ac_rfl
  rw [e1,hx]
  have e2 : upN A.coef (A.exp - B.exp) K * (a * y.natAbs) * 10 ^ K = upN A.coef (A.exp - B.exp) K * a * (y.natAbs * 10 ^ K):=by ac_rfl
  rw [e2,hy]
  unfold upN mgK
  have e3 : A.coef * 10 ^ (A.exp - B.exp + (K : Int)).toNat * a * (B.coef * 10 ^ (B.exp + (K : Int)).toNat * b) = A.coef * B.coef * a * b * (10 ^ (A.exp - B.exp + (K : Int)).toNat * 10 ^ (B.exp + (K : Int)).toNat):=by ac_rfl
  have e4 : A.coef * 10 ^ (A.exp + (K : Int)).toNat * a * b * B.coef * 10 ^ K = A.coef * B.coef * a * b * (10 ^ (A.exp + (K : Int)).toNat * 10 ^ K):=by ac_rfl
  rw [e3,e4,← Nat.pow_add,← Nat.pow_add,show (A.exp - B.exp + (K : Int)).toNat + (B.exp + (K : Int)).toNat = (A.exp + (K : Int)).toNat + K by omega])
 refine fit_same hc hb0 (rdD_pos _ hab) hv.1 hv.2 (fun hn=>?_)
 obtain ⟨x0,xs⟩:=isR_sign rA hA hn
 have hb1:=rB.1
 have t0 : tn y b ≠ 0:=by unfold tn; cases hs : decide (y < 0) <;> simp only [sgf,sgt] <;> omega
 have ts : decide (tn y b < 0) = decide (y < 0):=by
  unfold tn
  cases hs : decide (y < 0)
  ·rw [sgf]; exact decide_eq_false (by omega)
  ·rw [sgt]; exact decide_eq_true (by omega)
 rw [rdN_neg _ hab,mul_sign x0 t0,xs,ts,ys]
end Go.Proofs.NatL

namespace Go.Proofs.NatL
set_option linter.unusedSimpArgs false
set_option linter.unusedVariables false
end Go.Proofs.NatL
namespace Go.Proofs.YtgkajjifbcmoeaaGreatDoor
set_option linter.unusedSimpArgs false
set_option linter.unusedVariables false
open Go.Abs Go.Proofs.NatL
def digB (b : Nat) : List Int:=(List.range b).map fun d : Nat=>chr (d : Int)
theorem digB_len (b : Nat) : (digB b).length = b:=by simp [digB]
end Go.Proofs.YtgkajjifbcmoeaaGreatDoor

namespace Go.Proofs.YtgkajjifbcmoeaaGreatDoor
set_option linter.unusedSimpArgs false
set_option linter.unusedVariables false
open Go.Abs Go.Proofs.NatL

attribute [go_sem] digB_len
end Go.Proofs.YtgkajjifbcmoeaaGreatDoor

namespace Go.Proofs.NatL
set_option linter.unusedSimpArgs false
set_option linter.unusedVariables false
open Go.Abs
theorem so_data (l : List Int) : (strOf l).data.toList = l.map fun n=>UInt8.ofNat n.toNat:=by
 have key : ∀ (l : List Int) (r : ByteArray),(l.foldl (fun r n=>r.push (UInt8.ofNat n.toNat)) r).data.toList = r.data.toList ++ l.map fun n=>UInt8.ofNat n.toNat:=by
  intro l
  induction l with
  | nil=>intro r; simp
  | cons x l ih=>intro r; rw [List.foldl_cons,ih]; simp [ByteArray.push]
 have:=key l ByteArray.empty
 simpa [strOf] using this
theorem ba_ext {s t : ByteArray} (h : s.data.toList = t.data.toList) : s = t:=by
 cases s; cases t; simp only [ByteArray.mk.injEq] at *; exact Array.ext' h
theorem so_app (l m : List Int) : strOf l ++ strOf m = strOf (l ++ m):=by
 refine ba_ext ?_
 rw [so_data,List.map_append,← so_data,← so_data]
 simp [ByteArray.data_append]
theorem so_size (l : List Int) : (strOf l).size = l.length:=by
 have h:=congrArg List.length (so_data l)
 simp only [Array.length_toList,List.length_map] at h
 exact h
theorem so_sub (l : List Int) (a b : Nat) : (strOf l).extract a b = strOf ((l.take b).drop a):=by
 refine ba_ext ?_
 rw [so_data,ByteArray.data_extract]
 simp only [Array.toList_extract,so_data,List.extract_eq_take_drop,List.map_drop,List.map_take]
 rw [← List.map_take,← List.map_drop,← List.map_drop,← List.map_take]
 rw [List.drop_take]
end Go.Proofs.NatL
namespace Go.Abs
set_option linter.unusedSimpArgs false
set_option linter.unusedVariables false
variable {P : Program}
end Go.Abs
namespace Go.Proofs.YtgkajjifbcmoeaaGreatDoor
set_option linter.unusedSimpArgs false
set_option linter.unusedVariables false
open Go.Abs Go.Proofs.NatL

theorem to_nat1 : (1 : Int).toNat = 1:=rfl
end Go.Proofs.YtgkajjifbcmoeaaGreatDoor

namespace Go.Proofs.YtgkajjifbcmoeaaGreatDoor
set_option linter.unusedSimpArgs false
set_option linter.unusedVariables false
open Go.Abs Go.Proofs.NatL

theorem mt_so : (ByteArray.mk #[]) = strOf []:=rfl
theorem dot_so : (ByteArray.mk #[46]) = strOf [46]:=rfl
end Go.Proofs.YtgkajjifbcmoeaaGreatDoor

namespace Go.Proofs.YtgkajjifbcmoeaaGreatDoor
set_option linter.unusedSimpArgs false
set_option linter.unusedVariables false
open Go.Abs Go.Proofs.NatL

def repeat1CT : CT:=mkCT [] true fun l K=>match l with
 | [.inl (.str s),.inl (.i .i64 n)]=>n = 1 ∧ K (.c (.str s))
 | _=>False
def dt5 : Cfg:=listT [(78,atCT)] [34]
theorem dt5_ok : TblOk Tryz.prog dt5:=listE_ok (by simp only [List.mem_singleton,forall_eq]; exact flt) ⟨⟨de6,de6_ok,rfl⟩,trivial⟩
attribute [go_sem] dt5
def do1 : Cfg:=addT 81 repeat1CT cf0
theorem do1_ok : TblOk Tryz.prog do1:=q_I cf0_ok Tryz.func81 fun l K h=>by
 split at h
 ·rename_i s n
  obtain ⟨rfl,h⟩:=h
  refine ⟨_,Ret.plain ?_ rfl,h⟩
  (refine q_H Tryz.func81 (fun F=>?_); simp only [q_z,q_y,Tryz.ntmps81,Tryz.results81])
  repeat' (first|with_reducible refine q_0 ?_|((with_reducible first|refine q_q dt5_ok fun K hK=>?_|refine q_r dt5_ok fun K hK=>?_);simp (maxSteps:=2000000) only [go_sem,↓reduceIte,reduceCtorEq,Nat.reduceLeDiff,Nat.reduceLT,Nat.reduceBEq,Nat.reduceAdd];(repeat1' with_reducible first|apply And.intro|(intro _;try exact q_v)|(refine hK _ ?_;clear hK K))<;>(try (clear hK K;exact q_u)))|(with_reducible refine q_s ?_;(first|apply q_J|apply q_K|apply q_L|apply q_M|apply q_N|apply q_O)<;>try (intro _;try exact q_v)))
  all_goals first | omega | exact q_A rfl | skip
 ·exact h.elim
attribute [go_sem] repeat1CT
def dt6 : Cfg:=listT [(78,atCT),(62,validDCT),(79,iTextCT),(81,repeat1CT)] [34]
theorem dt6_ok : TblOk Tryz.prog dt6:=listE_ok (by simp only [List.mem_singleton,forall_eq]; exact flt) ⟨⟨de6,de6_ok,rfl⟩,⟨de4,de4_ok,rfl⟩,⟨iu2,iu2_ok,rfl⟩,⟨do1,do1_ok,rfl⟩,trivial⟩
attribute [go_sem] dt6
theorem nul_so : (ByteArray.mk #[48]) = strOf [48]:=rfl
set_option maxRecDepth 100000 in
set_option maxHeartbeats 3200000 in
theorem textThird_ret : Ret Tryz.prog 17 false [.inr (gDc ⟨0,false,3333, -4⟩)] (.t [.inl (.str (strOf [48,46,51,51,51,51])),fltQ 0 0]):=by
 obtain ⟨U,hU⟩ : ∃ x : Nat,x = 3333:=⟨_,rfl⟩
 rw [← hU]
 have o1 : okD 0 false false (dg 4294967296 U) (-4) = true:=okD_g (D:=⟨0,false,U, -4⟩) (.inl ⟨rfl,by simp,by simp,by rw [hU]; decide⟩)
 have o2 : okZ false (dg 4294967296 U) = true:=okZ_n' (by rw [hU]; decide)
 have lU : (dg 4294967296 U).length ≤ 128:=by rw [hU]; decide
 have ht : textI (sv 4294967296 false (dg 4294967296 U)) 10 = [51,51,51,51]:=by rw [hU]; decide
 have ten : (10 : Int).toNat = 10:=rfl
 have z1:=so_size [51,51,51,51]
 have a1 : strOf [48] ++ strOf [51,51,51,51] = strOf [48,51,51,51,51]:=so_app _ _
 have z2:=so_size [48,51,51,51,51]
 have z3:=so_size [48]
 have x1 : (strOf [48,51,51,51,51]).extract 0 1 = strOf [48]:=by rw [so_sub]; rfl
 have x2 : (strOf [48,51,51,51,51]).extract 1 5 = strOf [51,51,51,51]:=by rw [so_sub]; rfl
 have e2 : strOf [48,46,51,51,51,51] = strOf [] ++ strOf [48] ++ strOf [46] ++ strOf [51,51,51,51]:=by rw [so_app,so_app,so_app]; rfl
 have e3 : (((5 : Nat) : Int) + -4).toNat = 1:=rfl
 have s0:=so_size []
 have s1:=so_size [46]
 have s4 : (strOf [] ++ strOf [48]).size = 1:=by rw [so_app,so_size]; rfl
 have s5 : (strOf [] ++ strOf [48] ++ strOf [46]).size = 2:=by rw [so_app,so_app,so_size]; rfl
 clear hU
 (refine q_H Tryz.func17 (fun F=>?_); simp only [q_z,q_y,Tryz.ntmps17,Tryz.results17])
 repeat' (first|with_reducible refine q_0 ?_|((with_reducible first|refine q_q dt6_ok fun K hK=>?_|refine q_r dt6_ok fun K hK=>?_);simp (maxSteps:=2000000) only [go_sem,↓reduceIte,reduceCtorEq,Nat.reduceLeDiff,Nat.reduceLT,Nat.reduceBEq,Nat.reduceAdd,o1,o2,ht,ten,a1,z1,z2,z3,x1,x2,mt_so,dot_so,nul_so,s0,s1,s4,s5,e3,to_nat1];(repeat1' with_reducible first|apply And.intro|(intro _;try exact q_v)|(refine hK _ ?_;clear hK K))<;>(try (clear hK K;exact q_u)))|(with_reducible refine q_s ?_;(first|apply q_J|apply q_K|apply q_L|apply q_M|apply q_N|apply q_O)<;>try (intro _;try exact q_v)))
 all_goals first | omega | exact q_A (by rw [e2]; rfl) | skip
def thirdTextCT : CT:=mkCT [nDc] false fun l K=>match l with
 | [.inr [.i .i64 k,.b s,.b a,.ints .u32 xs,.i .i64 e]]=>(k = 0 ∧ s = false ∧ a = false ∧ e = -4 ∧ InB 4294967296 xs ∧ Trd xs ∧ V 4294967296 xs = 3333) ∧ K (.t [.inl (.str (strOf [48,46,51,51,51,51])),fltQ 0 0])
 | _=>False
def do2 : Cfg:=addT 17 thirdTextCT cf0
theorem do2_ok : TblOk Tryz.prog do2:=q_I cf0_ok Tryz.func17 fun l K h=>by
 split at h
 ·rename_i k s a xs e
  obtain ⟨⟨rfl,rfl,rfl,rfl,h4,h5,h6⟩,h⟩:=h
  have e1:=dg_V 4294967296 (by omega) xs h4 h5
  have:=textThird_ret
  rw [h6] at e1
  simp only [gDc,e1] at this
  exact ⟨_,this,h⟩
 ·exact h.elim
attribute [go_sem] thirdTextCT
theorem thirdD : divD ⟨0,false,1,0⟩ ⟨0,false,3,0⟩ ⟨4,0, -9,9⟩ = ⟨0,false,3333, -4⟩:=by rfl
theorem thirdS : divS ⟨0,false,1,0⟩ ⟨0,false,3,0⟩ ⟨4,0, -9,9⟩ = 1:=by rfl
end Go.Proofs.YtgkajjifbcmoeaaGreatDoor

namespace Go.Proofs.YtgkajjifbcmoeaaGreatDoor
set_option linter.unusedSimpArgs false
set_option linter.unusedVariables false
open Go.Abs Go.Proofs.NatL

def dbj : Cfg:=listT [(62,validDCT)] [34]
theorem dbj_ok : TblOk Tryz.prog dbj:=listE_ok (by simp only [List.mem_singleton,forall_eq]; exact flt) ⟨⟨de4,de4_ok,rfl⟩,trivial⟩
attribute [go_sem] dbj
def rankCT : CT:=mkCT [nDc] true fun l K=>match l with
 | [.inr [.i .i64 k,.b s,.b a,.ints .u32 xs,.i .i64 e]]=>K (.c (.i .i64 (if k = 0 then 0 else if s = true then -1 else 1)))
 | _=>False
def dj1 : Cfg:=addT 97 rankCT cf0
theorem dj1_ok : TblOk Tryz.prog dj1:=q_I cf0_ok Tryz.func97 fun l K h=>by
 split at h
 ·rename_i k s a xs e
  refine ⟨_,Ret.plain ?_ rfl,h⟩
  by_cases h0 : k = 0
  ·rw [if_pos h0]
   (refine q_H Tryz.func97 (fun F=>?_); simp only [q_z,q_y,Tryz.ntmps97,Tryz.results97])
   repeat' (first|with_reducible refine q_0 ?_|((with_reducible first|refine q_q dbj_ok fun K hK=>?_|refine q_r dbj_ok fun K hK=>?_);simp (maxSteps:=2000000) only [go_sem,↓reduceIte,reduceCtorEq,Nat.reduceLeDiff,Nat.reduceLT,Nat.reduceBEq,Nat.reduceAdd];(repeat1' with_reducible first|apply And.intro|(intro _;try exact q_v)|(refine hK _ ?_;clear hK K))<;>(try (clear hK K;exact q_u)))|(with_reducible refine q_s ?_;(first|apply q_J|apply q_K|apply q_L|apply q_M|apply q_N|apply q_O)<;>try (intro _;try exact q_v)))
   all_goals first | omega | exact q_A rfl | skip
  ·rw [if_neg h0]
   cases s
   all_goals
    (refine q_H Tryz.func97 (fun F=>?_); simp only [q_z,q_y,Tryz.ntmps97,Tryz.results97])
    repeat' (first|with_reducible refine q_0 ?_|((with_reducible first|refine q_q dbj_ok fun K hK=>?_|refine q_r dbj_ok fun K hK=>?_);simp (maxSteps:=2000000) only [go_sem,↓reduceIte,reduceCtorEq,Nat.reduceLeDiff,Nat.reduceLT,Nat.reduceBEq,Nat.reduceAdd];(repeat1' with_reducible first|apply And.intro|(intro _;try exact q_v)|(refine hK _ ?_;clear hK K))<;>(try (clear hK K;exact q_u)))|(with_reducible refine q_s ?_;(first|apply q_J|apply q_K|apply q_L|apply q_M|apply q_N|apply q_O)<;>try (intro _;try exact q_v)))
    all_goals first | omega | exact q_A rfl | skip
 ·exact h.elim
attribute [go_sem] rankCT
def cmpA (k : Int) (s : Bool) (m : Nat) (e : Int) (l : Int) (t : Bool) (n : Nat) (f : Int) (q : List D5) : AV :=
 if dbC q ≠ 0 then .t [.inl (.i .i64 0),fltQ (dbC q) (dbX 0 q)] else if nbC q ≠ 0 then .t [.inl (.i .i64 0),fltQ (nbC q) (nbX 0 q)] else .t [.inl (.i .i64 (cmpD ⟨k,s,m,e⟩ ⟨l,t,n,f⟩)),fltQ 0 0]
theorem cmpA_bad {k : Int} {s : Bool} {m : Nat} {e l : Int} {t : Bool} {n : Nat} {f : Int} {q : List D5} (h : dbC q ≠ 0) : cmpA k s m e l t n f q = .t [.inl (.i .i64 0),fltQ (dbC q) (dbX 0 q)]:=if_pos h
theorem cmpA_none {k : Int} {s : Bool} {m : Nat} {e l : Int} {t : Bool} {n : Nat} {f : Int} {q : List D5} (h : dbC q = 0) (h2 : nbC q ≠ 0) : cmpA k s m e l t n f q = .t [.inl (.i .i64 0),fltQ (nbC q) (nbX 0 q)]:=by
 unfold cmpA; rw [if_neg (fun g=>g h),if_pos h2]
theorem cmpA_ok {k : Int} {s : Bool} {m : Nat} {e l : Int} {t : Bool} {n : Nat} {f : Int} {q : List D5} (h : dbC q = 0) (h2 : nbC q = 0) : cmpA k s m e l t n f q = .t [.inl (.i .i64 (cmpD ⟨k,s,m,e⟩ ⟨l,t,n,f⟩)),fltQ 0 0]:=by
 unfold cmpA; rw [if_neg (fun g=>g h),if_neg (fun g=>g h2)]
abbrev aD (k : Int) (s a : Bool) (xs : List Int) (e : Int) : List AV:=[.c (.i .i64 k),.c (.b s),.c (.b a),.c (.ints .u32 xs),.c (.i .i64 e)]
attribute [go_sem] aD
def dbk : Cfg:=listT [(62,validDCT),(78,atCT),(97,rankCT),(93,ofDCT),(92,plusXCT)] [34]
theorem dbk_ok : TblOk Tryz.prog dbk:=listE_ok (by simp only [List.mem_singleton,forall_eq]; exact flt) ⟨⟨de4,de4_ok,rfl⟩,⟨de6,de6_ok,rfl⟩,⟨dj1,dj1_ok,rfl⟩,⟨df1,df1_ok,rfl⟩,⟨df2,df2_ok,rfl⟩,trivial⟩
attribute [go_sem] dbk
set_option maxRecDepth 100000 in
set_option maxHeartbeats 6400000 in
theorem cmp_ret (k l : Int) (s a t b : Bool) (xs ys : List Int) (e f : Int) (h1 : xs.length ≤ 140737488355328) (h2 : ys.length ≤ 140737488355328) (b1 : InB 4294967296 xs) (b2 : InB 4294967296 ys) :
  Ret Tryz.prog 29 false [.inr [.i .i64 k,.b s,.b a,.ints .u32 xs,.i .i64 e],.inr [.i .i64 l,.b t,.b b,.ints .u32 ys,.i .i64 f]] (cmpA k s (V 4294967296 xs) e l t (V 4294967296 ys) f [(k,s,a,xs,e),(l,t,b,ys,f)]):=by
 have hd : ∀ (q : List D5),q = [(k,s,a,xs,e),(l,t,b,ys,f)] → dbC q = 0 → okD k s a xs e = true ∧ okD l t b ys f = true:=by
  rintro q rfl h
  cases o1 : okD k s a xs e
  ·simp [dbC,okD5,o1] at h
  ·cases o2 : okD l t b ys f
   ·simp [dbC,okD5,o1,o2] at h
   ·exact ⟨rfl,rfl⟩
 have hn : ∀ (q : List D5),q = [(k,s,a,xs,e),(l,t,b,ys,f)] → nbC q = 0 → k ≠ 2 ∧ l ≠ 2:=by
  rintro q rfl h
  refine ⟨fun hk=>?_,fun hl=>?_⟩
  ·simp [nbC,hk] at h
  ·by_cases hk : k = 2
   ·simp [nbC,hk] at h
   ·simp [nbC,hk,hl] at h
 have hal : allD 140737488355328 [(k,s,a,xs,e),(l,t,b,ys,f)]:=⟨⟨h1,b1⟩,⟨h2,b2⟩,trivial⟩
 have hml : ([(k,s,a,xs,e),(l,t,b,ys,f)] : List D5).length = 2:=rfl
 have hrw : [rowD (k,s,a,xs,e),rowD (l,t,b,ys,f)] = ([(k,s,a,xs,e),(l,t,b,ys,f)] : List D5).map rowD:=rfl
 (refine q_H Tryz.func29 (fun F=>?_); simp only [q_z,q_y,Tryz.ntmps29,Tryz.results29])
 repeat' (first|with_reducible refine q_0 ?_|((with_reducible first|refine q_q dbk_ok fun K hK=>?_|refine q_r dbk_ok fun K hK=>?_);simp (maxSteps:=2000000) only [go_sem,↓reduceIte,reduceCtorEq,Nat.reduceLeDiff,Nat.reduceLT,Nat.reduceBEq,Nat.reduceAdd];(repeat1' with_reducible first|apply And.intro|(intro _;try exact q_v)|(refine hK _ ?_;clear hK K))<;>(try (clear hK K;exact q_u)))|(with_reducible refine q_s ?_;(first|apply q_J|apply q_K|apply q_L|apply q_M|apply q_N|apply q_O)<;>try (intro _;try exact q_v)))
 all_goals first | omega | skip
 rw [show [[C.i .i64 k,.b s,.b a,.ints .u32 xs,.i .i64 e],[C.i .i64 l,.b t,.b b,.ints .u32 ys,.i .i64 f]] = ([(k,s,a,xs,e),(l,t,b,ys,f)] : List D5).map rowD from rfl]
 generalize hq : [(k,s,a,xs,e),(l,t,b,ys,f)] = q at *
 refine q_G (ι:={ i : Nat // i ≤ 2 ∧ dbC (q.drop i) = dbC q ∧ dbX i (q.drop i) = dbX 0 q }) (fun i=>⟨86,[(2,.bx 0 0),(3,.bx 1 0),(4,.c (.i .i64 0)),(5,.bx 2 0),(15,.c (.sl 5 (q.map rowD))),(16,.c (.i .i64 2)),(17,.c (.i .i64 (i.1 : Nat)))],⟨[(2,[.c (.i .i64 0),.c (.i .i64 0)]),(1,aD l t b ys f),(0,aD k s a xs e)],[],[]⟩,3⟩) (fun i=>2 - i.1) ⟨0,by omega,rfl,rfl⟩ ?_ ?_
 ·exact q_D
 rintro ⟨i,g1,g2,g3⟩
 simp only at g1 g2 g3 ⊢
 obtain ⟨n1,n2⟩:=allD_get (i:=i) hal
 have hml' : (q.map rowD).length = 2:=by rw [List.length_map,hml]
 rcases Nat.lt_or_ge i 2 with hi | hi
 ·have hr:=rowD_get q i (by omega)
  rw [drop_getD5 q i (by omega),dbC] at g2
  rw [drop_getD5 q i (by omega),dbX] at g3
  unfold okD5 at g2 g3
  cases ho : okD (q.getD i d0).1 (q.getD i d0).2.1 (q.getD i d0).2.2.1 (q.getD i d0).2.2.2.1 (q.getD i d0).2.2.2.2
  ·simp only [ho,Bool.false_eq_true,if_false] at g2 g3
   have hcm:=cmpA_bad (k:=k) (s:=s) (m:=V 4294967296 xs) (e:=e) (l:=l) (t:=t) (n:=V 4294967296 ys) (f:=f) (q:=q) (by omega)
   rw [← g2,← g3] at hcm
   rw [hcm]
   repeat' (first|with_reducible refine q_0 ?_|((with_reducible first|refine q_q dbk_ok fun K hK=>?_|refine q_r dbk_ok fun K hK=>?_);simp (maxSteps:=2000000) only [go_sem,↓reduceIte,reduceCtorEq,Nat.reduceLeDiff,Nat.reduceLT,Nat.reduceBEq,Nat.reduceAdd,hr,ho,hml'];(repeat1' with_reducible first|apply And.intro|(intro _;try exact q_v)|(refine hK _ ?_;clear hK K))<;>(try (clear hK K;exact q_u)))|(with_reducible refine q_s ?_;(first|apply q_J|apply q_K|apply q_L|apply q_M|apply q_N|apply q_O)<;>try (intro _;try exact q_v)))
   all_goals first | omega | assumption | exact q_A rfl | skip
  ·simp only [ho,if_true] at g2 g3
   repeat' (first|with_reducible refine q_0 ?_|((with_reducible first|refine q_q dbk_ok fun K hK=>?_|refine q_r dbk_ok fun K hK=>?_);simp (maxSteps:=2000000) only [go_sem,↓reduceIte,reduceCtorEq,Nat.reduceLeDiff,Nat.reduceLT,Nat.reduceBEq,Nat.reduceAdd,hr,ho,hml'];(repeat1' with_reducible first|apply And.intro|(intro _;try exact q_v)|(refine hK _ ?_;clear hK K))<;>(try (clear hK K;exact q_u)))|(with_reducible refine q_s ?_;(first|apply q_J|apply q_K|apply q_L|apply q_M|apply q_N|apply q_O)<;>try (intro _;try exact q_v)))
   all_goals first | omega | assumption | skip
   refine q_F ⟨i + 1,hi,g2,by push_cast; exact g3⟩ ?_ (by simp only; omega)
   exact q_D
 obtain rfl : i = 2:=by omega
 rw [List.drop_eq_nil_of_le (by omega)] at g2
 have hdb : dbC q = 0:=g2.symm
 obtain ⟨o1,o2⟩:=hd q rfl hdb
 clear n1 n2 hd
 repeat' (first|with_reducible refine q_0 ?_|((with_reducible first|refine q_q dbk_ok fun K hK=>?_|refine q_r dbk_ok fun K hK=>?_);simp (maxSteps:=2000000) only [go_sem,↓reduceIte,reduceCtorEq,Nat.reduceLeDiff,Nat.reduceLT,Nat.reduceBEq,Nat.reduceAdd,hml'];(repeat1' with_reducible first|apply And.intro|(intro _;try exact q_v)|(refine hK _ ?_;clear hK K))<;>(try (clear hK K;exact q_u)))|(with_reducible refine q_s ?_;(first|apply q_J|apply q_K|apply q_L|apply q_M|apply q_N|apply q_O)<;>try (intro _;try exact q_v)))
 all_goals first | omega | skip
 rw [show [[C.i .i64 k,.b s,.b a,.ints .u32 xs,.i .i64 e],[C.i .i64 l,.b t,.b b,.ints .u32 ys,.i .i64 f]] = ([(k,s,a,xs,e),(l,t,b,ys,f)] : List D5).map rowD from rfl,hq]
 refine q_G (ι:={ i : Nat // i ≤ 2 ∧ nbC (q.drop i) = nbC q ∧ nbX i (q.drop i) = nbX 0 q }) (fun i=>⟨86,[(2,.bx 0 0),(3,.bx 1 0),(4,.c (.i .i64 0)),(5,.bx 2 0),(31,.c (.sl 5 (q.map rowD))),(32,.c (.i .i64 2)),(33,.c (.i .i64 (i.1 : Nat)))],⟨[(2,[.c (.i .i64 0),.c (.i .i64 0)]),(1,aD l t b ys f),(0,aD k s a xs e)],[],[]⟩,3⟩) (fun i=>2 - i.1) ⟨0,by omega,rfl,rfl⟩ ?_ ?_
 ·exact q_D
 rintro ⟨i,g1,g2,g3⟩
 simp only at g1 g2 g3 ⊢
 rcases Nat.lt_or_ge i 2 with hi | hi
 ·have hr:=rowD_get q i (by omega)
  rw [drop_getD5 q i (by omega),nbC] at g2
  rw [drop_getD5 q i (by omega),nbX] at g3
  by_cases ho : (q.getD i d0).1 = 2
  ·rw [if_pos ho] at g2 g3
   have hcm:=cmpA_none (k:=k) (s:=s) (m:=V 4294967296 xs) (e:=e) (l:=l) (t:=t) (n:=V 4294967296 ys) (f:=f) (q:=q) hdb (by omega)
   rw [← g2,← g3] at hcm
   rw [hcm]
   repeat' (first|with_reducible refine q_0 ?_|((with_reducible first|refine q_q dbk_ok fun K hK=>?_|refine q_r dbk_ok fun K hK=>?_);simp (maxSteps:=2000000) only [go_sem,↓reduceIte,reduceCtorEq,Nat.reduceLeDiff,Nat.reduceLT,Nat.reduceBEq,Nat.reduceAdd,hr,ho,hml'];(repeat1' with_reducible first|apply And.intro|(intro _;try exact q_v)|(refine hK _ ?_;clear hK K))<;>(try (clear hK K;exact q_u)))|(with_reducible refine q_s ?_;(first|apply q_J|apply q_K|apply q_L|apply q_M|apply q_N|apply q_O)<;>try (intro _;try exact q_v)))
   all_goals first | omega | assumption | exact q_A rfl | skip
  ·rw [if_neg ho] at g2 g3
   repeat' (first|with_reducible refine q_0 ?_|((with_reducible first|refine q_q dbk_ok fun K hK=>?_|refine q_r dbk_ok fun K hK=>?_);simp (maxSteps:=2000000) only [go_sem,↓reduceIte,reduceCtorEq,Nat.reduceLeDiff,Nat.reduceLT,Nat.reduceBEq,Nat.reduceAdd,hr,hml'];(repeat1' with_reducible first|apply And.intro|(intro _;try exact q_v)|(refine hK _ ?_;clear hK K))<;>(try (clear hK K;exact q_u)))|(with_reducible refine q_s ?_;(first|apply q_J|apply q_K|apply q_L|apply q_M|apply q_N|apply q_O)<;>try (intro _;try exact q_v)))
   all_goals first | omega | assumption | skip
   refine q_F ⟨i + 1,hi,g2,by push_cast; exact g3⟩ ?_ (by simp only; omega)
   exact q_D
 obtain rfl : i = 2:=by omega
 rw [List.drop_eq_nil_of_le (by omega)] at g2
 have hnb : nbC q = 0:=g2.symm
 obtain ⟨k2,l2⟩:=hn q rfl hnb
 rw [cmpA_ok hdb hnb]
 clear hn hal hml
 obtain ⟨rfl,rx,r1⟩:=okD_eq o1 b1
 obtain ⟨rfl,ry,r2⟩:=okD_eq o2 b2
 have t1 : Trd xs:=by rw [rx]; exact dg_trd _ (by omega) _
 have t2 : Trd ys:=by rw [ry]; exact dg_trd _ (by omega) _
 have ka : k = 0 ∨ k = 1 ∨ k = 2:=OkD_kind r1
 have kb : l = 0 ∨ l = 1 ∨ l = 2:=OkD_kind r2
 have hs : smP (V 4294967296 xs) e (V 4294967296 ys) f:=smP_ok r1 r2
 clear rx ry r1 r2
 by_cases hf : k = 0 ∧ l = 0
 ·obtain ⟨rfl,rfl⟩:=hf
  rw [cmp_fin]
  have e1 : ([1] : List Int) = dg 4294967296 1:=rfl
  have hsm : smP (V 4294967296 xs) e (V 4294967296 ys) f:=hs
  have hB : sumZ s (V 4294967296 xs) e (!t) (V 4294967296 ys) f ≠ 0 → sumB s (V 4294967296 xs) e (!t) (V 4294967296 ys) f (decide ((0 : Int) = 2)) = decide (sumZ s (V 4294967296 xs) e (!t) (V 4294967296 ys) f < 0):=fun h=>if_neg h
  have hl:=sumZ_len (s:=s) (t:=!t) hs
  generalize hz : sumZ s (V 4294967296 xs) e (!t) (V 4294967296 ys) f = Z at *
  generalize hb : sumB s (V 4294967296 xs) e (!t) (V 4294967296 ys) f (decide ((0 : Int) = 2)) = Bb at *
  have hl2:=ds_600 (n:=Z.natAbs) (by omega)
  have hp:=dg_len_pos 4294967296 Z.natAbs (by omega)
  unfold cmpZ
  rcases Int.lt_trichotomy Z 0 with h | h | h
  ·have hB:=hB (by omega)
   rw [if_pos h]
   rw [decide_eq_true h] at hB
   subst hB
   repeat' (first|with_reducible refine q_0 ?_|((with_reducible first|refine q_q dbk_ok fun K hK=>?_|refine q_r dbk_ok fun K hK=>?_);simp (maxSteps:=2000000) only [go_sem,↓reduceIte,reduceCtorEq,Nat.reduceLeDiff,Nat.reduceLT,Nat.reduceBEq,Nat.reduceAdd,e1,hz,hb];(repeat1' with_reducible first|apply And.intro|(intro _;try exact q_v)|(refine hK _ ?_;clear hK K))<;>(try (clear hK K;exact q_u)))|(with_reducible refine q_s ?_;(first|apply q_J|apply q_K|apply q_L|apply q_M|apply q_N|apply q_O)<;>try (intro _;try exact q_v)))
   all_goals first | omega | assumption | exact q_A rfl | skip
  ·rw [if_neg (by omega),if_pos h]
   clear hB
   have hp0 : (dg 4294967296 Z.natAbs).length = 0:=by omega
   repeat' (first|with_reducible refine q_0 ?_|((with_reducible first|refine q_q dbk_ok fun K hK=>?_|refine q_r dbk_ok fun K hK=>?_);simp (maxSteps:=2000000) only [go_sem,↓reduceIte,reduceCtorEq,Nat.reduceLeDiff,Nat.reduceLT,Nat.reduceBEq,Nat.reduceAdd,e1,hz,hb];(repeat1' with_reducible first|apply And.intro|(intro _;try exact q_v)|(refine hK _ ?_;clear hK K))<;>(try (clear hK K;exact q_u)))|(with_reducible refine q_s ?_;(first|apply q_J|apply q_K|apply q_L|apply q_M|apply q_N|apply q_O)<;>try (intro _;try exact q_v)))
   all_goals first | omega | assumption | exact q_A rfl | skip
  ·have hB:=hB (by omega)
   rw [if_neg (by omega),if_neg (by omega)]
   rw [decide_eq_false (by omega)] at hB
   subst hB
   repeat' (first|with_reducible refine q_0 ?_|((with_reducible first|refine q_q dbk_ok fun K hK=>?_|refine q_r dbk_ok fun K hK=>?_);simp (maxSteps:=2000000) only [go_sem,↓reduceIte,reduceCtorEq,Nat.reduceLeDiff,Nat.reduceLT,Nat.reduceBEq,Nat.reduceAdd,e1,hz,hb];(repeat1' with_reducible first|apply And.intro|(intro _;try exact q_v)|(refine hK _ ?_;clear hK K))<;>(try (clear hK K;exact q_u)))|(with_reducible refine q_s ?_;(first|apply q_J|apply q_K|apply q_L|apply q_M|apply q_N|apply q_O)<;>try (intro _;try exact q_v)))
   all_goals first | omega | assumption | exact q_A rfl | skip
 ·rw [cmp_inf (by simp only; omega)]
  unfold rkD
  simp only
  have hx : (if k = 0 then 0 else if s = true then -1 else 1 : Int) = 0 ↔ k = 0:=by (repeat' split) <;> omega
  have hy : (if l = 0 then 0 else if t = true then -1 else 1 : Int) = 0 ↔ l = 0:=by (repeat' split) <;> omega
  have hx2 : -1 ≤ (if k = 0 then 0 else if s = true then -1 else 1 : Int) ∧ (if k = 0 then 0 else if s = true then -1 else 1 : Int) ≤ 1:=by (repeat' split) <;> omega
  have hy2 : -1 ≤ (if l = 0 then 0 else if t = true then -1 else 1 : Int) ∧ (if l = 0 then 0 else if t = true then -1 else 1 : Int) ≤ 1:=by (repeat' split) <;> omega
  generalize hxx : (if k = 0 then 0 else if s = true then -1 else 1 : Int) = x at *
  generalize hyy : (if l = 0 then 0 else if t = true then -1 else 1 : Int) = y at *
  obtain ⟨hx2,hx3⟩:=hx2
  obtain ⟨hy2,hy3⟩:=hy2
  have hxy : ¬ (x = 0 ∧ y = 0):=fun h=>hf ⟨hx.1 h.1,hy.1 h.2⟩
  clear hs ka kb hf hx hy
  repeat' (first|with_reducible refine q_0 ?_|((with_reducible first|refine q_q dbk_ok fun K hK=>?_|refine q_r dbk_ok fun K hK=>?_);simp (maxSteps:=2000000) only [go_sem,↓reduceIte,reduceCtorEq,Nat.reduceLeDiff,Nat.reduceLT,Nat.reduceBEq,Nat.reduceAdd,hxx,hyy];(repeat1' with_reducible first|apply And.intro|(intro _;try exact q_v)|(refine hK _ ?_;clear hK K))<;>(try (clear hK K;exact q_u)))|(with_reducible refine q_s ?_;(first|apply q_J|apply q_K|apply q_L|apply q_M|apply q_N|apply q_O)<;>try (intro _;try exact q_v)))
  all_goals first | omega | assumption | exact q_A rfl | skip
def cmpCT : CT:=mkCT [nDc,nDc] true fun l K=>match l with
 | [.inr [.i .i64 k,.b s,.b a,.ints .u32 xs,.i .i64 e],.inr [.i .i64 l,.b t,.b b,.ints .u32 ys,.i .i64 f]] =>
   (xs.length ≤ 140737488355328 ∧ ys.length ≤ 140737488355328 ∧ InB 4294967296 xs ∧ InB 4294967296 ys) ∧
   (if okD k s a xs e = true then (if okD l t b ys f = true then (if k = 2 then K (.t [.inl (.i .i64 0),fltQ 13 (-1)]) else if l = 2 then K (.t [.inl (.i .i64 0),fltQ 13 (-2)]) else K (.t [.inl (.i .i64 (cmpD ⟨k,s,V 4294967296 xs,e⟩ ⟨l,t,V 4294967296 ys,f⟩)),fltQ 0 0])) else K (.t [.inl (.i .i64 0),fltQ 6 (-2)])) else K (.t [.inl (.i .i64 0),fltQ 6 (-1)]))
 | _=>False
def dj2 : Cfg:=addT 29 cmpCT cf0
theorem dj2_ok : TblOk Tryz.prog dj2:=q_I cf0_ok Tryz.func29 fun l K hk=>by
 split at hk
 ·rename_i k s a xs e l t b ys f
  obtain ⟨⟨h1,h2,b1,b2⟩,h⟩:=hk
  refine ⟨_,(cmp_ret k l s a t b xs ys e f h1 h2 b1 b2).plain (by unfold cmpA; (repeat' split) <;> rfl),?_⟩
  cases o1 : okD k s a xs e
  ·have u1 : dbC [(k,s,a,xs,e),(l,t,b,ys,f)] = 6:=by simp [dbC,okD5,o1]
   have u2 : dbX 0 [(k,s,a,xs,e),(l,t,b,ys,f)] = -1:=by simp [dbX,okD5,o1]
   rw [cmpA_bad (by omega),u1,u2]
   simp only [o1,Bool.false_eq_true,if_false] at h
   exact h
  cases o2 : okD l t b ys f
  ·have u1 : dbC [(k,s,a,xs,e),(l,t,b,ys,f)] = 6:=by simp [dbC,okD5,o1,o2]
   have u2 : dbX 0 [(k,s,a,xs,e),(l,t,b,ys,f)] = -2:=by simp [dbX,okD5,o1,o2]
   rw [cmpA_bad (by omega),u1,u2]
   simp only [o1,o2,Bool.false_eq_true,if_false,if_true] at h
   exact h
  have u0 : dbC [(k,s,a,xs,e),(l,t,b,ys,f)] = 0:=by simp [dbC,okD5,o1,o2]
  simp only [o1,o2,if_true] at h
  by_cases k2 : k = 2
  ·have u1 : nbC [(k,s,a,xs,e),(l,t,b,ys,f)] = 13:=by simp [nbC,k2]
   have u2 : nbX 0 [(k,s,a,xs,e),(l,t,b,ys,f)] = -1:=by simp [nbX,k2]
   rw [cmpA_none u0 (by omega),u1,u2]
   rw [if_pos k2] at h
   exact h
  rw [if_neg k2] at h
  by_cases l2 : l = 2
  ·have u1 : nbC [(k,s,a,xs,e),(l,t,b,ys,f)] = 13:=by simp [nbC,k2,l2]
   have u2 : nbX 0 [(k,s,a,xs,e),(l,t,b,ys,f)] = -2:=by simp [nbX,k2,l2]
   rw [cmpA_none u0 (by omega),u1,u2]
   rw [if_pos l2] at h
   exact h
  ·have u1 : nbC [(k,s,a,xs,e),(l,t,b,ys,f)] = 0:=by simp [nbC,k2,l2]
   rw [cmpA_ok u0 u1]
   rw [if_neg l2] at h
   exact h
 ·exact hk.elim
attribute [go_sem] cmpCT
end Go.Proofs.YtgkajjifbcmoeaaGreatDoor

namespace Go.Proofs.NatL
set_option linter.unusedSimpArgs false
set_option linter.unusedVariables false
theorem Int.lt_or_ge' (a b : Int) : a < b ∨ b ≤ a:=by omega
def dl (X : Int) (D : Nat) (s : Int) (t : Nat) : Nat:=(X * t - s * D).natAbs
end Go.Proofs.NatL

namespace Go.Abs
set_option linter.unusedSimpArgs false
set_option linter.unusedVariables false
open Go.RowKit
variable {P : Program}

section
variable {f : Nat → Nat} {F : Fr} {H : Hp} {m : Mp} {w : World}
end
theorem fz_makeFunc {cf : Cfg} {st : St} {fn : Fn} {a b : Array Operand} : fzFor cf st (.makeFunc fn a b) = st:=rfl
attribute [go_sem] fz_makeFunc id
end Go.Abs

namespace Go.Proofs.NatL
set_option linter.unusedSimpArgs false
set_option linter.unusedVariables false
def clP (X : Int) (D : Nat) (s : Int) (t : Nat) (s' : Int) (t' : Nat) : Prop:=dl X D s t * t' < dl X D s' t' * t ∨ (dl X D s t * t' = dl X D s' t' * t ∧ (t < t' ∨ (t = t' ∧ s * t' < s' * t)))
end Go.Proofs.NatL
namespace Go.Proofs.YtgkajjifbcmoeaaGreatDoor
set_option linter.unusedSimpArgs false
set_option linter.unusedVariables false
open Go.Abs Go.Proofs.NatL

end Go.Proofs.YtgkajjifbcmoeaaGreatDoor

namespace Go.Proofs.NatL
set_option linter.unusedSimpArgs false
set_option linter.unusedVariables false
instance decClP (X : Int) (D : Nat) (s : Int) (t : Nat) (s' : Int) (t' : Nat) : Decidable (clP X D s t s' t'):=by unfold clP; infer_instance
end Go.Proofs.NatL
namespace Go.Proofs.YtgkajjifbcmoeaaGreatDoor
set_option linter.unusedSimpArgs false
set_option linter.unusedVariables false
open Go.Abs Go.Proofs.NatL

end Go.Proofs.YtgkajjifbcmoeaaGreatDoor

namespace Go.Proofs.NatL
set_option linter.unusedSimpArgs false
set_option linter.unusedVariables false
structure Nr (X : Int) (D m : Nat) where
 a : Int
 b : Int
 p : Int
 q : Int
 u : Int
 v : Int
 hX : X = p * u + a * v
 hD : (D : Int) = q * u + b * v
 det : p * b - a * q = 1 ∨ p * b - a * q = -1
 v0 : 0 < v
 vD : v ≤ D
 uX : u = X ∨ (0 < u ∧ u ≤ D)
 b0 : 0 ≤ b ∧ b ≤ m
 q0 : 0 ≤ q ∧ q ≤ m
 aX : a.natAbs ≤ X.natAbs
 pX : p.natAbs ≤ X.natAbs
 one : (q = 0 ∧ b = 1 ∧ p = 1 ∧ u = X ∧ v = D) ∨ (1 ≤ q ∧ v < u ∧ u ≤ D)
theorem Nr.x0 {X : Int} {D m : Nat} (hm : 0 < m) (hD : m < D) (hg : Nat.gcd X.natAbs D = 1) : 1 ≤ X.natAbs:=by
 rcases Nat.eq_zero_or_pos X.natAbs with h | h
 ·rw [h,Nat.gcd_zero_left] at hg; omega
 ·exact h
def Nr.start {X : Int} {D m : Nat} (hm : 0 < m) (hD : m < D) (hg : Nat.gcd X.natAbs D = 1) : Nr X D m :=
 ⟨0,1,1,0,X,D,by omega,by omega,.inl (by omega),by omega,by omega,.inl rfl,by omega,by omega,by simp,by simpa using Nr.x0 hm hD hg,.inl ⟨rfl,rfl,rfl,rfl,rfl⟩⟩
section
variable {X : Int} {D m : Nat}
theorem Nr.quo (e : Nr X D m) : e.u = e.u.fdiv e.v * e.v + e.u.fmod e.v ∧ 0 ≤ e.u.fmod e.v ∧ e.u.fmod e.v < e.v:=by
 have h0:=e.v0
 refine ⟨?_,?_,?_⟩
 ·have:=Int.mul_fdiv_add_fmod e.u e.v
  rw [Int.mul_comm]; omega
 ·exact Int.fmod_nonneg_of_pos _ h0
 ·exact Int.fmod_lt_of_pos _ h0
theorem Nr.cross (e : Nr X D m) (k : Int) : X * (e.b + e.q * k) - (e.a + e.p * k) * D = (e.u - k * e.v) * (e.p * e.b - e.a * e.q):=by
 have h1:=e.hX
 have h2:=e.hD
 obtain ⟨a,b,p,q,u,v,_,_,_,_,_,_,_,_,_,_,_⟩:=e
 simp only at h1 h2 ⊢
 rw [h1,h2]
 simp only [Int.mul_add,Int.add_mul,Int.sub_mul,Int.mul_sub]
 have r1 : p * u * b = u * (p * b):=by ac_rfl
 have r2 : p * u * (q * k) = p * k * (q * u):=by ac_rfl
 have r3 : a * v * (q * k) = k * v * (a * q):=by ac_rfl
 have r4 : p * k * (b * v) = k * v * (p * b):=by ac_rfl
 have r5 : a * v * b = a * (b * v):=by ac_rfl
 have r6 : a * (q * u) = u * (a * q):=by ac_rfl
 rw [r1,r2,r3,r4,r5,r6]
 omega
theorem Nr.cross0 (e : Nr X D m) : X * e.q - e.p * D = -(e.v * (e.p * e.b - e.a * e.q)):=by
 have h1:=e.cross 0
 have h2:=e.cross 1
 simp only [Int.mul_zero,Int.add_zero,Int.zero_mul,Int.sub_zero,Int.mul_one,Int.one_mul] at h1 h2
 rw [Int.mul_add,Int.add_mul,Int.sub_mul] at h2
 omega
theorem abs_one {s w : Int} (h : s = 1 ∨ s = -1) : (w * s).natAbs = w.natAbs:=by
 rcases h with rfl | rfl <;> simp
theorem Nr.bound {P Q w : Int} (hm : m < D) (hx : 1 ≤ X.natAbs) (hQ : 0 ≤ Q) (hQm : Q ≤ m) (h : (X * Q - P * D).natAbs = w.natAbs) (hw : w.natAbs ≤ D) : P.natAbs ≤ X.natAbs:=by
 have h1 : (P * D).natAbs ≤ (X * Q).natAbs + D:=by omega
 rw [Int.natAbs_mul,Int.natAbs_mul,Int.natAbs_natCast] at h1
 have h2 : X.natAbs * Q.natAbs ≤ X.natAbs * (D - 1):=Nat.mul_le_mul_left _ (by omega)
 have h3 : X.natAbs * (D - 1) + X.natAbs = X.natAbs * D:=by
  rw [← Nat.mul_succ]; congr 1; omega
 have h4 : P.natAbs * D < (X.natAbs + 1) * D:=by rw [Nat.add_mul,Nat.one_mul]; omega
 have:=Nat.lt_of_mul_lt_mul_right h4
 omega
theorem mul_le_two {a b c : Int} (h : a ≤ b) (hc : 0 ≤ c) : a * c ≤ b * c:=Int.mul_le_mul_of_nonneg_right h hc
theorem Nr.fits (e : Nr X D m) (hm : m < D) (hx : 1 ≤ X.natAbs) {k : Int} (hk : (e.q = 0 ∧ k = e.u.fdiv e.v) ∨ (0 ≤ k ∧ k ≤ e.u.fdiv e.v)) (hQ : e.b + e.q * k ≤ m) :
  0 ≤ e.b + e.q * k ∧ (e.a + e.p * k).natAbs ≤ X.natAbs ∧ (e.p * k).natAbs ≤ X.natAbs:=by
 obtain ⟨d1,d2,d3⟩:=e.quo
 have hv:=e.v0
 rcases e.one with ⟨z1,z2,z3,z4,z5⟩ | ⟨z1,z2,z3⟩
 ·-- the first step
  have hk : k = e.u.fdiv e.v ∨ (0 ≤ k ∧ k ≤ e.u.fdiv e.v):=by omega
  have ha : e.a = 0:=by
   have:=e.hX
   rw [z3,z4,z5,Int.one_mul] at this
   have h2 : e.a * (D : Int) = 0:=by omega
   rcases Int.mul_eq_zero.1 h2 with h | h
   ·exact h
   ·omega
  have hq : (e.u.fdiv e.v).natAbs ≤ X.natAbs:=by
   rw [z4] at d1 d2 d3 ⊢
   generalize X.fdiv e.v = f at *
   rcases Int.lt_or_ge' f 0 with hf | hf
   ·have h1 : f * e.v ≤ f * 1:=by
     have:=Int.mul_le_mul_of_nonpos_left (a:=f) (b:=e.v) (c:=1) (by omega) (by omega)
     exact this
    rcases Int.lt_or_ge' (f + 1) 0 with h2 | h2
    ·have h3 : (f + 1) * e.v ≤ (f + 1) * 1:=Int.mul_le_mul_of_nonpos_left (a:=f + 1) (b:=e.v) (c:=1) (by omega) (by omega)
     rw [Int.add_mul,Int.one_mul] at h3
     omega
    ·omega
   ·have h1 : f * 1 ≤ f * e.v:=Int.mul_le_mul_of_nonneg_left (by omega) hf
    omega
  have hkk : k.natAbs ≤ X.natAbs:=by omega
  rw [z1,z2,z3,ha,Int.zero_mul,Int.one_mul]
  omega
 ·have hk : 0 ≤ k ∧ k ≤ e.u.fdiv e.v:=by omega
  obtain ⟨k0,k1⟩:=hk
  have hb:=e.b0
  have hkv : k * e.v ≤ e.u:=by
   have:=mul_le_two k1 (show 0 ≤ e.v by omega)
   omega
  have hkv0 : 0 ≤ k * e.v:=Int.mul_nonneg k0 (by omega)
  have hqk : 0 ≤ e.q * k:=Int.mul_nonneg (by omega) k0
  have c:=e.cross k
  have c0:=e.cross0
  refine ⟨by omega,?_,?_⟩
  ·refine Nr.bound (w:=e.u - k * e.v) hm hx (by omega) hQ ?_ (by omega)
   rw [c,abs_one e.det]
  ·have e1 : X * (e.q * k) - e.p * k * D = -(k * e.v) * (e.p * e.b - e.a * e.q):=by
    have : X * (e.q * k) - e.p * k * D = (X * e.q - e.p * D) * k:=by
     rw [Int.sub_mul]
     have r1 : X * (e.q * k) = X * e.q * k:=by ac_rfl
     have r2 : e.p * k * (D : Int) = e.p * D * k:=by ac_rfl
     rw [r1,r2]
    rw [this,c0,Int.neg_mul,Int.neg_mul]
    congr 1
    ac_rfl
   refine Nr.bound (Q:=e.q * k) (w := -(k * e.v)) hm hx hqk (by omega) ?_ (by omega)
   rw [e1,abs_one e.det]
theorem Nr.next (e : Nr X D m) (h0 : 0 < m) (hm : m < D) (hg : Nat.gcd X.natAbs D = 1) (hQ : e.b + e.q * e.u.fdiv e.v ≤ m) :
  ∃ e' : Nr X D m,e'.a = e.p ∧ e'.b = e.q ∧ e'.p = e.a + e.p * e.u.fdiv e.v ∧ e'.q = e.b + e.q * e.u.fdiv e.v ∧ e'.u = e.v ∧ e'.v = e.u.fmod e.v ∧ e'.v < e.v:=by
 have hx:=Nr.x0 h0 hm hg
 obtain ⟨d1,d2,d3⟩:=e.quo
 have hv:=e.v0
 have hk : (e.q = 0 ∧ e.u.fdiv e.v = e.u.fdiv e.v) ∨ (0 ≤ e.u.fdiv e.v ∧ e.u.fdiv e.v ≤ e.u.fdiv e.v):=by
  rcases e.one with ⟨z1,_⟩ | ⟨z1,z2,z3⟩
  ·exact .inl ⟨z1,rfl⟩
  ·refine .inr ⟨?_,Int.le_refl _⟩
   exact Int.fdiv_nonneg (by omega) (by omega)
 obtain ⟨f1,f2,f3⟩:=e.fits hm hx hk hQ
 have hq1 : 1 ≤ e.b + e.q * e.u.fdiv e.v:=by
  rcases e.one with ⟨z1,z2,_⟩ | ⟨z1,z2,z3⟩
  ·rw [z1,z2,Int.zero_mul]; omega
  ·have : 1 ≤ e.u.fdiv e.v:=by
    rcases Int.lt_or_ge' (e.u.fdiv e.v) 1 with h | h
    ·have:=mul_le_two (show e.u.fdiv e.v ≤ 0 by omega) (show 0 ≤ e.v by omega)
     omega
    ·exact h
   have h2 : 1 * 1 ≤ e.q * e.u.fdiv e.v:=Int.mul_le_mul z1 this (by omega) (by omega)
   have:=e.b0
   omega
 generalize hf : e.u.fdiv e.v = f at *
 generalize hr : e.u.fmod e.v = r at *
 have hX : X = (e.a + e.p * f) * e.v + e.p * r:=by
  have:=e.hX
  rw [d1] at this
  refine this.trans ?_
  rw [Int.add_mul,Int.mul_add]
  have r1 : e.p * (f * e.v) = e.p * f * e.v:=by ac_rfl
  rw [r1]; omega
 have hD : (D : Int) = (e.b + e.q * f) * e.v + e.q * r:=by
  have:=e.hD
  rw [d1] at this
  refine this.trans ?_
  rw [Int.add_mul,Int.mul_add]
  have r1 : e.q * (f * e.v) = e.q * f * e.v:=by ac_rfl
  rw [r1]; omega
 have r0 : 0 < r:=by
  rcases Int.lt_or_ge' 0 r with h | h
  ·exact h
  ·exfalso
   have hr0 : r = 0:=by omega
   rw [hr0,Int.mul_zero,Int.add_zero] at hX hD
   have v1 : e.v.natAbs ∣ X.natAbs:=⟨(e.a + e.p * f).natAbs,by
    have:=congrArg Int.natAbs hX
    rw [Int.natAbs_mul] at this
    exact this.trans (Nat.mul_comm ..)⟩
   have v2 : e.v.natAbs ∣ D:=⟨(e.b + e.q * f).natAbs,by
    have:=congrArg Int.natAbs hD
    rw [Int.natAbs_natCast,Int.natAbs_mul] at this
    exact this.trans (Nat.mul_comm ..)⟩
   have:=Nat.dvd_gcd v1 v2
   rw [hg,Nat.dvd_one] at this
   have hv1 : e.v = 1:=by omega
   rw [hv1,Int.mul_one] at hD
   omega
 refine ⟨⟨e.p,e.q,e.a + e.p * f,e.b + e.q * f,e.v,r,hX,hD,?_,r0,by have:=e.vD; omega,.inr ⟨hv,e.vD⟩,e.q0,⟨f1,hQ⟩,e.pX,f2,.inr ⟨hq1,d3,e.vD⟩⟩,rfl,rfl,rfl,rfl,rfl,rfl,d3⟩
 have h1 : (e.a + e.p * f) * e.q - e.p * (e.b + e.q * f) = -(e.p * e.b - e.a * e.q):=by
  rw [Int.add_mul,Int.mul_add]
  have r1 : e.p * f * e.q = e.p * (e.q * f):=by ac_rfl
  rw [r1]; omega
 rw [h1]
 rcases e.det with h | h <;> rw [h] <;> simp
end
end Go.Proofs.NatL

namespace Go.Proofs.NatL
set_option linter.unusedSimpArgs false
set_option linter.unusedVariables false
section
variable {X : Int} {D m : Nat}
theorem Nr.full (e : Nr X D m) : 0 ≤ e.b + e.q * e.u.fdiv e.v ∧ (e.q * e.u.fdiv e.v).natAbs ≤ D ∧ e.b + e.q * e.u.fdiv e.v ≤ D:=by
 obtain ⟨d1,d2,d3⟩:=e.quo
 have hv:=e.v0
 have hb:=e.b0
 rcases e.one with ⟨z1,z2,z3,z4,z5⟩ | ⟨z1,z2,z3⟩
 ·rw [z1,Int.zero_mul,Int.add_zero,z2]
  exact ⟨by omega,by simp,by omega⟩
 ·have f0 : 0 ≤ e.u.fdiv e.v:=Int.fdiv_nonneg (by omega) (by omega)
  have h1 : 0 ≤ e.q * e.u.fdiv e.v:=Int.mul_nonneg (by omega) f0
  have hD:=e.hD
  have h2 : e.q * e.u.fdiv e.v ≤ e.q * e.u.fdiv e.v * e.v:=by
   have:=Int.mul_le_mul_of_nonneg_left (show 1 ≤ e.v by omega) h1
   omega
  have h3 : e.q * e.u.fdiv e.v * e.v ≤ e.q * e.u:=by
   have h4 : e.u.fdiv e.v * e.v ≤ e.u:=by omega
   have:=Int.mul_le_mul_of_nonneg_left h4 (show 0 ≤ e.q by omega)
   rw [Int.mul_assoc]; exact this
  have h4 : e.b ≤ e.b * e.v:=by
   have:=Int.mul_le_mul_of_nonneg_left (show 1 ≤ e.v by omega) hb.1
   omega
  exact ⟨by omega,by omega,by omega⟩
end
end Go.Proofs.NatL
namespace Go.Proofs.YtgkajjifbcmoeaaGreatDoor
set_option linter.unusedSimpArgs false
set_option linter.unusedVariables false
open Go.Abs Go.Proofs.NatL

abbrev n4 : Option C ⊕ List (Option C):=.inr [none,some (.ints .u32 []),none,some (.ints .u32 [])]
end Go.Proofs.YtgkajjifbcmoeaaGreatDoor

namespace Go.Proofs.NatL
set_option linter.unusedSimpArgs false
set_option linter.unusedVariables false
theorem rdN_len {B k : Nat} (hB : 2 ≤ B) (z : Int) {d : Nat} (hd : 0 < d) (h : (dg B z.natAbs).length ≤ k) : (dg B (rdN z d).natAbs).length ≤ k:=by
 rw [rdN_abs z hd]
 exact Nat.le_trans (dg_len_mono hB (Nat.div_le_self _ _)) h
theorem rdD_len {B k : Nat} (hB : 2 ≤ B) (z : Int) {d : Nat} (h : (dg B d).length ≤ k) : (dg B (rdD z d)).length ≤ k :=
 Nat.le_trans (dg_len_mono hB (Nat.div_le_self _ _)) h
end Go.Proofs.NatL
namespace Go.Proofs.YtgkajjifbcmoeaaGreatDoor
set_option linter.unusedSimpArgs false
set_option linter.unusedVariables false
open Go.Abs Go.Proofs.NatL

end Go.Proofs.YtgkajjifbcmoeaaGreatDoor
