import Derived.Test.YtgkajjifbcmoeaaGreatDoorM50
import Derived.Test.YtgkajjifbcmoeaaGreatDoorM86
import Derived.Test.YtgkajjifbcmoeaaGreatDoorM87
namespace Go.Proofs.NatL
set_option linter.unusedSimpArgs false
set_option linter.unusedVariables false
theorem vle_mg {m n : Nat} {e f : Int} {K : Nat} (h1 : 0 ≤ e + K) (h2 : 0 ≤ f + K) (h : m * 10 ^ (e + (K : Int)).toNat ≤ n * 10 ^ (f + (K : Int)).toNat) : vle m 1 e n 1 f:=⟨K,h1,h2,by unfold upN; omega⟩
theorem tiny_K {c : Cx} (hc : OkC c) {K : Nat} (hK : 1200 ≤ K) : 0 ≤ tinyE c.p c.mn + K:=by
 obtain ⟨c1,c2,c3,c4,c5,c6,c7,c8⟩:=hc
 unfold tinyE; omega
theorem rnd_fin {A : Dc} (h : A.kind = 0) (c : Cx) : rndD A c = fitD A.neg A.coef 1 A.exp A.exp c.p c.r c.mn c.mx:=if_neg (by omega)
theorem rnd_inf {A : Dc} (h : A.kind ≠ 0) (c : Cx) : rndD A c = A:=if_pos h
theorem rnd_mono {A B : Dc} {c : Cx} (hA : OkD A) (hB : OkD B) (hc : OkC c) (ka : A.kind ≠ 2) (kb : B.kind ≠ 2) {K : Nat} (hK : 1200 ≤ K) (h : xv A K ≤ xv B K) : xv (rndD A c) K ≤ xv (rndD B c) K:=by
 have qa:=OkD_kind hA
 have qb:=OkD_kind hB
 have hA':=rnd_ok hA hc
 have hB':=rnd_ok hB hc
 obtain ⟨a1,a2,a3⟩:=okd_exp hA
 obtain ⟨b1,b2,b3⟩:=okd_exp hB
 have ht:=tiny_K hc hK
 obtain ⟨c1,c2,c3,c4,c5,c6,c7,c8⟩:=hc
 have hp:=ten_pos (1320 + K)
 have fa:=fit_is A.neg (n:=A.coef) A.exp A.exp c.r (d:=1) (by omega) c1 c6 c7
 have fb:=fit_is B.neg (n:=B.coef) B.exp B.exp c.r (d:=1) (by omega) c1 c6 c7
 rcases qa with ha | ha | ha
 ·rw [← rnd_fin ha c] at fa
  rcases qb with hb | hb | hb
  ·rw [← rnd_fin hb c] at fb
   obtain ⟨fa1,fa2⟩:=fa
   obtain ⟨fb1,fb2⟩:=fb
   unfold xv at h ⊢
   rw [if_neg (by omega),if_neg (by omega)] at h
   rw [fa1,fb1]
   have up : A.neg = B.neg → mgK A K ≤ mgK B K → (rndD B c).kind = 1 ∨ ((rndD A c).kind = 0 ∧ (rndD B c).kind = 0 ∧ mgK (rndD A c) K ≤ mgK (rndD B c) K):=fun hs hle=>by
    rw [rnd_fin ha,rnd_fin hb,← hs]
    exact fit_mono (by omega) (by omega) c1 c6 c7 (vle_mg (by omega) (by omega) hle) ht
   have dn : A.neg = B.neg → mgK B K ≤ mgK A K → (rndD A c).kind = 1 ∨ ((rndD B c).kind = 0 ∧ (rndD A c).kind = 0 ∧ mgK (rndD B c) K ≤ mgK (rndD A c) K):=fun hs hle=>by
    rw [rnd_fin ha,rnd_fin hb,← hs]
    exact fit_mono (by omega) (by omega) c1 c6 c7 (vle_mg (by omega) (by omega) hle) ht
   have za : mgK A K = 0 → (rndD A c).kind = 0 ∧ mgK (rndD A c) K = 0:=fun hz=>by
    have h0 : A.coef = 0:=by
     rcases Nat.mul_eq_zero.1 hz with h1 | h1
     ·exact h1
     ·have:=ten_pos (A.exp + (K : Int)).toNat; omega
    rw [rnd_fin ha,(fit_zero A.neg 1 A.exp A.exp c.p c.r c.mn c.mx h0).1]
    exact ⟨rfl,by unfold mgK; simp⟩
   have zb : mgK B K = 0 → (rndD B c).kind = 0 ∧ mgK (rndD B c) K = 0:=fun hz=>by
    have h0 : B.coef = 0:=by
     rcases Nat.mul_eq_zero.1 hz with h1 | h1
     ·exact h1
     ·have:=ten_pos (B.exp + (K : Int)).toNat; omega
    rw [rnd_fin hb,(fit_zero B.neg 1 B.exp B.exp c.p c.r c.mn c.mx h0).1]
    exact ⟨rfl,by unfold mgK; simp⟩
   have la : (rndD A c).kind = 0 → mgK (rndD A c) K < 10 ^ (1320 + K):=fun h0=>mg_lt hA' h0 hK
   have lb : (rndD B c).kind = 0 → mgK (rndD B c) K < 10 ^ (1320 + K):=fun h0=>mg_lt hB' h0 hK
   have ka' : (rndD A c).kind = 0 ∨ (rndD A c).kind = 1:=by omega
   have kb' : (rndD B c).kind = 0 ∨ (rndD B c).kind = 1:=by omega
   clear fa1 fa2 fb1 fb2
   generalize rndD A c = X at *
   generalize rndD B c = Y at *
   generalize mgK X K = x at *
   generalize mgK Y K = y at *
   generalize mgK A K = u at *
   generalize mgK B K = v at *
   generalize 10 ^ (1320 + K) = T at *
   cases hs : A.neg <;> cases ht : B.neg <;> rw [hs,ht] at h up dn <;> simp only [sgf,sgt,true_implies,reduceCtorEq,false_implies] at h up dn ⊢
   ·have:=up (by omega); split <;> split <;> omega
   ·have:=za (by omega); have:=zb (by omega); split <;> split <;> omega
   ·split <;> split <;> omega
   ·have:=dn (by omega); split <;> split <;> omega
  ·rw [rnd_inf (A:=B) (by omega) c]
   have la : (rndD A c).kind = 0 → mgK (rndD A c) K < 10 ^ (1320 + K):=fun h0=>mg_lt hA' h0 hK
   have ma:=mg_lt hA ha hK
   have ka' : (rndD A c).kind = 0 ∨ (rndD A c).kind = 1:=by obtain ⟨_,f | f⟩:=fa <;> omega
   have fa1:=fa.1
   rw [xv0 ha,xv1 hb] at h
   rw [xv1 hb]
   unfold xv
   rw [fa1]
   generalize rndD A c = X at *
   generalize mgK X K = x at *
   generalize mgK A K = u at *
   generalize 10 ^ (1320 + K) = T at *
   cases hs : A.neg <;> cases ht : B.neg <;> rw [hs,ht] at h <;> simp only [sgf,sgt] at h ⊢ <;> split <;> omega
  ·omega
 ·rw [rnd_inf (A:=A) (by omega) c]
  rcases qb with hb | hb | hb
  ·rw [← rnd_fin hb c] at fb
   have lb : (rndD B c).kind = 0 → mgK (rndD B c) K < 10 ^ (1320 + K):=fun h0=>mg_lt hB' h0 hK
   have mb:=mg_lt hB hb hK
   have kb' : (rndD B c).kind = 0 ∨ (rndD B c).kind = 1:=by obtain ⟨_,f | f⟩:=fb <;> omega
   have fb1:=fb.1
   rw [xv1 ha,xv0 hb] at h
   rw [xv1 ha]
   unfold xv
   rw [fb1]
   generalize rndD B c = X at *
   generalize mgK X K = x at *
   generalize mgK B K = u at *
   generalize 10 ^ (1320 + K) = T at *
   cases hs : A.neg <;> cases ht : B.neg <;> rw [hs,ht] at h <;> simp only [sgf,sgt] at h ⊢ <;> split <;> omega
  ·rw [rnd_inf (A:=B) (by omega) c]; exact h
  ·omega
 ·omega
theorem rnd_twice {A : Dc} {c : Cx} (hA : OkD A) (hc : OkC c) : rndD (rndD A c) c = rndD A c ∧ (rndS (rndD A c) c = 0 ∨ rndS (rndD A c) c = 2):=by
 obtain ⟨c1,c2,c3,c4,c5,c6,c7,c8⟩:=hc
 by_cases ha : A.kind = 0
 ·have fa:=fit_is A.neg (n:=A.coef) A.exp A.exp c.r (d:=1) (by omega) c1 c6 c7
  rw [← rnd_fin ha c] at fa
  generalize rndD A c = X at *
  obtain ⟨k,s,m,e⟩:=X
  obtain ⟨f1,f2⟩:=fa
  simp only at f1 f2
  rcases f2 with ⟨g1,g2,g3⟩ | ⟨g1,g2,g3,g4,g5⟩
  ·subst g1
   unfold rndD rndS
   rw [if_pos (by simp),if_pos (by simp)]
   exact ⟨rfl,.inl rfl⟩
  ·subst g1
   obtain ⟨h1,h2⟩:=fit_self (s:=s) (r:=c.r) g2 g3 g4 g5
   unfold rndD rndS
   simp only [ne_eq,not_true_eq_false,if_false]
   exact ⟨h1,h2⟩
 ·rw [rnd_inf ha c,rnd_inf ha c]
  unfold rndS
  rw [if_pos ha]
  exact ⟨rfl,.inl rfl⟩
end Go.Proofs.NatL
