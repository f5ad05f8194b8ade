import Derived.Test.YtgkajjifbcmoeaaGreatDoorM84
import Derived.Test.YtgkajjifbcmoeaaGreatDoorM85
namespace Go.Proofs.NatL
set_option linter.unusedSimpArgs false
set_option linter.unusedVariables false
def vle (n d : Nat) (e : Int) (n' d' : Nat) (e' : Int) : Prop:=∃ K : Nat,0 ≤ e + K ∧ 0 ≤ e' + K ∧ upN n e K * d' ≤ upN n' e' K * d
theorem up_add (n : Nat) {e : Int} {K : Nat} (j : Nat) (he : 0 ≤ e + K) : upN n e (K + j) = upN n e K * 10 ^ j:=by
 unfold upN
 rw [Nat.mul_assoc,← Nat.pow_add,show (e + (K + j : Nat)).toNat = (e + K).toNat + j by omega]
theorem vle_K {n d : Nat} {e : Int} {n' d' : Nat} {e' : Int} (h : vle n d e n' d' e') {K : Nat} (h1 : 0 ≤ e + K) (h2 : 0 ≤ e' + K) : upN n e K * d' ≤ upN n' e' K * d:=by
 obtain ⟨J,j1,j2,j3⟩:=h
 -- both at K + J
 have a1:=up_add n K j1
 have a2:=up_add n' K j2
 have b1:=up_add n J h1
 have b2:=up_add n' J h2
 rw [Nat.add_comm J K] at a1 a2
 have hm:=Nat.mul_le_mul_right (10 ^ K) j3
 have e1 : upN n e J * d' * 10 ^ K = upN n e K * d' * 10 ^ J:=by
  rw [Nat.mul_right_comm,← a1,b1,Nat.mul_right_comm]
 have e2 : upN n' e' J * d * 10 ^ K = upN n' e' K * d * 10 ^ J:=by
  rw [Nat.mul_right_comm,← a2,b2,Nat.mul_right_comm]
 rw [e1,e2] at hm
 exact Nat.le_of_mul_le_mul_right hm (ten_pos J)
theorem ex_K (a b x : Int) : ∃ K : Nat,0 ≤ a + K ∧ 0 ≤ b + K ∧ 0 ≤ x + K:=⟨a.natAbs + b.natAbs + x.natAbs,by omega,by omega,by omega⟩
theorem div_le_frac {N N' D D' T : Nat} (hD : 0 < D) (hD' : 0 < D') (h : N * D' ≤ N' * D) : N / (D * T) ≤ N' / (D' * T):=by
 rcases Nat.eq_zero_or_pos T with rfl | hT
 ·simp
 have h1 : N / (D * T) = (N * D') / (D * T * D'):=(Nat.mul_div_mul_right _ _ hD').symm
 have h2 : N' / (D' * T) = (N' * D) / (D' * T * D):=(Nat.mul_div_mul_right _ _ hD).symm
 rw [h1,h2,show D' * T * D = D * T * D' by ac_rfl]
 exact Nat.div_le_div_right h
theorem qE_le {n d : Nat} {e : Int} {n' d' : Nat} {e' : Int} (hd : 0 < d) (hd' : 0 < d') (h : vle n d e n' d' e') (x : Int) : qE n d e x ≤ qE n' d' e' x:=by
 obtain ⟨K,k1,k2,k3⟩:=ex_K e e' x
 rw [qE_up n d k1 k3,qE_up n' d' k2 k3]
 exact div_le_frac hd hd' (vle_K h k1 k2)
theorem q_iff {n d : Nat} (hd : 0 < d) (e x : Int) : 0 < qE n d e x ↔ ptD d e x ≤ ptN n e x:=by
 unfold qE
 constructor
 ·intro h
  rcases Nat.lt_or_ge (ptN n e x) (ptD d e x) with h1 | h1
  ·rw [Nat.div_eq_of_lt h1] at h; omega
  ·exact h1
 ·intro h; exact Nat.div_pos h (ptD_pos hd _ _)
theorem first_le {n d : Nat} {e : Int} {n' d' : Nat} {e' : Int} (hn : 0 < n) (hn' : 0 < n') (hd : 0 < d) (hd' : 0 < d') (h : vle n d e n' d' e') : firstE n d e ≤ firstE n' d' e':=by
 rcases int_lt_ge (firstE n' d' e') (firstE n d e) with hlt | hge
 ·have h1:=(q_iff hd e _).2 (first_is hn hd e).1
  have h2:=qE_le hd hd' h (firstE n d e)
  have h3:=(q_iff (n:=n') hd' e' (firstE n d e)).1 (by omega)
  have:=first_stop hn' hd' e' h3 (by omega)
  omega
 ·exact hge
theorem cmp3_le {a b a' b' : Nat} (hb : 0 < b) (hb' : 0 < b') (h : a * b' ≤ a' * b) : cmp3 a b ≤ cmp3 a' b':=by
 rw [← cmp3_mul a b hb',← cmp3_mul a' b' hb,Nat.mul_comm b b']
 generalize a * b' = x at *
 generalize a' * b = y at *
 unfold cmp3
 (repeat' split) <;> omega
theorem sE_le {n d : Nat} {e : Int} {n' d' : Nat} {e' : Int} (hd : 0 < d) (hd' : 0 < d') (h : vle n d e n' d' e') {x : Int} (hq : qE n d e x = qE n' d' e' x) :
  sE n d e x * ptD d' e' x ≤ sE n' d' e' x * ptD d e x:=by
 obtain ⟨K,k1,k2,k3⟩:=ex_K e e' x
 obtain ⟨i,a1,a2⟩:=pt_up n d k1 k3
 obtain ⟨j,b1,b2⟩:=pt_up n' d' k2 k3
 have hv:=vle_K h k1 k2
 have p1:=ptD_pos hd e x
 have p2:=ptD_pos hd' e' x
 have m1:=Nat.div_add_mod (ptN n e x) (ptD d e x)
 have m2:=Nat.div_add_mod (ptN n' e' x) (ptD d' e' x)
 unfold qE at hq
 unfold sE
 rw [hq] at m1
 rw [a1,b1] at hv
 generalize ptN n e x % ptD d e x = s at *
 generalize ptN n' e' x % ptD d' e' x = s' at *
 generalize ptN n' e' x / ptD d' e' x = q at *
 rw [← m1,← m2] at hv
 generalize ptD d e x = D at *
 generalize ptD d' e' x = D' at *
 clear a1 b1 hq m1 m2
 generalize hT : 10 ^ (x + (K : Int)).toNat = T at *
 have hT0 : 0 < T:=by rw [← hT]; exact ten_pos _
 -- (D q + s) 10^i d' <= (D' q + s') 10^j d,times T
 have hv2:=Nat.mul_le_mul_right T hv
 have r1 : (D * q + s) * 10 ^ i * d' * T = (D * q + s) * 10 ^ i * (D' * 10 ^ j):=by rw [← b2]; ac_rfl
 have r2 : (D' * q + s') * 10 ^ j * d * T = (D' * q + s') * 10 ^ j * (D * 10 ^ i):=by rw [← a2]; ac_rfl
 rw [r1,r2] at hv2
 have r3 : (D * q + s) * 10 ^ i * (D' * 10 ^ j) = ((D * q + s) * D') * (10 ^ i * 10 ^ j):=by ac_rfl
 have r4 : (D' * q + s') * 10 ^ j * (D * 10 ^ i) = ((D' * q + s') * D) * (10 ^ i * 10 ^ j):=by ac_rfl
 rw [r3,r4] at hv2
 have hv3:=Nat.le_of_mul_le_mul_right hv2 (Nat.mul_pos (ten_pos i) (ten_pos j))
 rw [Nat.add_mul,Nat.add_mul,show D * q * D' = D' * q * D by ac_rfl] at hv3
 omega
theorem away_mono {r : Int} (s odd : Bool) {h h' : Int} (hle : h ≤ h') (ha : awayB r s odd h = true) : awayB r s odd h' = true:=by
 unfold awayB at *
 by_cases h1 : r = 1
 ·rw [if_pos h1]
 rw [if_neg h1] at ha ⊢
 by_cases h2 : r = 2
 ·rw [if_pos h2] at ha ⊢; exact ha
 rw [if_neg h2] at ha ⊢
 by_cases h3 : r = 3
 ·rw [if_pos h3] at ha ⊢; exact ha
 rw [if_neg h3] at ha ⊢
 by_cases h4 : r = 4
 ·rw [if_pos h4] at ha ⊢
  simp only [decide_eq_true_eq] at ha ⊢; omega
 rw [if_neg h4] at ha ⊢
 by_cases h5 : r = 5
 ·rw [if_pos h5] at ha ⊢
  simp only [decide_eq_true_eq] at ha ⊢; omega
 rw [if_neg h5] at ha ⊢
 by_cases h6 : r = 6
 ·rw [if_pos h6] at ha ⊢
  simp only [decide_eq_true_eq,Bool.or_eq_true,Bool.and_eq_true] at ha ⊢
  rcases ha with ha | ⟨ha,ho⟩
  ·left; omega
  ·rcases int_lt_ge 0 h' with hp | hp
   ·left; exact hp
   ·right; exact ⟨by omega,ho⟩
 ·rw [if_neg h6] at ha; exact absurd ha (by decide)
theorem rdE_le {n d : Nat} {e : Int} {n' d' : Nat} {e' : Int} (s : Bool) (r : Int) (hd : 0 < d) (hd' : 0 < d') (h : vle n d e n' d' e') (x : Int) : rdE s n d e x r ≤ rdE s n' d' e' x r:=by
 have h1:=qE_le hd hd' h x
 rcases Nat.lt_or_ge (qE n d e x) (qE n' d' e' x) with hq | hq
 ·have:=rdE_ge s n' d' e' x r
  have : rdE s n d e x r ≤ qE n d e x + 1:=by unfold rdE; (repeat' split) <;> omega
  omega
 ·have he : qE n d e x = qE n' d' e' x:=by omega
  have hs:=sE_le hd hd' h he
  have p1:=ptD_pos hd e x
  have p2:=ptD_pos hd' e' x
  unfold rdE
  rw [he]
  by_cases h0 : sE n d e x = 0
  ·rw [if_pos h0]; (repeat' split) <;> omega
  ·have h0' : ¬ sE n' d' e' x = 0:=fun hz=>by
    rw [hz,Nat.zero_mul] at hs
    have:=Nat.mul_pos (Nat.pos_of_ne_zero h0) p2
    omega
   rw [if_neg h0,if_neg h0']
   have hc:=cmp3_le (a:=2 * sE n d e x) (a':=2 * sE n' d' e' x) p1 p2 (by rw [Nat.mul_assoc,Nat.mul_assoc]; omega)
   split
   ·rename_i ha
    rw [if_pos (away_mono s _ hc ha)]; omega
   ·split <;> omega
end Go.Proofs.NatL

namespace Go.Proofs.NatL
set_option linter.unusedSimpArgs false
set_option linter.unusedVariables false
theorem q_ge {n d : Nat} (hn : 0 < n) (hd : 0 < d) {e : Int} (k : Nat) : 10 ^ k ≤ qE n d e (firstE n d e - k):=by
 obtain ⟨K,k1,k2,k3⟩:=ex_K e (firstE n d e) (firstE n d e - k)
 have h:=(q_iff hd e _).2 (first_is hn hd e).1
 rw [qE_up n d k1 k2] at h
 rw [qE_up n d k1 k3]
 have hp : 0 < d * 10 ^ (firstE n d e - k + K).toNat:=Nat.mul_pos hd (ten_pos _)
 rw [Nat.le_div_iff_mul_le hp]
 have h1 : d * 10 ^ (firstE n d e + K).toNat ≤ upN n e K:=by
  rcases Nat.lt_or_ge (upN n e K) (d * 10 ^ (firstE n d e + K).toNat) with h2 | h2
  ·rw [Nat.div_eq_of_lt h2] at h; omega
  ·exact h2
 refine Nat.le_trans (Nat.le_of_eq ?_) h1
 rw [Nat.mul_left_comm,← Nat.pow_add,show k + (firstE n d e - k + K).toNat = (firstE n d e + K).toNat by omega]
theorem rd_mono {s : Bool} {n d : Nat} {e : Int} {n' d' : Nat} {e' : Int} {p r mn : Int} (hn : 0 < n) (hn' : 0 < n') (hd : 0 < d) (hd' : 0 < d') (hp : 1 ≤ p) (h : vle n d e n' d' e') {K : Nat} (hK : 0 ≤ tinyE p mn + K) :
  rdE s n d e (fitEx n d e p mn) r * 10 ^ (fitEx n d e p mn + K).toNat ≤ rdE s n' d' e' (fitEx n' d' e' p mn) r * 10 ^ (fitEx n' d' e' p mn + K).toNat:=by
 have hf:=first_le hn hn' hd hd' h
 have hx : fitEx n d e p mn ≤ fitEx n' d' e' p mn:=by unfold fitEx; omega
 have ht : tinyE p mn ≤ fitEx n d e p mn:=by unfold fitEx; omega
 rcases Int.lt_or_eq_of_le hx with hlt | heq
 ·have e1 : fitEx n' d' e' p mn = firstE n' d' e' - ((p.toNat - 1 : Nat) : Int):=by unfold fitEx at hlt ⊢; omega
  have h1:=fit_round_le (neg:=s) (r:=r) (mn:=mn) hn hd (exp:=e) hp
  have h2:=q_ge hn' hd' (e:=e') (p.toNat - 1)
  rw [← e1] at h2
  have h3:=rdE_ge s n' d' e' (fitEx n' d' e' p mn) r
  refine Nat.le_trans (Nat.mul_le_mul_right _ h1) (Nat.le_trans ?_ (Nat.mul_le_mul_right _ (Nat.le_trans h2 h3)))
  rw [← Nat.pow_add,← Nat.pow_add]
  exact pow_mono (by omega)
 ·rw [← heq]
  exact Nat.mul_le_mul_right _ (rdE_le s r hd hd' h _)
def fitR (s : Bool) (D : Dc) (p mn mx : Int) : Prop:=D.neg = s ∧ ((D.kind = 1 ∧ D.coef = 0 ∧ D.exp = 0) ∨ (D.kind = 0 ∧ (ds D.coef : Int) ≤ p ∧ tinyE p mn ≤ D.exp ∧ ¬ (0 < D.coef ∧ mx < (ds D.coef : Int) - 1 + D.exp) ∧ (D.coef = 0 → D.exp ≤ mx)))
theorem ce_zero' {s : Bool} {n d : Nat} {e i p r mn : Int} (hn : 0 < n) (hd : 0 < d) (hp : 1 ≤ p) (h : (fitCE s n d e i p r mn).1 = 0) : (fitCE s n d e i p r mn).2 = tinyE p mn:=by
 have hx : tinyE p mn ≤ fitEx n d e p mn:=by unfold fitEx; omega
 obtain ⟨K,hK⟩ : ∃ K : Nat,0 ≤ tinyE p mn + K:=⟨(tinyE p mn).natAbs,by omega⟩
 have hv:=ce_val (s:=s) (i:=i) (r:=r) hn hd (e:=e) hp hK
 rw [h,Nat.zero_mul] at hv
 have hR : rdE s n d e (fitEx n d e p mn) r = 0:=by
  rcases Nat.mul_eq_zero.1 hv.symm with h1 | h1
  ·exact h1
  ·have:=ten_pos (fitEx n d e p mn + (K : Int)).toNat; omega
 have hq:=rdE_ge s n d e (fitEx n d e p mn) r
 have hex : fitEx n d e p mn = tinyE p mn:=by
  by_cases h1 : firstE n d e - p + 1 ≤ tinyE p mn
  ·unfold fitEx; omega
  ·have:=q_pos hn hd (exp:=e) (x:=fitEx n d e p mn) (by unfold fitEx; omega)
   omega
 have hq0 : qE n d e (fitEx n d e p mn) = 0:=by omega
 have hnz : ¬ sE n d e (fitEx n d e p mn) = 0:=fun hs=>by
  have hm:=Nat.div_add_mod (ptN n e (fitEx n d e p mn)) (ptD d e (fitEx n d e p mn))
  unfold qE at hq0
  unfold sE at hs
  rw [hs,hq0] at hm
  have:=ptN_ge n e (fitEx n d e p mn)
  omega
 by_cases hl : p < (ds (rdE s n d e (fitEx n d e p mn) r) : Int)
 ·rw [hR,ds_zero] at hl; omega
 ·rw [ce_short hnz hl]; exact hex
theorem fit_is (s : Bool) {n d : Nat} (e i : Int) (r : Int) (hd : 0 < d) {p mn mx : Int} (hp : 1 ≤ p) (hmn : mn ≤ 0) (hmx : 0 ≤ mx) : fitR s (fitD s n d e i p r mn mx) p mn mx:=by
 have ht : tinyE p mn = mn - p + 1:=rfl
 rcases Nat.eq_zero_or_pos n with h0 | hn
 ·rw [(fit_zero s d e i p r mn mx h0).1]
  refine ⟨rfl,.inr ⟨rfl,by simp only [ds_zero]; omega,by simp only; omega,by simp only; omega,fun _=>by simp only; omega⟩⟩
 ·have hz:=ce_zero' (s:=s) (i:=i) (r:=r) (e:=e) (mn:=mn) hn hd hp
  have hw:=ce_low (neg:=s) (num:=n) (den:=d) (exp:=e) (ideal:=i) (p:=p) (r:=r) (mn:=mn)
  have hl:=ce_len (neg:=s) (num:=n) (den:=d) (exp:=e) (ideal:=i) (p:=p) (r:=r) (mn:=mn) hn hd hp
  generalize hCE : fitCE s n d e i p r mn = CE at *
  obtain ⟨x,y⟩:=CE
  simp only at hz hw hl
  by_cases ho : 0 < x ∧ mx < (ds x : Int) - 1 + y
  ·rw [(fit_over hn hCE ho).1]
   unfold ovf
   split
   ·exact ⟨rfl,.inl ⟨rfl,rfl,rfl⟩⟩
   ·have h1 : ds (10 ^ p.toNat - 1) ≤ p.toNat:=ds_le (by have:=ten_pos p.toNat; omega)
    have h2 : 1 < 10 ^ p.toNat:=Nat.lt_of_lt_of_le (by omega : 1 < 10 ^ 1) (pow_mono (by omega))
    refine ⟨rfl,.inr ⟨rfl,by simp only; omega,by simp only; omega,by simp only; omega,fun h=>?_⟩⟩
    simp only at h; omega
  ·rw [(fit_fine hn hCE ho).1]
   exact ⟨rfl,.inr ⟨rfl,by simp only; omega,hw,ho,fun h=>by have:=hz h; simp only at h ⊢; omega⟩⟩
theorem mg_top {c : Nat} {e p mn mx : Int} {K : Nat} (hl : (ds c : Int) ≤ p) (hp : 1 ≤ p) (hw : tinyE p mn ≤ e) (hmm : mn ≤ mx) (hK : 0 ≤ tinyE p mn + K) (ho : ¬ (0 < c ∧ mx < (ds c : Int) - 1 + e)) : c * 10 ^ (e + K).toNat ≤ (10 ^ p.toNat - 1) * 10 ^ (mx - p + 1 + K).toNat:=by
 have ht : tinyE p mn = mn - p + 1:=rfl
 have hc : c < 10 ^ p.toNat:=Nat.lt_of_lt_of_le (ds_lt c) (pow_mono (by omega))
 rcases int_lt_ge (mx - p + 1) e with h | h
 ·rw [over_iff (K:=K) (by omega) (by omega)] at ho
  have e1 : (e + (K : Int)).toNat = (e - (mx - p + 1)).toNat + (mx - p + 1 + K).toNat:=by omega
  have e2 : (mx + 1 + (K : Int)).toNat = p.toNat + (mx - p + 1 + K).toNat:=by omega
  rw [e1,e2,Nat.pow_add,Nat.pow_add,← Nat.mul_assoc] at ho
  rw [e1,Nat.pow_add,← Nat.mul_assoc]
  refine Nat.mul_le_mul_right _ ?_
  rcases Nat.lt_or_ge (c * 10 ^ (e - (mx - p + 1)).toNat) (10 ^ p.toNat) with h1 | h1
  ·omega
  ·exact absurd (Nat.mul_le_mul_right _ h1) ho
 ·exact Nat.mul_le_mul (by omega) (pow_mono (by omega))
theorem fit_mono {s : Bool} {n d : Nat} {e i : Int} {n' d' : Nat} {e' i' : Int} {p r mn mx : Int} (hd : 0 < d) (hd' : 0 < d') (hp : 1 ≤ p) (hmn : mn ≤ 0) (hmx : 0 ≤ mx) (h : vle n d e n' d' e') {K : Nat} (hK : 0 ≤ tinyE p mn + K) :
  (fitD s n' d' e' i' p r mn mx).kind = 1 ∨ ((fitD s n d e i p r mn mx).kind = 0 ∧ (fitD s n' d' e' i' p r mn mx).kind = 0 ∧ mgK (fitD s n d e i p r mn mx) K ≤ mgK (fitD s n' d' e' i' p r mn mx) K):=by
 have ht : tinyE p mn = mn - p + 1:=rfl
 rcases Nat.eq_zero_or_pos n with h0 | hn
 ·rw [(fit_zero s d e i p r mn mx h0).1]
  obtain ⟨_,h2 | h2⟩:=fit_is s (n:=n') e' i' r hd' hp hmn hmx
  ·exact .inl h2.1
  ·exact .inr ⟨rfl,h2.1,by unfold mgK; simp⟩
 have hn' : 0 < n':=by
  obtain ⟨J,j1,j2,j3⟩:=h
  rcases Nat.eq_zero_or_pos n' with rfl | h1
  ·unfold upN at j3
   rw [Nat.zero_mul,Nat.zero_mul] at j3
   have:=Nat.mul_pos (Nat.mul_pos hn (ten_pos (e + (J : Int)).toNat)) hd'
   omega
  ·exact h1
 have hm:=rd_mono (s:=s) (r:=r) (mn:=mn) hn hn' hd hd' hp h hK
 have v1:=ce_val (s:=s) (i:=i) (r:=r) hn hd (e:=e) hp hK
 have v2:=ce_val (s:=s) (i:=i') (r:=r) hn' hd' (e:=e') hp hK
 rw [← v1,← v2] at hm
 have w1:=ce_low (neg:=s) (num:=n) (den:=d) (exp:=e) (ideal:=i) (p:=p) (r:=r) (mn:=mn)
 have w2:=ce_low (neg:=s) (num:=n') (den:=d') (exp:=e') (ideal:=i') (p:=p) (r:=r) (mn:=mn)
 have l1:=ce_len (neg:=s) (num:=n) (den:=d) (exp:=e) (ideal:=i) (p:=p) (r:=r) (mn:=mn) hn hd hp
 clear v1 v2
 generalize hCE : fitCE s n d e i p r mn = CE at *
 generalize hCE' : fitCE s n' d' e' i' p r mn = CE' at *
 obtain ⟨x,y⟩:=CE
 obtain ⟨x',y'⟩:=CE'
 simp only at hm w1 w2 l1
 by_cases ho' : 0 < x' ∧ mx < (ds x' : Int) - 1 + y'
 ·rw [(fit_over hn' hCE' ho').1]
  by_cases ho : 0 < x ∧ mx < (ds x : Int) - 1 + y
  ·rw [(fit_over hn hCE ho).1]
   unfold ovf
   split
   ·exact .inl rfl
   ·exact .inr ⟨rfl,rfl,Nat.le_refl _⟩
  ·rw [(fit_fine hn hCE ho).1]
   unfold ovf
   split
   ·exact .inl rfl
   ·exact .inr ⟨rfl,rfl,mg_top (c:=x) (e:=y) (by omega) hp w1 (by omega) hK ho⟩
 ·have ho : ¬ (0 < x ∧ mx < (ds x : Int) - 1 + y):=fun h1=>by
   rw [over_iff (K:=K) (by omega) (by omega)] at ho' h1
   exact ho' (Nat.le_trans h1 hm)
  rw [(fit_fine hn hCE ho).1,(fit_fine hn' hCE' ho').1]
  exact .inr ⟨rfl,rfl,hm⟩
end Go.Proofs.NatL
