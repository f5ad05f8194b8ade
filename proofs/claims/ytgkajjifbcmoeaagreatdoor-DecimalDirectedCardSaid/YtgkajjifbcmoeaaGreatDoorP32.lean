import Derived.Test.YtgkajjifbcmoeaaGreatDoorP18
import Derived.Test.YtgkajjifbcmoeaaGreatDoorP21
import Derived.Test.YtgkajjifbcmoeaaGreatDoorP23
namespace Go.Proofs.NatL
set_option linter.unusedSimpArgs false
set_option linter.unusedVariables false
def upN (n : Nat) (e : Int) (K : Nat) : Nat:=n * 10 ^ (e + K).toNat
theorem pt_up (n d : Nat) {e x : Int} {K : Nat} (he : 0 ≤ e + K) (hx : 0 ≤ x + K) : ∃ k : Nat,upN n e K = ptN n e x * 10 ^ k ∧ d * 10 ^ (x + K).toNat = ptD d e x * 10 ^ k:=by
 unfold upN ptN ptD
 by_cases h : x ≤ e
 ·refine ⟨(x + K).toNat,?_,?_⟩
  ·rw [if_pos h,Nat.mul_assoc,← Nat.pow_add,show (e - x).toNat + (x + K).toNat = (e + K).toNat by omega]
  ·rw [if_pos h]
 ·refine ⟨(e + K).toNat,?_,?_⟩
  ·rw [if_neg h]
  ·rw [if_neg h,Nat.mul_assoc,← Nat.pow_add,show (x - e).toNat + (e + K).toNat = (x + K).toNat by omega]
theorem ten_pos (k : Nat) : 0 < 10 ^ k:=Nat.pow_pos (by omega)
end Go.Proofs.NatL

namespace Go.Proofs.NatL
set_option linter.unusedSimpArgs false
set_option linter.unusedVariables false
theorem twd_val (K : Nat) : ∀ (k c : Nat) (e : Int),0 ≤ e + K → (twd k c e).1 * 10 ^ ((twd k c e).2 + K).toNat = c * 10 ^ (e + K).toNat
 | 0,c,e,_=>rfl
 | k + 1,c,e,h=>by
  unfold twd
  split
  ·rename_i h0
   rw [twd_val K k (c / 10) (e + 1) (by omega),show (e + 1 + (K : Int)).toNat = (e + K).toNat + 1 by omega,Nat.pow_succ]
   have : c = c / 10 * 10:=by omega
   generalize 10 ^ (e + (K : Int)).toNat = T at *
   generalize c / 10 = b at *
   subst this; ac_rfl
  ·rfl
theorem ce_val {s : Bool} {n d : Nat} {e i p r mn : Int} (hn : 0 < n) (hd : 0 < d) (hp : 1 ≤ p) {K : Nat} (hK : 0 ≤ tinyE p mn + K) :
  (fitCE s n d e i p r mn).1 * 10 ^ ((fitCE s n d e i p r mn).2 + K).toNat = rdE s n d e (fitEx n d e p mn) r * 10 ^ (fitEx n d e p mn + K).toNat:=by
 have hx : tinyE p mn ≤ fitEx n d e p mn:=by unfold fitEx; omega
 by_cases hs : sE n d e (fitEx n d e p mn) = 0
 ·rw [ce_exact hs,twd_val K _ _ _ (by omega)]
 ·have hle:=fit_round_le (neg:=s) (r:=r) (mn:=mn) hn hd (exp:=e) hp
  by_cases hl : p < (ds (rdE s n d e (fitEx n d e p mn) r) : Int)
  ·rw [ce_long hs hl]
   have hge:=ds_ge (n:=rdE s n d e (fitEx n d e p mn) r) (k:=p.toNat) (by omega)
   have hR : rdE s n d e (fitEx n d e p mn) r = 10 ^ p.toNat:=by omega
   rw [hR]
   simp only
   rw [show (fitEx n d e p mn + 1 + (K : Int)).toNat = (fitEx n d e p mn + K).toNat + 1 by omega,show p.toNat = (p.toNat - 1) + 1 by omega,Nat.pow_succ,Nat.mul_div_cancel _ (by omega),Nat.pow_succ]
   ac_rfl
  ·rw [ce_short hs hl]
theorem pow_mono {a b : Nat} (h : a ≤ b) : 10 ^ a ≤ 10 ^ b:=Nat.pow_le_pow_right (by omega) h
def mgK (D : Dc) (K : Nat) : Nat:=D.coef * 10 ^ (D.exp + K).toNat
theorem over_iff {c : Nat} {e mx : Int} {K : Nat} (he : 0 ≤ e + K) (hm : 0 ≤ mx + 1 + K) : (0 < c ∧ mx < (ds c : Int) - 1 + e) ↔ 10 ^ (mx + 1 + K).toNat ≤ c * 10 ^ (e + K).toNat:=by
 constructor
 ·rintro ⟨h0,h⟩
  have h1:=ds_top h0
  have h2:=ds_pos.2 h0
  refine Nat.le_trans ?_ (Nat.mul_le_mul_right _ h1)
  rw [← Nat.pow_add]; exact pow_mono (by omega)
 ·intro h
  have h0 : 0 < c:=by
   rcases Nat.eq_zero_or_pos c with rfl | h0
   ·rw [Nat.zero_mul] at h; have:=ten_pos (mx + 1 + (K : Int)).toNat; omega
   ·exact h0
  refine ⟨h0,?_⟩
  rcases int_lt_ge mx ((ds c : Int) - 1 + e) with h1 | h1
  ·exact h1
  ·exfalso
   have h2:=ds_lt c
   have h3 : c * 10 ^ (e + (K : Int)).toNat < 10 ^ ds c * 10 ^ (e + (K : Int)).toNat:=Nat.mul_lt_mul_of_pos_right h2 (ten_pos _)
   rw [← Nat.pow_add] at h3
   have:=pow_mono (a:=ds c + (e + (K : Int)).toNat) (b:=(mx + 1 + (K : Int)).toNat) (by have:=ds_pos.2 h0; omega)
   omega
def fitR (s : Bool) (D : Dc) (p mn mx : Int) : Prop:=D.neg = s ∧ ((D.kind = 1 ∧ D.coef = 0 ∧ D.exp = 0) ∨ (D.kind = 0 ∧ (ds D.coef : Int) ≤ p ∧ tinyE p mn ≤ D.exp ∧ ¬ (0 < D.coef ∧ mx < (ds D.coef : Int) - 1 + D.exp) ∧ (D.coef = 0 → D.exp ≤ mx)))
theorem ce_zero' {s : Bool} {n d : Nat} {e i p r mn : Int} (hn : 0 < n) (hd : 0 < d) (hp : 1 ≤ p) (h : (fitCE s n d e i p r mn).1 = 0) : (fitCE s n d e i p r mn).2 = tinyE p mn:=by
 have hx : tinyE p mn ≤ fitEx n d e p mn:=by unfold fitEx; omega
 obtain ⟨K,hK⟩ : ∃ K : Nat,0 ≤ tinyE p mn + K:=⟨(tinyE p mn).natAbs,by omega⟩
 have hv:=ce_val (s:=s) (i:=i) (r:=r) hn hd (e:=e) hp hK
 rw [h,Nat.zero_mul] at hv
 have hR : rdE s n d e (fitEx n d e p mn) r = 0:=by
  rcases Nat.mul_eq_zero.1 hv.symm with h1 | h1
  ·exact h1
  ·have:=ten_pos (fitEx n d e p mn + (K : Int)).toNat; omega
 have hq:=rdE_ge s n d e (fitEx n d e p mn) r
 have hex : fitEx n d e p mn = tinyE p mn:=by
  by_cases h1 : firstE n d e - p + 1 ≤ tinyE p mn
  ·unfold fitEx; omega
  ·have:=q_pos hn hd (exp:=e) (x:=fitEx n d e p mn) (by unfold fitEx; omega)
   omega
 have hq0 : qE n d e (fitEx n d e p mn) = 0:=by omega
 have hnz : ¬ sE n d e (fitEx n d e p mn) = 0:=fun hs=>by
  have hm:=Nat.div_add_mod (ptN n e (fitEx n d e p mn)) (ptD d e (fitEx n d e p mn))
  unfold qE at hq0
  unfold sE at hs
  rw [hs,hq0] at hm
  have:=ptN_ge n e (fitEx n d e p mn)
  omega
 by_cases hl : p < (ds (rdE s n d e (fitEx n d e p mn) r) : Int)
 ·rw [hR,ds_zero] at hl; omega
 ·rw [ce_short hnz hl]; exact hex
theorem fit_is (s : Bool) {n d : Nat} (e i : Int) (r : Int) (hd : 0 < d) {p mn mx : Int} (hp : 1 ≤ p) (hmn : mn ≤ 0) (hmx : 0 ≤ mx) : fitR s (fitD s n d e i p r mn mx) p mn mx:=by
 have ht : tinyE p mn = mn - p + 1:=rfl
 rcases Nat.eq_zero_or_pos n with h0 | hn
 ·rw [(fit_zero s d e i p r mn mx h0).1]
  refine ⟨rfl,.inr ⟨rfl,by simp only [ds_zero]; omega,by simp only; omega,by simp only; omega,fun _=>by simp only; omega⟩⟩
 ·have hz:=ce_zero' (s:=s) (i:=i) (r:=r) (e:=e) (mn:=mn) hn hd hp
  have hw:=ce_low (neg:=s) (num:=n) (den:=d) (exp:=e) (ideal:=i) (p:=p) (r:=r) (mn:=mn)
  have hl:=ce_len (neg:=s) (num:=n) (den:=d) (exp:=e) (ideal:=i) (p:=p) (r:=r) (mn:=mn) hn hd hp
  generalize hCE : fitCE s n d e i p r mn = CE at *
  obtain ⟨x,y⟩:=CE
  simp only at hz hw hl
  by_cases ho : 0 < x ∧ mx < (ds x : Int) - 1 + y
  ·rw [(fit_over hn hCE ho).1]
   unfold ovf
   split
   ·exact ⟨rfl,.inl ⟨rfl,rfl,rfl⟩⟩
   ·have h1 : ds (10 ^ p.toNat - 1) ≤ p.toNat:=ds_le (by have:=ten_pos p.toNat; omega)
    have h2 : 1 < 10 ^ p.toNat:=Nat.lt_of_lt_of_le (by omega : 1 < 10 ^ 1) (pow_mono (by omega))
    refine ⟨rfl,.inr ⟨rfl,by simp only; omega,by simp only; omega,by simp only; omega,fun h=>?_⟩⟩
    simp only at h; omega
  ·rw [(fit_fine hn hCE ho).1]
   exact ⟨rfl,.inr ⟨rfl,by simp only; omega,hw,ho,fun h=>by have:=hz h; simp only at h ⊢; omega⟩⟩
end Go.Proofs.NatL

namespace Go.Proofs.NatL
set_option linter.unusedSimpArgs false
set_option linter.unusedVariables false
theorem cmpZ_mul (a b : Int) {T : Int} (h : 0 < T) : cmpZ (a * T) (b * T) = cmpZ a b:=by
 unfold cmpZ
 have h1 : a * T < b * T ↔ a < b:=⟨fun q=>Int.lt_of_mul_lt_mul_right q (by omega),fun q=>Int.mul_lt_mul_of_pos_right q h⟩
 have h2 : a * T = b * T ↔ a = b:=⟨fun q=>Int.eq_of_mul_eq_mul_right (by omega) q,fun q=>by rw [q]⟩
 simp only [h1,h2]
theorem sg_mulT (s : Bool) (m T : Nat) : sg s (m * T) = sg s m * (T : Int):=by
 cases s
 ·simp only [sgf,Int.natCast_mul]
 ·simp only [sgt,Int.natCast_mul,Int.neg_mul]
end Go.Proofs.NatL
