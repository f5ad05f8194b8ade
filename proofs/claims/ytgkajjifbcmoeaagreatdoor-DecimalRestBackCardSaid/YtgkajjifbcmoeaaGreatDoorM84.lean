import Derived.Test.YtgkajjifbcmoeaaGreatDoorM24
import Derived.Test.YtgkajjifbcmoeaaGreatDoorM83
namespace Go.Proofs.NatL
set_option linter.unusedSimpArgs false
set_option linter.unusedVariables false
def upN (n : Nat) (e : Int) (K : Nat) : Nat:=n * 10 ^ (e + K).toNat
theorem pt_up (n d : Nat) {e x : Int} {K : Nat} (he : 0 ≤ e + K) (hx : 0 ≤ x + K) : ∃ k : Nat,upN n e K = ptN n e x * 10 ^ k ∧ d * 10 ^ (x + K).toNat = ptD d e x * 10 ^ k:=by
 unfold upN ptN ptD
 by_cases h : x ≤ e
 ·refine ⟨(x + K).toNat,?_,?_⟩
  ·rw [if_pos h,Nat.mul_assoc,← Nat.pow_add,show (e - x).toNat + (x + K).toNat = (e + K).toNat by omega]
  ·rw [if_pos h]
 ·refine ⟨(e + K).toNat,?_,?_⟩
  ·rw [if_neg h]
  ·rw [if_neg h,Nat.mul_assoc,← Nat.pow_add,show (x - e).toNat + (e + K).toNat = (x + K).toNat by omega]
theorem qE_up (n d : Nat) {e x : Int} {K : Nat} (he : 0 ≤ e + K) (hx : 0 ≤ x + K) : qE n d e x = upN n e K / (d * 10 ^ (x + K).toNat):=by
 obtain ⟨k,h1,h2⟩:=pt_up n d he hx
 rw [h1,h2,Nat.mul_div_mul_right _ _ (ten_pos k)]; rfl
end Go.Proofs.NatL

namespace Go.Proofs.NatL
set_option linter.unusedSimpArgs false
set_option linter.unusedVariables false
theorem twd_val (K : Nat) : ∀ (k c : Nat) (e : Int),0 ≤ e + K → (twd k c e).1 * 10 ^ ((twd k c e).2 + K).toNat = c * 10 ^ (e + K).toNat
 | 0,c,e,_=>rfl
 | k + 1,c,e,h=>by
  unfold twd
  split
  ·rename_i h0
   rw [twd_val K k (c / 10) (e + 1) (by omega),show (e + 1 + (K : Int)).toNat = (e + K).toNat + 1 by omega,Nat.pow_succ]
   have : c = c / 10 * 10:=by omega
   generalize 10 ^ (e + (K : Int)).toNat = T at *
   generalize c / 10 = b at *
   subst this; ac_rfl
  ·rfl
theorem twd_mul : ∀ (k c : Nat) (e : Int),twd k (c * 10 ^ k) e = (c,e + k)
 | 0,c,e=>by simp [twd]
 | k + 1,c,e=>by
  have h1 : c * 10 ^ (k + 1) = c * 10 ^ k * 10:=by rw [Nat.pow_succ,Nat.mul_assoc]
  unfold twd
  rw [h1,if_pos (Nat.mul_mod_left _ _),Nat.mul_div_cancel _ (by omega),twd_mul k c (e + 1)]
  congr 1; omega
theorem ce_val {s : Bool} {n d : Nat} {e i p r mn : Int} (hn : 0 < n) (hd : 0 < d) (hp : 1 ≤ p) {K : Nat} (hK : 0 ≤ tinyE p mn + K) :
  (fitCE s n d e i p r mn).1 * 10 ^ ((fitCE s n d e i p r mn).2 + K).toNat = rdE s n d e (fitEx n d e p mn) r * 10 ^ (fitEx n d e p mn + K).toNat:=by
 have hx : tinyE p mn ≤ fitEx n d e p mn:=by unfold fitEx; omega
 by_cases hs : sE n d e (fitEx n d e p mn) = 0
 ·rw [ce_exact hs,twd_val K _ _ _ (by omega)]
 ·have hle:=fit_round_le (neg:=s) (r:=r) (mn:=mn) hn hd (exp:=e) hp
  by_cases hl : p < (ds (rdE s n d e (fitEx n d e p mn) r) : Int)
  ·rw [ce_long hs hl]
   have hge:=ds_ge (n:=rdE s n d e (fitEx n d e p mn) r) (k:=p.toNat) (by omega)
   have hR : rdE s n d e (fitEx n d e p mn) r = 10 ^ p.toNat:=by omega
   rw [hR]
   simp only
   rw [show (fitEx n d e p mn + 1 + (K : Int)).toNat = (fitEx n d e p mn + K).toNat + 1 by omega,show p.toNat = (p.toNat - 1) + 1 by omega,Nat.pow_succ,Nat.mul_div_cancel _ (by omega),Nat.pow_succ]
   ac_rfl
  ·rw [ce_short hs hl]
def mgK (D : Dc) (K : Nat) : Nat:=D.coef * 10 ^ (D.exp + K).toNat
theorem over_iff {c : Nat} {e mx : Int} {K : Nat} (he : 0 ≤ e + K) (hm : 0 ≤ mx + 1 + K) : (0 < c ∧ mx < (ds c : Int) - 1 + e) ↔ 10 ^ (mx + 1 + K).toNat ≤ c * 10 ^ (e + K).toNat:=by
 constructor
 ·rintro ⟨h0,h⟩
  have h1:=ds_top h0
  have h2:=ds_pos.2 h0
  refine Nat.le_trans ?_ (Nat.mul_le_mul_right _ h1)
  rw [← Nat.pow_add]; exact pow_mono (by omega)
 ·intro h
  have h0 : 0 < c:=by
   rcases Nat.eq_zero_or_pos c with rfl | h0
   ·rw [Nat.zero_mul] at h; have:=ten_pos (mx + 1 + (K : Int)).toNat; omega
   ·exact h0
  refine ⟨h0,?_⟩
  rcases int_lt_ge mx ((ds c : Int) - 1 + e) with h1 | h1
  ·exact h1
  ·exfalso
   have h2:=ds_lt c
   have h3 : c * 10 ^ (e + (K : Int)).toNat < 10 ^ ds c * 10 ^ (e + (K : Int)).toNat:=Nat.mul_lt_mul_of_pos_right h2 (ten_pos _)
   rw [← Nat.pow_add] at h3
   have:=pow_mono (a:=ds c + (e + (K : Int)).toNat) (b:=(mx + 1 + (K : Int)).toNat) (by have:=ds_pos.2 h0; omega)
   omega
theorem fit_self {s : Bool} {c : Nat} {e p r mn mx : Int} (hl : (ds c : Int) ≤ p) (hw : tinyE p mn ≤ e) (ho : ¬ (0 < c ∧ mx < (ds c : Int) - 1 + e)) (h0 : c = 0 → e ≤ mx) :
  fitD s c 1 e e p r mn mx = ⟨0,s,c,e⟩ ∧ (fitS s c 1 e e p r mn mx = 0 ∨ fitS s c 1 e e p r mn mx = 2):=by
 rcases Nat.eq_zero_or_pos c with hz | hc
 ·obtain ⟨f1,f2⟩:=fit_zero s 1 e e p r mn mx hz
  rw [f1,f2,show min (max e (tinyE p mn)) mx = e by have:=h0 hz; omega,hz]
  exact ⟨rfl,.inl rfl⟩
 ·have hf:=first_one hc e
  have hx : fitEx c 1 e p mn ≤ e:=by unfold fitEx; rw [hf]; omega
  obtain ⟨g1,g2⟩:=pt_ge (num:=c) (den:=1) (e:=e) (x:=fitEx c 1 e p mn) (by omega)
  have hs : sE c 1 e (fitEx c 1 e p mn) = 0:=by unfold sE; rw [g2]; exact Nat.mod_one _
  have hq : qE c 1 e (fitEx c 1 e p mn) = c * 10 ^ (e - fitEx c 1 e p mn).toNat:=by unfold qE; rw [g2,g1,Nat.div_one]
  have hCE : fitCE s c 1 e e p r mn = (c,e):=by
   rw [ce_exact hs]
   unfold rdE
   rw [if_pos hs,hq,twd_mul]
   congr 1; omega
  obtain ⟨f1,f2⟩:=fit_fine hc hCE ho
  rw [f1,f2]
  refine ⟨rfl,?_⟩
  unfold sigE
  rw [if_pos hs]
  split
  ·exact .inr rfl
  ·exact .inl rfl
end Go.Proofs.NatL
