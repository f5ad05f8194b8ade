import Derived.Test.YtgkajjifbcmoeaaGreatDoorM77
import Derived.Test.YtgkajjifbcmoeaaGreatDoorM84
namespace Go.Proofs.NatL
set_option linter.unusedSimpArgs false
set_option linter.unusedVariables false
def xv (D : Dc) (K : Nat) : Int:=sg D.neg (if D.kind = 1 then 10 ^ (1320 + K) else mgK D K)
theorem mg_lt {A : Dc} (hA : OkD A) (h0 : A.kind = 0) {K : Nat} (hK : 1200 ≤ K) : mgK A K < 10 ^ (1320 + K):=by
 rcases hA with ⟨h1,h2,h3,h4⟩ | ⟨h1,h2,h3⟩ | ⟨h1,h2,h3,h5⟩
 ·unfold mgK
  have : A.coef * 10 ^ (A.exp + (K : Int)).toNat < 10 ^ 120 * 10 ^ (A.exp + (K : Int)).toNat:=Nat.mul_lt_mul_of_pos_right h4 (ten_pos _)
  rw [← Nat.pow_add] at this
  exact Nat.lt_of_lt_of_le this (pow_mono (by omega))
 ·omega
 ·omega
theorem cmpZ_mul (a b : Int) {T : Int} (h : 0 < T) : cmpZ (a * T) (b * T) = cmpZ a b:=by
 unfold cmpZ
 have h1 : a * T < b * T ↔ a < b:=⟨fun q=>Int.lt_of_mul_lt_mul_right q (by omega),fun q=>Int.mul_lt_mul_of_pos_right q h⟩
 have h2 : a * T = b * T ↔ a = b:=⟨fun q=>Int.eq_of_mul_eq_mul_right (by omega) q,fun q=>by rw [q]⟩
 simp only [h1,h2]
theorem sg_mulT (s : Bool) (m T : Nat) : sg s (m * T) = sg s m * (T : Int):=by
 cases s
 ·simp only [sgf,Int.natCast_mul]
 ·simp only [sgt,Int.natCast_mul,Int.neg_mul]
theorem rk0 {A : Dc} (h : A.kind = 0) : rkD A = 0:=if_pos h
theorem rk1 {A : Dc} (h : A.kind = 1) : rkD A = if A.neg = true then -1 else 1:=if_neg (by omega)
theorem xv0 {A : Dc} (h : A.kind = 0) (K : Nat) : xv A K = sg A.neg (mgK A K):=by unfold xv; rw [if_neg (by omega)]
theorem xv1 {A : Dc} (h : A.kind = 1) (K : Nat) : xv A K = sg A.neg (10 ^ (1320 + K)):=by unfold xv; rw [if_pos h]
theorem cmp_xv {A B : Dc} (hA : OkD A) (hB : OkD B) (ka : A.kind ≠ 2) (kb : B.kind ≠ 2) {K : Nat} (hK : 1200 ≤ K) : cmpD A B = cmpZ (xv A K) (xv B K):=by
 have qa:=OkD_kind hA
 have qb:=OkD_kind hB
 have a1:=okd_exp hA
 have b1:=okd_exp hB
 have hp:=ten_pos (1320 + K)
 rcases qa with h | h | h
 ·have ma:=mg_lt hA h hK
  rcases qb with g | g | g
  ·have e0 : cmpD A B = cmpZ (sumZ A.neg A.coef A.exp (!B.neg) B.coef B.exp) 0:=by unfold cmpD; rw [rk0 h,rk0 g,if_neg (by decide)]
   rw [e0,xv0 h,xv0 g]
   -- both finite
   unfold mgK sumZ
   have e1 : (A.exp + (K : Int)).toNat = (A.exp - min A.exp B.exp).toNat + (min A.exp B.exp + K).toNat:=by omega
   have e2 : (B.exp + (K : Int)).toNat = (B.exp - min A.exp B.exp).toNat + (min A.exp B.exp + K).toNat:=by omega
   rw [e1,e2,Nat.pow_add,Nat.pow_add,← Nat.mul_assoc,← Nat.mul_assoc]
   generalize hT : 10 ^ (min A.exp B.exp + (K : Int)).toNat = T
   have hT0 : 0 < T:=by rw [← hT]; exact ten_pos _
   rw [sg_mulT _ _ T,sg_mulT _ _ T,cmpZ_mul _ _ (by omega),sg_not]
   unfold cmpZ
   (repeat' split) <;> omega
  ·rw [cmp_inf (.inr (by omega)),rk0 h,rk1 g,xv0 h,xv1 g]
   generalize mgK A K = x at *
   generalize 10 ^ (1320 + K) = y at *
   unfold cmpZ
   cases A.neg <;> cases B.neg <;> simp only [sgf,sgt,Bool.false_eq_true,if_true,if_false] <;> (repeat' split) <;> omega
  ·omega
 ·rcases qb with g | g | g
  ·have mb:=mg_lt hB g hK
   rw [cmp_inf (.inl (by omega)),rk1 h,rk0 g,xv1 h,xv0 g]
   generalize mgK B K = x at *
   generalize 10 ^ (1320 + K) = y at *
   unfold cmpZ
   cases A.neg <;> cases B.neg <;> simp only [sgf,sgt,Bool.false_eq_true,if_true,if_false] <;> (repeat' split) <;> omega
  ·rw [cmp_inf (.inl (by omega)),rk1 h,rk1 g,xv1 h,xv1 g]
   generalize 10 ^ (1320 + K) = y at *
   unfold cmpZ
   cases A.neg <;> cases B.neg <;> simp only [sgf,sgt,Bool.false_eq_true,if_true,if_false] <;> (repeat' split) <;> omega
  ·omega
 ·omega
end Go.Proofs.NatL
