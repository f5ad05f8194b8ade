import Derived.Test.YtgkajjifbcmoeaaGreatDoorM30
import Derived.Test.YtgkajjifbcmoeaaGreatDoorM34
import Derived.Test.YtgkajjifbcmoeaaGreatDoorM45
import Derived.Test.YtgkajjifbcmoeaaGreatDoorM54
import Derived.Test.YtgkajjifbcmoeaaGreatDoorM85
namespace Go.Proofs.NatL
set_option linter.unusedSimpArgs false
set_option linter.unusedVariables false
theorem sq_lt {a b : Nat} (h : a * a < b * b) : a < b:=Nat.mul_self_lt_mul_self_iff.1 h
theorem cmp3_sq (a b : Nat) : cmp3 (a * a) (b * b) = cmp3 a b:=by
 have h1 : a * a < b * b ↔ a < b:=Nat.mul_self_lt_mul_self_iff
 have h2 : a * a = b * b ↔ a = b:=Nat.mul_self_inj
 unfold cmp3
 simp only [h1,h2]
theorem cmp3_scale {a b c d k : Nat} (hk : 0 < k) (h1 : a * k = c) (h2 : b * k = d) : cmp3 a b = cmp3 c d:=by
 rw [← h1,← h2,cmp3_mul _ _ hk]
def rtX (R NUM : Nat) : Nat:=if R * R < NUM then R * 10 + 1 else R
def rtE (R NUM : Nat) (E : Int) : Int:=if R * R < NUM then E - 1 else E
theorem root_div {R NUM num den W : Nat} (hW : 0 < W) (hd : 0 < den) (h : NUM * den = num * (W * W)) (h1 : R * R ≤ NUM) (h2 : NUM < (R + 1) * (R + 1)) {n : Nat} (n1 : n * n * den ≤ num) (n2 : num < (n + 1) * (n + 1) * den) : R / W = n:=by
 have a1 : (n * W) * (n * W) ≤ NUM:=by
  refine Nat.le_of_mul_le_mul_right (c:=den) ?_ hd
  rw [h,show n * W * (n * W) * den = n * n * den * (W * W) by ac_rfl]
  exact Nat.mul_le_mul_right _ n1
 have a2 : n * W < R + 1:=sq_lt (Nat.lt_of_le_of_lt a1 h2)
 have b1 : NUM < ((n + 1) * W) * ((n + 1) * W):=by
  refine Nat.lt_of_mul_lt_mul_right (a:=den) ?_
  rw [h,show (n + 1) * W * ((n + 1) * W) * den = (n + 1) * (n + 1) * den * (W * W) by ac_rfl]
  exact Nat.mul_lt_mul_of_pos_right n2 (Nat.mul_pos hW hW)
 have b2 : R < (n + 1) * W:=sq_lt (Nat.lt_of_le_of_lt h1 b1)
 exact Nat.div_eq_of_lt_le (by omega) b2
theorem root_at {R NUM num den V : Nat} (hV : 0 < V) (hd : 0 < den) (h : NUM * den = num * ((2 * V) * (2 * V))) (h1 : R * R ≤ NUM) (h2 : NUM < (R + 1) * (R + 1)) {n : Nat} (n1 : n * n * den ≤ num) (n2 : num < (n + 1) * (n + 1) * den) :
  (R * R = NUM → (R % (2 * V) = 0 ↔ n * n * den = num) ∧ (cmp3 (2 * (R % (2 * V))) (2 * V) = cmp3 (4 * num) ((2 * n + 1) * (2 * n + 1) * den))) ∧
  (R * R < NUM → n * n * den ≠ num ∧ (cmp3 (2 * (10 * (R % (2 * V)) + 1)) (10 * (2 * V)) = cmp3 (4 * num) ((2 * n + 1) * (2 * n + 1) * den))):=by
 have hW : 0 < 2 * V:=by omega
 have hq:=root_div hW hd h h1 h2 n1 n2
 have hm:=Nat.div_add_mod R (2 * V)
 have hs:=Nat.mod_lt R hW
 rw [hq] at hm
 -- the comparison of squares,without a denominator
 have hc : cmp3 (4 * num) ((2 * n + 1) * (2 * n + 1) * den) = cmp3 NUM (((2 * n + 1) * V) * ((2 * n + 1) * V)):=by
  have e1 : 4 * num * (V * V) = NUM * den:=by rw [h]; rw [show 2 * V * (2 * V) = 4 * (V * V) by rw [Nat.mul_mul_mul_comm]]; ac_rfl
  have e2 : (2 * n + 1) * (2 * n + 1) * den * (V * V) = (2 * n + 1) * V * ((2 * n + 1) * V) * den:=by ac_rfl
  rw [cmp3_scale (Nat.mul_pos hV hV) e1 e2,cmp3_mul _ _ hd]
 have hz : n * n * den = num ↔ (n * (2 * V)) * (n * (2 * V)) = NUM:=by
  have e1 : n * (2 * V) * (n * (2 * V)) * den = n * n * den * (2 * V * (2 * V)):=by ac_rfl
  constructor
  ·intro hh
   refine Nat.eq_of_mul_eq_mul_right hd ?_
   rw [e1,hh,h]
  ·intro hh
   rw [hh,h] at e1
   exact (Nat.eq_of_mul_eq_mul_right (Nat.mul_pos hW hW) e1).symm
 rw [hc]
 generalize R % (2 * V) = s at *
 have hR : R = n * (2 * V) + s:=by rw [← hm]; ac_rfl
 have hZ : (2 * n + 1) * V = n * (2 * V) + V:=by rw [Nat.add_mul,Nat.one_mul]; congr 1; ac_rfl
 rw [hZ]
 constructor
 ·intro he
  refine ⟨?_,?_⟩
  ·rw [hz,← he,Nat.mul_self_inj]
   omega
  ·rw [← he,cmp3_sq,hR]
   generalize n * (2 * V) = y at *
   unfold cmp3
   (repeat' split) <;> omega
 ·intro hl
  refine ⟨fun hh=>?_,?_⟩
  ·rw [hz] at hh
   rw [← hh] at hl h2
   have:=sq_lt hl
   have:=sq_lt h2
   omega
  ·generalize n * (2 * V) = y at *
   rcases Nat.lt_or_ge R (y + V) with hlt | hge
   ·have hb : NUM < (y + V) * (y + V):=Nat.lt_of_lt_of_le h2 (Nat.mul_self_le_mul_self (by omega))
    have e1 : cmp3 NUM ((y + V) * (y + V)) = -1:=by unfold cmp3; (repeat' split) <;> omega
    rw [e1]
    unfold cmp3
    (repeat' split) <;> omega
   ·have hb : (y + V) * (y + V) < NUM:=Nat.lt_of_le_of_lt (Nat.mul_self_le_mul_self hge) hl
    have e1 : cmp3 NUM ((y + V) * (y + V)) = 1:=by unfold cmp3; (repeat' split) <;> omega
    rw [e1]
    unfold cmp3
    (repeat' split) <;> omega
def rtN (num den n : Nat) (r : Int) : Nat:=if n * n * den = num then n else if awayB r false (decide (n % 2 = 1)) (cmp3 (4 * num) ((2 * n + 1) * (2 * n + 1) * den)) = true then n + 1 else n
theorem root_num {m : Nat} {e E x : Int} (h1 : 0 ≤ e - 2 * E) (h2 : 0 ≤ x - E) : m * 10 ^ (e - 2 * E).toNat * ptD 1 e (2 * x) = ptN m e (2 * x) * (10 ^ (x - E).toNat * 10 ^ (x - E).toNat):=by
 rw [← Nat.pow_add]
 rcases int_lt_ge (e - 2 * x) 0 with h | h
 ·obtain ⟨g1,g2⟩:=pt_lt (num:=m) (den:=1) h
  rw [g1,g2,Nat.one_mul,Nat.mul_assoc,← Nat.pow_add,show (e - 2 * E).toNat + (-(e - 2 * x)).toNat = (x - E).toNat + (x - E).toNat by omega]
 ·obtain ⟨g1,g2⟩:=pt_ge (num:=m) (den:=1) h
  rw [g1,g2,Nat.mul_one,Nat.mul_assoc,← Nat.pow_add,show (e - 2 * E).toNat = (e - 2 * x).toNat + ((x - E).toNat + (x - E).toNat) by omega]
theorem root_digits {m R : Nat} {e E first : Int} (hm : 0 < m) (h1 : 0 ≤ e - 2 * E) (h2 : 0 ≤ first - E) (hf : 2 * first ≤ (ds m : Int) - 1 + e ∧ (ds m : Int) - 1 + e ≤ 2 * first + 1) (r1 : R * R ≤ m * 10 ^ (e - 2 * E).toNat) (r2 : m * 10 ^ (e - 2 * E).toNat < (R + 1) * (R + 1)) : (ds R : Int) - 1 + E = first:=by
 have m1:=ds_top hm
 have m2:=ds_lt m
 have m3:=ds_pos.2 hm
 obtain ⟨f1,f2⟩:=hf
 have a1 : 10 ^ (first - E).toNat * 10 ^ (first - E).toNat ≤ m * 10 ^ (e - 2 * E).toNat:=by
  rw [← Nat.pow_add]
  refine Nat.le_trans ?_ (Nat.mul_le_mul_right _ m1)
  rw [← Nat.pow_add]; exact pow_mono (by omega)
 have a2:=sq_lt (Nat.lt_of_le_of_lt a1 r2)
 have b1 : m * 10 ^ (e - 2 * E).toNat < 10 ^ ((first - E).toNat + 1) * 10 ^ ((first - E).toNat + 1):=by
  rw [← Nat.pow_add]
  refine Nat.lt_of_lt_of_le (Nat.mul_lt_mul_of_pos_right m2 (ten_pos _)) ?_
  rw [← Nat.pow_add]; exact pow_mono (by omega)
 have b2:=sq_lt (Nat.lt_of_le_of_lt r1 b1)
 have c1:=ds_gt (n:=R) (k:=(first - E).toNat) (by omega)
 have c2:=ds_le b2
 omega
theorem root_fit {m R n num den : Nat} {e h E first x p r mn : Int} (hm : 0 < m) (hp : 1 ≤ p) (hh : 2 * h ≤ e ∧ e ≤ 2 * h + 1) (hE : E = h - p - 2)
  (hf : 2 * first ≤ (ds m : Int) - 1 + e ∧ (ds m : Int) - 1 + e ≤ 2 * first + 1) (hx : x = max (first - p + 1) (tinyE p mn))
  (hR : R = rt (m * 10 ^ (e - 2 * E).toNat)) (hnum : num = ptN m e (2 * x)) (hden : den = ptD 1 e (2 * x)) (hn : n = rt (num / den)) :
  0 < rtX R (m * 10 ^ (e - 2 * E).toNat) ∧
  firstE (rtX R (m * 10 ^ (e - 2 * E).toNat)) 1 (rtE R (m * 10 ^ (e - 2 * E).toNat) E) = first ∧
  fitEx (rtX R (m * 10 ^ (e - 2 * E).toNat)) 1 (rtE R (m * 10 ^ (e - 2 * E).toNat) E) p mn = x ∧
  rdE false (rtX R (m * 10 ^ (e - 2 * E).toNat)) 1 (rtE R (m * 10 ^ (e - 2 * E).toNat) E) x r = rtN num den n r ∧
  decide (sE (rtX R (m * 10 ^ (e - 2 * E).toNat)) 1 (rtE R (m * 10 ^ (e - 2 * E).toNat) E) x ≠ 0) = decide (n * n * den ≠ num):=by
 have m3:=ds_pos.2 hm
 have hfh : h ≤ first:=by omega
 obtain ⟨r1,r2⟩:=rt_spec (m * 10 ^ (e - 2 * E).toNat)
 rw [← hR] at r1 r2
 have hd : 0 < den:=by rw [hden]; exact ptD_pos (by omega) _ _
 obtain ⟨q1,q2⟩:=rt_spec (num / den)
 rw [← hn] at q1 q2
 have n1 : n * n * den ≤ num:=(Nat.le_div_iff_mul_le hd).1 q1
 have n2 : num < (n + 1) * (n + 1) * den:=(Nat.div_lt_iff_lt_mul hd).1 q2
 have hj : 3 ≤ x - E:=by omega
 have key:=root_num (m:=m) (e:=e) (E:=E) (x:=x) (by omega) (by omega)
 rw [← hnum,← hden] at key
 have hdig:=root_digits (R:=R) (E:=E) hm (by omega) (by omega) hf r1 r2
 have hR0 : 0 < R:=ds_pos.1 (by omega)
 generalize hN : m * 10 ^ (e - 2 * E).toNat = NUM at *
 have hV : 10 ^ (x - E).toNat = 2 * (5 * 10 ^ ((x - E).toNat - 1)):=by
  rw [show (x - E).toNat = ((x - E).toNat - 1) + 1 by omega,Nat.pow_succ,Nat.add_sub_cancel]; omega
 have hV0 : 0 < 5 * 10 ^ ((x - E).toNat - 1):=Nat.mul_pos (by omega) (ten_pos _)
 rw [hV] at key
 obtain ⟨t1,t2⟩:=root_at hV0 hd key r1 r2 n1 n2
 have hq:=root_div (W:=2 * (5 * 10 ^ ((x - E).toNat - 1))) (by omega) hd key r1 r2 n1 n2
 rw [← hV] at t1 t2 hq
 generalize hW : 10 ^ (x - E).toNat = W at *
 have hW0 : 0 < W:=by rw [← hW]; exact ten_pos _
 by_cases hl : R * R < NUM
 ·have x1 : rtX R NUM = R * 10 + 1:=if_pos hl
  have x2 : rtE R NUM E = E - 1:=if_pos hl
  rw [x1,x2]
  obtain ⟨u1,u2⟩:=t2 hl
  have hds : ds (R * 10 + 1) = ds R + 1:=by
   have:=ds_div10 (R * 10 + 1)
   rw [show (R * 10 + 1) / 10 = R by omega] at this
   have:=ds_pos.2 (show 0 < R * 10 + 1 by omega)
   omega
  have hfirst : firstE (R * 10 + 1) 1 (E - 1) = first:=by rw [first_one (by omega),hds]; omega
  obtain ⟨g1,g2⟩:=pt_lt (num:=R * 10 + 1) (den:=1) (e:=E - 1) (x:=x) (by omega)
  have g3 : 1 * 10 ^ (-(E - 1 - x)).toNat = 10 * W:=by rw [Nat.one_mul,← hW,show (-(E - 1 - x)).toNat = (x - E).toNat + 1 by omega,Nat.pow_succ,Nat.mul_comm]
  rw [g3] at g2
  have hqE : qE (R * 10 + 1) 1 (E - 1) x = n:=by
   unfold qE; rw [g1,g2,← Nat.div_div_eq_div_mul,show (R * 10 + 1) / 10 = R by omega,hq]
  have hsE : sE (R * 10 + 1) 1 (E - 1) x = 10 * (R % W) + 1:=by
   have h1:=Nat.div_add_mod (R * 10 + 1) (10 * W)
   have h2:=Nat.div_add_mod R W
   unfold qE at hqE
   unfold sE
   rw [g1,g2] at hqE ⊢
   rw [hqE] at h1
   rw [hq] at h2
   rw [show 10 * W * n = 10 * (W * n) by ac_rfl] at h1
   omega
  refine ⟨by omega,hfirst,by unfold fitEx; rw [hfirst]; exact hx.symm,?_,?_⟩
  ·unfold rdE rtN
   rw [hsE,hqE,g2,if_neg (by omega),if_neg u1,u2]
  ·rw [hsE,decide_eq_true (by omega),decide_eq_true u1]
 ·have he : R * R = NUM:=by omega
  have x1 : rtX R NUM = R:=if_neg hl
  have x2 : rtE R NUM E = E:=if_neg hl
  rw [x1,x2]
  obtain ⟨u1,u2⟩:=t1 he
  have hfirst : firstE R 1 E = first:=by rw [first_one hR0]; exact hdig
  obtain ⟨g1,g2⟩:=pt_lt (num:=R) (den:=1) (e:=E) (x:=x) (by omega)
  have g3 : 1 * 10 ^ (-(E - x)).toNat = W:=by rw [Nat.one_mul,← hW,show (-(E - x)).toNat = (x - E).toNat by omega]
  rw [g3] at g2
  have hqE : qE R 1 E x = n:=by unfold qE; rw [g1,g2,hq]
  have hsE : sE R 1 E x = R % W:=by unfold sE; rw [g1,g2]
  refine ⟨hR0,hfirst,by unfold fitEx; rw [hfirst]; exact hx.symm,?_,?_⟩
  ·unfold rdE rtN
   rw [hsE,hqE,g2]
   by_cases hz : R % W = 0
   ·rw [if_pos hz,if_pos (u1.1 hz)]
   ·rw [if_neg hz,if_neg (fun h=>hz (u1.2 h)),u2]
  ·rw [hsE]
   exact decide_eq_decide.2 (not_congr u1)
end Go.Proofs.NatL
