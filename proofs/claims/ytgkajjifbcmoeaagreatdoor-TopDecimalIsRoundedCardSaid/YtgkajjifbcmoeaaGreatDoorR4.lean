import Derived.Test.YtgkajjifbcmoeaaGreatDoorR3
namespace Go.Proofs.NatL
set_option linter.unusedSimpArgs false
set_option linter.unusedVariables false

def trimL (xs : List Int) : List Int:=(xs.reverse.dropWhile (· == 0)).reverse

theorem trimL_snoc (xs : List Int) (x : Int) : trimL (xs ++ [x]) = if x = 0 then trimL xs else xs ++ [x]:=by
 unfold trimL
 by_cases h : x = 0 <;> simp [h]

theorem split_last (xs : List Int) (h : 0 < xs.length) : xs = xs.take (xs.length - 1) ++ [xs.getD (xs.length - 1) 0]:=by
 have h1 : xs.getD (xs.length - 1) 0 = xs[xs.length - 1]:=by simp [List.getD_eq_getElem?_getD,List.getElem?_eq_getElem (show xs.length - 1 < xs.length by omega)]
 rw [h1,← List.take_succ_eq_append_getElem (by omega)]
 rw [show xs.length - 1 + 1 = xs.length by omega,List.take_length]

theorem trimL_drop (xs : List Int) (h : 0 < xs.length) (h0 : xs.getD (xs.length - 1) 0 = 0) : trimL (xs.take (xs.length - 1)) = trimL xs:=by
 conv=>rhs; rw [split_last xs h,trimL_snoc,if_pos h0]

theorem trimL_stop (xs : List Int) (h : xs.length = 0 ∨ xs.getD (xs.length - 1) 0 ≠ 0) : trimL xs = xs:=by
 by_cases h0 : xs.length = 0
 ·have : xs = []:=List.eq_nil_of_length_eq_zero h0
  subst this; rfl
 ·rcases h with h | h
  ·exact absurd h h0
  ·conv=>lhs; rw [split_last xs (by omega),trimL_snoc,if_neg h]
   exact (split_last xs (by omega)).symm

def V (B : Nat) : List Int → Nat
 | []=>0
 | x :: xs=>x.toNat + B * V B xs

def InB (B : Nat) (xs : List Int) : Prop:=∀ x ∈ xs,0 ≤ x ∧ x < B

def dgF (B : Nat) : Nat → Nat → List Int
 | 0,_=>[]
 | f + 1,n=>if n = 0 then [] else ((n % B : Nat) : Int) :: dgF B f (n / B)
def dg (B n : Nat) : List Int:=dgF B n n

theorem V_append (B : Nat) (xs ys : List Int) : V B (xs ++ ys) = V B xs + B ^ xs.length * V B ys:=by
 induction xs with
 | nil=>simp [V]
 | cons x xs ih=>simp only [List.cons_append,V,ih,List.length_cons,Nat.pow_succ]; rw [Nat.mul_add,Nat.add_assoc,← Nat.mul_assoc,Nat.mul_comm B (B ^ xs.length)]

theorem V_snoc (B : Nat) (xs : List Int) (x : Int) : V B (xs ++ [x]) = V B xs + B ^ xs.length * x.toNat:=by
 rw [V_append]; simp [V]

theorem V_lt (B : Nat) (hB : 0 < B) (xs : List Int) (h : InB B xs) : V B xs < B ^ xs.length:=by
 induction xs with
 | nil=>simp [V]
 | cons x xs ih =>
  have h1:=h x (List.mem_cons_self ..)
  have h2:=ih fun y hy=>h y (List.mem_cons_of_mem _ hy)
  simp only [V,List.length_cons,Nat.pow_succ]
  have h3 : x.toNat < B:=by omega
  have h4 : B * V B xs + B ≤ B * B ^ xs.length:=by
   have : B * (V B xs + 1) ≤ B * B ^ xs.length:=Nat.mul_le_mul_left _ h2
   rwa [Nat.mul_add,Nat.mul_one] at this
  rw [Nat.mul_comm (B ^ xs.length) B]
  omega

theorem dgF_fuel (B : Nat) (hB : 2 ≤ B) : ∀ f n,n ≤ f → dgF B f n = dgF B n n:=by
 intro f
 induction f using Nat.strongRecOn with
 | _ f ih =>
  intro n hn
  match f,n with
  | 0,0=>rfl
  | f + 1,0=>simp [dgF]
  | f + 1,n + 1 =>
   simp only [dgF,Nat.succ_ne_zero,if_false,Nat.add_eq_zero_iff,Nat.one_ne_zero,and_false]
   have hlt : (n + 1) / B ≤ n:=by
    have : (n + 1) / B < n + 1:=Nat.div_lt_self (by omega) (by omega)
    omega
   rw [ih f (by omega) _ (by omega)]
   by_cases hnf : n = f
   ·subst hnf
    rw [ih n (by omega) _ hlt]
   ·rw [ih n (by omega) _ hlt]

theorem dg_zero (B : Nat) : dg B 0 = []:=rfl

theorem dg_pos (B n : Nat) (hB : 2 ≤ B) (hn : 0 < n) : dg B n = ((n % B : Nat) : Int) :: dg B (n / B):=by
 obtain ⟨m,rfl⟩ : ∃ m,n = m + 1:=⟨n - 1,by omega⟩
 have h : dg B (m + 1) = (((m + 1) % B : Nat) : Int) :: dgF B m ((m + 1) / B):=by simp [dg,dgF]
 rw [h]
 congr 1
 have hlt : (m + 1) / B ≤ m:=by
  have : (m + 1) / B < m + 1:=Nat.div_lt_self (by omega) (by omega)
  omega
 exact dgF_fuel B hB m _ hlt

theorem V_dg (B : Nat) (hB : 2 ≤ B) (n : Nat) : V B (dg B n) = n:=by
 induction n using Nat.strongRecOn with
 | _ n ih =>
  by_cases hn : n = 0
  ·subst hn; rfl
  ·rw [dg_pos B n hB (by omega),V,ih _ (Nat.div_lt_self (by omega) (by omega))]
   simp only [Int.toNat_natCast]
   exact Nat.mod_add_div n B

theorem InB_dg (B : Nat) (hB : 2 ≤ B) (n : Nat) : InB B (dg B n):=by
 induction n using Nat.strongRecOn with
 | _ n ih =>
  by_cases hn : n = 0
  ·subst hn; intro x hx; cases hx
  ·rw [dg_pos B n hB (by omega)]
   intro x hx
   rcases List.mem_cons.1 hx with rfl | hx
   ·have:=Nat.mod_lt n (show 0 < B by omega); omega
   ·exact ih _ (Nat.div_lt_self (by omega) (by omega)) x hx

def Trd (xs : List Int) : Prop:=xs.length = 0 ∨ xs.getD (xs.length - 1) 0 ≠ 0

theorem trd_cons (x : Int) (xs : List Int) (h : Trd xs) (hx : xs = [] → x ≠ 0) : Trd (x :: xs):=by
 right
 cases xs with
 | nil=>simpa using hx rfl
 | cons y ys =>
  rcases h with h | h
  ·simp at h
  ·simpa using h

theorem trd_tail (x : Int) (xs : List Int) (h : Trd (x :: xs)) : Trd xs:=by
 cases xs with
 | nil=>left; rfl
 | cons y ys =>
  right
  rcases h with h | h
  ·simp at h
  ·simpa using h

theorem dg_trd (B : Nat) (hB : 2 ≤ B) (n : Nat) : Trd (dg B n):=by
 induction n using Nat.strongRecOn with
 | _ n ih =>
  by_cases hn : n = 0
  ·subst hn; left; rfl
  ·rw [dg_pos B n hB (by omega)]
   refine trd_cons _ _ (ih _ (Nat.div_lt_self (by omega) (by omega))) fun he=>?_
   have h0 : n / B = 0:=by
    by_cases h : n / B = 0
    ·exact h
    ·rw [dg_pos B _ hB (Nat.pos_of_ne_zero h)] at he; cases he
   have : n % B = n:=Nat.mod_eq_of_lt (by rcases Nat.lt_or_ge n B with h | h; { exact h }; have:=Nat.div_pos h (by omega); omega)
   rw [this]; omega

theorem dg_V (B : Nat) (hB : 2 ≤ B) : ∀ xs : List Int,InB B xs → Trd xs → dg B (V B xs) = xs
 | [],_,_=>rfl
 | x :: xs,h,ht=>by
  have h1:=h x (List.mem_cons_self ..)
  have h2 : InB B xs:=fun y hy=>h y (List.mem_cons_of_mem _ hy)
  have ih:=dg_V B hB xs h2 (trd_tail x xs ht)
  have hpos : 0 < V B (x :: xs):=by
   rcases Nat.eq_zero_or_pos (V B (x :: xs)) with h0 | h0
   ·exfalso
    simp only [V] at h0
    have hx0 : x = 0:=by omega
    have hv0 : V B xs = 0:=by
     have : B * V B xs = 0:=by omega
     rcases Nat.mul_eq_zero.1 this with h | h
     ·omega
     ·exact h
    rw [hv0] at ih
    have hxs : xs = []:=ih.symm
    subst hxs
    rcases ht with ht | ht
    ·simp at ht
    ·simp at ht; exact ht hx0
   ·exact h0
  rw [dg_pos B _ hB hpos]
  have hm : V B (x :: xs) % B = x.toNat:=by
   simp only [V]
   rw [Nat.add_mul_mod_self_left]
   exact Nat.mod_eq_of_lt (by omega)
  have hd : V B (x :: xs) / B = V B xs:=by
   simp only [V]
   rw [Nat.add_mul_div_left _ _ (by omega),Nat.div_eq_of_lt (by omega)]; simp
  rw [hm,hd,ih]
  congr 1
  omega

theorem V_trimL (B : Nat) (xs : List Int) : V B (trimL xs) = V B xs:=by
 generalize hn : xs.length = n
 induction n generalizing xs with
 | zero=>have : xs = []:=List.eq_nil_of_length_eq_zero hn; subst this; rfl
 | succ n ih =>
  rw [split_last xs (by omega),trimL_snoc]
  split
  ·rename_i h
   rw [ih _ (by simp; omega),V_snoc,h]; simp
  ·rfl

theorem trimL_trd (xs : List Int) : Trd (trimL xs):=by
 generalize hn : xs.length = n
 induction n generalizing xs with
 | zero=>have : xs = []:=List.eq_nil_of_length_eq_zero hn; subst this; left; rfl
 | succ n ih =>
  rw [split_last xs (by omega),trimL_snoc]
  split
  ·exact ih _ (by simp; omega)
  ·rename_i h; right; simpa using h

theorem trimL_len (xs : List Int) : (trimL xs).length ≤ xs.length:=by
 unfold trimL
 have h1:=(List.dropWhile_sublist (l:=xs.reverse) (· == 0)).length_le
 simp only [List.length_reverse] at h1 ⊢
 exact h1

theorem trimL_take (xs : List Int) : trimL xs = xs.take (trimL xs).length:=by
 generalize hn : xs.length = n
 induction n generalizing xs with
 | zero=>have : xs = []:=List.eq_nil_of_length_eq_zero hn; subst this; rfl
 | succ n ih =>
  have hs:=split_last xs (by omega)
  by_cases h0 : xs.getD (xs.length - 1) 0 = 0
  ·have h1:=trimL_drop xs (by omega) h0
   have h2:=ih (xs.take (xs.length - 1)) (by simp; omega)
   rw [h1] at h2
   have h3 : (trimL xs).length ≤ xs.length - 1:=by
    have:=congrArg List.length h2
    rw [List.take_take,List.length_take] at this
    omega
   rw [List.take_take,Nat.min_eq_left h3] at h2
   exact h2
  ·rw [trimL_stop xs (.inr h0),List.take_length]

theorem trimL_mem (xs : List Int) : ∀ x ∈ trimL xs,x ∈ xs:=by
 intro x hx
 unfold trimL at hx
 have:=(List.dropWhile_sublist (l:=xs.reverse) (· == 0)).mem (List.mem_reverse.1 hx)
 exact List.mem_reverse.1 this

theorem trimL_eq (B : Nat) (hB : 2 ≤ B) (xs : List Int) (h : InB B xs) : trimL xs = dg B (V B xs):=by
 rw [← V_trimL B xs,dg_V B hB _ (fun x hx=>h x (trimL_mem xs x hx)) (trimL_trd xs)]

end Go.Proofs.NatL

namespace Go.Proofs.NatL
set_option linter.unusedSimpArgs false
set_option linter.unusedVariables false

theorem getD_eq (xs : List Int) (i : Nat) (h : i < xs.length) : xs.getD i 0 = xs[i]:=by simp [List.getD_eq_getElem?_getD,List.getElem?_eq_getElem h]

theorem InB_getD {B : Nat} (hB : 0 < B) {xs : List Int} (h : InB B xs) (i : Nat) : 0 ≤ xs.getD i 0 ∧ xs.getD i 0 < B:=by
 by_cases hi : i < xs.length
 ·rw [getD_eq xs i hi]; exact h _ (List.getElem_mem hi)
 ·rw [List.getD_eq_getElem?_getD,List.getElem?_eq_none (by omega)]; simp; omega

theorem V_take_succ (B : Nat) (xs : List Int) (i : Nat) (h : i < xs.length) : V B (xs.take (i + 1)) = V B (xs.take i) + B ^ i * (xs.getD i 0).toNat:=by
 rw [List.take_succ_eq_append_getElem h,V_snoc,getD_eq xs i h]
 congr 3
 simp; omega

theorem V_take_ge (B : Nat) (xs : List Int) (i : Nat) (h : xs.length ≤ i) : V B (xs.take (i + 1)) = V B (xs.take i):=by
 rw [List.take_of_length_le (by omega),List.take_of_length_le h]

theorem V_drop (B : Nat) (xs : List Int) (i : Nat) (h : i < xs.length) : V B (xs.drop i) = (xs.getD i 0).toNat + B * V B (xs.drop (i + 1)):=by
 rw [List.drop_eq_getElem_cons h,V,getD_eq xs i h]

theorem V_split (B : Nat) (xs : List Int) (i : Nat) (h : i ≤ xs.length) : V B xs = V B (xs.take i) + B ^ i * V B (xs.drop i):=by
 have:=V_append B (xs.take i) (xs.drop i)
 rw [List.take_append_drop,List.length_take,Nat.min_eq_left h] at this
 exact this

theorem InB_take {B : Nat} {xs : List Int} (h : InB B xs) (i : Nat) : InB B (xs.take i):=fun x hx=>h x (List.mem_of_mem_take hx)
theorem InB_drop {B : Nat} {xs : List Int} (h : InB B xs) (i : Nat) : InB B (xs.drop i):=fun x hx=>h x (List.mem_of_mem_drop hx)
theorem InB_snoc {B : Nat} {xs : List Int} (h : InB B xs) {x : Int} (h0 : 0 ≤ x) (h1 : x < B) : InB B (xs ++ [x]):=by
 intro y hy
 rcases List.mem_append.1 hy with hy | hy
 ·exact h y hy
 ·simp at hy; subst hy; exact ⟨h0,h1⟩
theorem InB_set {B : Nat} {xs : List Int} (h : InB B xs) (i : Nat) {x : Int} (h0 : 0 ≤ x) (h1 : x < B) : InB B (xs.set i x):=by
 intro y hy
 rcases List.mem_or_eq_of_mem_set hy with hy | rfl
 ·exact h y hy
 ·exact ⟨h0,h1⟩
theorem InB_nil (B : Nat) : InB B []:=fun _ hx=>by cases hx
theorem InB_replicate {B : Nat} (hB : 0 < B) (n : Nat) : InB B (List.replicate n 0):=fun x hx=>by
 have:=List.eq_of_mem_replicate hx; subst this; exact ⟨by omega,by omega⟩
theorem V_replicate (B n : Nat) : V B (List.replicate n 0) = 0:=by
 induction n with
 | zero=>rfl
 | succ n ih=>simp [List.replicate_succ,V,ih]

theorem V_set (B : Nat) (xs : List Int) (i : Nat) (x : Int) (h : i < xs.length) : V B (xs.set i x) + B ^ i * (xs.getD i 0).toNat = V B xs + B ^ i * x.toNat:=by
 induction xs generalizing i with
 | nil=>simp at h
 | cons y ys ih =>
  match i with
  | 0=>simp [V]; omega
  | i + 1 =>
   have hh:=ih i (by simpa using h)
   simp only [List.set_cons_succ,V,List.getD_cons_succ,Nat.pow_succ]
   have e : ∀ a : Nat,B ^ i * B * a = B * (B ^ i * a):=fun a=>by rw [Nat.mul_comm (B ^ i) B,Nat.mul_assoc]
   rw [e,e,Nat.add_assoc,Nat.add_assoc,← Nat.mul_add,← Nat.mul_add,hh]

theorem cmp_at {B : Nat} (hB : 0 < B) {xs ys : List Int} (hx : InB B xs) (hy : InB B ys) (hl : xs.length = ys.length) (i : Nat) (hi : i < xs.length) (hd : xs.drop (i + 1) = ys.drop (i + 1)) (hlt : xs.getD i 0 < ys.getD i 0) : V B xs < V B ys:=by
 rw [V_split B xs i (by omega),V_split B ys i (by omega),V_drop B xs i hi,V_drop B ys i (by omega),hd]
 have h1:=V_lt B hB _ (InB_take hx i)
 rw [List.length_take,Nat.min_eq_left (by omega)] at h1
 have h2:=(InB_getD hB hx i).1
 have h3 : (xs.getD i 0).toNat + 1 ≤ (ys.getD i 0).toNat:=by omega
 have h4 : B ^ i * ((xs.getD i 0).toNat + B * V B (ys.drop (i + 1)) + 1) ≤ B ^ i * ((ys.getD i 0).toNat + B * V B (ys.drop (i + 1))):=Nat.mul_le_mul_left _ (by omega)
 rw [Nat.mul_add,Nat.mul_one] at h4
 omega

theorem drop_step {xs ys : List Int} (hl : xs.length = ys.length) (i : Nat) (hi : i < xs.length) (hd : xs.drop (i + 1) = ys.drop (i + 1)) (he : xs.getD i 0 = ys.getD i 0) : xs.drop i = ys.drop i:=by
 rw [List.drop_eq_getElem_cons hi,List.drop_eq_getElem_cons (show i < ys.length by omega),hd]
 rw [getD_eq xs i hi,getD_eq ys i (by omega)] at he
 rw [he]

theorem len_lt {B : Nat} (hB : 0 < B) {xs ys : List Int} (hx : InB B xs) (hy : InB B ys) (ht : Trd ys) (hl : xs.length < ys.length) : V B xs < V B ys:=by
 rcases ht with ht | ht
 ·omega
 ·have h1:=V_lt B hB xs hx
  have h2:=V_split B ys (ys.length - 1) (by omega)
  rw [V_drop B ys _ (by omega)] at h2
  have h3:=(InB_getD hB hy (ys.length - 1)).1
  have h4 : 1 ≤ (ys.getD (ys.length - 1) 0).toNat:=by omega
  have h5 : B ^ xs.length ≤ B ^ (ys.length - 1):=Nat.pow_le_pow_right hB (by omega)
  have h6 : B ^ (ys.length - 1) * 1 ≤ B ^ (ys.length - 1) * ((ys.getD (ys.length - 1) 0).toNat + B * V B (ys.drop (ys.length - 1 + 1))):=Nat.mul_le_mul_left _ (by omega)
  omega

def cmp3 (a b : Nat) : Int:=if a < b then -1 else if a = b then 0 else 1

theorem dg_len_le {B : Nat} (hB : 2 ≤ B) (n k : Nat) (h : n < B ^ k) : (dg B n).length ≤ k:=by
 induction k generalizing n with
 | zero=>simp at h; subst h; simp [dg_zero]
 | succ k ih =>
  by_cases hn : n = 0
  ·subst hn; simp [dg_zero]
  ·rw [dg_pos B n hB (by omega),List.length_cons]
   have:=ih (n / B) (by rw [Nat.div_lt_iff_lt_mul (by omega)]; rwa [← Nat.pow_succ])
   omega
theorem dg_len_gt {B : Nat} (hB : 2 ≤ B) (n k : Nat) (h : B ^ k ≤ n) : k < (dg B n).length:=by
 rcases Nat.lt_or_ge k (dg B n).length with h1 | h1
 ·exact h1
 ·exfalso
  have:=V_lt B (by omega) _ (InB_dg B hB n)
  rw [V_dg B hB] at this
  have h2 : B ^ (dg B n).length ≤ B ^ k:=Nat.pow_le_pow_right (by omega) h1
  omega

theorem V_take_getD (B : Nat) (xs : List Int) (i : Nat) : V B (xs.take (i + 1)) = V B (xs.take i) + B ^ i * (xs.getD i 0).toNat:=by
 by_cases h : i < xs.length
 ·exact V_take_succ B xs i h
 ·rw [V_take_ge B xs i (by omega),List.getD_eq_getElem?_getD,List.getElem?_eq_none (by omega)]; simp

theorem carry_step (B i v c t r q x : Nat) (h : v + B ^ i * c = t) (hs : r + B * q = c + x) : v + B ^ i * r + B ^ (i + 1) * q = t + B ^ i * x:=by
 have e : B ^ (i + 1) * q = B ^ i * (B * q):=by rw [Nat.pow_succ,Nat.mul_assoc]
 have e2 : B ^ i * r + B ^ i * (B * q) = B ^ i * c + B ^ i * x:=by rw [← Nat.mul_add,hs,Nat.mul_add]
 rw [e,Nat.add_assoc,e2,← Nat.add_assoc,h]

theorem add_step (B i : Nat) (o us vs : List Int) (c r q x y : Int) (h : V B o + B ^ i * c.toNat = V B (us.take i) + V B (vs.take i)) (hl : o.length = i) (hx : x = us.getD i 0) (hy : y = vs.getD i 0)
  (hr : r.toNat + B * q.toNat = c.toNat + (x.toNat + y.toNat)) : V B (o ++ [r]) + B ^ (i + 1) * q.toNat = V B (us.take (i + 1)) + V B (vs.take (i + 1)):=by
 have e:=carry_step B i _ _ _ _ _ _ h hr
 rw [V_snoc,hl,V_take_getD,V_take_getD,e,← hx,← hy,Nat.mul_add]
 omega

theorem sub_step (B i : Nat) (o xs ys : List Int) (c d q x y : Int) (h : V B o + V B (ys.take i) = V B (xs.take i) + B ^ i * c.toNat) (hl : o.length = i) (hx : x = xs.getD i 0) (hy : y = ys.getD i 0)
  (hr : c.toNat + (d.toNat + y.toNat) = x.toNat + B * q.toNat) : V B (o ++ [d]) + V B (ys.take (i + 1)) = V B (xs.take (i + 1)) + B ^ (i + 1) * q.toNat:=by
 have e : B ^ (i + 1) * q.toNat = B ^ i * (B * q.toNat):=by rw [Nat.pow_succ,Nat.mul_assoc]
 have e2 : B ^ i * c.toNat + (B ^ i * d.toNat + B ^ i * y.toNat) = B ^ i * x.toNat + B ^ i * (B * q.toNat):=by rw [← Nat.mul_add,← Nat.mul_add,hr,Nat.mul_add]
 rw [V_snoc,hl,V_take_getD,V_take_getD,← hx,← hy,e]
 omega

theorem sub_end (B : Nat) (hB : 0 < B) (o xs ys : List Int) (c : Int) (bo : InB B o) (hl : o.length = xs.length) (hy : ys.length ≤ xs.length) (hv : V B ys ≤ V B xs) (hc : c ≤ 1) (h : V B o + V B (ys.take o.length) = V B (xs.take o.length) + B ^ o.length * c.toNat) : V B o = V B xs - V B ys:=by
 rw [List.take_of_length_le (by omega),List.take_of_length_le (by omega)] at h
 have h1:=V_lt B hB o bo
 have : c.toNat = 0 ∨ c.toNat = 1:=by omega
 rcases this with e | e
 ·rw [e] at h; simp at h; omega
 ·rw [e] at h; simp at h; omega

theorem mul_inner (B i k v v' c s r q x y z v0 t : Nat) (h : v + B ^ (i + k) * c = v0 + B ^ i * (x * t)) (hset : v' + B ^ (i + k) * z = v + B ^ (i + k) * r) (hs : s = c + x * y + z) (hr : r + B * q = s) :
  v' + B ^ (i + k + 1) * q = v0 + B ^ i * (x * (t + B ^ k * y)):=by
 have e1 : B ^ (i + k + 1) * q = B ^ (i + k) * (B * q):=by rw [Nat.pow_succ,Nat.mul_assoc]
 have e2 : B ^ (i + k) * r + B ^ (i + k) * (B * q) = B ^ (i + k) * c + B ^ (i + k) * (x * y) + B ^ (i + k) * z:=by rw [← Nat.mul_add,hr,hs,Nat.mul_add,Nat.mul_add]
 have e3 : B ^ i * (x * (t + B ^ k * y)) = B ^ i * (x * t) + B ^ (i + k) * (x * y):=by
  rw [Nat.mul_add,Nat.mul_add,Nat.pow_add]
  congr 1
  rw [Nat.mul_assoc]
  congr 1
  rw [← Nat.mul_assoc,Nat.mul_comm x (B ^ k),Nat.mul_assoc]
 rw [e1,e3]
 omega

theorem getD_ge (xs : List Int) (i : Nat) (h : xs.length ≤ i) : xs.getD i 0 = 0:=by
 rw [List.getD_eq_getElem?_getD,List.getElem?_eq_none h]; rfl

theorem getD_mid (o xs : List Int) (h : o.length ≤ xs.length) : (o ++ xs.drop o.length).getD o.length 0 = xs.getD o.length 0:=by
 simp [List.getD_eq_getElem?_getD,List.getElem?_append_right,List.getElem?_drop]

theorem set_mid (o xs : List Int) (v : Int) (h : o.length < xs.length) : (o ++ xs.drop o.length).set o.length v = (o ++ [v]) ++ xs.drop (o.length + 1):=by
 rw [List.set_append_right _ _ (Nat.le_refl _),Nat.sub_self,List.drop_eq_getElem_cons h,List.set_cons_zero]
 simp

theorem trd_of_ge {B : Nat} (hB : 0 < B) (o : List Int) (bo : InB B o) (h : B ^ (o.length - 1) ≤ V B o) : Trd o:=by
 by_cases h0 : o.length = 0
 ·exact .inl h0
 ·right
  intro hz
  have h1:=V_split B o (o.length - 1) (by omega)
  rw [V_drop B o _ (by omega),hz,show o.length - 1 + 1 = o.length by omega,List.drop_length] at h1
  simp [V] at h1
  have h2:=V_lt B hB _ (InB_take bo (o.length - 1))
  rw [List.length_take,Nat.min_eq_left (by omega)] at h2
  omega
theorem V_ge_of_trd {B : Nat} (hB : 0 < B) (o : List Int) (bo : InB B o) (h : Trd o) (h0 : 0 < o.length) : B ^ (o.length - 1) ≤ V B o:=by
 rcases h with h | h
 ·omega
 ·have h1:=V_split B o (o.length - 1) (by omega)
  rw [V_drop B o _ (by omega)] at h1
  have h2:=(InB_getD hB bo (o.length - 1)).1
  have h3 : B ^ (o.length - 1) * 1 ≤ B ^ (o.length - 1) * ((o.getD (o.length - 1) 0).toNat + B * V B (o.drop (o.length - 1 + 1))):=Nat.mul_le_mul_left _ (by omega)
  omega
theorem InB_app {B : Nat} {xs ys : List Int} (h : InB B xs) (h2 : InB B ys) : InB B (xs ++ ys):=fun x hx=>by
 rcases List.mem_append.1 hx with hx | hx
 ·exact h x hx
 ·exact h2 x hx
theorem InB_two {B : Nat} {x y : Int} (h1 : 0 ≤ x ∧ x < B) (h2 : 0 ≤ y ∧ y < B) : InB B [x,y]:=fun z hz=>by
 simp at hz; rcases hz with rfl | rfl <;> assumption
theorem V_le_len {B : Nat} (hB : 0 < B) {xs ys : List Int} (bx : InB B xs) (by' : InB B ys) (ty : Trd ys) (hv : V B ys ≤ V B xs) : ys.length ≤ xs.length:=by
 rcases Nat.lt_or_ge xs.length ys.length with h | h
 ·have:=len_lt hB bx by' ty h; omega
 ·exact h

theorem getD_set_ne (xs : List Int) (i j : Nat) (v : Int) (h : i ≠ j) : (xs.set i v).getD j 0 = xs.getD j 0:=by
 simp [List.getD_eq_getElem?_getD,List.getElem?_set_ne h]
theorem getD_replicate (n j : Nat) : (List.replicate n (0 : Int)).getD j 0 = 0:=by
 simp only [List.getD_eq_getElem?_getD,List.getElem?_replicate]
 split <;> rfl

end Go.Proofs.NatL

namespace Go.Proofs.NatL
set_option linter.unusedSimpArgs false
set_option linter.unusedVariables false
open Go.Abs

theorem shrI_lit (k : IntKind) (x : Int) (n : Nat) (h : n ≤ k.bits) : shrI k x (n : Int) = x / 2 ^ n:=by
 have : Nat.min ((n : Int)).toNat k.bits = n:=by simp [Nat.min_eq_left h]
 rw [shrI,this,Int.fdiv_eq_ediv_of_nonneg _ (by exact Int.le_of_lt (Int.pow_pos (by omega)))]
theorem shr32 (x : Int) : shrI .u64 x 32 = x / 4294967296:=shrI_lit .u64 x 32 (by decide)
theorem shr31 (x : Int) : shrI .u32 x 31 = x / 2147483648:=shrI_lit .u32 x 31 (by decide)

theorem wrap_u32 (v : BitVec 32) : IntKind.u32.wrap (v.toNat : Int) = (v.toNat : Int):=by
 have:=v.isLt
 simp [IntKind.wrap,IntKind.signed,IntKind.bits]
 omega
theorem and_u32 (a b : Int) : bitI .and .u32 a b = ((BitVec.ofInt 32 a &&& BitVec.ofInt 32 b).toNat : Int):=wrap_u32 _
theorem or_u32 (a b : Int) : bitI .or .u32 a b = ((BitVec.ofInt 32 a ||| BitVec.ofInt 32 b).toNat : Int):=wrap_u32 _
theorem xor_u32 (a b : Int) : bitI .xor .u32 a b = ((BitVec.ofInt 32 a ^^^ BitVec.ofInt 32 b).toNat : Int):=wrap_u32 _
theorem ofInt_toNat32 (v : BitVec 32) : BitVec.ofInt 32 (v.toNat : Int) = v:=by
 apply BitVec.eq_of_toNat_eq; simp
theorem top32 (v : BitVec 32) : (v.toNat : Int) / 2147483648 = if v.msb then 1 else 0:=by
 have h:=v.isLt
 rw [BitVec.msb_eq_decide]
 simp only [decide_eq_true_eq]
 split <;> omega
theorem msb_ofInt32 (x : Int) (h0 : 0 ≤ x) (h1 : x < 4294967296) : (BitVec.ofInt 32 x).msb = decide (2147483648 ≤ x):=by
 rw [BitVec.msb_eq_decide]
 have : (BitVec.ofInt 32 x).toNat = x.toNat:=by
  rw [BitVec.toNat_ofInt]
  congr 1
  exact Int.emod_eq_of_lt h0 (by simpa using h1)
 rw [this]
 apply Bool.eq_iff_iff.2
 simp only [decide_eq_true_eq]
 omega

theorem msb_max32 : (BitVec.ofInt 32 4294967295).msb = true:=by decide

theorem borrow32 (x y d b : Int) (hx0 : 0 ≤ x) (hx : x < 4294967296) (hy0 : 0 ≤ y) (hy : y < 4294967296) (hb0 : 0 ≤ b) (hb : b ≤ 1) (hd : d = (x - y - b) % 4294967296) :
  shrI .u32 (bitI .or .u32 (bitI .and .u32 (bitI .xor .u32 4294967295 x) y) (bitI .and .u32 (bitI .xor .u32 4294967295 (bitI .xor .u32 x y)) d)) 31 = if x < y + b then 1 else 0:=by
 simp only [shr31,and_u32,or_u32,xor_u32,ofInt_toNat32,top32]
 have hd0 : 0 ≤ d ∧ d < 4294967296:=by omega
 simp only [BitVec.msb_or,BitVec.msb_and,BitVec.msb_xor,msb_max32,msb_ofInt32 x hx0 hx,msb_ofInt32 y hy0 hy,msb_ofInt32 d hd0.1 hd0.2]
 by_cases h1 : 2147483648 ≤ x <;> by_cases h2 : 2147483648 ≤ y <;> by_cases h3 : 2147483648 ≤ d <;> simp [h1,h2,h3] <;> omega

end Go.Proofs.NatL

namespace Go.Proofs.NatL
set_option linter.unusedSimpArgs false
set_option linter.unusedVariables false
open Go.Abs

theorem wrap_u64 (v : BitVec 64) : IntKind.u64.wrap (v.toNat : Int) = (v.toNat : Int):=by
 have:=v.isLt
 simp [IntKind.wrap,IntKind.signed,IntKind.bits]
 omega
theorem ofInt64 (x : Int) (h0 : 0 ≤ x) (h1 : x < 18446744073709551616) : (BitVec.ofInt 64 x).toNat = x.toNat:=by
 rw [BitVec.toNat_ofInt]
 congr 1
 exact Int.emod_eq_of_lt h0 (by simpa using h1)
theorem ofInt32 (x : Int) (h0 : 0 ≤ x) (h1 : x < 4294967296) : (BitVec.ofInt 32 x).toNat = x.toNat:=by
 rw [BitVec.toNat_ofInt]
 congr 1
 exact Int.emod_eq_of_lt h0 (by simpa using h1)
theorem or64 (a b : Int) (a0 : 0 ≤ a) (a1 : a < 18446744073709551616) (b0 : 0 ≤ b) (b1 : b < 18446744073709551616) : bitI .or .u64 a b = ((a.toNat ||| b.toNat : Nat) : Int):=by
 have h : bitI .or .u64 a b = ((BitVec.ofInt 64 a ||| BitVec.ofInt 64 b).toNat : Int):=wrap_u64 _
 rw [h,BitVec.toNat_or,ofInt64 a a0 a1,ofInt64 b b0 b1]
theorem or32 (a b : Int) (a0 : 0 ≤ a) (a1 : a < 4294967296) (b0 : 0 ≤ b) (b1 : b < 4294967296) : bitI .or .u32 a b = ((a.toNat ||| b.toNat : Nat) : Int):=by
 rw [or_u32,BitVec.toNat_or,ofInt32 a a0 a1,ofInt32 b b0 b1]
theorem or_sum (a b i : Nat) (h : b < 2 ^ i) : (a * 2 ^ i) ||| b = a * 2 ^ i + b:=by
 rw [Nat.mul_comm,← Nat.two_pow_add_eq_or_of_lt h]
theorem or64_hi (h l : Int) (h0 : 0 ≤ h) (h1 : h < 4294967296) (l0 : 0 ≤ l) (l1 : l < 4294967296) : bitI .or .u64 (h * 4294967296) l = h * 4294967296 + l:=by
 rw [or64 _ _ (by omega) (by omega) l0 (by omega)]
 have e : (h * 4294967296).toNat = h.toNat * 2 ^ 32:=by omega
 rw [e,or_sum _ _ _ (by omega)]
 omega
theorem or64_hi' (h l : Int) (h0 : 0 ≤ h) (h1 : h < 4294967296) (l0 : 0 ≤ l) (l1 : l < 4294967296) : bitI .or .u64 l (h * 4294967296) = h * 4294967296 + l:=by
 rw [or64 _ _ l0 (by omega) (by omega) (by omega),Nat.or_comm]
 have e : (h * 4294967296).toNat = h.toNat * 2 ^ 32:=by omega
 rw [e,or_sum _ _ _ (by omega)]
 omega
theorem or32_lo (x c s : Nat) (hs : s ≤ 32) (hc : c < 2 ^ s) : bitI .or .u32 (((x * 2 ^ s : Nat) : Int) % 4294967296) (c : Int) = (((x * 2 ^ s) % 4294967296 + c : Nat) : Int):=by
 have h2 : 2 ^ s ≤ 2 ^ 32:=Nat.pow_le_pow_right (by omega) hs
 have e0 : 2 ^ 32 = 2 ^ s * 2 ^ (32 - s):=by rw [← Nat.pow_add]; congr 1; omega
 have e1 : x * 2 ^ s % 4294967296 = (x % 2 ^ (32 - s)) * 2 ^ s:=by
  rw [show (4294967296 : Nat) = 2 ^ 32 from rfl,e0,Nat.mul_comm x,Nat.mul_mod_mul_left,Nat.mul_comm]
 rw [or32 _ _ (by omega) (by omega) (by omega) (by omega)]
 have e2 : (((x * 2 ^ s : Nat) : Int) % 4294967296).toNat = x * 2 ^ s % 4294967296:=by omega
 rw [e2,Int.toNat_natCast,e1,or_sum _ _ _ hc]
theorem shl64 (x : Int) (s : Nat) (hs : s ≤ 32) (h0 : 0 ≤ x) (h1 : x < 4294967296) : shlI .u64 x (s : Int) = x * 2 ^ s:=by
 have e : Nat.min ((s : Int)).toNat IntKind.u64.bits = s:=by
  show Nat.min ((s : Int)).toNat 64 = s
  rw [Int.toNat_natCast]; exact Nat.min_eq_left (by omega)
 have h2 : (2 : Int) ^ s ≤ 2 ^ 32:=by
  have : (2 : Nat) ^ s ≤ 2 ^ 32:=Nat.pow_le_pow_right (by omega) hs
  exact_mod_cast this
 have h3 : (0 : Int) < 2 ^ s:=Int.pow_pos (by omega)
 have h4 : x * 2 ^ s ≤ 4294967295 * 2 ^ s:=Int.mul_le_mul_of_nonneg_right (by omega) (by omega)
 have h5 : 0 ≤ x * 2 ^ s:=Int.mul_nonneg h0 (by omega)
 have h6 : (2 : Int) ^ 32 = 4294967296:=by decide
 rw [shlI,e]
 simp [IntKind.wrap,IntKind.signed,IntKind.bits]
 omega
theorem shl64_32 (x : Int) (h0 : 0 ≤ x) (h1 : x < 4294967296) : shlI .u64 x 32 = x * 4294967296:=shl64 x 32 (by omega) h0 h1
theorem shr64 (x : Int) (s : Nat) (hs : s ≤ 64) : shrI .u64 x (s : Int) = x / 2 ^ s:=shrI_lit .u64 x s hs
theorem tmod32 (n : Nat) : Int.tmod (n : Int) 32 = ((n % 32 : Nat) : Int):=by
 rw [Int.tmod_eq_emod_of_nonneg (by omega)]; omega
theorem tdiv32 (n : Nat) : Int.tdiv (n : Int) 32 = ((n / 32 : Nat) : Int):=by
 rw [Int.tdiv_eq_ediv_of_nonneg (by omega)]; omega

theorem left_step (B i s : Nat) (o xs : List Int) (c r q : Nat) (h : V B o + B ^ i * c = V B (xs.take i) * s) (hl : o.length = i) (hr : r + B * q = (xs.getD i 0).toNat * s + c) :
  V B (o ++ [(r : Int)]) + B ^ (i + 1) * q = V B (xs.take (i + 1)) * s:=by
 have e:=carry_step B i _ _ _ r q ((xs.getD i 0).toNat * s) h (by omega)
 rw [V_snoc,hl,V_take_getD,Int.toNat_natCast,e,Nat.add_mul,Nat.mul_assoc]

theorem V_zeros (B q : Nat) (o : List Int) : V B (List.replicate q 0 ++ o) = B ^ q * V B o:=by
 rw [V_append,V_replicate,List.length_replicate]; omega

theorem V_digit (B : Nat) (hB : 0 < B) (xs : List Int) (h : InB B xs) (i : Nat) : V B xs / B ^ i % B = (xs.getD i 0).toNat:=by
 by_cases hi : i < xs.length
 ·have h1:=V_split B xs i (by omega)
  have h2:=V_lt B hB _ (InB_take h i)
  rw [List.length_take,Nat.min_eq_left (by omega)] at h2
  rw [h1,Nat.add_mul_div_left _ _ (Nat.pow_pos hB),Nat.div_eq_of_lt h2,Nat.zero_add,V_drop B xs i hi,Nat.add_mul_mod_self_left]
  exact Nat.mod_eq_of_lt (by have:=InB_getD hB h i; omega)
 ·rw [getD_ge xs i (by omega)]
  have h2:=V_lt B hB xs h
  have h3 : B ^ xs.length ≤ B ^ i:=Nat.pow_le_pow_right hB (by omega)
  rw [Nat.div_eq_of_lt (by omega)]; simp
theorem V_drop_div (B : Nat) (hB : 0 < B) (xs : List Int) (h : InB B xs) (i : Nat) : V B (xs.drop i) = V B xs / B ^ i:=by
 by_cases hi : i ≤ xs.length
 ·have h1:=V_split B xs i hi
  have h2:=V_lt B hB _ (InB_take h i)
  rw [List.length_take,Nat.min_eq_left hi] at h2
  rw [h1,Nat.add_mul_div_left _ _ (Nat.pow_pos hB),Nat.div_eq_of_lt h2,Nat.zero_add]
 ·rw [List.drop_eq_nil_of_le (by omega)]
  have h2:=V_lt B hB xs h
  have h3 : B ^ xs.length ≤ B ^ i:=Nat.pow_le_pow_right hB (by omega)
  rw [Nat.div_eq_of_lt (by omega)]; rfl

theorem right_digit (n W s i : Nat) (hs : s ∣ W) (hs0 : 0 < s) (hW : 0 < W) : (n / W ^ i % W + W * (n / W ^ (i + 1) % W)) / s % W = n / s / W ^ i % W:=by
 obtain ⟨t,rfl⟩:=hs
 have ht : 0 < t:=Nat.pos_of_mul_pos_left hW |> fun _=>by
  rcases Nat.eq_zero_or_pos t with h | h
  ·subst h; simp at hW
  ·exact h
 have e1 : n / s / (s * t) ^ i = n / (s * t) ^ i / s:=by rw [Nat.div_div_eq_div_mul,Nat.div_div_eq_div_mul,Nat.mul_comm]
 rw [e1]
 generalize hm : n / (s * t) ^ i = m
 have e2 : n / (s * t) ^ (i + 1) = m / (s * t):=by rw [← hm,Nat.div_div_eq_div_mul,Nat.pow_succ]
 rw [e2]
 generalize hW2 : s * t = W at *
 have h1 : m % W + W * (m / W % W) = m % (W * W):=(Nat.mod_mul).symm
 rw [h1]
 have h2 : m = m % (W * W) + W * W * (m / (W * W)):=(Nat.mod_add_div m (W * W)).symm
 conv=>rhs; rw [h2]
 have h3 : W * W * (m / (W * W)) = s * (W * (t * (m / (W * W)))):=by
  rw [← hW2]; simp only [Nat.mul_assoc,Nat.mul_comm,Nat.mul_left_comm]
 rw [h3,Nat.add_mul_div_left _ _ hs0,Nat.add_mul_mod_self_left]
theorem mod_pow_succ' (n W k : Nat) : n % W ^ k + W ^ k * (n / W ^ k % W) = n % W ^ (k + 1):=by
 rw [Nat.pow_succ]; exact (Nat.mod_mul).symm

theorem short_step (B i d : Nat) (o xs : List Int) (r r' q x : Nat) (hi : i < xs.length) (hl : o.length = xs.length) (h : V B (o.drop (i + 1)) * d + r = V B (xs.drop (i + 1))) (hx : x = (xs.getD i 0).toNat) (hq : q * d + r' = r * B + x) :
  V B ((o.set i (q : Int)).drop i) * d + r' = V B (xs.drop i):=by
 rw [V_drop B xs i hi,V_drop B _ i (by simp; omega),List.drop_set_of_lt (by omega),← h,← hx]
 have e : (o.set i (q : Int)).getD i 0 = (q : Int):=by rw [getD_eq _ _ (by simp; omega)]; simp
 rw [e,Int.toNat_natCast,Nat.add_mul,Nat.mul_add,← Nat.mul_assoc]
 have e2 : B * r = r * B:=Nat.mul_comm ..
 omega

end Go.Proofs.NatL

namespace Go.Proofs.NatL
set_option linter.unusedSimpArgs false
set_option linter.unusedVariables false

def pad (B k m : Nat) : List Int:=(List.range k).map fun i=>((m / B ^ i % B : Nat) : Int)

theorem pad_len (B k m : Nat) : (pad B k m).length = k:=by simp [pad]
theorem InB_pad (B k m : Nat) (hB : 0 < B) : InB B (pad B k m):=by
 intro x hx
 simp only [pad,List.mem_map,List.mem_range] at hx
 obtain ⟨i,_,rfl⟩:=hx
 exact ⟨Int.natCast_nonneg _,by exact_mod_cast Nat.mod_lt _ hB⟩
theorem pad_eq (B : Nat) (hB : 0 < B) (xs : List Int) (h : InB B xs) : xs = pad B xs.length (V B xs):=by
 apply List.ext_getElem
 ·simp [pad]
 ·intro i h1 h2
  simp only [pad,List.getElem_map,List.getElem_range]
  rw [V_digit B hB xs h i,getD_eq xs i h1]
  have:=h _ (List.getElem_mem h1)
  omega
theorem V_pad (B k m : Nat) (hB : 0 < B) (h : m < B ^ k) : V B (pad B k m) = m:=by
 induction k with
 | zero=>simp at h; subst h; rfl
 | succ k ih =>
  have : ∀ j,V B (pad B j m) = m % B ^ j:=by
   intro j
   induction j with
   | zero=>simp [pad,V,Nat.mod_one]
   | succ j ihj =>
    have e : pad B (j + 1) m = pad B j m ++ [((m / B ^ j % B : Nat) : Int)]:=by simp [pad,List.range_succ]
    rw [e,V_snoc,ihj,pad_len,Int.toNat_natCast,mod_pow_succ']
  rw [this,Nat.mod_eq_of_lt h]

theorem V_top2 (B : Nat) (xs : List Int) (n : Nat) (h : xs.length = n) (hn : 2 ≤ n) : V B xs = V B (xs.take (n - 2)) + B ^ (n - 2) * ((xs.getD (n - 2) 0).toNat + B * (xs.getD (n - 1) 0).toNat):=by
 rw [V_split B xs (n - 2) (by omega),V_drop B xs (n - 2) (by omega),V_drop B xs (n - 2 + 1) (by omega),show n - 2 + 1 = n - 1 by omega,show n - 1 + 1 = n by omega,List.drop_eq_nil_of_le (by omega)]
 simp [V]
theorem V_top3 (B : Nat) (xs : List Int) (n : Nat) (h : xs.length = n + 1) (hn : 2 ≤ n) : V B xs = V B (xs.take (n - 2)) + B ^ (n - 2) * ((xs.getD (n - 2) 0).toNat + B * ((xs.getD (n - 1) 0).toNat + B * (xs.getD n 0).toNat)):=by
 rw [V_split B xs (n - 2) (by omega),V_drop B xs (n - 2) (by omega),V_drop B xs (n - 2 + 1) (by omega),show n - 2 + 1 = n - 1 by omega,V_drop B xs (n - 1 + 1) (by omega),show n - 1 + 1 = n by omega,List.drop_eq_nil_of_le (by omega)]
 simp [V]

structure Est (B : Nat) (Vu Vv U3 V2 u2 head v1 v2 : Nat) : Prop where
 ex : ∃ P ul vl,0 < P ∧ Vu = ul + P * U3 ∧ ul < P ∧ Vv = vl + P * V2 ∧ vl < P
 u : U3 = u2 + B * head
 v : V2 = v2 + B * v1
 ku2 : u2 < B
 kv2 : v2 < B
 kv1 : 0 < v1
 lt : Vu < B * Vv
 hd : head < v1 * B + B

theorem est_of (B : Nat) (hB : 0 < B) (us vs : List Int) (n : Nat) (hu : us.length = n + 1) (hv : vs.length = n) (hn : 2 ≤ n) (bu : InB B us) (bv : InB B vs) (hlt : V B us < B * V B vs) (ht : Trd vs) :
  Est B (V B us) (V B vs) ((us.getD (n - 2) 0).toNat + B * ((us.getD (n - 1) 0).toNat + B * (us.getD n 0).toNat)) ((vs.getD (n - 2) 0).toNat + B * (vs.getD (n - 1) 0).toNat) (us.getD (n - 2) 0).toNat ((us.getD (n - 1) 0).toNat + B * (us.getD n 0).toNat) (vs.getD (n - 1) 0).toNat (vs.getD (n - 2) 0).toNat:=by
 have h1:=V_top3 B us n hu hn
 have h2:=V_top2 B vs n hv hn
 have l1:=V_lt B hB _ (InB_take bu (n - 2))
 have l2:=V_lt B hB _ (InB_take bv (n - 2))
 rw [List.length_take,Nat.min_eq_left (by omega)] at l1 l2
 have c1:=InB_getD hB bu (n - 2)
 have c2:=InB_getD hB bu (n - 1)
 have c3:=InB_getD hB bu n
 have c4:=InB_getD hB bv (n - 1)
 have c5:=InB_getD hB bv (n - 2)
 have ht1 : 0 < (vs.getD (n - 1) 0).toNat:=by
  rcases ht with ht | ht
  ·omega
  ·rw [hv] at ht; omega
 refine ⟨⟨B ^ (n - 2),_,_,Nat.pow_pos hB,h1,l1,h2,l2⟩,rfl,rfl,by omega,by omega,ht1,hlt,?_⟩
 generalize (us.getD n 0).toNat = u0 at *
 generalize hu1 : (us.getD (n - 1) 0).toNat = u1 at *
 generalize hu2 : (us.getD (n - 2) 0).toNat = u2 at *
 generalize (vs.getD (n - 1) 0).toNat = v1 at *
 generalize hv2 : (vs.getD (n - 2) 0).toNat = v2 at *
 generalize B ^ (n - 2) = P at *
 have hu1' : u1 < B:=by omega
 have hv2' : v2 < B:=by omega
 rcases Nat.lt_or_ge v1 u0 with hc | hc
 ·exfalso
  have e1 : P * (B * (B * (v1 + 1))) ≤ P * (B * (B * u0)):=Nat.mul_le_mul_left _ (Nat.mul_le_mul_left _ (Nat.mul_le_mul_left _ hc))
  have e2 : P * (B * (B * u0)) ≤ V B us:=by
   rw [h1]
   have : B * (B * u0) ≤ u2 + B * (u1 + B * u0):=by rw [Nat.mul_add]; omega
   have:=Nat.mul_le_mul_left P this
   omega
  have e3 : V B vs < P * (B * (v1 + 1)):=by
   rw [h2]
   have : v2 + B * v1 + 1 ≤ B * (v1 + 1):=by rw [Nat.mul_add]; omega
   have:=Nat.mul_le_mul_left P this
   rw [Nat.mul_add] at this
   omega
  have e4 : B * (V B vs + 1) ≤ B * (P * (B * (v1 + 1))):=Nat.mul_le_mul_left _ e3
  have e5 : B * (P * (B * (v1 + 1))) = P * (B * (B * (v1 + 1))):=Nat.mul_left_comm ..
  rw [Nat.mul_add] at e4
  omega
 ·have : B * u0 ≤ B * v1:=Nat.mul_le_mul_left _ hc
  rw [Nat.mul_comm v1 B]
  omega

theorem Est.q_le {B Vu Vv U3 V2 u2 head v1 v2 : Nat} (h : Est B Vu Vv U3 V2 u2 head v1 v2) : Vu / Vv * V2 ≤ U3:=by
 obtain ⟨P,ul,vl,hP,hu,hul,hv,hvl⟩:=h.ex
 have h1 : Vu / Vv * Vv ≤ Vu:=Nat.div_mul_le_self _ _
 have h2 : Vu / Vv * (P * V2) ≤ Vu / Vv * Vv:=Nat.mul_le_mul_left _ (by omega)
 have h3 : P * (Vu / Vv * V2) < P * (U3 + 1):=by
  rw [Nat.mul_left_comm,Nat.mul_add]; omega
 have:=Nat.lt_of_mul_lt_mul_left h3
 omega
theorem Est.vpos {B Vu Vv U3 V2 u2 head v1 v2 : Nat} (h : Est B Vu Vv U3 V2 u2 head v1 v2) : 0 < Vv:=by
 have h1:=h.lt
 rcases Nat.eq_zero_or_pos Vv with h0 | h0
 ·rw [h0] at h1; omega
 ·exact h0
theorem Est.q_lt {B Vu Vv U3 V2 u2 head v1 v2 : Nat} (h : Est B Vu Vv U3 V2 u2 head v1 v2) : Vu / Vv < B:=by
 rw [Nat.div_lt_iff_lt_mul h.vpos]; exact h.lt
theorem Est.start {B Vu Vv U3 V2 u2 head v1 v2 : Nat} (h : Est B Vu Vv U3 V2 u2 head v1 v2) (hB : 0 < B) : Vu / Vv ≤ head / v1:=by
 rw [Nat.le_div_iff_mul_le h.kv1]
 have h1:=h.q_le
 rw [h.u,h.v,Nat.mul_add,Nat.mul_left_comm] at h1
 have h2 : B * (Vu / Vv * v1) < B * (head + 1):=by rw [Nat.mul_add]; have:=h.ku2; omega
 have:=Nat.lt_of_mul_lt_mul_left h2
 omega
theorem Est.more {B Vu Vv U3 V2 u2 head v1 v2 g r : Nat} (h : Est B Vu Vv U3 V2 u2 head v1 v2) (hi : g * v1 + r = head) (hc : B ≤ g ∨ r * B + u2 < g * v2) : Vu / Vv < g:=by
 rcases hc with hc | hc
 ·have:=h.q_lt; omega
 ·rcases Nat.lt_or_ge (Vu / Vv) g with h1 | h1
  ·exact h1
  ·exfalso
   have h2 : g * V2 ≤ Vu / Vv * V2:=Nat.mul_le_mul_right _ h1
   have h3:=h.q_le
   have h4 : g * V2 = g * v2 + B * (g * v1):=by rw [h.v,Nat.mul_add,Nat.mul_left_comm]
   have h5 : U3 = u2 + B * (g * v1) + r * B:=by rw [h.u,← hi,Nat.mul_add,Nat.mul_comm B r]; omega
   omega
theorem Est.fits {B Vu Vv U3 V2 u2 head v1 v2 g r : Nat} (h : Est B Vu Vv U3 V2 u2 head v1 v2) (hi : g * v1 + r = head) (hc : g * v2 ≤ r * B + u2) : g * V2 ≤ U3:=by
 have h4 : g * V2 = g * v2 + B * (g * v1):=by rw [h.v,Nat.mul_add,Nat.mul_left_comm]
 have h5 : U3 = u2 + B * (g * v1) + r * B:=by rw [h.u,← hi,Nat.mul_add,Nat.mul_comm B r]; omega
 omega
theorem Est.stop_lt {B Vu Vv U3 V2 u2 head v1 v2 g r : Nat} (h : Est B Vu Vv U3 V2 u2 head v1 v2) (hi : g * v1 + r = head) (hr : B ≤ r) : g < B:=by
 rcases Nat.lt_or_ge g B with h1 | h1
 ·exact h1
 ·exfalso
  have h2 : B * v1 ≤ g * v1:=Nat.mul_le_mul_right _ h1
  have h3:=h.hd
  rw [Nat.mul_comm v1 B] at h3
  omega
theorem Est.stop_fits {B Vu Vv U3 V2 u2 head v1 v2 g r : Nat} (h : Est B Vu Vv U3 V2 u2 head v1 v2) (hi : g * v1 + r = head) (hr : B ≤ r) : g * V2 ≤ U3:=by
 have h1:=h.stop_lt hi hr
 refine h.fits hi ?_
 have h2 : g * v2 ≤ B * B:=Nat.mul_le_mul (by omega) (by have:=h.kv2; omega)
 have h3 : B * B ≤ r * B:=Nat.mul_le_mul_right _ hr
 omega
theorem Est.near {B Vu Vv U3 V2 u2 head v1 v2 g : Nat} (h : Est B Vu Vv U3 V2 u2 head v1 v2) (hg : g < B) (hf : g * V2 ≤ U3) : g ≤ Vu / Vv + 1:=by
 obtain ⟨P,ul,vl,hP,hu,hul,hv,hvl⟩:=h.ex
 have h1 : g * vl ≤ B * P:=Nat.mul_le_mul (by omega) (by omega)
 have h2 : B * P ≤ Vv:=by
  rw [hv,h.v,Nat.mul_add]
  have : P * (B * 1) ≤ P * (B * v1):=Nat.mul_le_mul_left _ (Nat.mul_le_mul_left _ h.kv1)
  rw [Nat.mul_one,Nat.mul_comm P B] at this
  omega
 have h1' : g * vl < B * P:=by
  rcases Nat.eq_zero_or_pos g with h0 | h0
  ·subst h0; simp; exact Nat.mul_pos (by omega) hP
  ·exact Nat.lt_of_lt_of_le (Nat.mul_lt_mul_of_pos_left hvl h0) (Nat.mul_le_mul_right _ (by omega))
 have h3 : g * Vv < Vu + Vv:=by
  have e : g * Vv = g * vl + P * (g * V2):=by rw [hv,Nat.mul_add,Nat.mul_left_comm]
  have : P * (g * V2) ≤ P * U3:=Nat.mul_le_mul_left _ hf
  omega
 have h4 : Vu < (Vu / Vv + 1) * Vv:=by
  rw [Nat.add_mul,Nat.one_mul,Nat.mul_comm]
  have:=Nat.div_add_mod Vu Vv
  have:=Nat.mod_lt Vu h.vpos
  omega
 have h5 : g * Vv < (Vu / Vv + 2) * Vv:=by
  have : (Vu / Vv + 2) * Vv = (Vu / Vv + 1) * Vv + Vv:=by rw [show Vu / Vv + 2 = Vu / Vv + 1 + 1 by omega,Nat.add_mul _ 1,Nat.one_mul]
  omega
 have:=Nat.lt_of_mul_lt_mul_right h5
 omega

theorem msub_step (B i g : Nat) (o us vs : List Int) (c b d low c' b' : Nat) (h : V B o + g * V B (vs.take i) = V B (us.take i) + B ^ i * (b + c)) (hl : o.length = i) (hc : c + g * (vs.getD i 0).toNat = low + B * c') (hd : d + low + b = (us.getD i 0).toNat + B * b') :
  V B (o ++ [(d : Int)]) + g * V B (vs.take (i + 1)) = V B (us.take (i + 1)) + B ^ (i + 1) * (b' + c'):=by
 rw [V_snoc,hl,V_take_getD,V_take_getD,Int.toNat_natCast,Nat.mul_add]
 have e1 : g * (B ^ i * (vs.getD i 0).toNat) = B ^ i * (g * (vs.getD i 0).toNat):=Nat.mul_left_comm ..
 have e2 : B ^ (i + 1) * (b' + c') = B ^ i * (B * b' + B * c'):=by rw [Nat.pow_succ,Nat.mul_assoc,Nat.mul_add]
 have e3 : B ^ i * (b + c) + B ^ i * d + B ^ i * (g * (vs.getD i 0).toNat) = B ^ i * (us.getD i 0).toNat + B ^ i * (B * b' + B * c'):=by
  rw [← Nat.mul_add,← Nat.mul_add,← Nat.mul_add]
  congr 1
  omega
 rw [e1,e2]
 omega

theorem digit_end0 {B Vu Vv U3 V2 u2 head v1 v2 g Vo : Nat} (h : Est B Vu Vv U3 V2 u2 head v1 v2) (hq : Vu / Vv ≤ g) (he : Vo + g * Vv = Vu) : g = Vu / Vv ∧ Vo = Vu % Vv:=by
 have h1 : g * Vv ≤ Vu:=by omega
 have h2 : g ≤ Vu / Vv:=(Nat.le_div_iff_mul_le h.vpos).2 h1
 have h3 : g = Vu / Vv:=by omega
 refine ⟨h3,?_⟩
 have:=Nat.div_add_mod Vu Vv
 rw [Nat.mul_comm,← h3] at this
 omega
theorem digit_end1 {B Vu Vv U3 V2 u2 head v1 v2 g Vo M : Nat} (h : Est B Vu Vv U3 V2 u2 head v1 v2) (hn : g ≤ Vu / Vv + 1) (hq : Vu / Vv ≤ g) (he : Vo + g * Vv = Vu + M) (hM : Vo < M) : g = Vu / Vv + 1 ∧ Vo + Vv = M + Vu % Vv:=by
 have h1 : g ≠ Vu / Vv:=by
  intro e
  have : g * Vv ≤ Vu:=by rw [e]; exact Nat.div_mul_le_self _ _
  omega
 have h2 : g = Vu / Vv + 1:=by omega
 refine ⟨h2,?_⟩
 have:=Nat.div_add_mod Vu Vv
 rw [Nat.mul_comm] at this
 rw [h2,Nat.add_mul,Nat.one_mul] at he
 omega

end Go.Proofs.NatL

namespace Go.Proofs.NatL
set_option linter.unusedSimpArgs false
set_option linter.unusedVariables false

theorem addback_end (P B a k x r : Nat) (hP : 0 < P) (h : a + P * (k + x) = P * B + r) (h1 : a < P) (h2 : r < P) : k + x = B ∧ a = r:=by
 have e : a = r:=by
  have:=congrArg (· % P) h
  simpa [Nat.add_mul_mod_self_left,Nat.mul_add_mod,Nat.mod_eq_of_lt h1,Nat.mod_eq_of_lt h2] using this
 subst e
 refine ⟨?_,rfl⟩
 exact Nat.eq_of_mul_eq_mul_left hP (by omega)

theorem getD_mid3 (p o us s : List Int) (i : Nat) (hl : o.length = i) (hi : i < us.length) : (p ++ (o ++ us.drop i) ++ s).getD (p.length + i) 0 = us.getD i 0:=by
 subst hl
 rw [List.getD_eq_getElem?_getD,List.append_assoc,List.getElem?_append_right (by omega),List.append_assoc,List.getElem?_append_right (by omega),List.getElem?_append_left (by simp; omega),List.getElem?_drop,List.getD_eq_getElem?_getD]
 congr 2; omega
theorem set_mid3 (p o us s : List Int) (i : Nat) (v : Int) (hl : o.length = i) (hi : i < us.length) : (p ++ (o ++ us.drop i) ++ s).set (p.length + i) v = p ++ ((o ++ [v]) ++ us.drop (i + 1)) ++ s:=by
 subst hl
 have:=set_mid o us v hi
 rw [List.append_assoc,List.set_append_right _ _ (by omega),Nat.add_sub_cancel_left,List.set_append_left _ _ (by simp; omega),this]; simp only [List.append_assoc]
end Go.Proofs.NatL

namespace Go.Proofs.NatL
set_option linter.unusedSimpArgs false
set_option linter.unusedVariables false

theorem V_top (B : Nat) (bs : List Int) (h : 0 < bs.length) : V B bs = V B (bs.take (bs.length - 1)) + B ^ (bs.length - 1) * (bs.getD (bs.length - 1) 0).toNat:=by
 have:=V_take_getD B bs (bs.length - 1)
 rwa [show bs.length - 1 + 1 = bs.length by omega,List.take_length] at this

theorem norm_hi (B : Nat) (hB : 0 < B) (bs : List Int) (b : InB B bs) (h : 0 < bs.length) (S : Nat) (hs : ((bs.getD (bs.length - 1) 0).toNat + 1) * S ≤ B) (hS : 0 < S) : V B bs * S < B ^ bs.length:=by
 have h1:=V_top B bs h
 have h2:=V_lt B hB _ (InB_take b (bs.length - 1))
 have h3 : (bs.take (bs.length - 1)).length = bs.length - 1:=by simp
 rw [h3] at h2
 have h4 : V B bs < B ^ (bs.length - 1) * ((bs.getD (bs.length - 1) 0).toNat + 1):=by rw [h1,Nat.mul_add,Nat.mul_one]; omega
 have h5 : V B bs * S < B ^ (bs.length - 1) * ((bs.getD (bs.length - 1) 0).toNat + 1) * S:=Nat.mul_lt_mul_of_pos_right h4 hS
 rw [Nat.mul_assoc] at h5
 have h6 : B ^ (bs.length - 1) * (((bs.getD (bs.length - 1) 0).toNat + 1) * S) ≤ B ^ (bs.length - 1) * B:=Nat.mul_le_mul_left _ hs
 have h7 : B ^ (bs.length - 1) * B = B ^ bs.length:=by rw [← Nat.pow_succ]; congr 1; omega
 omega

theorem norm_lo (B : Nat) (bs : List Int) (h : 0 < bs.length) (S : Nat) (hs : B ≤ 2 * ((bs.getD (bs.length - 1) 0).toNat * S)) : B ^ bs.length ≤ 2 * (V B bs * S):=by
 have h1:=V_top B bs h
 have h4 : B ^ (bs.length - 1) * (bs.getD (bs.length - 1) 0).toNat ≤ V B bs:=by omega
 have h5:=Nat.mul_le_mul_right S h4
 have h6 : B ^ (bs.length - 1) * B ≤ B ^ (bs.length - 1) * (2 * ((bs.getD (bs.length - 1) 0).toNat * S)):=Nat.mul_le_mul_left _ hs
 have h7 : B ^ (bs.length - 1) * B = B ^ bs.length:=by rw [← Nat.pow_succ]; congr 1; omega
 have h8 : B ^ (bs.length - 1) * (2 * ((bs.getD (bs.length - 1) 0).toNat * S)) = 2 * (B ^ (bs.length - 1) * (bs.getD (bs.length - 1) 0).toNat * S):=by
  rw [Nat.mul_left_comm,Nat.mul_assoc]
 omega

theorem start_lt (B la n Va Vv S : Nat) (hva : Va < B ^ la) (hS : 2 * S ≤ B) (hS0 : 0 < S) (hn : n ≤ la + 1) (hv : B ^ n ≤ 2 * Vv) : Va * S < B ^ (la + 1 - n) * Vv:=by
 have h1 : Va * (2 * S) < B ^ la * (2 * S):=Nat.mul_lt_mul_of_pos_right hva (by omega)
 have h2 : B ^ la * (2 * S) ≤ B ^ la * B:=Nat.mul_le_mul_left _ hS
 have h3 : B ^ la * B = B ^ (la + 1 - n) * B ^ n:=by rw [← Nat.pow_succ,← Nat.pow_add]; congr 1; omega
 have h4 : B ^ (la + 1 - n) * B ^ n ≤ B ^ (la + 1 - n) * (2 * Vv):=Nat.mul_le_mul_left _ hv
 have h5 : Va * (2 * S) = 2 * (Va * S):=Nat.mul_left_comm ..
 have h6 : B ^ (la + 1 - n) * (2 * Vv) = 2 * (B ^ (la + 1 - n) * Vv):=Nat.mul_left_comm ..
 omega

theorem div_step (B j U Vv Vu lo W Q : Nat) (hv : 0 < Vv) (h : Vu = U % (B ^ (j + 1) * Vv)) (hu : Vu = lo + B ^ j * W) (hlo : lo < B ^ j) (hB : 0 < B) (hQ : Q = U / (B ^ (j + 1) * Vv)) :
  (lo + B ^ j * (W % Vv) = U % (B ^ j * Vv) ∧ W / Vv + B * Q = U / (B ^ j * Vv)) ∧ W < B * Vv:=by
 have hP : 0 < B ^ j:=Nat.pow_pos hB
 have e1 : B ^ (j + 1) * Vv = B ^ j * Vv * B:=by rw [Nat.pow_succ,Nat.mul_right_comm]
 have e2:=Nat.div_add_mod U (B ^ (j + 1) * Vv)
 rw [← h,← hQ,e1] at e2
 have e3:=Nat.div_add_mod W Vv
 have hlt : W % Vv < Vv:=Nat.mod_lt _ hv
 have hsm : lo + B ^ j * (W % Vv) < B ^ j * Vv:=by
  have : B ^ j * (W % Vv + 1) ≤ B ^ j * Vv:=Nat.mul_le_mul_left _ hlt
  rw [Nat.mul_add,Nat.mul_one] at this
  omega
 have key : lo + B ^ j * (W % Vv) + B ^ j * Vv * (W / Vv + B * Q) = U:=by
  rw [Nat.mul_add (B ^ j * Vv),← Nat.mul_assoc (B ^ j * Vv)]
  have e4 : B ^ j * W = B ^ j * Vv * (W / Vv) + B ^ j * (W % Vv):=by
   rw [Nat.mul_assoc,← Nat.mul_add,e3]
  omega
 refine ⟨?_,?_⟩
 ·have:=(Nat.div_mod_unique (Nat.mul_pos hP hv) (a:=U) (d:=W / Vv + B * Q) (c:=lo + B ^ j * (W % Vv))).2 ⟨key,hsm⟩
  exact ⟨this.2.symm,this.1.symm⟩
 ·have h1 : Vu < B ^ (j + 1) * Vv:=by rw [h]; exact Nat.mod_lt _ (Nat.mul_pos (Nat.pow_pos hB) hv)
  have h2 : B ^ j * W < B ^ j * (B * Vv):=by
   have : B ^ j * (B * Vv) = B ^ (j + 1) * Vv:=by rw [Nat.pow_succ,Nat.mul_assoc]
   omega
  exact Nat.lt_of_mul_lt_mul_left h2

theorem V_drop_zero (B : Nat) (xs : List Int) (i : Nat) (hi : i ≤ xs.length) (h : V B xs < B ^ i) : V B (xs.drop i) = 0:=by
 have:=V_split B xs i hi
 rcases Nat.eq_zero_or_pos (V B (xs.drop i)) with h1 | h1
 ·exact h1
 ·have : B ^ i * 1 ≤ B ^ i * V B (xs.drop i):=Nat.mul_le_mul_left _ h1
  omega

theorem V_win (B : Nat) (xs : List Int) (j k : Nat) (h : j + k ≤ xs.length) (hlt : V B xs < B ^ (j + k)) : V B xs = V B (xs.take j) + B ^ j * V B ((xs.drop j).take k):=by
 have h1:=V_split B xs j (by omega)
 have h2:=V_split B (xs.drop j) k (by simp; omega)
 have h3:=V_drop_zero B xs (j + k) h hlt
 rw [List.drop_drop,h3] at h2
 rw [h1,h2]; simp

theorem V_rewin (B : Nat) (hB : 0 < B) (xs : List Int) (j k m : Nat) (h : j + k ≤ xs.length) (hlt : V B xs < B ^ (j + k)) (hm : m < B ^ k) :
  V B (xs.take j ++ pad B k m ++ xs.drop (j + k)) = V B (xs.take j) + B ^ j * m:=by
 rw [V_append,V_append,V_drop_zero B xs (j + k) h hlt,V_pad B k m hB hm]
 simp [Nat.min_eq_left (show j ≤ xs.length by omega)]

theorem rewin_len (B : Nat) (xs : List Int) (j k m : Nat) (h : j + k ≤ xs.length) : (xs.take j ++ pad B k m ++ xs.drop (j + k)).length = xs.length:=by
 simp [pad_len]; omega

theorem V_set_drop (B : Nat) (xs : List Int) (j : Nat) (x : Nat) (h : j < xs.length) : V B ((xs.set j (x : Int)).drop j) = x + B * V B (xs.drop (j + 1)):=by
 rw [V_drop B _ j (by simpa using h),List.drop_set_of_lt (by omega)]
 simp [List.getD_eq_getElem?_getD,h]

theorem take_small (B : Nat) (xs : List Int) (n : Nat) (hn : n ≤ xs.length) (h : V B xs < B ^ n) : V B (xs.take n) = V B xs:=by
 have:=V_split B xs n hn
 rw [V_drop_zero B xs n hn h] at this
 simpa using this.symm

theorem shift_norm (B t : Nat) (k s : Nat) (hk : 0 < k) (h1 : 2 ^ (k - 1) ≤ t) (h2 : t < 2 ^ k) (hs : k + s = B) : (t + 1) * 2 ^ s ≤ 2 ^ B ∧ 2 ^ B ≤ 2 * (t * 2 ^ s):=by
 have e : 2 ^ k * 2 ^ s = 2 ^ B:=by rw [← Nat.pow_add,hs]
 have e2 : 2 ^ k = 2 * 2 ^ (k - 1):=by
  have : k - 1 + 1 = k:=by omega
  rw [← Nat.pow_succ',Nat.succ_eq_add_one,this]
 constructor
 ·rw [← e]; exact Nat.mul_le_mul_right _ h2
 ·rw [← e,e2,Nat.mul_assoc]; exact Nat.mul_le_mul_left _ (Nat.mul_le_mul_right _ h1)

end Go.Proofs.NatL

namespace Go.Proofs.NatL
set_option linter.unusedSimpArgs false
set_option linter.unusedVariables false

theorem dg_head (n : Nat) : (dg 65536 n).getD 0 0 = ((n % 65536 : Nat) : Int):=by
 rcases Nat.eq_zero_or_pos n with h | h
 ·subst h; rfl
 ·rw [dg_pos _ _ (by omega) h]; rfl
theorem tmod2 (n : Nat) : Int.tmod (n : Int) 2 = ((n % 2 : Nat) : Int):=by
 rw [Int.tmod_eq_emod_of_nonneg (Int.natCast_nonneg _)]; omega
theorem dg_len_pos (B n : Nat) (hB : 2 ≤ B) : 0 < (dg B n).length ↔ 0 < n:=by
 constructor
 ·intro h
  rcases Nat.eq_zero_or_pos n with h1 | h1
  ·subst h1; simp [dg_zero] at h
  ·exact h1
 ·intro h
  rw [dg_pos _ _ hB h]; simp
theorem dg_len_mono {B : Nat} (hB : 2 ≤ B) {a b : Nat} (h : a ≤ b) : (dg B a).length ≤ (dg B b).length:=by
 have h1:=dg_len_gt hB b ((dg B b).length)
 rcases Nat.lt_or_ge b (B ^ (dg B b).length) with h2 | h2
 ·exact dg_len_le hB a _ (Nat.lt_of_le_of_lt h h2)
 ·have:=h1 h2; omega
theorem lt_of_len {B : Nat} (hB : 2 ≤ B) {a k : Nat} (h : (dg B a).length ≤ k) : a < B ^ k:=by
 rcases Nat.lt_or_ge a (B ^ k) with h2 | h2
 ·exact h2
 ·have:=dg_len_gt hB a k h2; omega
theorem V65 (n : Nat) : V 65536 (dg 65536 n) = n:=V_dg 65536 (by omega) n
theorem I65 (n : Nat) : InB 65536 (dg 65536 n) = True:=eq_true (InB_dg 65536 (by omega) n)
theorem T65 (n : Nat) : Trd (dg 65536 n) = True:=eq_true (dg_trd 65536 (by omega) n)
theorem V32 (n : Nat) : V 4294967296 (dg 4294967296 n) = n:=V_dg 4294967296 (by omega) n
theorem I32 (n : Nat) : InB 4294967296 (dg 4294967296 n) = True:=eq_true (InB_dg 4294967296 (by omega) n)
theorem T32 (n : Nat) : Trd (dg 4294967296 n) = True:=eq_true (dg_trd 4294967296 (by omega) n)
theorem I0 (B : Nat) : InB B [] = True:=eq_true (fun _ h=>by cases h)
theorem T0 : Trd [] = True:=eq_true (.inl rfl)
theorem V0 (B : Nat) : V B [] = 0:=rfl

theorem add_len {B a b k : Nat} (hB : 2 ≤ B) (h : (dg B a).length ≤ k) (h2 : (dg B b).length ≤ k) : (dg B (a + b)).length ≤ k + 1:=by
 have h:=lt_of_len hB h
 have h2:=lt_of_len hB h2
 refine dg_len_le hB _ _ ?_
 rw [Nat.pow_succ]
 have : B ^ k * 2 ≤ B ^ k * B:=Nat.mul_le_mul_left _ hB
 omega
theorem mul_len {B a b k l : Nat} (hB : 2 ≤ B) (h : (dg B a).length ≤ k) (h2 : (dg B b).length ≤ l) : (dg B (a * b)).length ≤ k + l:=by
 have h:=lt_of_len hB h
 have h2:=lt_of_len hB h2
 refine dg_len_le hB _ _ ?_
 rw [Nat.pow_add]
 exact Nat.mul_lt_mul_of_le_of_lt (Nat.le_of_lt h) h2 (Nat.pos_of_ne_zero (fun e=>by rw [e] at h; omega))
theorem cmp3_lt (a b : Nat) : cmp3 a b < 0 ↔ a < b:=by
 unfold cmp3; split
 ·simp_all
 ·split <;> simp_all
end Go.Proofs.NatL

namespace Go.Proofs.NatL
set_option linter.unusedSimpArgs false
set_option linter.unusedVariables false

def bI (l : List Bool) : List Int:=l.map fun b=>if b then 1 else 0
def bB (xs : List Int) : List Bool:=xs.map fun x=>x == 1
def B2 (l : List Bool) : Nat:=V 2 (bI l)
def bs (n : Nat) : List Bool:=bB (dg 2 n)
end Go.Proofs.NatL

namespace Go.Proofs.NatL
set_option linter.unusedSimpArgs false
set_option linter.unusedVariables false

theorem dg_digit (b m k r : Nat) (hb : 2 ≤ b) (h : 0 < m * b ^ (k + 1) + r) : dg b (m * b ^ (k + 1) + r) = ((r % b : Nat) : Int) :: dg b (m * b ^ k + r / b):=by
 rw [dg_pos b _ hb h]
 have e : m * b ^ (k + 1) + r = r + b * (m * b ^ k):=by rw [Nat.pow_succ,Nat.mul_comm b,Nat.mul_assoc]; omega
 rw [e,Nat.add_mul_mod_self_left,Nat.add_mul_div_left _ _ (by omega),Nat.add_comm (r / b)]

theorem dg_len_two (b n : Nat) (hb : 2 ≤ b) (k : Nat) (h : n < 2 ^ k) : (dg b n).length ≤ k :=
 dg_len_le hb n k (Nat.lt_of_lt_of_le h (Nat.pow_le_pow_left hb k))

end Go.Proofs.NatL

namespace Go.Proofs.NatL
set_option linter.unusedSimpArgs false
set_option linter.unusedVariables false

theorem V_one (B : Nat) (d : Int) : V B [d] = d.toNat:=by simp [V]
end Go.Proofs.NatL

namespace Go.Proofs.NatL
set_option linter.unusedSimpArgs false
set_option linter.unusedVariables false
def ds (n : Nat) : Nat:=(dg 10 n).length
theorem ds_lt (n : Nat) : n < 10 ^ ds n:=lt_of_len (by omega) (Nat.le_refl _)
theorem ds_pos {n : Nat} : 0 < ds n ↔ 0 < n:=dg_len_pos 10 n (by omega)
theorem ds_zero : ds 0 = 0:=rfl
theorem ds_le {n k : Nat} (h : n < 10 ^ k) : ds n ≤ k:=dg_len_le (by omega) n k h
theorem ds_gt {n k : Nat} (h : 10 ^ k ≤ n) : k < ds n:=dg_len_gt (by omega) n k h
theorem ds_ge {n k : Nat} (h : k < ds n) : 10 ^ k ≤ n:=by
 rcases Nat.lt_or_ge n (10 ^ k) with h' | h'
 ·have:=ds_le h'; omega
 ·exact h'
theorem ds_mono {a b : Nat} (h : a ≤ b) : ds a ≤ ds b:=dg_len_mono (by omega) h
theorem ds_top {n : Nat} (h : 0 < n) : 10 ^ (ds n - 1) ≤ n:=ds_ge (by have:=ds_pos.2 h; omega)
def ptN (num : Nat) (exp e : Int) : Nat:=if e ≤ exp then num * 10 ^ (exp - e).toNat else num
def ptD (den : Nat) (exp e : Int) : Nat:=if e ≤ exp then den else den * 10 ^ (e - exp).toNat
theorem ptD_pos {den : Nat} (h : 0 < den) (exp e : Int) : 0 < ptD den exp e:=by
 unfold ptD; split
 ·exact h
 ·exact Nat.mul_pos h (Nat.pow_pos (by omega))
theorem pow_le_mul {a b c k m : Nat} (h : 10 ^ a ≤ k) (h2 : 10 ^ b ≤ m) (hc : c = a + b) : 10 ^ c ≤ k * m:=by
 rw [hc,Nat.pow_add]; exact Nat.mul_le_mul h h2
theorem mul_lt_pow {a b c k : Nat} (h : k < 10 ^ a) (hc : c = a + b) : k * 10 ^ b < 10 ^ c:=by
 rw [hc,Nat.pow_add]; exact Nat.mul_lt_mul_of_pos_right h (Nat.pow_pos (by omega))
def guessE (num den : Nat) (exp : Int) : Int:=(ds num : Int) - ds den + exp
theorem pt_hi {num den : Nat} (hn : 0 < num) (hd : 0 < den) (exp : Int) : ptN num exp (guessE num den exp + 1) < ptD den exp (guessE num den exp + 1):=by
 have a:=ds_lt num
 have b:=ds_top hd
 have c:=ds_pos.2 hd
 have c2:=ds_pos.2 hn
 unfold ptN ptD guessE
 by_cases h : (ds num : Int) - ds den + exp + 1 ≤ exp
 ·rw [if_pos h,if_pos h]
  exact Nat.lt_of_lt_of_le (mul_lt_pow (c:=ds den - 1) a (by omega)) b
 ·rw [if_neg h,if_neg h]
  refine Nat.lt_of_lt_of_le a (pow_le_mul b (Nat.le_refl _) (by omega))
theorem pt_lo {num den : Nat} (hn : 0 < num) (hd : 0 < den) (exp : Int) : ptD den exp (guessE num den exp - 1) < ptN num exp (guessE num den exp - 1) ∨ ptD den exp (guessE num den exp - 1) ≤ ptN num exp (guessE num den exp - 1):=by
 have a:=ds_lt den
 have b:=ds_top hn
 have c:=ds_pos.2 hn
 have c2:=ds_pos.2 hd
 unfold ptN ptD guessE
 by_cases h : (ds num : Int) - ds den + exp - 1 ≤ exp
 ·rw [if_pos h,if_pos h]
  left
  exact Nat.lt_of_lt_of_le a (pow_le_mul b (Nat.le_refl _) (by omega))
 ·rw [if_neg h,if_neg h]
  right
  refine Nat.le_trans (Nat.le_of_lt (mul_lt_pow (c:=ds num - 1) a (by omega))) b
def firstE (num den : Nat) (exp : Int) : Int:=if ptN num exp (guessE num den exp) < ptD den exp (guessE num den exp) then guessE num den exp - 1 else guessE num den exp
theorem pt_step (num den : Nat) (exp e : Int) : (ptD den exp (e + 1) ≤ ptN num exp (e + 1)) ↔ (10 * ptD den exp e ≤ ptN num exp e):=by
 unfold ptN ptD
 by_cases h1 : e + 1 ≤ exp
 ·have h2 : e ≤ exp:=by omega
  rw [if_pos h1,if_pos h2,if_pos h1,if_pos h2]
  have : (exp - e).toNat = (exp - (e + 1)).toNat + 1:=by omega
  rw [this,Nat.pow_succ,← Nat.mul_assoc]
  omega
 ·by_cases h2 : e ≤ exp
  ·have : e = exp:=by omega
   subst this
   rw [if_neg h1,if_pos h2,if_neg h1,if_pos h2]
   have e1 : (e + 1 - e).toNat = 1:=by omega
   have e2 : (e - e).toNat = 0:=by omega
   rw [e1,e2,Nat.pow_one,Nat.pow_zero,Nat.mul_one]
   omega
  ·rw [if_neg h1,if_neg h2,if_neg h1,if_neg h2]
   have : (e + 1 - exp).toNat = (e - exp).toNat + 1:=by omega
   rw [this,Nat.pow_succ,← Nat.mul_assoc]
   omega
theorem first_is {num den : Nat} (hn : 0 < num) (hd : 0 < den) (exp : Int) :
  ptD den exp (firstE num den exp) ≤ ptN num exp (firstE num den exp) ∧ ptN num exp (firstE num den exp + 1) < ptD den exp (firstE num den exp + 1):=by
 have a:=pt_hi hn hd exp
 have b:=pt_lo hn hd exp
 unfold firstE
 split
 ·rename_i h
  rw [show guessE num den exp - 1 + 1 = guessE num den exp by omega]
  exact ⟨by omega,h⟩
 ·rename_i h
  exact ⟨by omega,a⟩
theorem pt_below {num den : Nat} (exp : Int) {f : Int} (h : ptN num exp (f + 1) < ptD den exp (f + 1)) : ∀ k : Nat,ptN num exp (f + 1 - k) < 10 ^ k * ptD den exp (f + 1 - k)
 | 0=>by simpa using h
 | k + 1=>by
  have ih:=pt_below exp h k
  generalize hg : f + 1 - ((k + 1 : Nat) : Int) = g
  have hk : f + 1 - (k : Int) = g + 1:=by omega
  rw [hk] at ih
  unfold ptN ptD at *
  by_cases h1 : g + 1 ≤ exp
  ·have h2 : g ≤ exp:=by omega
   simp only [if_pos h1,if_pos h2] at ih ⊢
   have : (exp - g).toNat = (exp - (g + 1)).toNat + 1:=by omega
   rw [this,Nat.pow_succ,Nat.pow_succ,← Nat.mul_assoc]
   have r : 10 ^ k * 10 * den = 10 ^ k * den * 10:=by ac_rfl
   rw [r]; omega
  ·by_cases h2 : g ≤ exp
   ·have : g = exp:=by omega
    subst this
    simp only [if_neg h1,if_pos h2] at ih ⊢
    have e1 : (g + 1 - g).toNat = 1:=by omega
    have e2 : (g - g).toNat = 0:=by omega
    rw [e1,Nat.pow_one] at ih
    rw [e2,Nat.pow_zero,Nat.mul_one,Nat.pow_succ]
    have r : 10 ^ k * 10 * den = 10 ^ k * (den * 10):=by ac_rfl
    rw [r]; exact ih
   ·simp only [if_neg h1,if_neg h2] at ih ⊢
    have : (g + 1 - exp).toNat = (g - exp).toNat + 1:=by omega
    rw [this,Nat.pow_succ] at ih
    rw [Nat.pow_succ]
    have r : 10 ^ k * 10 * (den * 10 ^ (g - exp).toNat) = 10 ^ k * (den * (10 ^ (g - exp).toNat * 10)):=by ac_rfl
    rw [r]; exact ih
def awayB (r : Int) (neg odd : Bool) (half : Int) : Bool :=
 if r = 1 then true else if r = 2 then neg else if r = 3 then !neg else if r = 4 then decide (0 ≤ half) else if r = 5 then decide (0 < half) else if r = 6 then decide (0 < half) || (decide (half = 0) && odd) else false
def qE (num den : Nat) (exp e : Int) : Nat:=ptN num exp e / ptD den exp e
def sE (num den : Nat) (exp e : Int) : Nat:=ptN num exp e % ptD den exp e
def rdE (neg : Bool) (num den : Nat) (exp e r : Int) : Nat :=
 if sE num den exp e = 0 then qE num den exp e else if awayB r neg (decide (qE num den exp e % 2 = 1)) (cmp3 (2 * sE num den exp e) (ptD den exp e)) = true then qE num den exp e + 1 else qE num den exp e
def twd : Nat → Nat → Int → Nat × Int
 | 0,c,e=>(c,e)
 | k + 1,c,e=>if c % 10 = 0 then twd k (c / 10) (e + 1) else (c,e)
theorem twd_le : ∀ (k c : Nat) (e : Int),(twd k c e).1 ≤ c ∧ e ≤ (twd k c e).2
 | 0,c,e=>⟨Nat.le_refl _,Int.le_refl _⟩
 | k + 1,c,e=>by
  unfold twd
  split
  ·have:=twd_le k (c / 10) (e + 1)
   have h2 : c / 10 ≤ c:=Nat.div_le_self _ _
   exact ⟨by omega,by omega⟩
  ·exact ⟨Nat.le_refl _,Int.le_refl _⟩
structure Dc where
 kind : Int
 neg : Bool
 coef : Nat
 exp : Int
def ovf (neg : Bool) (p r mx : Int) : Dc:=if awayB r neg true 1 = true then ⟨1,neg,0,0⟩ else ⟨0,neg,10 ^ p.toNat - 1,mx - p + 1⟩
def tinyE (p mn : Int) : Int:=mn - p + 1
def fitEx (num den : Nat) (exp p mn : Int) : Int:=max (firstE num den exp - p + 1) (tinyE p mn)
def fitCE (neg : Bool) (num den : Nat) (exp ideal p r mn : Int) : Nat × Int :=
 if sE num den exp (fitEx num den exp p mn) = 0 then twd (ideal - fitEx num den exp p mn).toNat (rdE neg num den exp (fitEx num den exp p mn) r) (fitEx num den exp p mn)
 else if p < ds (rdE neg num den exp (fitEx num den exp p mn) r) then (rdE neg num den exp (fitEx num den exp p mn) r / 10,fitEx num den exp p mn + 1)
 else (rdE neg num den exp (fitEx num den exp p mn) r,fitEx num den exp p mn)
def sigE (num den : Nat) (exp p mn : Int) : Int :=
 (if firstE num den exp < mn then 2 else 0) + (if sE num den exp (fitEx num den exp p mn) = 0 then 0 else 1 + (if firstE num den exp < mn then 4 else 0))
def fitD (neg : Bool) (num den : Nat) (exp ideal p r mn mx : Int) : Dc :=
 if num = 0 then ⟨0,neg,0,min (max ideal (tinyE p mn)) mx⟩
 else if 0 < (fitCE neg num den exp ideal p r mn).1 ∧ mx < (ds (fitCE neg num den exp ideal p r mn).1 : Int) - 1 + (fitCE neg num den exp ideal p r mn).2 then ovf neg p r mx
 else ⟨0,neg,(fitCE neg num den exp ideal p r mn).1,(fitCE neg num den exp ideal p r mn).2⟩
def fitS (neg : Bool) (num den : Nat) (exp ideal p r mn mx : Int) : Int :=
 if num = 0 then 0
 else if 0 < (fitCE neg num den exp ideal p r mn).1 ∧ mx < (ds (fitCE neg num den exp ideal p r mn).1 : Int) - 1 + (fitCE neg num den exp ideal p r mn).2 then 9
 else sigE num den exp p mn
theorem qE_lt {num den : Nat} (hn : 0 < num) (hd : 0 < den) (exp : Int) {p mn : Int} (hp : 1 ≤ p) : qE num den exp (fitEx num den exp p mn) < 10 ^ p.toNat:=by
 obtain ⟨_,h⟩:=first_is hn hd exp
 unfold qE
 rw [Nat.div_lt_iff_lt_mul (ptD_pos hd _ _)]
 by_cases hk : fitEx num den exp p mn ≤ firstE num den exp + 1
 ·have:=pt_below exp h (firstE num den exp + 1 - fitEx num den exp p mn).toNat
  rw [show firstE num den exp + 1 - ((firstE num den exp + 1 - fitEx num den exp p mn).toNat : Int) = fitEx num den exp p mn by omega] at this
  refine Nat.lt_of_lt_of_le this (Nat.mul_le_mul_right _ (Nat.pow_le_pow_right (by omega) ?_))
  unfold fitEx at hk ⊢
  omega
 ·-- far above the first digit
  have : ∀ k : Nat,ptN num exp (firstE num den exp + 1 + k) < ptD den exp (firstE num den exp + 1 + k):=fun k=>by
   induction k with
   | zero=>simpa using h
   | succ k ih =>
    rw [show firstE num den exp + 1 + ((k + 1 : Nat) : Int) = firstE num den exp + 1 + k + 1 by omega]
    have s:=pt_step num den exp (firstE num den exp + 1 + k)
    rcases Nat.lt_or_ge (ptN num exp (firstE num den exp + 1 + k + 1)) (ptD den exp (firstE num den exp + 1 + k + 1)) with q | q
    ·exact q
    ·have:=s.1 q; omega
  have:=this (fitEx num den exp p mn - (firstE num den exp + 1)).toNat
  rw [show firstE num den exp + 1 + ((fitEx num den exp p mn - (firstE num den exp + 1)).toNat : Int) = fitEx num den exp p mn by omega] at this
  refine Nat.lt_of_lt_of_le this ?_
  exact Nat.le_mul_of_pos_left _ (Nat.pow_pos (by omega))
end Go.Proofs.NatL

namespace Go.Proofs.NatL
set_option linter.unusedSimpArgs false
set_option linter.unusedVariables false
theorem ten_le_two (k : Nat) : 10 ^ k ≤ 2 ^ (10 * (k / 3 + 1)):=by
 have h1 : k ≤ 3 * (k / 3 + 1):=by omega
 refine Nat.le_trans (Nat.pow_le_pow_right (by omega) h1) ?_
 rw [Nat.pow_mul,Nat.pow_mul]
 exact Nat.pow_le_pow_left (by decide) _
theorem ten_len (k : Nat) : (dg 4294967296 (10 ^ k)).length ≤ 10 * (k / 3 + 1) / 32 + 1:=by
 refine dg_len_le (by omega) _ _ (Nat.lt_of_le_of_lt (ten_le_two k) ?_)
 have : (4294967296 : Nat) = 2 ^ 32:=by decide
 rw [this,← Nat.pow_mul]
 exact Nat.pow_lt_pow_right (by omega) (by omega)
theorem len_ds {n k : Nat} (h : ds n ≤ k) : (dg 4294967296 n).length ≤ 10 * (k / 3 + 1) / 32 + 1 :=
 Nat.le_trans (dg_len_mono (by omega) (Nat.le_of_lt (Nat.lt_of_lt_of_le (ds_lt n) (Nat.pow_le_pow_right (by omega) h)))) (ten_len k)
theorem ds_mul {a b k l : Nat} (h : ds a ≤ k) (h2 : ds b ≤ l) : ds (a * b) ≤ k + l:=mul_len (by omega) h h2
theorem ds_add {a b k : Nat} (h : ds a ≤ k) (h2 : ds b ≤ k) : ds (a + b) ≤ k + 1:=add_len (by omega) h h2
theorem ds_ten (k : Nat) : ds (10 ^ k) = k + 1:=by
 have h1:=ds_gt (n:=10 ^ k) (k:=k) (Nat.le_refl _)
 have h2:=ds_le (n:=10 ^ k) (k:=k + 1) (Nat.pow_lt_pow_right (by omega) (by omega))
 omega
theorem ds_div10 (n : Nat) : ds (n / 10) = ds n - 1:=by
 rcases Nat.lt_or_ge n 10 with h | h
 ·rw [Nat.div_eq_of_lt h]
  have:=ds_le (n:=n) (k:=1) (by omega)
  rw [ds_zero]; omega
 ·have h0 : 0 < n:=by omega
  unfold ds
  rw [dg_pos 10 n (by omega) h0]
  simp
theorem first_stop {num den : Nat} (hn : 0 < num) (hd : 0 < den) (exp : Int) {f : Int} (h : ptD den exp f ≤ ptN num exp f) (hf : firstE num den exp ≤ f) : f = firstE num den exp:=by
 obtain ⟨_,h2⟩:=first_is hn hd exp
 rcases Int.lt_or_eq_of_le hf with hlt | he
 ·exfalso
  have key : ∀ k : Nat,ptN num exp (firstE num den exp + 1 + k) < ptD den exp (firstE num den exp + 1 + k):=fun k=>by
   induction k with
   | zero=>simpa using h2
   | succ k ih =>
    rw [show firstE num den exp + 1 + ((k + 1 : Nat) : Int) = firstE num den exp + 1 + k + 1 by omega]
    have s:=pt_step num den exp (firstE num den exp + 1 + k)
    rcases Nat.lt_or_ge (ptN num exp (firstE num den exp + 1 + k + 1)) (ptD den exp (firstE num den exp + 1 + k + 1)) with q | q
    ·exact q
    ·have:=s.1 q; omega
  have:=key (f - (firstE num den exp + 1)).toNat
  rw [show firstE num den exp + 1 + ((f - (firstE num den exp + 1)).toNat : Int) = f by omega] at this
  omega
 ·exact he.symm
theorem first_bounds {num den : Nat} (hn : 0 < num) (hd : 0 < den) (exp : Int) : guessE num den exp - 1 ≤ firstE num den exp ∧ firstE num den exp ≤ guessE num den exp:=by
 unfold firstE; split <;> omega
theorem fit_exact_len {neg : Bool} {num den : Nat} (hn : 0 < num) (hd : 0 < den) {exp p mn r : Int} (hp : 1 ≤ p) (hs : sE num den exp (fitEx num den exp p mn) = 0) (k : Nat) :
  ds (twd k (rdE neg num den exp (fitEx num den exp p mn) r) (fitEx num den exp p mn)).1 ≤ p.toNat:=by
 have h1:=qE_lt (mn:=mn) hn hd exp hp
 have h2 : rdE neg num den exp (fitEx num den exp p mn) r = qE num den exp (fitEx num den exp p mn):=by unfold rdE; rw [if_pos hs]
 have h3:=(twd_le k (rdE neg num den exp (fitEx num den exp p mn) r) (fitEx num den exp p mn)).1
 exact ds_le (by omega)
theorem fit_round_le {neg : Bool} {num den : Nat} (hn : 0 < num) (hd : 0 < den) {exp p mn r : Int} (hp : 1 ≤ p) : rdE neg num den exp (fitEx num den exp p mn) r ≤ 10 ^ p.toNat:=by
 have h1:=qE_lt (mn:=mn) hn hd exp hp
 unfold rdE
 (repeat' split) <;> omega
end Go.Proofs.NatL
