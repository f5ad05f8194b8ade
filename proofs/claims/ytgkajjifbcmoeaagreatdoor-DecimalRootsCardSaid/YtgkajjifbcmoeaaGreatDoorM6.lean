import Derived.Test.YtgkajjifbcmoeaaGreatDoorM5
namespace Go.Proofs.NatL
set_option linter.unusedSimpArgs false
set_option linter.unusedVariables false

end Go.Proofs.NatL

namespace Go.Proofs.NatL
set_option linter.unusedSimpArgs false
set_option linter.unusedVariables false

end Go.Proofs.NatL

namespace Go.Proofs.NatL
set_option linter.unusedSimpArgs false
set_option linter.unusedVariables false
open Go.Abs

end Go.Proofs.NatL

namespace Go.Proofs.NatL
set_option linter.unusedSimpArgs false
set_option linter.unusedVariables false
open Go.Abs

end Go.Proofs.NatL

namespace Go.Proofs.NatL
set_option linter.unusedSimpArgs false
set_option linter.unusedVariables false

end Go.Proofs.NatL

namespace Go.Proofs.NatL
set_option linter.unusedSimpArgs false
set_option linter.unusedVariables false

end Go.Proofs.NatL

namespace Go.Proofs.NatL
set_option linter.unusedSimpArgs false
set_option linter.unusedVariables false

end Go.Proofs.NatL

namespace Go.Proofs.NatL
set_option linter.unusedSimpArgs false
set_option linter.unusedVariables false

theorem dbl_step (B i : Nat) (o xs : List Int) (c r q c0 : Nat) (h : V B o + B ^ i * c = V B (xs.take i) * 2 + c0) (hl : o.length = i) (hr : r + B * q = c + 2 * (xs.getD i 0).toNat) :
  V B (o ++ [(r : Int)]) + B ^ (i + 1) * q = V B (xs.take (i + 1)) * 2 + c0:=by
 have e:=carry_step B i _ _ _ _ _ _ h hr
 rw [V_snoc,hl,V_take_getD,Int.toNat_natCast,e,Nat.add_mul]
 have : B ^ i * (2 * (xs.getD i 0).toNat) = B ^ i * (xs.getD i 0).toNat * 2:=by rw [Nat.mul_comm 2,Nat.mul_assoc]
 omega

theorem cmp3_ge (a b : Nat) : 0 ≤ cmp3 a b ↔ b ≤ a:=by
 have:=cmp3_lt a b
 omega

end Go.Proofs.NatL

namespace Go.Proofs.NatL
set_option linter.unusedSimpArgs false
set_option linter.unusedVariables false

theorem bI_len (l : List Bool) : (bI l).length = l.length:=by simp [bI]
theorem bI_in (l : List Bool) : InB 2 (bI l):=fun x hx=>by
 obtain ⟨b,_,rfl⟩:=List.mem_map.1 hx
 cases b <;> simp
theorem bB_bI (l : List Bool) : bB (bI l) = l:=by
 unfold bB bI
 rw [List.map_map]
 conv=>rhs; rw [← List.map_id l]
 congr 1
 funext b; cases b <;> rfl
theorem bI_snoc (l : List Bool) (b : Bool) : bI (l ++ [b]) = bI l ++ [if b then 1 else 0]:=by simp [bI]
theorem bI_app (l m : List Bool) : bI (l ++ m) = bI l ++ bI m:=by simp [bI]
theorem bI_take (l : List Bool) (n : Nat) : bI (l.take n) = (bI l).take n:=by simp [bI]
theorem bI_bB (xs : List Int) (h : InB 2 xs) : bI (bB xs) = xs:=by
 unfold bB bI
 rw [List.map_map]
 conv=>rhs; rw [← List.map_id xs]
 refine List.map_congr_left fun x hx=>?_
 have:=h x hx
 rcases (by omega : x = 0 ∨ x = 1) with rfl | rfl <;> rfl
theorem bI_bs (n : Nat) : bI (bs n) = dg 2 n:=bI_bB _ (InB_dg 2 (by omega) n)
theorem B2_bs (n : Nat) : B2 (bs n) = n:=by unfold B2; rw [bI_bs,V_dg 2 (by omega)]
theorem bs_len (n : Nat) : (bs n).length = (dg 2 n).length:=by simp [bs,bB]
theorem bs_of (l : List Bool) (h : l.length = 0 ∨ l.getD (l.length - 1) false = true) : l = bs (B2 l):=by
 have ht : Trd (bI l):=by
  rcases h with h | h
  ·exact .inl (by rw [bI_len]; exact h)
  ·refine .inr ?_
   rw [bI_len]
   unfold bI
   rw [List.getD_eq_getElem?_getD,List.getElem?_map]
   rw [List.getD_eq_getElem?_getD] at h
   cases he : l[l.length - 1]? with
   | none=>rw [he] at h; simp at h
   | some b=>rw [he] at h; simp at h; subst h; simp
 unfold bs B2
 rw [dg_V 2 (by omega) _ (bI_in l) ht,bB_bI]

theorem B2_drop_last (l : List Bool) (h : 0 < l.length) (h0 : l.getD (l.length - 1) false = false) : B2 (l.take (l.length - 1)) = B2 l:=by
 unfold B2
 have:=V_take_getD 2 (bI l) (l.length - 1)
 rw [show l.length - 1 + 1 = l.length by omega,List.take_of_length_le (by rw [bI_len]; omega)] at this
 rw [bI_take,this]
 have e : (bI l).getD (l.length - 1) 0 = 0:=by
  unfold bI
  rw [List.getD_eq_getElem?_getD,List.getElem?_map]
  rw [List.getD_eq_getElem?_getD] at h0
  cases he : l[l.length - 1]? with
  | none=>rfl
  | some b=>rw [he] at h0; simp at h0; subst h0; rfl
 rw [e]; simp

theorem bit_step (l : List Bool) (m x c : Nat) (hl : l.length = m) (h : B2 l + 2 ^ m * x = c) : B2 (l ++ [decide (x % 2 = 1)]) + 2 ^ (m + 1) * (x / 2) = c:=by
 unfold B2 at *
 rw [bI_snoc,V_snoc,bI_len,hl,← h]
 have e : (if decide (x % 2 = 1) = true then (1 : Int) else 0).toNat = x % 2:=by
  rcases Nat.mod_two_eq_zero_or_one x with h | h <;> simp [h]
 rw [e,Nat.pow_succ,Nat.mul_assoc,Nat.add_assoc,← Nat.mul_add]
 congr 2
 omega

theorem group_step (l : List Bool) (m k : Nat) (hm : m < l.length) : B2 ((l.drop m).take (k + 1)) = 2 * B2 ((l.drop (m + 1)).take k) + (if l.getD m false then 1 else 0):=by
 unfold B2
 rw [List.drop_eq_getElem_cons hm,List.take_succ_cons]
 simp only [bI,List.map_cons,V,List.getD_eq_getElem?_getD,List.getElem?_eq_getElem hm,Option.getD_some]
 cases l[m] <;> simp <;> omega
theorem group_end (l : List Bool) (m k : Nat) (hm : l.length ≤ m) : B2 ((l.drop m).take k) = 0:=by
 rw [List.drop_eq_nil_of_le hm]; simp [B2,bI,V]
theorem B2_lt (l : List Bool) : B2 l < 2 ^ l.length:=by
 have:=V_lt 2 (by omega) _ (bI_in l)
 rwa [bI_len] at this
theorem digit_group (j : Nat) (o : List Int) (l : List Bool) (h : V 65536 o = B2 (l.take (16 * j))) (hl : o.length = j) (x : Nat) (hx : x = B2 ((l.drop (16 * j)).take 16)) (hj : 16 * j ≤ l.length) :
  V 65536 (o ++ [(x : Int)]) = B2 (l.take (16 * (j + 1))):=by
 rw [V_snoc,h,hl,Int.toNat_natCast,hx]
 unfold B2
 have e : l.take (16 * (j + 1)) = l.take (16 * j) ++ (l.drop (16 * j)).take 16:=by
  rw [show 16 * (j + 1) = 16 * j + 16 by omega,List.take_add]
 rw [e,bI_app,V_append,bI_len,List.length_take,Nat.min_eq_left hj,show (65536 : Nat) = 2 ^ 16 from rfl,← Nat.pow_mul]

end Go.Proofs.NatL

namespace Go.Proofs.NatL
set_option linter.unusedSimpArgs false
set_option linter.unusedVariables false

end Go.Proofs.NatL

namespace Go.Proofs.NatL
set_option linter.unusedSimpArgs false
set_option linter.unusedVariables false

end Go.Proofs.NatL
