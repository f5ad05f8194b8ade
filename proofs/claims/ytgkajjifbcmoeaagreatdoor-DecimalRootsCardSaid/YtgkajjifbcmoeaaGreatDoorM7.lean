import Derived.Test.YtgkajjifbcmoeaaGreatDoorM4
import Derived.Test.YtgkajjifbcmoeaaGreatDoorM6
namespace Go.Proofs.NatL
set_option linter.unusedSimpArgs false
set_option linter.unusedVariables false

end Go.Proofs.NatL

namespace Go.Proofs.NatL
set_option linter.unusedSimpArgs false
set_option linter.unusedVariables false

end Go.Proofs.NatL

namespace Go.Proofs.NatL
set_option linter.unusedSimpArgs false
set_option linter.unusedVariables false
open Go.Abs

end Go.Proofs.NatL

namespace Go.Proofs.NatL
set_option linter.unusedSimpArgs false
set_option linter.unusedVariables false
open Go.Abs

end Go.Proofs.NatL

namespace Go.Proofs.NatL
set_option linter.unusedSimpArgs false
set_option linter.unusedVariables false

end Go.Proofs.NatL

namespace Go.Proofs.NatL
set_option linter.unusedSimpArgs false
set_option linter.unusedVariables false

end Go.Proofs.NatL

namespace Go.Proofs.NatL
set_option linter.unusedSimpArgs false
set_option linter.unusedVariables false

end Go.Proofs.NatL

namespace Go.Proofs.NatL
set_option linter.unusedSimpArgs false
set_option linter.unusedVariables false

end Go.Proofs.NatL

namespace Go.Proofs.NatL
set_option linter.unusedSimpArgs false
set_option linter.unusedVariables false

theorem bI_zeros (n : Nat) : bI (List.replicate n false) = List.replicate n 0:=by simp [bI]
theorem B2_shift (n : Nat) (l : List Bool) : B2 (List.replicate n false ++ l) = B2 l * 2 ^ n:=by
 unfold B2
 rw [bI_app,bI_zeros,V_zeros,Nat.mul_comm]
theorem ex_rt (a : Nat) : ∃ s,s * s ≤ a ∧ a < (s + 1) * (s + 1):=by
 induction a with
 | zero=>exact ⟨0,by simp⟩
 | succ a ih =>
  obtain ⟨s,h1,h2⟩:=ih
  rcases Nat.lt_or_ge (a + 1) ((s + 1) * (s + 1)) with h | h
  ·exact ⟨s,by omega,h⟩
  ·refine ⟨s + 1,h,?_⟩
   have e : (s + 1 + 1) * (s + 1 + 1) = (s + 1) * (s + 1) + 2 * (s + 1) + 1:=by
    rw [Nat.add_mul,Nat.mul_add]; omega
   omega
noncomputable def rt (a : Nat) : Nat:=Classical.choose (ex_rt a)
theorem rt_spec (a : Nat) : rt a * rt a ≤ a ∧ a < (rt a + 1) * (rt a + 1):=Classical.choose_spec (ex_rt a)
theorem rt_eq {a s : Nat} (h1 : s * s ≤ a) (h2 : a < (s + 1) * (s + 1)) : rt a = s:=by
 obtain ⟨g1,g2⟩:=rt_spec a
 have a1 : ¬ rt a + 1 ≤ s:=fun h=>by
  have:=Nat.mul_le_mul h h; omega
 have a2 : ¬ s + 1 ≤ rt a:=fun h=>by
  have:=Nat.mul_le_mul h h; omega
 omega
theorem rt_le (a : Nat) : rt a ≤ a:=by
 obtain ⟨g1,_⟩:=rt_spec a
 rcases Nat.eq_zero_or_pos (rt a) with h | h
 ·omega
 ·have:=Nat.le_mul_of_pos_left (rt a) h; omega
theorem rt_zero : rt 0 = 0:=by have:=rt_le 0; omega

theorem amgm (x q : Nat) : 4 * (x * q) ≤ (x + q) * (x + q):=by
 rcases Nat.le_total x q with h | h
 ·obtain ⟨d,rfl⟩:=Nat.le.dest h
  have e : (x + (x + d)) * (x + (x + d)) = 4 * (x * (x + d)) + d * d:=by
   have e1 : (x + (x + d)) = 2 * x + d:=by omega
   rw [e1,Nat.mul_add,Nat.add_mul,Nat.add_mul,Nat.mul_add]
   have a1 : 2 * x * (2 * x) = 4 * (x * x):=by rw [Nat.mul_mul_mul_comm]
   have a2 : d * (2 * x) = 2 * (x * d):=by rw [Nat.mul_left_comm,Nat.mul_comm d]
   have a3 : 2 * x * d = 2 * (x * d):=Nat.mul_assoc ..
   omega
  omega
 ·obtain ⟨d,rfl⟩:=Nat.le.dest h
  have e : (q + d + q) * (q + d + q) = 4 * ((q + d) * q) + d * d:=by
   have e1 : (q + d + q) = 2 * q + d:=by omega
   rw [e1,Nat.mul_add,Nat.add_mul,Nat.add_mul,Nat.add_mul]
   have a1 : 2 * q * (2 * q) = 4 * (q * q):=by rw [Nat.mul_mul_mul_comm]
   have a2 : d * (2 * q) = 2 * (d * q):=by rw [Nat.mul_left_comm]
   have a3 : 2 * q * d = 2 * (d * q):=by rw [Nat.mul_assoc,Nat.mul_comm q]
   omega
  omega
theorem newton_step (a x : Nat) (hx : 0 < x) : a < ((x + a / x) / 2 + 1) * ((x + a / x) / 2 + 1):=by
 have h1 : a < x * (a / x + 1):=by
  have:=Nat.div_add_mod a x
  have h2:=Nat.mod_lt a hx
  rw [Nat.mul_add,Nat.mul_one]; omega
 have h2:=amgm x (a / x + 1)
 generalize a / x = q at *
 have h3 : x + (q + 1) ≤ 2 * ((x + q) / 2 + 1):=by omega
 have h4:=Nat.mul_le_mul h3 h3
 have e : 2 * ((x + q) / 2 + 1) * (2 * ((x + q) / 2 + 1)) = 4 * (((x + q) / 2 + 1) * ((x + q) / 2 + 1)):=by rw [Nat.mul_mul_mul_comm]
 omega
theorem newton_end (a x : Nat) (hx : 0 < x) (h : x ≤ (x + a / x) / 2) : x * x ≤ a:=by
 have h1 : x ≤ a / x:=by omega
 exact (Nat.le_div_iff_mul_le hx).1 h1

end Go.Proofs.NatL

namespace Go.Proofs.NatL
set_option linter.unusedSimpArgs false
set_option linter.unusedVariables false

end Go.Proofs.NatL

namespace Go.Proofs.NatL
set_option linter.unusedSimpArgs false
set_option linter.unusedVariables false

end Go.Proofs.NatL
