import Derived.Test.YtgkajjifbcmoeaaGreatDoorP4
namespace Go.Proofs.NatL
set_option linter.unusedSimpArgs false
set_option linter.unusedVariables false
theorem first_stop {num den : Nat} (hn : 0 < num) (hd : 0 < den) (exp : Int) {f : Int} (h : ptD den exp f ≤ ptN num exp f) (hf : firstE num den exp ≤ f) : f = firstE num den exp:=by
 obtain ⟨_,h2⟩:=first_is hn hd exp
 rcases Int.lt_or_eq_of_le hf with hlt | he
 ·exfalso
  have key : ∀ k : Nat,ptN num exp (firstE num den exp + 1 + k) < ptD den exp (firstE num den exp + 1 + k):=fun k=>by
   induction k with
   | zero=>simpa using h2
   | succ k ih =>
    rw [show firstE num den exp + 1 + ((k + 1 : Nat) : Int) = firstE num den exp + 1 + k + 1 by omega]
    have s:=pt_step num den exp (firstE num den exp + 1 + k)
    rcases Nat.lt_or_ge (ptN num exp (firstE num den exp + 1 + k + 1)) (ptD den exp (firstE num den exp + 1 + k + 1)) with q | q
    ·exact q
    ·have:=s.1 q; omega
  have:=key (f - (firstE num den exp + 1)).toNat
  rw [show firstE num den exp + 1 + ((f - (firstE num den exp + 1)).toNat : Int) = f by omega] at this
  omega
 ·exact he.symm
end Go.Proofs.NatL
