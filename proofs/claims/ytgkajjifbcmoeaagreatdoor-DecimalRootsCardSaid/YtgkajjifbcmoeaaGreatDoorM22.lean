import Derived.Test.YtgkajjifbcmoeaaGreatDoorM15
import Derived.Test.YtgkajjifbcmoeaaGreatDoorM21
namespace Go.Proofs.YtgkajjifbcmoeaaGreatDoor
set_option linter.unusedSimpArgs false
set_option linter.unusedVariables false
open Go.Abs Go.Proofs.NatL

def sqGoodCT : CT:=mkCT [.inl (some (.ints .u32 []))] false fun l K=>match l with
 | [.inl (.ints .u32 xs)]=>(okN xs = true ∧ InB 4294967296 xs) ∧ K (.t [.inl (.ints .u32 (dg 4294967296 (rt (V 4294967296 xs)))),.inr [.i .i64 0,.i .i64 0]])
 | _=>False
def nt4 : Cfg:=addT 123 sqGoodCT cf0
theorem nt4_ok : TblOk Tryz.prog nt4:=q_I cf0_ok Tryz.func123 fun l K h=>by
 split at h
 ·exact ⟨_,Sqrt_good _ h.1.2 h.1.1,h.2⟩
 ·exact h.elim
attribute [go_sem] sqGoodCT
end Go.Proofs.YtgkajjifbcmoeaaGreatDoor

namespace Go.Proofs.NatL
set_option linter.unusedSimpArgs false
set_option linter.unusedVariables false

theorem B2_false (n : Nat) (l : List Bool) : B2 (List.replicate n false ++ l) = B2 l * 2 ^ n:=B2_shift n l
theorem set_last (k : Nat) (c b : Bool) (ls : List Bool) : (List.replicate k false ++ c :: ls).set k b = List.replicate k false ++ b :: ls:=by
 rw [List.set_append_right _ _ (by simp)]
 simp
end Go.Proofs.NatL

namespace Go.Proofs.NatL
set_option linter.unusedSimpArgs false
set_option linter.unusedVariables false
theorem cmp3_gt (a b : Nat) : 0 < cmp3 a b ↔ b < a:=by
 have h1:=cmp3_ge a b
 have h2:=cmp3_lt a b
 unfold cmp3 at *
 split
 ·omega
 ·split
  ·rename_i h; simp_all
  ·omega
end Go.Proofs.NatL
