import Derived.Test.YtgkajjifbcmoeaaGreatDoorM32
import Derived.Test.YtgkajjifbcmoeaaGreatDoorM33
namespace Go.Proofs.YtgkajjifbcmoeaaGreatDoor
set_option linter.unusedSimpArgs false
set_option linter.unusedVariables false
open Go.Abs Go.Proofs.NatL

def rootCT : CT:=mkCT [.inl (some (.ints .i64 []))] false fun l K=>match l with
 | [.inl (.ints .i64 xs)]=>(InB 65536 xs ∧ Trd xs ∧ xs.length ≤ 65536) ∧ K (.c (.ints .i64 (dg 65536 (rt (V 65536 xs)))))
 | _=>False
def jt14 : Cfg:=addT 127 rootCT cf0
theorem jt14_ok : TblOk Tryz.prog jt14:=q_I cf0_ok Tryz.func127 fun l K h=>by
 split at h
 ·rename_i xs
  obtain ⟨⟨h1,h2,h3⟩,h⟩:=h
  have e1:=dg_V 65536 (by omega) xs h1 h2
  have:=root_ret (V 65536 xs) (by rw [e1]; exact h3)
  rw [e1] at this
  exact ⟨_,this,h⟩
 ·exact h.elim
attribute [go_sem] rootCT
end Go.Proofs.YtgkajjifbcmoeaaGreatDoor
