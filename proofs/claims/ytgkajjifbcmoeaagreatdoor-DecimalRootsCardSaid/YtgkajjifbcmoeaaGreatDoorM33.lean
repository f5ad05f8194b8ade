import Derived.Test.YtgkajjifbcmoeaaGreatDoorM27
import Derived.Test.YtgkajjifbcmoeaaGreatDoorM31
namespace Go.Proofs.YtgkajjifbcmoeaaGreatDoor
set_option linter.unusedSimpArgs false
set_option linter.unusedVariables false
open Go.Abs Go.Proofs.NatL

def rdivCT : CT:=mkCT [.inl (some (.ints .i64 [])),.inl (some (.ints .i64 []))] false fun l K=>match l with
 | [.inl (.ints .i64 xs),.inl (.ints .i64 ys)]=>(InB 65536 xs ∧ Trd xs ∧ xs.length ≤ 65536 ∧ InB 65536 ys ∧ Trd ys ∧ ys.length ≤ 65536 ∧ 0 < V 65536 ys) ∧ K (.t [.inl (.ints .i64 (dg 65536 (V 65536 xs / V 65536 ys))),.inl (.ints .i64 (dg 65536 (V 65536 xs % V 65536 ys)))])
 | _=>False
def jt13 : Cfg:=addT 117 rdivCT cf0
theorem jt13_ok : TblOk Tryz.prog jt13:=q_I cf0_ok Tryz.func117 fun l K h=>by
 split at h
 ·rename_i xs ys
  obtain ⟨⟨h1,h2,h3,h4,h5,h6,h7⟩,h⟩:=h
  have e1:=dg_V 65536 (by omega) xs h1 h2
  have e2:=dg_V 65536 (by omega) ys h4 h5
  have:=divide_ret' (V 65536 xs) (V 65536 ys) h7 (by rw [e1]; exact h3) (by rw [e2]; exact h6)
  rw [e1,e2] at this
  exact ⟨_,this,h⟩
 ·exact h.elim
attribute [go_sem] rdivCT
end Go.Proofs.YtgkajjifbcmoeaaGreatDoor
