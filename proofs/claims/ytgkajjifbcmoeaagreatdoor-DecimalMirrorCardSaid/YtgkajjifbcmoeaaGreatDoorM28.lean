import Derived.Test.YtgkajjifbcmoeaaGreatDoorM26
import Derived.Test.YtgkajjifbcmoeaaGreatDoorM27
namespace Go.Proofs.YtgkajjifbcmoeaaGreatDoor
set_option linter.unusedSimpArgs false
set_option linter.unusedVariables false
open Go.Abs Go.Proofs.NatL

theorem sv_ys {s : Bool} {ys : List Int} (h1 : InB 65536 ys) (h2 : Trd ys) : ys = dg 65536 (V 65536 ys) ∧ sv 65536 s ys = sg s (V 65536 ys):=by
 have e:=dg_V 65536 (by omega) ys h1 h2
 exact ⟨e.symm,by rw [← sv_d (B:=65536) (by omega),e]⟩
def rI2CT (n : Nat) (f : Int → Int → (AV → Prop) → Prop) : CT:=mkCT [nR,nR] false fun l K=>match l with
 | [.inr [.b s,.ints .i64 xs],.inr [.b t,.ints .i64 ys]]=>(InB 65536 xs ∧ Trd xs ∧ xs.length ≤ n ∧ InB 65536 ys ∧ Trd ys ∧ ys.length ≤ n) ∧ f (sv 65536 s xs) (sv 65536 t ys) K
 | _=>False
def addF (a b : Int) (K : AV → Prop) : Prop:=∀ c : Bool,K (.g (gRz (a + b) c))
def jt10 : Cfg:=addT 189 (rI2CT 1048576 addF) cf0
theorem jt10_ok : TblOk Tryz.prog jt10:=q_I cf0_ok Tryz.func189 fun l K h=>by
 split at h
 ·rename_i s xs t ys
  obtain ⟨⟨h1,h2,h3,h4,h5,h6⟩,h⟩:=h
  obtain ⟨e1,e2⟩:=sv_ys (s:=s) h1 h2
  obtain ⟨e3,e4⟩:=sv_ys (s:=t) h4 h5
  rw [e2,e4] at h
  obtain ⟨b,this⟩:=iplus_ex s t (V 65536 xs) (V 65536 ys) (by rw [← e1]; exact h3) (by rw [← e3]; exact h6)
  rw [← e1,← e3] at this
  exact ⟨_,this,h b⟩
 ·exact h.elim
attribute [go_sem] rI2CT addF
end Go.Proofs.YtgkajjifbcmoeaaGreatDoor
