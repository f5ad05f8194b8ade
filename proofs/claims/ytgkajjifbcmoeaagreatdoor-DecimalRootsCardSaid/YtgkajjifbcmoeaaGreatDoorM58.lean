import Derived.Test.YtgkajjifbcmoeaaGreatDoorM49
import Derived.Test.YtgkajjifbcmoeaaGreatDoorM56
namespace Go.Proofs.YtgkajjifbcmoeaaGreatDoor
set_option linter.unusedSimpArgs false
set_option linter.unusedVariables false
open Go.Abs Go.Proofs.NatL

theorem opR1_tr {F : FuncId} {f : Dc → Cx → Dc} {g : Dc → Cx → Int}
  (hg : ∀ (A : Dc) (c : Cx),OkD A → OkC c → Ret Tryz.prog F false [.inr (gDc A),.inr (gCx c)] (rDI (f A c) (g A c)))
  (l : List (C ⊕ List C)) (K : AV → Prop) (hk : match l with
   | [.inr [.i .i64 k,.b s,.b a,.ints .u32 xs,.i .i64 e],.inr [.i .i64 p,.i .i64 r,.i .i64 mn,.i .i64 mx]] =>
    (InB 4294967296 xs ∧ okD k s a xs e = true ∧ okCx p r mn mx = true) ∧
    K (rDI (f ⟨k,s,V 4294967296 xs,e⟩ ⟨p,r,mn,mx⟩) (g ⟨k,s,V 4294967296 xs,e⟩ ⟨p,r,mn,mx⟩))
   | _=>False) : ∃ r,Ret Tryz.prog F false l r ∧ K r:=by
 split at hk
 ·rename_i k s a xs e p r mn mx
  obtain ⟨⟨h1,o1,o0⟩,h⟩:=hk
  obtain ⟨e1,r1⟩:=gDc_of o1 h1
  rw [e1]
  exact ⟨_,hg _ ⟨p,r,mn,mx⟩ r1 (OkC_b o0),h⟩
 ·exact hk.elim
end Go.Proofs.YtgkajjifbcmoeaaGreatDoor
