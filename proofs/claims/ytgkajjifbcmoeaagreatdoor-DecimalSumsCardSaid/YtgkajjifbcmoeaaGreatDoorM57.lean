import Derived.Test.YtgkajjifbcmoeaaGreatDoorM41
import Derived.Test.YtgkajjifbcmoeaaGreatDoorM55
import Derived.Test.YtgkajjifbcmoeaaGreatDoorM56
namespace Go.Proofs.YtgkajjifbcmoeaaGreatDoor
set_option linter.unusedSimpArgs false
set_option linter.unusedVariables false
open Go.Abs Go.Proofs.NatL

def opR2CT (f : Dc → Dc → Cx → Dc) (g : Dc → Dc → Cx → Int) : CT:=mkCT [nDc,nDc,nC] false fun l K=>match l with
 | [.inr [.i .i64 k,.b s,.b a,.ints .u32 xs,.i .i64 e],.inr [.i .i64 l,.b t,.b b,.ints .u32 ys,.i .i64 e'],.inr [.i .i64 p,.i .i64 r,.i .i64 mn,.i .i64 mx]] =>
   (InB 4294967296 xs ∧ InB 4294967296 ys ∧ okD k s a xs e = true ∧ okD l t b ys e' = true ∧ okCx p r mn mx = true) ∧
   K (rDI (f ⟨k,s,V 4294967296 xs,e⟩ ⟨l,t,V 4294967296 ys,e'⟩ ⟨p,r,mn,mx⟩) (g ⟨k,s,V 4294967296 xs,e⟩ ⟨l,t,V 4294967296 ys,e'⟩ ⟨p,r,mn,mx⟩))
 | _=>False
theorem opR2_tr {F : FuncId} {f : Dc → Dc → Cx → Dc} {g : Dc → Dc → Cx → Int}
  (hg : ∀ (A B : Dc) (c : Cx),OkD A → OkD B → OkC c → Ret Tryz.prog F false [.inr (gDc A),.inr (gDc B),.inr (gCx c)] (rDI (f A B c) (g A B c)))
  (l : List (C ⊕ List C)) (K : AV → Prop) (hk : match l with
   | [.inr [.i .i64 k,.b s,.b a,.ints .u32 xs,.i .i64 e],.inr [.i .i64 l,.b t,.b b,.ints .u32 ys,.i .i64 e'],.inr [.i .i64 p,.i .i64 r,.i .i64 mn,.i .i64 mx]] =>
    (InB 4294967296 xs ∧ InB 4294967296 ys ∧ okD k s a xs e = true ∧ okD l t b ys e' = true ∧ okCx p r mn mx = true) ∧
    K (rDI (f ⟨k,s,V 4294967296 xs,e⟩ ⟨l,t,V 4294967296 ys,e'⟩ ⟨p,r,mn,mx⟩) (g ⟨k,s,V 4294967296 xs,e⟩ ⟨l,t,V 4294967296 ys,e'⟩ ⟨p,r,mn,mx⟩))
   | _=>False) : ∃ r,Ret Tryz.prog F false l r ∧ K r:=by
 split at hk
 ·rename_i k s a xs e l t b ys e' p r mn mx
  obtain ⟨⟨h1,h2,o1,o2,o0⟩,h⟩:=hk
  obtain ⟨e1,r1⟩:=gDc_of o1 h1
  obtain ⟨e2,r2⟩:=gDc_of o2 h2
  rw [e1,e2]
  exact ⟨_,hg _ _ ⟨p,r,mn,mx⟩ r1 r2 (OkC_b o0),h⟩
 ·exact hk.elim
attribute [go_sem] opR2CT
end Go.Proofs.YtgkajjifbcmoeaaGreatDoor
