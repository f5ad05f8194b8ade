import Derived.Test.YtgkajjifbcmoeaaGreatDoorM36
import Derived.Test.YtgkajjifbcmoeaaGreatDoorM43
namespace Go.Proofs.NatL
set_option linter.unusedSimpArgs false
set_option linter.unusedVariables false
end Go.Proofs.NatL
namespace Go.Proofs.YtgkajjifbcmoeaaGreatDoor
set_option linter.unusedSimpArgs false
set_option linter.unusedVariables false
open Go.Abs Go.Proofs.NatL

theorem op1_tr {F : FuncId} {f : Dc → Cx → Dc} {g : Dc → Cx → Int}
  (hg : ∀ (A : Dc) (c : Cx),OkD A → OkC c → Ret Tryz.prog F false [.inr (gDc A),.inr (gCx c)] (rDS (f A c) (g A c)))
  (hb : ∀ (k : Int) (s a : Bool) (xs : List Int) (e p r mn mx : Int),xs.length ≤ 140737488355328 → InB 4294967296 xs →
   (okCx p r mn mx = false → Ret Tryz.prog F false [.inr [.i .i64 k,.b s,.b a,.ints .u32 xs,.i .i64 e],.inr [.i .i64 p,.i .i64 r,.i .i64 mn,.i .i64 mx]] (rBad 4 (-9))) ∧
   (okCx p r mn mx = true → okD k s a xs e = false → Ret Tryz.prog F false [.inr [.i .i64 k,.b s,.b a,.ints .u32 xs,.i .i64 e],.inr [.i .i64 p,.i .i64 r,.i .i64 mn,.i .i64 mx]] (rBad 6 (-1))))
  (l : List (C ⊕ List C)) (K : AV → Prop) (hk : match l with
   | [.inr [.i .i64 k,.b s,.b a,.ints .u32 xs,.i .i64 e],.inr [.i .i64 p,.i .i64 r,.i .i64 mn,.i .i64 mx]] =>
    (xs.length ≤ 140737488355328 ∧ InB 4294967296 xs) ∧
    (if okCx p r mn mx = true then (if okD k s a xs e = true then K (rDS (f ⟨k,s,V 4294967296 xs,e⟩ ⟨p,r,mn,mx⟩) (g ⟨k,s,V 4294967296 xs,e⟩ ⟨p,r,mn,mx⟩)) else K (rBad 6 (-1))) else K (rBad 4 (-9)))
   | _=>False) : ∃ r,Ret Tryz.prog F false l r ∧ K r:=by
 split at hk
 ·rename_i k s a xs e p r mn mx
  obtain ⟨⟨h1,h3⟩,h⟩:=hk
  obtain ⟨q1,q2⟩:=hb k s a xs e p r mn mx h1 h3
  split at h
  ·rename_i o0
   split at h
   ·rename_i o1
    obtain ⟨e1,r1⟩:=gDc_of o1 h3
    rw [e1]
    exact ⟨_,hg _ ⟨p,r,mn,mx⟩ r1 (OkC_b o0),h⟩
   ·rename_i o1; exact ⟨_,q2 o0 (by simpa using o1),h⟩
  ·rename_i o0; exact ⟨_,q1 (by simpa using o0),h⟩
 ·exact hk.elim
end Go.Proofs.YtgkajjifbcmoeaaGreatDoor
