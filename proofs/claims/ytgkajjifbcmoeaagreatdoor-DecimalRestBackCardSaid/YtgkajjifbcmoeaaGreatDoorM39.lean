import Derived.Test.YtgkajjifbcmoeaaGreatDoorM10
import Derived.Test.YtgkajjifbcmoeaaGreatDoorM37
namespace Go.Proofs.NatL
set_option linter.unusedSimpArgs false
set_option linter.unusedVariables false
def d00 : Dc:=⟨0,false,0,0⟩
def fmaD (A B D : Dc) (c : Cx) : Dc :=
 if A.kind ≠ 0 ∨ B.kind ≠ 0 then (if enS A B = 0 then spD (enD A B) D else enD A B)
 else if D.kind ≠ 0 then spD D d00
 else fitD (sumB (A.neg != B.neg) (A.coef * B.coef) (A.exp + B.exp) D.neg D.coef D.exp (flr c)) (sumZ (A.neg != B.neg) (A.coef * B.coef) (A.exp + B.exp) D.neg D.coef D.exp).natAbs 1 (min (A.exp + B.exp) D.exp) (min (A.exp + B.exp) D.exp) c.p c.r c.mn c.mx
def fmaS (A B D : Dc) (c : Cx) : Int :=
 if A.kind ≠ 0 ∨ B.kind ≠ 0 then (if enS A B = 0 then spS (enD A B) D else enS A B)
 else if D.kind ≠ 0 then spS D d00
 else fitS (sumB (A.neg != B.neg) (A.coef * B.coef) (A.exp + B.exp) D.neg D.coef D.exp (flr c)) (sumZ (A.neg != B.neg) (A.coef * B.coef) (A.exp + B.exp) D.neg D.coef D.exp).natAbs 1 (min (A.exp + B.exp) D.exp) (min (A.exp + B.exp) D.exp) c.p c.r c.mn c.mx
theorem smP_mul {A B D : Dc} (hA : OkD A) (hB : OkD B) (hD : OkD D) : smP (A.coef * B.coef) (A.exp + B.exp) D.coef D.exp:=by
 obtain ⟨a1,a2,a3⟩:=okd_exp hA
 obtain ⟨b1,b2,b3⟩:=okd_exp hB
 obtain ⟨d1,d2,d3⟩:=okd_exp hD
 have:=ds_mul a1 b1
 exact ⟨by omega,by omega,by omega,by omega,by omega,by omega,by omega,by omega⟩
end Go.Proofs.NatL
namespace Go.Proofs.YtgkajjifbcmoeaaGreatDoor
set_option linter.unusedSimpArgs false
set_option linter.unusedVariables false
open Go.Abs Go.Proofs.NatL

end Go.Proofs.YtgkajjifbcmoeaaGreatDoor
