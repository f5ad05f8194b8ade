import Derived.Test.YtgkajjifbcmoeaaGreatDoorM24
import Derived.Test.YtgkajjifbcmoeaaGreatDoorM37
namespace Go.Proofs.NatL
set_option linter.unusedSimpArgs false
set_option linter.unusedVariables false
def rkD (A : Dc) : Int:=if A.kind = 0 then 0 else if A.neg = true then -1 else 1
def cmpD (A B : Dc) : Int:=if rkD A ≠ 0 ∨ rkD B ≠ 0 then min (max (rkD A - rkD B) (-1)) 1 else cmpZ (sumZ A.neg A.coef A.exp (!B.neg) B.coef B.exp) 0
def nbC : List D5 → Int
 | []=>0
 | p :: l=>if p.1 = 2 then 13 else nbC l
def nbX : Int → List D5 → Int
 | _,[]=>0
 | i,p :: l=>if p.1 = 2 then -1 - i else nbX (i + 1) l
theorem cmp_inf {A B : Dc} (h : A.kind ≠ 0 ∨ B.kind ≠ 0) : cmpD A B = min (max (rkD A - rkD B) (-1)) 1:=by
 unfold cmpD
 rw [if_pos]
 unfold rkD
 rcases h with h | h
 ·left; rw [if_neg h]; split <;> decide
 ·right; rw [if_neg h]; split <;> decide
theorem cmp_fin {s t : Bool} {m n : Nat} {e f : Int} : cmpD ⟨0,s,m,e⟩ ⟨0,t,n,f⟩ = cmpZ (sumZ s m e (!t) n f) 0:=rfl
end Go.Proofs.NatL
