import Derived.Test.YtgkajjifbcmoeaaGreatDoorM29
import Derived.Test.YtgkajjifbcmoeaaGreatDoorM46
import Derived.Test.YtgkajjifbcmoeaaGreatDoorM47
import Derived.Test.YtgkajjifbcmoeaaGreatDoorM75
namespace Go.Proofs.NatL
set_option linter.unusedSimpArgs false
set_option linter.unusedVariables false
def mrR (r : Int) : Int:=if r = 2 then 3 else if r = 3 then 2 else r
def mrC (c : Cx) : Cx:=⟨c.p,mrR c.r,c.mn,c.mx⟩
theorem away_mr (r : Int) (s odd : Bool) (h : Int) : awayB (mrR r) (!s) odd h = awayB r s odd h:=by
 unfold awayB mrR
 by_cases h2 : r = 2
 ·subst h2; simp
 by_cases h3 : r = 3
 ·subst h3; simp
 ·simp only [if_neg h2,if_neg h3]
theorem rdE_mr (s : Bool) (num den : Nat) (exp e r : Int) : rdE (!s) num den exp e (mrR r) = rdE s num den exp e r:=by
 unfold rdE; rw [away_mr]
theorem fitCE_mr (s : Bool) (num den : Nat) (exp i p r mn : Int) : fitCE (!s) num den exp i p (mrR r) mn = fitCE s num den exp i p r mn:=by
 unfold fitCE; simp only [rdE_mr]
theorem fitS_mr (s : Bool) (num den : Nat) (exp i p r mn mx : Int) : fitS (!s) num den exp i p (mrR r) mn mx = fitS s num den exp i p r mn mx:=by
 unfold fitS; simp only [fitCE_mr]
def fl1 (D : Dc) : Dc:=⟨D.kind,!D.neg,D.coef,D.exp⟩
theorem ovf_mr (s : Bool) (p r mx : Int) : ovf (!s) p (mrR r) mx = fl1 (ovf s p r mx):=by
 unfold ovf; rw [away_mr]; split <;> rfl
theorem fitD_fl (s : Bool) (num den : Nat) (exp i p r mn mx : Int) : fitD (!s) num den exp i p (mrR r) mn mx = fl1 (fitD s num den exp i p r mn mx):=by
 unfold fitD; simp only [fitCE_mr,ovf_mr]
 (repeat' split) <;> rfl
theorem fitD_mr (s : Bool) (num den : Nat) (exp i p r mn mx : Int) : fitD (!s) num den exp i p (mrR r) mn mx = opD (fitD s num den exp i p r mn mx):=by
 rw [fitD_fl]
 exact (if_neg (fit_kind s num den exp i p r mn mx)).symm
theorem op_k (A : Dc) : (opD A).kind = A.kind ∧ (opD A).coef = A.coef ∧ (opD A).exp = A.exp:=by
 unfold opD; split <;> exact ⟨rfl,rfl,rfl⟩
theorem op_neg {A : Dc} (h : A.kind ≠ 2) : (opD A).neg = !A.neg:=by unfold opD; rw [if_neg h]
theorem bne_fl (a b : Bool) : ((!a) != b) = !(a != b):=by cases a <;> cases b <;> rfl
theorem bne_fr (a b : Bool) : (a != (!b)) = !(a != b):=by cases a <;> cases b <;> rfl
theorem op_none : opD dNone = dNone:=rfl
theorem mul_mr (A B : Dc) (c : Cx) : mulD (opD A) B (mrC c) = opD (mulD A B c) ∧ mulS (opD A) B (mrC c) = mulS A B c:=by
 obtain ⟨e1,e2,e3⟩:=op_k A
 unfold mulD mulS
 rw [e1,e2,e3]
 by_cases h1 : A.kind = 2 ∨ B.kind = 2
 ·simp only [if_pos h1,op_none,and_self]
 have en:=op_neg (A:=A) (by omega)
 rw [en,bne_fl]
 simp only [if_neg h1]
 by_cases h2 : A.kind = 0 ∧ B.kind = 0
 ·simp only [if_pos h2]
  exact ⟨fitD_mr _ _ _ _ _ _ _ _ _,fitS_mr _ _ _ _ _ _ _ _ _⟩
 ·simp only [if_neg h2]
  split
  ·first | exact ⟨rfl,rfl⟩ | exact ⟨rfl,trivial⟩
  ·first | exact ⟨rfl,rfl⟩ | exact ⟨rfl,trivial⟩
theorem div_mr (A B : Dc) (c : Cx) : divD A (opD B) (mrC c) = opD (divD A B c) ∧ divS A (opD B) (mrC c) = divS A B c:=by
 obtain ⟨e1,e2,e3⟩:=op_k B
 unfold divD divS
 rw [e1,e2,e3]
 by_cases h1 : A.kind = 2 ∨ B.kind = 2
 ·simp only [if_pos h1,op_none,and_self]
 have en:=op_neg (A:=B) (by omega)
 rw [en,bne_fr]
 simp only [if_neg h1]
 split
 ·first | exact ⟨rfl,rfl⟩ | exact ⟨rfl,trivial⟩
 split
 ·first | exact ⟨rfl,rfl⟩ | exact ⟨rfl,trivial⟩
 split
 ·first | exact ⟨rfl,rfl⟩ | exact ⟨rfl,trivial⟩
 split
 ·first | exact ⟨rfl,rfl⟩ | exact ⟨rfl,trivial⟩
 ·exact ⟨fitD_mr _ _ _ _ _ _ _ _ _,fitS_mr _ _ _ _ _ _ _ _ _⟩
theorem sumZ_mr (s t : Bool) (m n : Nat) (e f : Int) : sumZ (!s) m e (!t) n f = - sumZ s m e t n f:=by
 unfold sumZ
 cases s <;> cases t <;> simp only [Bool.not_false,Bool.not_true,sgf,sgt] <;> omega
theorem sumB_mr {s t : Bool} {m n : Nat} {e f : Int} (fl fl' : Bool) (h : sumZ s m e t n f ≠ 0) : sumB (!s) m e (!t) n f fl' = !sumB s m e t n f fl:=by
 unfold sumB
 rw [sumZ_mr,if_neg h,if_neg (by omega)]
 by_cases hz : sumZ s m e t n f < 0
 ·rw [decide_eq_true hz,decide_eq_false (by omega)]; rfl
 ·rw [decide_eq_false hz,decide_eq_true (by omega)]; rfl
def dzero (D : Dc) : Prop:=D.kind = 0 ∧ D.coef = 0
theorem add_mr (A B : Dc) (c : Cx) : addS (opD A) (opD B) (mrC c) = addS A B c ∧ (addD (opD A) (opD B) (mrC c) = opD (addD A B c) ∨ (dzero (addD A B c) ∧ dzero (addD (opD A) (opD B) (mrC c)) ∧ (addD (opD A) (opD B) (mrC c)).exp = (addD A B c).exp)):=by
 obtain ⟨e1,e2,e3⟩:=op_k A
 obtain ⟨f1,f2,f3⟩:=op_k B
 unfold addD addS
 rw [e1,e2,e3,f1,f2,f3]
 by_cases h1 : A.kind = 2 ∨ B.kind = 2
 ·simp only [if_pos h1]
  first | exact ⟨rfl,.inl rfl⟩ | exact ⟨trivial,.inl rfl⟩
 have en:=op_neg (A:=A) (by omega)
 have fn:=op_neg (A:=B) (by omega)
 have q : ((opD A).neg ≠ (opD B).neg) = (A.neg ≠ B.neg):=by
  rw [en,fn]; cases A.neg <;> cases B.neg <;> simp
 simp only [if_neg h1,q]
 by_cases h2 : A.kind = 1 ∧ B.kind = 1 ∧ A.neg ≠ B.neg
 ·simp only [if_pos h2]
  first | exact ⟨rfl,.inl rfl⟩ | exact ⟨trivial,.inl rfl⟩
 simp only [if_neg h2]
 rw [en,fn]
 by_cases h3 : A.kind = 1
 ·simp only [if_pos h3]
  first | exact ⟨rfl,.inl rfl⟩ | exact ⟨trivial,.inl rfl⟩
 simp only [if_neg h3]
 by_cases h4 : B.kind = 1
 ·simp only [if_pos h4]
  first | exact ⟨rfl,.inl rfl⟩ | exact ⟨trivial,.inl rfl⟩
 simp only [if_neg h4]
 by_cases hz : sumZ A.neg A.coef A.exp B.neg B.coef B.exp = 0
 ·have hz2 : (sumZ (!A.neg) A.coef A.exp (!B.neg) B.coef B.exp).natAbs = 0:=by rw [sumZ_mr]; omega
  have hz1 : (sumZ A.neg A.coef A.exp B.neg B.coef B.exp).natAbs = 0:=by omega
  obtain ⟨u1,u2⟩:=fit_zero (sumB A.neg A.coef A.exp B.neg B.coef B.exp (flr c)) 1 (min A.exp B.exp) (min A.exp B.exp) c.p c.r c.mn c.mx hz1
  obtain ⟨v1,v2⟩:=fit_zero (sumB (!A.neg) A.coef A.exp (!B.neg) B.coef B.exp (flr (mrC c))) 1 (min A.exp B.exp) (min A.exp B.exp) (mrC c).p (mrC c).r (mrC c).mn (mrC c).mx hz2
  rw [u1,u2,v1,v2]
  exact ⟨rfl,.inr ⟨⟨rfl,rfl⟩,⟨rfl,rfl⟩,rfl⟩⟩
 ·rw [sumB_mr (flr c) (flr (mrC c)) hz,sumZ_mr,Int.natAbs_neg]
  exact ⟨fitS_mr _ _ _ _ _ _ _ _ _,.inl (fitD_mr _ _ _ _ _ _ _ _ _)⟩
end Go.Proofs.NatL
