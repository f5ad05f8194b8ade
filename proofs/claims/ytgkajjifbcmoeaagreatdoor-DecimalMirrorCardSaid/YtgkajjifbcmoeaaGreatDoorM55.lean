import Derived.Test.YtgkajjifbcmoeaaGreatDoorM38
import Derived.Test.YtgkajjifbcmoeaaGreatDoorM54
namespace Go.Proofs.NatL
set_option linter.unusedSimpArgs false
set_option linter.unusedVariables false
end Go.Proofs.NatL
namespace Go.Proofs.YtgkajjifbcmoeaaGreatDoor
set_option linter.unusedSimpArgs false
set_option linter.unusedVariables false
open Go.Abs Go.Proofs.NatL

def leastCT : CT:=mkCT [] true fun l K=>match l with
 | [.inl (.i .i64 a),.inl (.i .i64 b)]=>K (.c (.i .i64 (min a b)))
 | _=>False
def es6 : Cfg:=addT 115 leastCT cf0
theorem es6_ok : TblOk Tryz.prog es6:=q_I cf0_ok Tryz.func115 fun l K h=>by
 split at h
 ·rename_i a b
  refine ⟨_,Ret.plain ?_ rfl,h⟩
  by_cases h : a < b
  ·have e : min a b = a:=by omega
   rw [e]
   (refine q_H Tryz.func115 (fun F=>?_); simp only [q_z,q_y,Tryz.ntmps115,Tryz.results115])
   repeat' (first|(with_reducible first|apply q_a|apply q_b|apply q_c|apply q_d|apply q_e|apply q_f|apply q_g|apply q_h|apply q_i|apply q_j|apply q_k|apply q_m|apply q_n|apply q_o|apply q_p|refine q_l ?_)|((with_reducible first|refine q_q eb8_ok fun K hK=>?_|refine q_r eb8_ok fun K hK=>?_);simp (maxSteps:=2000000) only [go_sem,↓reduceIte,reduceCtorEq,Nat.reduceLeDiff,Nat.reduceLT,Nat.reduceBEq,Nat.reduceAdd];(repeat1' with_reducible first|apply And.intro|(intro _;try exact q_v)|(refine hK _ ?_;clear hK K))<;>(try (clear hK K;exact q_u)))|(with_reducible refine q_s ?_;(first|apply q_J|apply q_K|apply q_L|apply q_M|apply q_N|apply q_O)<;>try (intro _;try exact q_v))|with_reducible refine q_t ?_)
   all_goals first | omega | exact q_A rfl | skip
  ·have e : min a b = b:=by omega
   rw [e]
   (refine q_H Tryz.func115 (fun F=>?_); simp only [q_z,q_y,Tryz.ntmps115,Tryz.results115])
   repeat' (first|(with_reducible first|apply q_a|apply q_b|apply q_c|apply q_d|apply q_e|apply q_f|apply q_g|apply q_h|apply q_i|apply q_j|apply q_k|apply q_m|apply q_n|apply q_o|apply q_p|refine q_l ?_)|((with_reducible first|refine q_q eb8_ok fun K hK=>?_|refine q_r eb8_ok fun K hK=>?_);simp (maxSteps:=2000000) only [go_sem,↓reduceIte,reduceCtorEq,Nat.reduceLeDiff,Nat.reduceLT,Nat.reduceBEq,Nat.reduceAdd];(repeat1' with_reducible first|apply And.intro|(intro _;try exact q_v)|(refine hK _ ?_;clear hK K))<;>(try (clear hK K;exact q_u)))|(with_reducible refine q_s ?_;(first|apply q_J|apply q_K|apply q_L|apply q_M|apply q_N|apply q_O)<;>try (intro _;try exact q_v))|with_reducible refine q_t ?_)
   all_goals first | omega | exact q_A rfl | skip
 ·exact h.elim
attribute [go_sem] leastCT
theorem sgz_n {z : Int} (h : z ≠ 0) (c : Bool) : sgz z c = decide (z < 0):=by unfold sgz; rw [if_neg h]
def eb9 : Cfg:=listT [(116,rpartsCT),(189,(rI2CT 1048576 addF)),(15,smallCT)] [34]
theorem eb9_ok : TblOk Tryz.prog eb9:=listE_ok (by simp only [List.mem_singleton,forall_eq]; exact flt) ⟨⟨er2,er2_ok,rfl⟩,⟨jt10,jt10_ok,rfl⟩,⟨nt7,nt7_ok,rfl⟩,trivial⟩
attribute [go_sem] eb9
set_option maxHeartbeats 3200000 in
theorem rsum_ret (s t : Bool) (m n : Nat) (e f : Int) (fl : Bool) (h : smP m e n f) :
  Ret Tryz.prog 141 false [.inr (gE s m 1 e),.inr (gE t n 1 f),.inl (.b fl)] (.g (gE (sumB s m e t n f fl) (sumZ s m e t n f).natAbs 1 (min e f))):=by
 have hlen:=sumZ_len (s:=s) (t:=t) h
 obtain ⟨k1,k2⟩:=smP_len h
 obtain ⟨h1,h2,h3,h4,h5,h6,h7,h8⟩:=h
 have t0 : (1 : Int).toNat = 1:=rfl
 have hZ : sumZ s m e t n f = sg s (m * 10 ^ (e - min e f).toNat) + sg t (n * 10 ^ (f - min e f).toNat):=rfl
 have hB : sumB s m e t n f fl = if sumZ s m e t n f = 0 then (if s = t then s else fl) else decide (sumZ s m e t n f < 0):=rfl
 have one1:=one_ds
 obtain ⟨a1,a2⟩:=pt_ge (num:=m) (den:=1) (e:=e) (x:=min e f) (by omega)
 obtain ⟨a3,a4⟩:=pt_ge (num:=n) (den:=1) (e:=f) (x:=min e f) (by omega)
 have l1:=ds_65b (n:=m * 10 ^ (e - min e f).toNat) (by omega)
 have l2:=ds_65b (n:=n * 10 ^ (f - min e f).toNat) (by omega)
 generalize hM : m * 10 ^ (e - min e f).toNat = M at *
 generalize hN : n * 10 ^ (f - min e f).toNat = N at *
 generalize hX : min e f = X at *
 rw [hB]
 have l3:=ds_65b (n:=(sumZ s m e t n f).natAbs) (by omega)
 have d1 : (dg 65536 1).length ≤ 1:=by decide
 generalize hz : sumZ s m e t n f = Z at *
 have hZ':=hZ.symm
 have z0:=dg65_nil_iff Z.natAbs
 by_cases hZ0 : Z = 0
 ·rw [if_pos hZ0]
  have z1:=z0.2 (by omega)
  have q0 : dg 65536 Z.natAbs = []:=by rw [hZ0]; rfl
  have q1 : ∀ c,sgz Z c = c:=fun c=>by rw [hZ0]; rfl
  by_cases hfe : f < e
  ·have hx : X = f:=by omega
   subst hx
   cases s <;> cases t <;> cases fl
   all_goals
    (refine q_H Tryz.func141 (fun F=>?_); simp only [q_z,q_y,Tryz.ntmps141,Tryz.results141])
    repeat' (first|(with_reducible first|apply q_a|apply q_b|apply q_c|apply q_d|apply q_e|apply q_f|apply q_g|apply q_h|apply q_i|apply q_j|apply q_k|apply q_m|apply q_n|apply q_o|apply q_p|refine q_l ?_)|((with_reducible first|refine q_q eb9_ok fun K hK=>?_|refine q_r eb9_ok fun K hK=>?_);simp (maxSteps:=2000000) only [go_sem,↓reduceIte,reduceCtorEq,Nat.reduceLeDiff,Nat.reduceLT,Nat.reduceBEq,Nat.reduceAdd,V65,sv65d,a1,a2,a3,a4,hZ',t0,q1];(repeat1' with_reducible first|apply And.intro|(intro _;try exact q_v)|(refine hK _ ?_;clear hK K))<;>(try (clear hK K;exact q_u)))|(with_reducible refine q_s ?_;(first|apply q_J|apply q_K|apply q_L|apply q_M|apply q_N|apply q_O)<;>try (intro _;try exact q_v))|with_reducible refine q_t ?_)
    all_goals first | omega | assumption | exact q_A rfl | skip
  ·have hx : X = e:=by omega
   subst hx
   cases s <;> cases t <;> cases fl
   all_goals
    (refine q_H Tryz.func141 (fun F=>?_); simp only [q_z,q_y,Tryz.ntmps141,Tryz.results141])
    repeat' (first|(with_reducible first|apply q_a|apply q_b|apply q_c|apply q_d|apply q_e|apply q_f|apply q_g|apply q_h|apply q_i|apply q_j|apply q_k|apply q_m|apply q_n|apply q_o|apply q_p|refine q_l ?_)|((with_reducible first|refine q_q eb9_ok fun K hK=>?_|refine q_r eb9_ok fun K hK=>?_);simp (maxSteps:=2000000) only [go_sem,↓reduceIte,reduceCtorEq,Nat.reduceLeDiff,Nat.reduceLT,Nat.reduceBEq,Nat.reduceAdd,V65,sv65d,a1,a2,a3,a4,hZ',t0,q1];(repeat1' with_reducible first|apply And.intro|(intro _;try exact q_v)|(refine hK _ ?_;clear hK K))<;>(try (clear hK K;exact q_u)))|(with_reducible refine q_s ?_;(first|apply q_J|apply q_K|apply q_L|apply q_M|apply q_N|apply q_O)<;>try (intro _;try exact q_v))|with_reducible refine q_t ?_)
    all_goals first | omega | assumption | exact q_A rfl | skip
 ·rw [if_neg hZ0]
  have z1 : ¬ ((dg 65536 Z.natAbs).length : Int) = 0:=fun h=>hZ0 (by have:=z0.1 h; omega)
  have q1:=sgz_n hZ0
  by_cases hfe : f < e
  ·have hx : X = f:=by omega
   subst hx
   (refine q_H Tryz.func141 (fun F=>?_); simp only [q_z,q_y,Tryz.ntmps141,Tryz.results141])
   repeat' (first|(with_reducible first|apply q_a|apply q_b|apply q_c|apply q_d|apply q_e|apply q_f|apply q_g|apply q_h|apply q_i|apply q_j|apply q_k|apply q_m|apply q_n|apply q_o|apply q_p|refine q_l ?_)|((with_reducible first|refine q_q eb9_ok fun K hK=>?_|refine q_r eb9_ok fun K hK=>?_);simp (maxSteps:=2000000) only [go_sem,↓reduceIte,reduceCtorEq,Nat.reduceLeDiff,Nat.reduceLT,Nat.reduceBEq,Nat.reduceAdd,V65,sv65d,a1,a2,a3,a4,hZ',t0,q1];(repeat1' with_reducible first|apply And.intro|(intro _;try exact q_v)|(refine hK _ ?_;clear hK K))<;>(try (clear hK K;exact q_u)))|(with_reducible refine q_s ?_;(first|apply q_J|apply q_K|apply q_L|apply q_M|apply q_N|apply q_O)<;>try (intro _;try exact q_v))|with_reducible refine q_t ?_)
   all_goals first | omega | assumption | exact q_A rfl | skip
  ·have hx : X = e:=by omega
   subst hx
   (refine q_H Tryz.func141 (fun F=>?_); simp only [q_z,q_y,Tryz.ntmps141,Tryz.results141])
   repeat' (first|(with_reducible first|apply q_a|apply q_b|apply q_c|apply q_d|apply q_e|apply q_f|apply q_g|apply q_h|apply q_i|apply q_j|apply q_k|apply q_m|apply q_n|apply q_o|apply q_p|refine q_l ?_)|((with_reducible first|refine q_q eb9_ok fun K hK=>?_|refine q_r eb9_ok fun K hK=>?_);simp (maxSteps:=2000000) only [go_sem,↓reduceIte,reduceCtorEq,Nat.reduceLeDiff,Nat.reduceLT,Nat.reduceBEq,Nat.reduceAdd,V65,sv65d,a1,a2,a3,a4,hZ',t0,q1];(repeat1' with_reducible first|apply And.intro|(intro _;try exact q_v)|(refine hK _ ?_;clear hK K))<;>(try (clear hK K;exact q_u)))|(with_reducible refine q_s ?_;(first|apply q_J|apply q_K|apply q_L|apply q_M|apply q_N|apply q_O)<;>try (intro _;try exact q_v))|with_reducible refine q_t ?_)
   all_goals first | omega | assumption | exact q_A rfl | skip
def rsumCT : CT:=mkCT [nE,nE,.inl none] false fun l K=>match l with
 | [.inr [.b s,.ints .i64 xs,.ints .i64 ua,.i .i64 e],.inr [.b t,.ints .i64 ys,.ints .i64 ub,.i .i64 f],.inl (.b fl)] =>
   (InB 65536 xs ∧ Trd xs ∧ InB 65536 ys ∧ Trd ys ∧ ua = dg 65536 1 ∧ ub = dg 65536 1 ∧ smP (V 65536 xs) e (V 65536 ys) f) ∧
   K (.g (gE (sumB s (V 65536 xs) e t (V 65536 ys) f fl) (sumZ s (V 65536 xs) e t (V 65536 ys) f).natAbs 1 (min e f)))
 | _=>False
def es8 : Cfg:=addT 141 rsumCT cf0
theorem es8_ok : TblOk Tryz.prog es8:=q_I cf0_ok Tryz.func141 fun l K h=>by
 split at h
 ·rename_i s xs ua e t ys ub f fl
  obtain ⟨⟨h1,h2,h3,h4,rfl,rfl,h5⟩,h⟩:=h
  have e1:=dg_V 65536 (by omega) xs h1 h2
  have e2:=dg_V 65536 (by omega) ys h3 h4
  have:=rsum_ret s t _ _ e f fl h5
  rw [gE,gE,e1,e2] at this
  exact ⟨_,this,h⟩
 ·exact h.elim
attribute [go_sem] rsumCT
end Go.Proofs.YtgkajjifbcmoeaaGreatDoor
