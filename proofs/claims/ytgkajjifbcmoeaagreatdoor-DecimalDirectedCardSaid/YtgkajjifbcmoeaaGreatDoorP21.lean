import Derived.Test.YtgkajjifbcmoeaaGreatDoorP19
import Derived.Test.YtgkajjifbcmoeaaGreatDoorP20
namespace Go.Proofs.NatL
set_option linter.unusedSimpArgs false
set_option linter.unusedVariables false
end Go.Proofs.NatL
namespace Go.Proofs.YtgkajjifbcmoeaaGreatDoor
set_option linter.unusedSimpArgs false
set_option linter.unusedVariables false
open Go.Abs Go.Proofs.NatL

def lesT (x : Int) (c : Nat) (y : Int) (d : Nat) (K : AV → Prop) : Prop:=∀ b : Bool,K (.g (gT (rdN (x * d - y * c) (c * d)) (rdD (x * d - y * c) (c * d)) b))
def ordT (x : Int) (c : Nat) (y : Int) (d : Nat) (K : AV → Prop) : Prop:=K (.c (.i .i64 (cmpZ (x * d) (y * c))))
set_option maxHeartbeats 1600000 in
theorem qorder_ret (s t : Bool) (m c k d : Nat) (lm : (dg 65536 m).length ≤ 20000) (lc : (dg 65536 c).length ≤ 20000) (lk : (dg 65536 k).length ≤ 20000) (ld : (dg 65536 d).length ≤ 20000) :
  Ret Tryz.prog 54 false [.inr [.b s,.ints .i64 (dg 65536 m),.ints .i64 (dg 65536 c)],.inr [.b t,.ints .i64 (dg 65536 k),.ints .i64 (dg 65536 d)]] (.c (.i .i64 (cmpZ (sg s m * d) (sg t k * c)))):=by
 have e1 : sg s m * (d : Int) = sg s (m * d):=by have:=sg_mul s false m d; rw [sgf,Bool.bne_false] at this; exact this.symm
 have e2 : sg t k * (c : Int) = sg t (k * c):=by have:=sg_mul t false k c; rw [sgf,Bool.bne_false] at this; exact this.symm
 have l1 : (dg 65536 (sg s m * (d : Int)).natAbs).length ≤ 40000:=by rw [e1,sg_abs]; exact mul_len (by omega) lm ld
 have l2 : (dg 65536 (sg t k * (c : Int)).natAbs).length ≤ 40000:=by rw [e2,sg_abs]; exact mul_len (by omega) lk lc
 have f1:=sgf d
 have f2:=sgf c
 generalize hX : sg s m * (d : Int) = X at *
 generalize hY : sg t k * (c : Int) = Y at *
 (refine q_H Tryz.func54 (fun F=>?_); simp only [q_z,q_y,Tryz.ntmps54,Tryz.results54])
 repeat' (first|with_reducible refine q_0 ?_|((with_reducible first|refine q_q qr2_ok fun K hK=>?_|refine q_r qr2_ok fun K hK=>?_);simp (maxSteps:=2000000) only [go_sem,↓reduceIte,reduceCtorEq,Nat.reduceLeDiff,Nat.reduceLT,Nat.reduceBEq,Nat.reduceAdd,V65,sv65,sv65d,f1,f2,hX,hY];(repeat1' with_reducible first|apply And.intro|(intro _;try exact q_v)|(refine hK _ ?_;clear hK K))<;>(try (clear hK K;exact q_u)))|(with_reducible refine q_s ?_;(first|apply q_J|apply q_K|apply q_L|apply q_M|apply q_N|apply q_O)<;>try (intro _;try exact q_v)))
 all_goals first | omega | exact q_A rfl | skip
def rq6 : Cfg:=addT 54 (qT2 20000 dany2 ordT) cf0
theorem rq6_ok : TblOk Tryz.prog rq6:=q_I cf0_ok Tryz.func54 fun l K h =>
 qT2_tr (p:=dany2) (f:=ordT) (fun s t m c k d lm lc lk ld _ K h=>⟨_,qorder_ret s t m c k d lm lc lk ld,h⟩) l K h
attribute [go_sem] lesT ordT
end Go.Proofs.YtgkajjifbcmoeaaGreatDoor
