import Derived.Test.YtgkajjifbcmoeaaGreatDoorP21
import Derived.Test.YtgkajjifbcmoeaaGreatDoorP23
namespace Go.Proofs.NatL
set_option linter.unusedSimpArgs false
set_option linter.unusedVariables false
theorem neg_mul_sub (x y : Int) (c d : Nat) : x * (d : Int) + -y * (c : Int) = x * d - y * c:=by rw [Int.neg_mul]; omega
theorem sgn_neg_len {t : Bool} {k n : Nat} (h : (dg 65536 k).length ≤ n) : (dg 65536 (-sg t k).natAbs).length ≤ n:=by rw [Int.natAbs_neg,sg_abs]; exact h
end Go.Proofs.NatL
namespace Go.Proofs.YtgkajjifbcmoeaaGreatDoor
set_option linter.unusedSimpArgs false
set_option linter.unusedVariables false
open Go.Abs Go.Proofs.NatL

set_option maxHeartbeats 1600000 in
theorem qless_ret (s t : Bool) (m c k d : Nat) (lm : (dg 65536 m).length ≤ 20000) (lc : (dg 65536 c).length ≤ 20000) (lk : (dg 65536 k).length ≤ 20000) (ld : (dg 65536 d).length ≤ 20000) (hc : 0 < c) (hd : 0 < d) :
  Ret Tryz.prog 57 false [.inr [.b s,.ints .i64 (dg 65536 m),.ints .i64 (dg 65536 c)],.inr [.b t,.ints .i64 (dg 65536 k),.ints .i64 (dg 65536 d)]] (.g (gT (rdN (sg s m * d - sg t k * c) (c * d)) (rdD (sg s m * d - sg t k * c) (c * d)) (sgz (sg s m * d - sg t k * c) (decide (sg s m * (d : Int) < 0))))):=by
 have lk':=sgn_neg_len (t:=t) lk
 have e:=neg_mul_sub (sg s m) (sg t k) c d
 generalize hY : -sg t k = Y at *
 (refine q_H Tryz.func57 (fun F=>?_); simp only [q_z,q_y,Tryz.ntmps57,Tryz.results57])
 repeat' (first|with_reducible refine q_0 ?_|((with_reducible first|refine q_q qr3_ok fun K hK=>?_|refine q_r qr3_ok fun K hK=>?_);simp (maxSteps:=2000000) only [go_sem,↓reduceIte,reduceCtorEq,Nat.reduceLeDiff,Nat.reduceLT,Nat.reduceBEq,Nat.reduceAdd,V65,sv65,sv65d,hY,e];(repeat1' with_reducible first|apply And.intro|(intro _;try exact q_v)|(refine hK _ ?_;clear hK K))<;>(try (clear hK K;exact q_u)))|(with_reducible refine q_s ?_;(first|apply q_J|apply q_K|apply q_L|apply q_M|apply q_N|apply q_O)<;>try (intro _;try exact q_v)))
 all_goals first | omega | exact q_A rfl | skip
def rq7 : Cfg:=addT 57 (qT2 20000 dpos2 lesT) cf0
theorem rq7_ok : TblOk Tryz.prog rq7:=q_I cf0_ok Tryz.func57 fun l K h =>
 qT2_tr (p:=dpos2) (f:=lesT) (fun s t m c k d lm lc lk ld hp K h=>⟨_,qless_ret s t m c k d lm lc lk ld hp.1 hp.2,h _⟩) l K h
end Go.Proofs.YtgkajjifbcmoeaaGreatDoor

namespace Go.Proofs.NatL
set_option linter.unusedSimpArgs false
set_option linter.unusedVariables false
theorem rdN_len {B k : Nat} (hB : 2 ≤ B) (z : Int) {d : Nat} (hd : 0 < d) (h : (dg B z.natAbs).length ≤ k) : (dg B (rdN z d).natAbs).length ≤ k:=by
 rw [rdN_abs z hd]
 exact Nat.le_trans (dg_len_mono hB (Nat.div_le_self _ _)) h
theorem rdD_len {B k : Nat} (hB : 2 ≤ B) (z : Int) {d : Nat} (h : (dg B d).length ≤ k) : (dg B (rdD z d)).length ≤ k :=
 Nat.le_trans (dg_len_mono hB (Nat.div_le_self _ _)) h
end Go.Proofs.NatL
namespace Go.Proofs.YtgkajjifbcmoeaaGreatDoor
set_option linter.unusedSimpArgs false
set_option linter.unusedVariables false
open Go.Abs Go.Proofs.NatL

end Go.Proofs.YtgkajjifbcmoeaaGreatDoor
