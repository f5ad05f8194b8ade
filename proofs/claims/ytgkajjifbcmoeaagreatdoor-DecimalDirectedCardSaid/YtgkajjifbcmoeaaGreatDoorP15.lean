import Derived.Test.YtgkajjifbcmoeaaGreatDoorP14
import Derived.Test.YtgkajjifbcmoeaaGreatDoorP9
namespace Go.Proofs.YtgkajjifbcmoeaaGreatDoor
set_option linter.unusedSimpArgs false
set_option linter.unusedVariables false
open Go.Abs Go.Proofs.NatL

set_option maxHeartbeats 1600000 in
theorem number_ret (n : Int) (hn : -9223372036854775808 ≤ n ∧ n ≤ 9223372036854775807) : Ret Tryz.prog 55 false [.inl (.i .i64 n)] (.g (gR n)):=by
 (refine q_H Tryz.func55 (fun F=>?_); simp only [q_z,q_y,Tryz.ntmps55,Tryz.results55])
 repeat' (first|with_reducible refine q_0 ?_|((with_reducible first|refine q_q jb4_ok fun K hK=>?_|refine q_r jb4_ok fun K hK=>?_);simp (maxSteps:=2000000) only [go_sem,↓reduceIte,reduceCtorEq,Nat.reduceLeDiff,Nat.reduceLT,Nat.reduceBEq,Nat.reduceAdd];(repeat1' with_reducible first|apply And.intro|(intro _;try exact q_v)|(refine hK _ ?_;clear hK K))<;>(try (clear hK K;exact q_u)))|(with_reducible refine q_s ?_;(first|apply q_J|apply q_K|apply q_L|apply q_M|apply q_N|apply q_O)<;>try (intro _;try exact q_v)))
 refine q_G (ι:={ p : Int × List Bool // p.1.natAbs ≤ n.natAbs ∧ p.2.length ≤ 64 ∧ B2 p.2 + 2 ^ p.2.length * p.1.natAbs = n.natAbs }) (fun p=>⟨21,[(0,.c (.i .i64 p.1.1)),(2,.bx 0 0),(3,.own 1 0),(4,.c (.b (decide (n < 0))))],⟨[(0,[.c (.b false),.c .nil])],[(1,⟨0,4,1,.bools p.1.2⟩)],[]⟩,2⟩) (fun p=>p.1.1.natAbs) ⟨(n,[]),Nat.le_refl _,by simp,by simp [B2_nil]⟩ ?_ ?_
 ·exact q_D
 rintro ⟨⟨z,l⟩,g1,g2,g3⟩
 simp only at g1 g2 g3 ⊢
 have a1:=tdiv2_abs z
 have a2:=tmod2_ne z
 have b3:=bit_step l l.length z.natAbs n.natAbs rfl g3
 have hlen : z ≠ 0 → l.length + 1 ≤ 64:=fun h=>by
  rcases Nat.lt_or_ge l.length 64 with h1 | h1
  ·omega
  ·have h2 : 2 ^ 64 * 1 ≤ 2 ^ l.length * z.natAbs:=Nat.mul_le_mul (Nat.pow_le_pow_right (by omega) h1) (by omega)
   have h3 : (2 : Nat) ^ 64 = 18446744073709551616:=rfl
   omega
 by_cases hz : z = 0
 ·subst hz
  have e : B2 l = n.natAbs:=by simpa using g3
  repeat' (first|with_reducible refine q_0 ?_|((with_reducible first|refine q_q jb4_ok fun K hK=>?_|refine q_r jb4_ok fun K hK=>?_);simp (maxSteps:=2000000) only [go_sem,↓reduceIte,reduceCtorEq,Nat.reduceLeDiff,Nat.reduceLT,Nat.reduceBEq,Nat.reduceAdd,e];(repeat1' with_reducible first|apply And.intro|(intro _;try exact q_v)|(refine hK _ ?_;clear hK K))<;>(try (clear hK K;exact q_u)))|(with_reducible refine q_s ?_;(first|apply q_J|apply q_K|apply q_L|apply q_M|apply q_N|apply q_O)<;>try (intro _;try exact q_v)))
  exact q_A rfl
 ·have hl2:=hlen hz
  have hlt : (z.tdiv 2).natAbs < z.natAbs:=by rw [a1]; omega
  have hb : -9223372036854775808 ≤ z.tdiv 2 ∧ z.tdiv 2 ≤ 9223372036854775807:=by omega
  have hnn : ¬ z = 0:=hz
  repeat' (first|with_reducible refine q_0 ?_|((with_reducible first|refine q_q jb4_ok fun K hK=>?_|refine q_r jb4_ok fun K hK=>?_);simp (maxSteps:=2000000) only [go_sem,↓reduceIte,reduceCtorEq,Nat.reduceLeDiff,Nat.reduceLT,Nat.reduceBEq,Nat.reduceAdd,a2];(repeat1' with_reducible first|apply And.intro|(intro _;try exact q_v)|(refine hK _ ?_;clear hK K))<;>(try (clear hK K;exact q_u)))|(with_reducible refine q_s ?_;(first|apply q_J|apply q_K|apply q_L|apply q_M|apply q_N|apply q_O)<;>try (intro _;try exact q_v)))
  all_goals first | omega | skip
  refine q_F ⟨(z.tdiv 2,l ++ [decide (z.natAbs % 2 = 1)]),by simp only; omega,by simp; omega,?_⟩ ?_ (by simp only; omega)
  ·simp only [List.length_append,List.length_cons,List.length_nil,Nat.zero_add,a1]; exact b3
  ·exact q_D
def jt7 : Cfg:=addT 55 numberCT cf0
theorem jt7_ok : TblOk Tryz.prog jt7:=q_I cf0_ok Tryz.func55 fun l K h=>by
 split at h
 ·exact ⟨_,number_ret _ h.1,h.2⟩
 ·exact h.elim

end Go.Proofs.YtgkajjifbcmoeaaGreatDoor

namespace Go.Proofs.NatL
set_option linter.unusedSimpArgs false
set_option linter.unusedVariables false
theorem zmul_len {B k l : Nat} {a b : Int} (hB : 2 ≤ B) (h : (dg B a.natAbs).length ≤ k) (h2 : (dg B b.natAbs).length ≤ l) : (dg B (a * b).natAbs).length ≤ k + l:=by
 rw [Int.natAbs_mul]; exact mul_len hB h h2
end Go.Proofs.NatL

namespace Go.Proofs.NatL
set_option linter.unusedSimpArgs false
set_option linter.unusedVariables false
theorem rd_d (n : Int) (d : Nat) : d = rdD n d * Nat.gcd n.natAbs d:=(Nat.div_mul_cancel (Nat.gcd_dvd_right _ _)).symm
theorem rdD_pos (n : Int) {d : Nat} (hd : 0 < d) : 0 < rdD n d:=Nat.div_pos (Nat.le_of_dvd hd (Nat.gcd_dvd_right _ _)) (rd_gpos n hd)
theorem rd_gcd (n : Int) {d : Nat} (hd : 0 < d) : Nat.gcd (rdN n d).natAbs (rdD n d) = 1:=by
 rw [rdN_abs n hd]
 exact Nat.gcd_div_gcd_div_gcd_of_pos_right hd
theorem rd_val (n : Int) (d : Nat) : rdN n d * (d : Int) = n * (rdD n d : Int):=by
 have h1:=rd_n n d
 have h2:=rd_d n d
 generalize Nat.gcd n.natAbs d = g at *
 generalize rdN n d = m at *
 generalize rdD n d = c at *
 rw [h1,h2,Int.natCast_mul]
 rw [Int.mul_assoc,Int.mul_comm (g : Int) (c : Int)]
end Go.Proofs.NatL

namespace Go.Proofs.NatL
set_option linter.unusedSimpArgs false
set_option linter.unusedVariables false
def RT (z : Int) (d : Nat) : Prop:=0 < d ∧ Nat.gcd z.natAbs d = 1 ∧ (dg 4294967296 z.natAbs).length ≤ 128 ∧ (dg 4294967296 d).length ≤ 128
theorem okQ_eq {s t : Bool} {xs ys : List Int} (h : okQ s xs t ys = true) (bx : InB 4294967296 xs) (by' : InB 4294967296 ys) :
  ∃ (z : Int) (d : Nat),sv 4294967296 s xs = z ∧ V 4294967296 ys = d ∧ s = decide (z < 0) ∧ xs = dg 4294967296 z.natAbs ∧ t = false ∧ ys = dg 4294967296 d ∧ RT z d:=by
 obtain ⟨h1,h2,rfl,h4,h5⟩:=okQ_z h
 obtain ⟨a1,a2,a3⟩:=okZ_eq h1 bx
 obtain ⟨b1,b2,b3⟩:=okZ_eq h2 by'
 rw [sv_abs] at b2
 refine ⟨_,_,rfl,rfl,a1,a2,rfl,b2,?_,?_,?_,?_⟩
 ·rw [b2] at h4; exact (dg_len_pos _ _ (by omega)).1 h4
 ·rw [sv_abs]; exact h5
 ·rw [← a2]; exact a3
 ·rw [← b2]; exact b3
theorem okQ_g {z : Int} {d : Nat} (h : RT z d) : okQ (decide (z < 0)) (dg 4294967296 z.natAbs) false (dg 4294967296 d) = true:=by
 obtain ⟨h1,h2,h3,h4⟩:=h
 have e:=okZ_g (d : Int)
 rw [Int.natAbs_natCast,show decide ((d : Int) < 0) = false from decide_eq_false (by omega),decide_eq_true h4] at e
 unfold okQ
 rw [okZ_g,decide_eq_true h3,e,V_dg _ (by omega),V_dg _ (by omega),decide_eq_true h2,decide_eq_true ((dg_len_pos _ _ (by omega)).2 h1)]
 rfl
end Go.Proofs.NatL
namespace Go.Proofs.YtgkajjifbcmoeaaGreatDoor
set_option linter.unusedSimpArgs false
set_option linter.unusedVariables false
open Go.Abs Go.Proofs.NatL

end Go.Proofs.YtgkajjifbcmoeaaGreatDoor
