import Derived.Test.YtgkajjifbcmoeaaGreatDoorM21
import Derived.Test.YtgkajjifbcmoeaaGreatDoorM23
import Derived.Test.YtgkajjifbcmoeaaGreatDoorM25
namespace Go.Proofs.YtgkajjifbcmoeaaGreatDoor
set_option linter.unusedSimpArgs false
set_option linter.unusedVariables false
open Go.Abs Go.Proofs.NatL

abbrev gRz (z : Int) (b : Bool) : List C:=[.b (sgz z b),.ints .i64 (dg 65536 z.natAbs)]
attribute [go_sem] gRz
end Go.Proofs.YtgkajjifbcmoeaaGreatDoor

namespace Go.Proofs.NatL
set_option linter.unusedSimpArgs false
set_option linter.unusedVariables false

theorem sgz_sg (s : Bool) (k : Nat) : sgz (sg s k) s = s:=by
 unfold sgz
 by_cases h : sg s k = 0
 ·rw [if_pos h]
 ·rw [if_neg h]
  cases s
  ·rw [sgf] at h ⊢; exact decide_eq_false (by omega)
  ·rw [sgt] at h ⊢; exact decide_eq_true (by omega)
theorem sg_eq_add (s : Bool) (m n : Nat) : sg s m + sg s n = sg s (m + n):=by cases s <;> simp only [sgt,sgf] <;> omega
theorem sg_eq_sub {s t : Bool} (h : s ≠ t) {m n : Nat} (hn : n ≤ m) : sg s m + sg t n = sg s (m - n):=by
 cases s <;> cases t <;> simp only [sgt,sgf] <;> first | exact absurd rfl h | omega
theorem sg_eq_sub' {s t : Bool} (h : s ≠ t) {m n : Nat} (hn : m ≤ n) : sg s m + sg t n = sg t (n - m):=by
 cases s <;> cases t <;> simp only [sgt,sgf] <;> first | exact absurd rfl h | omega
end Go.Proofs.NatL

namespace Go.Proofs.YtgkajjifbcmoeaaGreatDoor
set_option linter.unusedSimpArgs false
set_option linter.unusedVariables false
open Go.Abs Go.Proofs.NatL

def jb5 : Cfg:=listT [(128,rcmpCT),(131,(rnumCT (fun _ _=>True) (· + ·))),(68,(rnumCT (fun _ _=>True) (· * ·))),(181,(rnumCT (fun xs ys=>V 65536 ys ≤ V 65536 xs) (· - ·)))] [34]
theorem jb5_ok : TblOk Tryz.prog jb5:=listE_ok (by simp only [List.mem_singleton,forall_eq]; exact flt) ⟨⟨db7,db7_ok,rfl⟩,⟨db8,db8_ok,rfl⟩,⟨db9,db9_ok,rfl⟩,⟨db10,db10_ok,rfl⟩,trivial⟩
attribute [go_sem] jb5
theorem gRz_eq (s : Bool) (k : Nat) : gRz (sg s k) s = [.b s,.ints .i64 (dg 65536 k)]:=by simp only [gRz,sgz_sg,sg_abs]
set_option maxHeartbeats 1600000 in
theorem iplus_ex (s t : Bool) (m n : Nat) (lm : (dg 65536 m).length ≤ 1048576) (ln : (dg 65536 n).length ≤ 1048576) :
  ∃ b,Ret Tryz.prog 189 false [.inr [.b s,.ints .i64 (dg 65536 m)],.inr [.b t,.ints .i64 (dg 65536 n)]] (.g (gRz (sg s m + sg t n) b)):=by
 by_cases hst : s = t
 ·subst hst
  refine ⟨s,?_⟩
  rw [sg_eq_add,gRz_eq]
  (refine q_H Tryz.func189 (fun F=>?_); simp only [q_z,q_y,Tryz.ntmps189,Tryz.results189])
  repeat' (first|(with_reducible first|apply q_a|apply q_b|apply q_c|apply q_d|apply q_e|apply q_f|apply q_g|apply q_h|apply q_i|apply q_j|apply q_k|apply q_m|apply q_n|apply q_o|apply q_p|refine q_l ?_)|((with_reducible first|refine q_q jb5_ok fun K hK=>?_|refine q_r jb5_ok fun K hK=>?_);simp (maxSteps:=2000000) only [go_sem,↓reduceIte,reduceCtorEq,Nat.reduceLeDiff,Nat.reduceLT,Nat.reduceBEq,Nat.reduceAdd];(repeat1' with_reducible first|apply And.intro|(intro _;try exact q_v)|(refine hK _ ?_;clear hK K))<;>(try (clear hK K;exact q_u)))|(with_reducible refine q_s ?_;(first|apply q_J|apply q_K|apply q_L|apply q_M|apply q_N|apply q_O)<;>try (intro _;try exact q_v))|with_reducible refine q_t ?_)
  all_goals first | omega | exact q_A rfl
 ·have hne : (s == t) = false:=by simpa using hst
  rcases Nat.lt_or_ge m n with h | h
  ·refine ⟨t,?_⟩
   rw [sg_eq_sub' hst (by omega),gRz_eq]
   have hc:=(cmp3_lt m n).2 h
   (refine q_H Tryz.func189 (fun F=>?_); simp only [q_z,q_y,Tryz.ntmps189,Tryz.results189])
   repeat' (first|(with_reducible first|apply q_a|apply q_b|apply q_c|apply q_d|apply q_e|apply q_f|apply q_g|apply q_h|apply q_i|apply q_j|apply q_k|apply q_m|apply q_n|apply q_o|apply q_p|refine q_l ?_)|((with_reducible first|refine q_q jb5_ok fun K hK=>?_|refine q_r jb5_ok fun K hK=>?_);simp (maxSteps:=2000000) only [go_sem,↓reduceIte,reduceCtorEq,Nat.reduceLeDiff,Nat.reduceLT,Nat.reduceBEq,Nat.reduceAdd,hne];(repeat1' with_reducible first|apply And.intro|(intro _;try exact q_v)|(refine hK _ ?_;clear hK K))<;>(try (clear hK K;exact q_u)))|(with_reducible refine q_s ?_;(first|apply q_J|apply q_K|apply q_L|apply q_M|apply q_N|apply q_O)<;>try (intro _;try exact q_v))|with_reducible refine q_t ?_)
   all_goals first | omega | exact q_A rfl
  ·refine ⟨s,?_⟩
   rw [sg_eq_sub hst h,gRz_eq]
   have hc : ¬ cmp3 m n < 0:=fun h2=>by have:=(cmp3_lt m n).1 h2; omega
   (refine q_H Tryz.func189 (fun F=>?_); simp only [q_z,q_y,Tryz.ntmps189,Tryz.results189])
   repeat' (first|(with_reducible first|apply q_a|apply q_b|apply q_c|apply q_d|apply q_e|apply q_f|apply q_g|apply q_h|apply q_i|apply q_j|apply q_k|apply q_m|apply q_n|apply q_o|apply q_p|refine q_l ?_)|((with_reducible first|refine q_q jb5_ok fun K hK=>?_|refine q_r jb5_ok fun K hK=>?_);simp (maxSteps:=2000000) only [go_sem,↓reduceIte,reduceCtorEq,Nat.reduceLeDiff,Nat.reduceLT,Nat.reduceBEq,Nat.reduceAdd,hne];(repeat1' with_reducible first|apply And.intro|(intro _;try exact q_v)|(refine hK _ ?_;clear hK K))<;>(try (clear hK K;exact q_u)))|(with_reducible refine q_s ?_;(first|apply q_J|apply q_K|apply q_L|apply q_M|apply q_N|apply q_O)<;>try (intro _;try exact q_v))|with_reducible refine q_t ?_)
   all_goals first | omega | exact q_A rfl
end Go.Proofs.YtgkajjifbcmoeaaGreatDoor
