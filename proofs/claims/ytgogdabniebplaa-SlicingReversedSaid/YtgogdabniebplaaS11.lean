import Derived.Test.YtgogdabniebplaaS7
import Derived.Test.YtgogdabniebplaaS4
import Derived.Test.YtgogdabniebplaaN23
namespace Go.Proofs.Ytgogdabniebplaa
set_option linter.unusedSimpArgs false
set_option linter.unusedVariables false
open Go.Abs Go.Proofs.NatL

def numbersCT : CT := mkCT [.inl (some (.ints .i64 [])), .inl (some (.ints .i64 []))] true fun l K => match l with
  | [.inl (.ints .i64 xs), .inl (.ints .i64 ys)] => (xs.length ≤ 16777216 ∧ ys.length ≤ 16777216) ∧ K (.c (.b (decide (xs = ys))))
  | _ => False
def sw1 : Cfg := addT 32 numbersCT sj1
theorem sw1_ok : TblOk Try.prog sw1 := q_I sj1_ok Try.func32 fun l K h => by
  split at h
  · exact ⟨_, (numbers_ret _ _ h.1.1 h.1.2).plain rfl, h.2⟩
  · exact h.elim
attribute [go_sem] numbersCT
def scu : Cfg := listT [(28, iOfCT), (19, resCT), (29, putCT), (32, numbersCT)] [28]
theorem scu_ok : TblOk Try.prog scu := listE_ok (by simp only [List.mem_singleton, forall_eq]; exact flt) ⟨⟨iu1, iu1_ok, rfl⟩, ⟨su8, su8_ok, rfl⟩, ⟨sv2, sv2_ok, rfl⟩, ⟨sw1, sw1_ok, rfl⟩, trivial⟩
attribute [go_sem] scu
set_option maxRecDepth 100000 in
set_option maxHeartbeats 3200000 in
theorem cuts_ret : Ret Try.prog 21 false [] (.c (.b true)) := by
  have f1 : putO [1, 2, 3] [8, 9] 9 (rSt (decide ((1 : Int) < 0)) (dg 4294967296 (Int.natAbs 1)) true ((3 : Nat) : Int) (rSp false [] false)) (rSp false [] false) (slCnt (rSt (decide ((1 : Int) < 0)) (dg 4294967296 (Int.natAbs 1)) true ((3 : Nat) : Int) (rSp false [] false)) (rSo false [] true ((3 : Nat) : Int) (rSp false [] false)) (rSp false [] false)) = [.inl (.ints .i64 [1, 8, 9, 2, 3]), .inr [.i .i64 0, .i .i64 0]] := by kernel_rfl
  have f2 : rSp (decide ((-2 : Int) < 0)) (dg 4294967296 (-2 : Int).natAbs) true = -2 := by kernel_rfl
  have f3 : rSt false [] false 5 (-2) = 4 := by kernel_rfl
  have f4 : slCnt 4 (rSo false [] false 5 (-2)) (-2) = 3 := by kernel_rfl
  have f5 : slF (prt false [] false) (prt false [] false) (prt (decide ((-2 : Int) < 0)) (dg 4294967296 (-2 : Int).natAbs) true) true (dg 4294967296 (-2 : Int).natAbs).length = 0 := by kernel_rfl
  have f6 : slF (prt (decide ((1 : Int) < 0)) (dg 4294967296 (Int.natAbs 1)) true) (prt false [] true) (prt false [] false) false 0 = 0 := by kernel_rfl
  have l1 : (dg 4294967296 (-2 : Int).natAbs).length ≤ 140737488355328 := by decide +kernel
  have l2 : (dg 4294967296 (Int.natAbs 1)).length ≤ 140737488355328 := by decide +kernel
  (refine q_H Try.func21 (fun F => ?_); simp only [q_z,q_y,Try.ntmps21,Try.results21])
  repeat' (first|(with_reducible first|apply q_a|apply q_b|apply q_c|apply q_d|apply q_e|apply q_f|apply q_g|apply q_h|apply q_i|apply q_j|apply q_k|apply q_m|apply q_n|apply q_o|apply q_p|refine q_l ?_)|((with_reducible first|refine q_q scu_ok fun K hK=>?_|refine q_r scu_ok fun K hK=>?_);simp (maxSteps:=2000000) only [go_sem,↓reduceIte,reduceCtorEq,Nat.reduceLeDiff,Nat.reduceLT,Nat.reduceBEq,Nat.reduceAdd,f1, f2, f3, f4, f5, f6, decide_true];(repeat1' with_reducible first|apply And.intro|(intro _;try exact q_v)|(refine hK _ ?_;clear hK K))<;>(try (clear hK K;exact q_u)))|(with_reducible refine q_s ?_;(first|apply q_J|apply q_K|apply q_L|apply q_M|apply q_N|apply q_O)<;>try (intro _;try exact q_v))|with_reducible refine q_t ?_)
  all_goals first | contradiction | omega | exact q_A rfl | exact q_A (by simp [resAV, q_y])
def cutsCT : CT := mkCT [] true fun l K => match l with
  | [] => K (.c (.b true))
  | _ => False
def sw2 : Cfg := addT 21 cutsCT sw1
theorem sw2_ok : TblOk Try.prog sw2 := q_I sw1_ok Try.func21 fun l K h => by
  split at h
  · exact ⟨_, cuts_ret.plain rfl, h⟩
  · exact h.elim
attribute [go_sem] cutsCT
end Go.Proofs.Ytgogdabniebplaa
