import Derived.Test.YthfgapbcdhajiaaK5
import Derived.Test.YthfgapbcdhajiaaK1
import Derived.Test.YthfgapbcdhajiaaP3
import Derived.Test.YthfgapbcdhajiaaJ7
namespace Go.Proofs.Ythfgapbcdhajiaa
set_option linter.unusedSimpArgs false
set_option linter.unusedVariables false
open Go.Abs Go.Proofs.NatL

def kpw : Cfg := listT [(13, countsCT), (32, yieldsCT), (24, atCT), (14, icheckCT), (23, ivalidCT), (28, intOfCT), (18, noIntCT), (21, numberCT), (20, sameIntCT), (26, ofCT), (53, limbsCT), (52, movedCT), (35, (rI2CT 1048576 mulF)), (29, ifloorCT), (51, raisedCT), (49, (totN gdPow [z0])), (50, pmCT)] [27]
theorem kpw_ok : TblOk Try.prog kpw := listE_ok (by simp only [List.mem_singleton, forall_eq]; exact flt) ⟨⟨ky9, ky9_ok, rfl⟩, ⟨ky9, ky9_ok, rfl⟩, ⟨ky9, ky9_ok, rfl⟩, ⟨ky9, ky9_ok, rfl⟩, ⟨ky9, ky9_ok, rfl⟩, ⟨ky9, ky9_ok, rfl⟩, ⟨ky9, ky9_ok, rfl⟩, ⟨ky9, ky9_ok, rfl⟩, ⟨ky9, ky9_ok, rfl⟩, ⟨ky9, ky9_ok, rfl⟩, ⟨ky9, ky9_ok, rfl⟩, ⟨jt16, jt16_ok, rfl⟩, ⟨ky9, ky9_ok, rfl⟩, ⟨jt16, jt16_ok, rfl⟩, ⟨jt16, jt16_ok, rfl⟩, ⟨ky9, ky9_ok, rfl⟩, ⟨ky9, ky9_ok, rfl⟩, trivial⟩
attribute [go_sem] kpw
theorem lenq {a : Int} (h : (dg 4294967296 a.natAbs).length ≤ 128) : (dg 65536 a.natAbs).length ≤ 256 := (dg_half' a.natAbs 128).2 h
theorem limb0_odd (E : Nat) : 0 ≤ (dg 4294967296 E).getD 0 0 ∧ (dg 4294967296 E).getD 0 0 % 2 = ((E % 2 : Nat) : Int) := by
  have hin := InB_dg 4294967296 (by omega) E
  have hd := V_digit 4294967296 (by omega) _ hin 0
  have hb := InB_getD (B := 4294967296) (by omega) hin 0
  rw [V32, Nat.pow_zero, Nat.div_one] at hd
  omega
theorem shf_half (E : Nat) : shf E (-1) = E / 2 := by
  rw [shf_neg E (-1) (by omega)]; rfl
theorem pm_half0 (a m : Int) (hm : 0 < m) (E : Nat) (h : E % 2 = 0) : (pm a (E / 2) m * pm a (E / 2) m).fmod m = pm a E m := by
  rw [Int.fmod_eq_emod_of_nonneg _ (by omega), ← pm_twice]; congr 1; omega
theorem pm_half1 (a m : Int) (hm : 0 < m) (E : Nat) (h : E % 2 = 1) : ((pm a (E / 2) m * pm a (E / 2) m).fmod m * a).fmod m = pm a E m := by
  rw [Int.fmod_eq_emod_of_nonneg _ (by omega), Int.fmod_eq_emod_of_nonneg _ (by omega), ← pm_odd']; congr 1; omega
theorem Nrm_d (E : Nat) : Nrm false (dg 4294967296 E) := by
  have := Nrm_g (E : Int)
  rw [decide_eq_false (by omega)] at this
  exact of_eq_true this
theorem okZ_d {E : Nat} (h : (dg 4294967296 E).length ≤ 128) : okZ false (dg 4294967296 E) = true := by
  have := (okZ_g (E : Int)).trans (decide_eq_true (show (dg 4294967296 (E : Int).natAbs).length ≤ 128 from h))
  rw [decide_eq_false (by omega)] at this; exact this
set_option maxRecDepth 100000 in
set_option maxHeartbeats 6400000 in
theorem pows_bada (s t u : Bool) (xs es ms : List Int) (n : Int) (hn : -9223372036854775808 ≤ n ∧ n ≤ 9223372036854775807) (lx : xs.length ≤ 140737488355328) (le : es.length ≤ 140737488355328) (lm : ms.length ≤ 140737488355328) (bx : InB 4294967296 xs) (be : InB 4294967296 es) (bm : InB 4294967296 ms) (h1 : okZ s xs = false) :
    Ret Try.prog 9 false [.inr [.b s, .ints .u32 xs], .inl (.i .i64 n), .inr [.b t, .ints .u32 es], .inr [.b u, .ints .u32 ms]] (.c (.b true)) := by
  have hsv : sv 4294967296 false [] = 0 := sv0 _ _
  (refine q_H Try.func9 (fun F => ?_); simp only [q_z,q_y,Try.ntmps9,Try.results9])
  repeat' (first|(with_reducible first|apply q_a|apply q_b|apply q_c|apply q_d|apply q_e|apply q_f|apply q_g|apply q_h|apply q_i|apply q_j|apply q_k|apply q_m|apply q_n|apply q_o|apply q_p|refine q_l ?_)|((with_reducible first|refine q_q kpw_ok fun K hK=>?_|refine q_r kpw_ok fun K hK=>?_);simp (maxSteps:=2000000) only [go_sem,↓reduceIte,reduceCtorEq,Nat.reduceLeDiff,Nat.reduceLT,Nat.reduceBEq,Nat.reduceAdd,h1, hsv, decide_true, decide_false];(repeat1' with_reducible first|apply And.intro|(intro _;try exact q_v)|(refine hK _ ?_;clear hK K))<;>(try (clear hK K;exact q_u)))|(with_reducible refine q_s ?_;(first|apply q_J|apply q_K|apply q_L|apply q_M|apply q_N|apply q_O)<;>try (intro _;try exact q_v))|with_reducible refine q_t ?_)
  all_goals first | contradiction | omega | exact q_A rfl | exact q_A (by simp [resAV, q_y]) | (simp [dg_zero]; done)
end Go.Proofs.Ythfgapbcdhajiaa
