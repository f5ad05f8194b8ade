import Derived.Test.YthfgapbcdhajiaaI6
import Derived.Test.YthfgapbcdhajiaaI4
import Derived.Test.YthfgapbcdhajiaaP5
namespace Go.Proofs.Ythfgapbcdhajiaa
set_option linter.unusedSimpArgs false
set_option linter.unusedVariables false
open Go.Abs Go.Proofs.NatL

theorem shf_small {m : Nat} {n : Int} (la : (dg 4294967296 m).length ≤ 128) (h : shBig m n = false) : (dg 4294967296 (shf m n)).length ≤ 19200 := by
  rcases Int.lt_or_le n 0 with hn | hn
  · exact Nat.le_trans (Nat.le_trans (dg_len_mono (by omega) (shf_le hn)) la) (by omega)
  · rcases Nat.eq_zero_or_pos m with hm | hm
    · subst hm; rw [shf_zero]; simp [dg_zero]
    · have h1 := of_decide_eq_false h
      have h2 := (bl_zero_iff m).2 hm
      have h3 : bl m + n.toNat ≤ 19200 := by omega
      refine Nat.le_trans (dg_len_two 4294967296 _ (by omega) (bl m + n.toNat) ?_) h3
      unfold shf
      rw [if_neg (by omega), Nat.pow_add]
      exact Nat.mul_lt_mul_of_pos_right (lt_bl m) (pow2_pos _)
abbrev rCz (z : Int) : AV := .t [.inr (gI (cl 128 z)), .inr [.i .i64 (clC 128 z), .i .i64 (clI 128 z)]]
def shiftGCT : CT := mkCT [.inl (some (.ints .u32 []))] false fun l K => match l with
  | [.inl (.ints .u32 xs), .inl (.i .i64 n)] => (okN xs = true ∧ InB 4294967296 xs ∧ -9223372036854775808 ≤ n ∧ n ≤ 9223372036854775807) ∧ K (.t [.inl (.ints .u32 (if shBig (V 4294967296 xs) n then [] else dg 4294967296 (shf (V 4294967296 xs) n))), .inr [.i .i64 (if shBig (V 4294967296 xs) n then 14 else 0), .i .i64 (if shBig (V 4294967296 xs) n then -1 else 0)]])
  | _ => False
def iu5 : Cfg := addT 97 shiftGCT iu4
theorem iu5_ok : TblOk Try.prog iu5 := q_I iu4_ok Try.func97 fun l K h => by
  split at h
  · obtain ⟨⟨h1, h2, h3, h4⟩, h⟩ := h
    exact ⟨_, Shift_good _ _ ⟨h3, h4⟩ h2 h1, h⟩
  · exact h.elim
attribute [go_sem] shiftGCT
def ibs : Cfg := listT [(70, atCT), (61, icheckCT), (63, isignedCT), (67, (goodCT (fun xs ys => fitN (addN xs ys)) (fun xs ys => fitC (addN xs ys)) (fun xs ys => fitI (addN xs ys)))), (68, (goodCT subO subC subI)), (97, shiftGCT)] [27]
theorem ibs_ok : TblOk Try.prog ibs := listT_ok (big := iu5) iu5_ok ⟨rfl, rfl, rfl, rfl, rfl, rfl, trivial⟩
attribute [go_sem] ibs
set_option maxRecDepth 100000 in
set_option maxHeartbeats 3200000 in
theorem iShift_ok (s : Bool) (m : Nat) (n : Int) (hs : s = true → 0 < m) (hn : -9223372036854775808 ≤ n ∧ n ≤ 9223372036854775807) (ho : okZ s (dg 4294967296 m) = true) (la : (dg 4294967296 m).length ≤ 128) :
    Ret Try.prog 58 false [.inr [.b s, .ints .u32 (dg 4294967296 m)], .inl (.i .i64 n)] (rCz (shZ (sg s m) n)) := by
  have ka := okN_128 la
  obtain ⟨n1, n2⟩ := hn
  by_cases hd : s = true ∧ n < 0
  · obtain ⟨rfl, hneg⟩ := hd
    have hm := hs rfl
    have k1 : okN (dg 4294967296 1) = true := okN_128 (Nat.le_trans (dg_len_le (B := 4294967296) (by omega) _ 1 (by decide)) (by omega))
    have e1 : ([1] : List Int) = dg 4294967296 1 := by decide
    obtain ⟨s1, s2, s3⟩ := subO_le (m := m) (n := 1) hm
    have l1 := Nat.le_trans (dg_len_mono (B := 4294967296) (by omega) (Nat.sub_le m 1)) la
    have kb := okN_128 l1
    have l2 := Nat.le_trans (dg_len_mono (B := 4294967296) (by omega) (shf_le (m := m - 1) hneg)) l1
    have kc := okN_128 l2
    have hb : shBig (m - 1) n = false := by
      unfold shBig; refine decide_eq_false fun h => ?_
      have := bl_128 l1; omega
    have ad : addN (dg 4294967296 (shf (m - 1) n)) (dg 4294967296 1) = dg 4294967296 (shf (m - 1) n + 1) := by unfold addN; rw [V32, V32]
    have lq1 : (dg 4294967296 (shf (m - 1) n + 1)).length ≤ 128 := by
      refine Nat.le_trans (dg_len_mono (by omega) ?_) la
      have := shf_le (m := m - 1) hneg; omega
    obtain ⟨f1, f2, f3⟩ := fit_small (Nat.le_trans lq1 (by omega))
    rw [sgt, shZ_down hm hneg, ← sgt]

    (refine q_H Try.func58 (fun F => ?_); simp only [q_z,q_y,Try.ntmps58,Try.results58])
    repeat' (first|(with_reducible first|apply q_a|apply q_b|apply q_c|apply q_d|apply q_e|apply q_f|apply q_g|apply q_h|apply q_i|apply q_j|apply q_k|apply q_m|apply q_n|apply q_o|apply q_p|refine q_l ?_)|((with_reducible first|refine q_q ibs_ok fun K hK=>?_|refine q_r ibs_ok fun K hK=>?_);simp (maxSteps:=2000000) only [go_sem,↓reduceIte,reduceCtorEq,Nat.reduceLeDiff,Nat.reduceLT,Nat.reduceBEq,Nat.reduceAdd,ho, ka, kb, kc, k1, e1, s1, s2, s3, hb, ad, f1, f2, f3, sv32d];(repeat1' with_reducible first|apply And.intro|(intro _;try exact q_v)|(refine hK _ ?_;clear hK K))<;>(try (clear hK K;exact q_u)))|(with_reducible refine q_s ?_;(first|apply q_J|apply q_K|apply q_L|apply q_M|apply q_N|apply q_O)<;>try (intro _;try exact q_v))|with_reducible refine q_t ?_)
    all_goals first | assumption | omega | exact q_A rfl | skip
  · have e : shZ (sg s m) n = sg s (shf m n) := by
      cases s
      · rw [sgf, sgf]; exact shZ_nat m n
      · rw [sgt, sgt]; exact shZ_up m (fun h => hd ⟨rfl, h⟩)
    rw [e]
    cases hb : shBig m n
    · have hsm := shf_small la hb
      cases s
      all_goals
        (refine q_H Try.func58 (fun F => ?_); simp only [q_z,q_y,Try.ntmps58,Try.results58])
        repeat' (first|(with_reducible first|apply q_a|apply q_b|apply q_c|apply q_d|apply q_e|apply q_f|apply q_g|apply q_h|apply q_i|apply q_j|apply q_k|apply q_m|apply q_n|apply q_o|apply q_p|refine q_l ?_)|((with_reducible first|refine q_q ibs_ok fun K hK=>?_|refine q_r ibs_ok fun K hK=>?_);simp (maxSteps:=2000000) only [go_sem,↓reduceIte,reduceCtorEq,Nat.reduceLeDiff,Nat.reduceLT,Nat.reduceBEq,Nat.reduceAdd,ho, ka, hb, sv32d];(repeat1' with_reducible first|apply And.intro|(intro _;try exact q_v)|(refine hK _ ?_;clear hK K))<;>(try (clear hK K;exact q_u)))|(with_reducible refine q_s ?_;(first|apply q_J|apply q_K|apply q_L|apply q_M|apply q_N|apply q_O)<;>try (intro _;try exact q_v))|with_reducible refine q_t ?_)
      all_goals first | assumption | omega | (exfalso; simp_all; done) | exact q_A rfl | skip
    · have hbig := shBig_len la hb
      obtain ⟨e1, e2, e3⟩ := cl_big (z := sg s (shf m n)) (by rw [sg_abs]; exact hbig)
      cases s
      all_goals
        (refine q_H Try.func58 (fun F => ?_); simp only [q_z,q_y,Try.ntmps58,Try.results58])
        repeat' (first|(with_reducible first|apply q_a|apply q_b|apply q_c|apply q_d|apply q_e|apply q_f|apply q_g|apply q_h|apply q_i|apply q_j|apply q_k|apply q_m|apply q_n|apply q_o|apply q_p|refine q_l ?_)|((with_reducible first|refine q_q ibs_ok fun K hK=>?_|refine q_r ibs_ok fun K hK=>?_);simp (maxSteps:=2000000) only [go_sem,↓reduceIte,reduceCtorEq,Nat.reduceLeDiff,Nat.reduceLT,Nat.reduceBEq,Nat.reduceAdd,ho, ka, hb, sv32d];(repeat1' with_reducible first|apply And.intro|(intro _;try exact q_v)|(refine hK _ ?_;clear hK K))<;>(try (clear hK K;exact q_u)))|(with_reducible refine q_s ?_;(first|apply q_J|apply q_K|apply q_L|apply q_M|apply q_N|apply q_O)<;>try (intro _;try exact q_v))|with_reducible refine q_t ?_)
      all_goals first | assumption | omega | (exfalso; simp_all; done) | (refine q_B [nP] rfl ?_; simp only [rCz, e1, e2, e3, norm, nz, nzL, resAV]; rfl) | skip

end Go.Proofs.Ythfgapbcdhajiaa
