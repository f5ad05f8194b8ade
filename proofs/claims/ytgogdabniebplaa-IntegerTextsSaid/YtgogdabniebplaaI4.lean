import Derived.Test.YtgogdabniebplaaI3
namespace Go.Proofs.Ytgogdabniebplaa
set_option linter.unusedSimpArgs false
set_option linter.unusedVariables false
open Go.Abs Go.Proofs.NatL

set_option maxHeartbeats 1600000 in
theorem iGcd_ok (a b : Int) (la : (dg 4294967296 a.natAbs).length ≤ 128) (lb : (dg 4294967296 b.natAbs).length ≤ 128) :
    Ret Try.prog 63 false [.inr (gI a), .inr (gI b)] (.t [.inr (gI (Nat.gcd a.natAbs b.natAbs : Nat)), .inr [.i .i64 0, .i .i64 0]]) := by
  have oa := (okZ_g a).trans (decide_eq_true la)
  have ob := (okZ_g b).trans (decide_eq_true lb)
  have ka := okN_128 la
  have kb := okN_128 lb
  have lg : (dg 4294967296 (Nat.gcd a.natAbs b.natAbs)).length ≤ 128 := by
    rcases Nat.eq_zero_or_pos a.natAbs with h | h
    · rw [h, Nat.gcd_zero_left]; exact lb
    · exact Nat.le_trans (dg_len_mono (by omega) (Nat.gcd_le_left _ h)) la
  obtain ⟨e1, e2, e3⟩ := cl_fit (k := 128) (z := ((Nat.gcd a.natAbs b.natAbs : Nat) : Int)) (by simpa using lg)
  (refine q_H Try.func63 (fun F => ?_); simp only [q_z,q_y,Try.ntmps63,Try.results63])
  repeat' (first|(with_reducible first|apply q_a|apply q_b|apply q_c|apply q_d|apply q_e|apply q_f|apply q_g|apply q_h|apply q_i|apply q_j|apply q_k|apply q_m|apply q_n|apply q_o|apply q_p|refine q_l ?_)|((with_reducible first|refine q_q ib_ok fun K hK=>?_|refine q_r ib_ok fun K hK=>?_);simp (maxSteps:=2000000) only [go_sem,↓reduceIte,reduceCtorEq,Nat.reduceLeDiff,Nat.reduceLT,Nat.reduceBEq,Nat.reduceAdd,oa, ob, ka, kb, sv32d, sgf, e1, e2, e3];(repeat1' with_reducible first|apply And.intro|(intro _;try exact q_v)|(refine hK _ ?_;clear hK K))<;>(try (clear hK K;exact q_u)))|(with_reducible refine q_s ?_;(first|apply q_J|apply q_K|apply q_L|apply q_M|apply q_N|apply q_O)<;>try (intro _;try exact q_v))|with_reducible refine q_t ?_)
  exact q_A rfl

set_option maxHeartbeats 1600000 in
theorem iSqrt_ok (a : Int) (h0 : 0 ≤ a) (la : (dg 4294967296 a.natAbs).length ≤ 128) :
    Ret Try.prog 64 false [.inr (gI a)] (.t [.inr (gI (rt a.natAbs : Nat)), .inr [.i .i64 0, .i .i64 0]]) := by
  have oa := (okZ_g a).trans (decide_eq_true la)
  have ka := okN_128 la
  have hn : decide (a < 0) = false := decide_eq_false (by omega)
  have lg := Nat.le_trans (dg_len_mono (B := 4294967296) (by omega) (rt_le a.natAbs)) la
  obtain ⟨e1, e2, e3⟩ := cl_fit (k := 128) (z := ((rt a.natAbs : Nat) : Int)) (by simpa using lg)
  simp only [gI, hn] at oa ⊢
  (refine q_H Try.func64 (fun F => ?_); simp only [q_z,q_y,Try.ntmps64,Try.results64])
  repeat' (first|(with_reducible first|apply q_a|apply q_b|apply q_c|apply q_d|apply q_e|apply q_f|apply q_g|apply q_h|apply q_i|apply q_j|apply q_k|apply q_m|apply q_n|apply q_o|apply q_p|refine q_l ?_)|((with_reducible first|refine q_q ib_ok fun K hK=>?_|refine q_r ib_ok fun K hK=>?_);simp (maxSteps:=2000000) only [go_sem,↓reduceIte,reduceCtorEq,Nat.reduceLeDiff,Nat.reduceLT,Nat.reduceBEq,Nat.reduceAdd,oa, ka, sv32d, sgf, e1, e2, e3];(repeat1' with_reducible first|apply And.intro|(intro _;try exact q_v)|(refine hK _ ?_;clear hK K))<;>(try (clear hK K;exact q_u)))|(with_reducible refine q_s ?_;(first|apply q_J|apply q_K|apply q_L|apply q_M|apply q_N|apply q_O)<;>try (intro _;try exact q_v))|with_reducible refine q_t ?_)
  exact q_A rfl
set_option maxHeartbeats 1600000 in
theorem iSqrt_neg (a : Int) (h0 : a < 0) (la : (dg 4294967296 a.natAbs).length ≤ 128) :
    Ret Try.prog 64 false [.inr (gI a)] (.t [.inr [.b false, .ints .u32 []], .inr [.i .i64 4, .i .i64 (-1)]]) := by
  have oa := (okZ_g a).trans (decide_eq_true la)
  have hn : decide (a < 0) = true := decide_eq_true h0
  simp only [gI, hn] at oa ⊢
  (refine q_H Try.func64 (fun F => ?_); simp only [q_z,q_y,Try.ntmps64,Try.results64])
  repeat' (first|(with_reducible first|apply q_a|apply q_b|apply q_c|apply q_d|apply q_e|apply q_f|apply q_g|apply q_h|apply q_i|apply q_j|apply q_k|apply q_m|apply q_n|apply q_o|apply q_p|refine q_l ?_)|((with_reducible first|refine q_q ib_ok fun K hK=>?_|refine q_r ib_ok fun K hK=>?_);simp (maxSteps:=2000000) only [go_sem,↓reduceIte,reduceCtorEq,Nat.reduceLeDiff,Nat.reduceLT,Nat.reduceBEq,Nat.reduceAdd,oa];(repeat1' with_reducible first|apply And.intro|(intro _;try exact q_v)|(refine hK _ ?_;clear hK K))<;>(try (clear hK K;exact q_u)))|(with_reducible refine q_s ?_;(first|apply q_J|apply q_K|apply q_L|apply q_M|apply q_N|apply q_O)<;>try (intro _;try exact q_v))|with_reducible refine q_t ?_)
  exact q_B [nP] rfl rfl
set_option maxHeartbeats 800000 in
theorem iSqrt_bad (s : Bool) (xs : List Int) (hx : xs.length ≤ 140737488355328) (ho : okZ s xs = false) :
    Ret Try.prog 64 false [.inr [.b s, .ints .u32 xs]] (.t [.inr [.b false, .ints .u32 []], .inr [.i .i64 6, .i .i64 (-1)]]) := by
  (refine q_H Try.func64 (fun F => ?_); simp only [q_z,q_y,Try.ntmps64,Try.results64])
  repeat' (first|(with_reducible first|apply q_a|apply q_b|apply q_c|apply q_d|apply q_e|apply q_f|apply q_g|apply q_h|apply q_i|apply q_j|apply q_k|apply q_m|apply q_n|apply q_o|apply q_p|refine q_l ?_)|((with_reducible first|refine q_q ib_ok fun K hK=>?_|refine q_r ib_ok fun K hK=>?_);simp (maxSteps:=2000000) only [go_sem,↓reduceIte,reduceCtorEq,Nat.reduceLeDiff,Nat.reduceLT,Nat.reduceBEq,Nat.reduceAdd,ho];(repeat1' with_reducible first|apply And.intro|(intro _;try exact q_v)|(refine hK _ ?_;clear hK K))<;>(try (clear hK K;exact q_u)))|(with_reducible refine q_s ?_;(first|apply q_J|apply q_K|apply q_L|apply q_M|apply q_N|apply q_O)<;>try (intro _;try exact q_v))|with_reducible refine q_t ?_)
  all_goals exact q_B [nP] rfl rfl

def dvZ2CT : CT := mkCT [.inl (some (.ints .u32 [])), .inl (some (.ints .u32 []))] false fun l K => match l with
  | [.inl (.ints .u32 xs), .inl (.ints .u32 ys)] => (okN xs = true ∧ InB 4294967296 xs ∧ ys = []) ∧ K (.t [.inl (.ints .u32 []), .inl (.ints .u32 []), .inr [.i .i64 22, .i .i64 (-2)]])
  | _ => False
def it6z : Cfg := addT 127 dvZ2CT it6
theorem it6z_ok : TblOk Try.prog it6z := q_I it6_ok Try.func127 fun l K h => by
  split at h
  · obtain ⟨⟨h1, h2, rfl⟩, h⟩ := h
    exact ⟨_, dvZero_ok _ h1 h2, h⟩
  · exact h.elim
attribute [go_sem] dvZ2CT
def ibz : Cfg := listT [(126, icheckCT), (127, dvZ2CT)] [28]
theorem ibz_ok : TblOk Try.prog ibz := listT_ok (big := it6z) it6z_ok ⟨rfl, rfl, trivial⟩
attribute [go_sem] ibz
theorem dg_zeroN (B : Nat) : dg B 0 = [] := rfl

set_option maxHeartbeats 1600000 in
theorem iDivMod_zero (a : Int) (la : (dg 4294967296 a.natAbs).length ≤ 128) :
    Ret Try.prog 62 false [.inr (gI a), .inr (gI 0)] (.t [.inr [.b false, .ints .u32 []], .inr [.b false, .ints .u32 []], .inr [.i .i64 22, .i .i64 (-2)]]) := by
  have oa := (okZ_g a).trans (decide_eq_true la)
  have ob : okZ (decide ((0 : Int) < 0)) (dg 4294967296 (0 : Int).natAbs) = true := by decide
  have ka := okN_128 la
  simp only [gI, Int.natAbs_zero, dg_zeroN, Int.lt_irrefl, decide_false] at oa ob ⊢
  (refine q_H Try.func62 (fun F => ?_); simp only [q_z,q_y,Try.ntmps62,Try.results62])
  repeat' (first|(with_reducible first|apply q_a|apply q_b|apply q_c|apply q_d|apply q_e|apply q_f|apply q_g|apply q_h|apply q_i|apply q_j|apply q_k|apply q_m|apply q_n|apply q_o|apply q_p|refine q_l ?_)|((with_reducible first|refine q_q ibz_ok fun K hK=>?_|refine q_r ibz_ok fun K hK=>?_);simp (maxSteps:=2000000) only [go_sem,↓reduceIte,reduceCtorEq,Nat.reduceLeDiff,Nat.reduceLT,Nat.reduceBEq,Nat.reduceAdd,oa, ob, ka];(repeat1' with_reducible first|apply And.intro|(intro _;try exact q_v)|(refine hK _ ?_;clear hK K))<;>(try (clear hK K;exact q_u)))|(with_reducible refine q_s ?_;(first|apply q_J|apply q_K|apply q_L|apply q_M|apply q_N|apply q_O)<;>try (intro _;try exact q_v))|with_reducible refine q_t ?_)
  exact q_B [nP, nP] rfl rfl

set_option maxHeartbeats 3200000 in
theorem iDivMod_ok (a b : Int) (hb : b ≠ 0) (la : (dg 4294967296 a.natAbs).length ≤ 128) (lb : (dg 4294967296 b.natAbs).length ≤ 128) :
    Ret Try.prog 62 false [.inr (gI a), .inr (gI b)] (.t [.inr (gI (a.fdiv b)), .inr (gI (a.fmod b)), .inr [.i .i64 0, .i .i64 0]]) := by
  have oa := (okZ_g a).trans (decide_eq_true la)
  have ob := (okZ_g b).trans (decide_eq_true lb)
  have ka := okN_128 la
  have kb := okN_128 lb
  have b0 : 0 < b.natAbs := by omega
  have hr0 := Nat.mod_lt a.natAbs b0
  have lq := Nat.le_trans (dg_len_mono (B := 4294967296) (by omega) (Nat.div_le_self a.natAbs b.natAbs)) la
  have lr := Nat.le_trans (dg_len_mono (B := 4294967296) (by omega) (Nat.le_of_lt hr0)) lb
  have pr := dg_len_pos 4294967296 (a.natAbs % b.natAbs) (by omega)
  by_cases hs : decide (a < 0) = decide (b < 0) ∨ a.natAbs % b.natAbs = 0
  · obtain ⟨z1, z2⟩ := floor_same hb hs
    have a1 : (a.fdiv b).natAbs = a.natAbs / b.natAbs := by rw [← z1, sg_abs]
    have a2 : (a.fmod b).natAbs = a.natAbs % b.natAbs := by rw [← z2, sg_abs]
    obtain ⟨e1, e2, e3⟩ := cl_fit (k := 128) (z := a.fdiv b) (by rw [a1]; exact lq)
    obtain ⟨g1, g2, g3⟩ := cl_fit (k := 128) (z := a.fmod b) (by rw [a2]; exact lr)
    by_cases hne : decide (a < 0) = decide (b < 0)
    · have hq : (decide (a < 0) != decide (b < 0)) = false := by rw [hne]; exact bne_self_eq_false _
      rw [hq] at z1
      (refine q_H Try.func62 (fun F => ?_); simp only [q_z,q_y,Try.ntmps62,Try.results62])
      repeat' (first|(with_reducible first|apply q_a|apply q_b|apply q_c|apply q_d|apply q_e|apply q_f|apply q_g|apply q_h|apply q_i|apply q_j|apply q_k|apply q_m|apply q_n|apply q_o|apply q_p|refine q_l ?_)|((with_reducible first|refine q_q ib_ok fun K hK=>?_|refine q_r ib_ok fun K hK=>?_);simp (maxSteps:=2000000) only [go_sem,↓reduceIte,reduceCtorEq,Nat.reduceLeDiff,Nat.reduceLT,Nat.reduceBEq,Nat.reduceAdd,oa, ob, ka, kb, hq, sv32d, z1, z2, e1, e2, e3, g1, g2, g3];(repeat1' with_reducible first|apply And.intro|(intro _;try exact q_v)|(refine hK _ ?_;clear hK K))<;>(try (clear hK K;exact q_u)))|(with_reducible refine q_s ?_;(first|apply q_J|apply q_K|apply q_L|apply q_M|apply q_N|apply q_O)<;>try (intro _;try exact q_v))|with_reducible refine q_t ?_)
      exact q_A rfl
    · have hq : (decide (a < 0) != decide (b < 0)) = true := by simpa [bne] using hne
      have hr : a.natAbs % b.natAbs = 0 := by rcases hs with h | h; exact absurd h hne; exact h
      have hr' : ¬ 0 < (dg 4294967296 (a.natAbs % b.natAbs)).length := fun h => by have := pr.1 h; omega
      rw [hq] at z1
      (refine q_H Try.func62 (fun F => ?_); simp only [q_z,q_y,Try.ntmps62,Try.results62])
      repeat' (first|(with_reducible first|apply q_a|apply q_b|apply q_c|apply q_d|apply q_e|apply q_f|apply q_g|apply q_h|apply q_i|apply q_j|apply q_k|apply q_m|apply q_n|apply q_o|apply q_p|refine q_l ?_)|((with_reducible first|refine q_q ib_ok fun K hK=>?_|refine q_r ib_ok fun K hK=>?_);simp (maxSteps:=2000000) only [go_sem,↓reduceIte,reduceCtorEq,Nat.reduceLeDiff,Nat.reduceLT,Nat.reduceBEq,Nat.reduceAdd,oa, ob, ka, kb, hq, sv32d, z1, z2, e1, e2, e3, g1, g2, g3];(repeat1' with_reducible first|apply And.intro|(intro _;try exact q_v)|(refine hK _ ?_;clear hK K))<;>(try (clear hK K;exact q_u)))|(with_reducible refine q_s ?_;(first|apply q_J|apply q_K|apply q_L|apply q_M|apply q_N|apply q_O)<;>try (intro _;try exact q_v))|with_reducible refine q_t ?_)
      exact q_A rfl
  · have hne : decide (a < 0) ≠ decide (b < 0) := fun h => hs (.inl h)
    have hr : a.natAbs % b.natAbs ≠ 0 := fun h => hs (.inr h)
    obtain ⟨z1, z2, z3⟩ := floor_diff hb hne hr
    have hr' : 0 < (dg 4294967296 (a.natAbs % b.natAbs)).length := pr.2 (by omega)
    have hq : (decide (a < 0) != decide (b < 0)) = true := by simpa [bne] using hne
    have a1 : (a.fdiv b).natAbs = a.natAbs / b.natAbs + 1 := by rw [← z1, sg_abs]
    have a2 : (a.fmod b).natAbs = b.natAbs - a.natAbs % b.natAbs := by rw [← z2, sg_abs]
    have lq1 := Nat.le_trans (dg_len_mono (B := 4294967296) (by omega) z3) la
    have lr1 := sub_len (B := 4294967296) (by omega) (a := b.natAbs) (b := a.natAbs % b.natAbs) lb
    obtain ⟨e1, e2, e3⟩ := cl_fit (k := 128) (z := a.fdiv b) (by rw [a1]; exact lq1)
    obtain ⟨g1, g2, g3⟩ := cl_fit (k := 128) (z := a.fmod b) (by rw [a2]; exact lr1)
    have kq := okN_128 lq
    have kr := okN_128 lr
    have k1 := okN_one (b := 1) (by omega) (by omega)
    have i1 : InB 4294967296 [1] := InB_one (by omega) (by omega)
    have ad : addN (dg 4294967296 (a.natAbs / b.natAbs)) [1] = dg 4294967296 (a.natAbs / b.natAbs + 1) := by unfold addN; rw [V32, V_one]; rfl
    obtain ⟨f1, f2, f3⟩ := fit_small (Nat.le_trans lq1 (by omega))
    obtain ⟨s1, s2, s3⟩ := subO_le (Nat.le_of_lt hr0)
    (refine q_H Try.func62 (fun F => ?_); simp only [q_z,q_y,Try.ntmps62,Try.results62])
    repeat' (first|(with_reducible first|apply q_a|apply q_b|apply q_c|apply q_d|apply q_e|apply q_f|apply q_g|apply q_h|apply q_i|apply q_j|apply q_k|apply q_m|apply q_n|apply q_o|apply q_p|refine q_l ?_)|((with_reducible first|refine q_q ib_ok fun K hK=>?_|refine q_r ib_ok fun K hK=>?_);simp (maxSteps:=2000000) only [go_sem,↓reduceIte,reduceCtorEq,Nat.reduceLeDiff,Nat.reduceLT,Nat.reduceBEq,Nat.reduceAdd,oa, ob, ka, kb, kq, kr, k1, hq, ad, f1, f2, f3, s1, s2, s3, sv32d, z1, z2, e1, e2, e3, g1, g2, g3];(repeat1' with_reducible first|apply And.intro|(intro _;try exact q_v)|(refine hK _ ?_;clear hK K))<;>(try (clear hK K;exact q_u)))|(with_reducible refine q_s ?_;(first|apply q_J|apply q_K|apply q_L|apply q_M|apply q_N|apply q_O)<;>try (intro _;try exact q_v))|with_reducible refine q_t ?_)
    all_goals first | assumption | exact q_A rfl

end Go.Proofs.Ytgogdabniebplaa
