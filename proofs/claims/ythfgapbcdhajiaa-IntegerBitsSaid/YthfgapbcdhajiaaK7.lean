/- The law IntegerBits: its walk. -/
import Derived.Test.YthfgapbcdhajiaaK4
import Derived.Test.YthfgapbcdhajiaaK2
import Derived.Test.YthfgapbcdhajiaaJ8
namespace Go.Proofs.Ythfgapbcdhajiaa
set_option linter.unusedSimpArgs false
set_option linter.unusedVariables false
open Go.Abs Go.Proofs.NatL

theorem len_fitb {z : Int} {n : Nat} (h : FitK (32 * n) z) : (dg 4294967296 z.natAbs).length ≤ n + 1 := by
  refine dg_len_le (by omega) _ _ ?_
  have h2 := pow2_pos (32 * n)
  unfold FitK at h
  rw [Nat.pow_succ, pow32]
  omega
theorem shZ_len {a n : Int} (h : a = 0 ∨ n ≤ 4096) (la : (dg 65536 a.natAbs).length ≤ 256) : (dg 65536 (shZ a n).natAbs).length ≤ 512 := by
  rcases Int.lt_or_le n 0 with hn | hn
  · refine Nat.le_trans (dg_len_mono (by omega) ?_) (Nat.le_trans la (by omega))
    unfold shZ; rw [if_pos hn]; exact Int.natAbs_ediv_le_natAbs _ _
  · have e : (shZ a n).natAbs = shf a.natAbs n := by
      unfold shZ shf; rw [if_neg (by omega), if_neg (by omega), Int.natAbs_mul]; rfl
    rw [e]
    rcases h with h | h
    · subst h; rw [show (0 : Int).natAbs = 0 from rfl, shf_zero]; simp [dg_zero]
    · exact shf_len h la
theorem zAnd_fit {k : Nat} {a b : Int} (ha : FitK k a) (hb : FitK k b) : FitK k (zAnd a b) := zop_fit andOp ha hb
theorem zOr_fit {k : Nat} {a b : Int} (ha : FitK k a) (hb : FitK k b) : FitK k (zOr a b) := zop_fit orOp ha hb
theorem zXor_fit {k : Nat} {a b : Int} (ha : FitK k a) (hb : FitK k b) : FitK k (zXor a b) := zop_fit xorOp ha hb
theorem len_bop {z : Int → Int → Int} (hz : ∀ {k : Nat} {a b : Int}, FitK k a → FitK k b → FitK k (z a b)) {a b : Int} (la : (dg 4294967296 a.natAbs).length ≤ 128) (lb : (dg 4294967296 b.natAbs).length ≤ 128) : (dg 65536 (z a b).natAbs).length ≤ 258 :=
  dg_half_le' (len_fitb (hz (fitK_len la) (fitK_len lb)))
def kz1 : Cfg := addT 13 countsCT jw1
theorem kz1_ok : TblOk Try.prog kz1 := q_E jw1_ok (q_C Try.func13 (by kernel_rfl) (by kernel_rfl)) rfl fun l K h => by
  split at h
  · exact ⟨_, counts_ret.plain rfl, h⟩
  · exact h.elim
/-- the bits of a result, whichever operation -/
def rbit3CT : CT := mkCT [nR, nR] false fun l K => match l with
  | [.inr [.b s, .ints .i64 xs], .inr [.b t, .ints .i64 ys], .inl (.i .i64 o)] => (s = decide (sv 65536 s xs < 0) ∧ t = decide (sv 65536 t ys < 0) ∧ InB 65536 xs ∧ Trd xs ∧ xs.length ≤ 256 ∧ InB 65536 ys ∧ Trd ys ∧ ys.length ≤ 256 ∧ (o = 0 ∨ o = 1 ∨ o = 2)) ∧ (o = 0 → ∀ d : Bool, K (.g (gRz (zAnd (sv 65536 s xs) (sv 65536 t ys)) d))) ∧ (o = 1 → ∀ d : Bool, K (.g (gRz (zOr (sv 65536 s xs) (sv 65536 t ys)) d))) ∧ (o = 2 → ∀ d : Bool, K (.g (gRz (zXor (sv 65536 s xs) (sv 65536 t ys)) d)))
  | _ => False
def kz2 : Cfg := addT 60 rbit3CT jv2
theorem kz2_ok : TblOk Try.prog kz2 := q_E jv2_ok (q_C Try.func60 (by kernel_rfl) (by kernel_rfl)) rfl fun l K h => by
  split at h
  · rename_i s xs t ys o
    obtain ⟨⟨h0, h0', h1, h2, h3, h4, h5, h6, h7⟩, h⟩ := h
    obtain ⟨e1, e2⟩ := sv_ys (s := s) h1 h2
    obtain ⟨e3, e4⟩ := sv_ys (s := t) h4 h5
    have a1 : (sv 65536 s xs).natAbs = V 65536 xs := by rw [sv_abs]
    have a2 : (sv 65536 t ys).natAbs = V 65536 ys := by rw [sv_abs]
    have b1 : (dg 65536 (sv 65536 s xs).natAbs).length ≤ 256 := by rw [a1, ← e1]; exact h3
    have b2 : (dg 65536 (sv 65536 t ys).natAbs).length ≤ 256 := by rw [a2, ← e3]; exact h6
    rcases h7 with rfl | rfl | rfl
    · obtain ⟨d, this⟩ := rbitAnd_ex (sv 65536 s xs) (sv 65536 t ys) b1 b2
      rw [gR, gR, a1, a2, ← e1, ← e3, ← h0, ← h0'] at this
      exact ⟨_, this, h.1 rfl d⟩
    · obtain ⟨d, this⟩ := rbitOr_ex (sv 65536 s xs) (sv 65536 t ys) b1 b2
      rw [gR, gR, a1, a2, ← e1, ← e3, ← h0, ← h0'] at this
      exact ⟨_, this, h.2.1 rfl d⟩
    · obtain ⟨d, this⟩ := rbitXor_ex (sv 65536 s xs) (sv 65536 t ys) b1 b2
      rw [gR, gR, a1, a2, ← e1, ← e3, ← h0, ← h0'] at this
      exact ⟨_, this, h.2.2 rfl d⟩
  · exact h.elim
attribute [go_sem] rbit3CT
def kbt : Cfg := listT [(13, countsCT), (32, yieldsCT), (24, atCT), (14, icheckCT), (23, ivalidCT), (28, intOfCT), (18, noIntCT), (21, numberCT), (48, onesCT), (34, iminusCT), (33, (rI2CT 1048576 addF)), (59, imovedCT), (60, rbit3CT), (54, (tot2 gdAnd [z0])), (55, (tot2 gdOr [z0])), (56, (tot2 gdXor [z0])), (57, (tot1 gdNot [z0])), (58, (totN gdShift [z0]))] [27]
theorem kbt_ok : TblOk Try.prog kbt := listE_ok (by simp only [List.mem_singleton, forall_eq]; exact flt) ⟨⟨ky8, ky8_ok, rfl⟩, ⟨ky8, ky8_ok, rfl⟩, ⟨ky8, ky8_ok, rfl⟩, ⟨ky8, ky8_ok, rfl⟩, ⟨ky8, ky8_ok, rfl⟩, ⟨ky8, ky8_ok, rfl⟩, ⟨ky8, ky8_ok, rfl⟩, ⟨ky8, ky8_ok, rfl⟩, ⟨jt17, jt17_ok, rfl⟩, ⟨ky8, ky8_ok, rfl⟩, ⟨ky8, ky8_ok, rfl⟩, ⟨jt17, jt17_ok, rfl⟩, ⟨kz2, kz2_ok, rfl⟩, ⟨ky8, ky8_ok, rfl⟩, ⟨ky8, ky8_ok, rfl⟩, ⟨ky8, ky8_ok, rfl⟩, ⟨ky8, ky8_ok, rfl⟩, ⟨ky8, ky8_ok, rfl⟩, trivial⟩
attribute [go_sem] kbt
set_option maxRecDepth 100000 in
set_option maxHeartbeats 3200000 in
theorem bits_bad (s t : Bool) (xs ys : List Int) (n : Int) (lx : xs.length ≤ 140737488355328) (ly : ys.length ≤ 140737488355328) (bx : InB 4294967296 xs) (by_ : InB 4294967296 ys) (hn : -9223372036854775808 ≤ n ∧ n ≤ 9223372036854775807) (h1 : okZ s xs = false) :
    Ret Try.prog 10 false [.inr [.b s, .ints .u32 xs], .inr [.b t, .ints .u32 ys], .inl (.i .i64 n)] (.c (.b true)) := by
  (refine q_w Try.func10 rfl (Nat.le_of_ble_eq_true rfl) (fun F => ?_); simp only [q_z, q_y, Try.ntmps10, Try.results10])
  repeat' (first|(with_reducible first|apply q_a|apply q_b|apply q_c|apply q_d|apply q_e|apply q_f|apply q_g|apply q_h|apply q_i|apply q_j|apply q_k|apply q_m|apply q_n|apply q_o|apply q_p|refine q_l (by decide) ?_)|((with_reducible first|refine q_q kbt_ok fun K hK=>?_|refine q_r kbt_ok q_D (by kernel_rfl) fun K hK=>?_);(simp (maxSteps:=2000000) only [go_sem,↓reduceIte,reduceCtorEq,Nat.reduceLeDiff,Nat.reduceLT,Nat.reduceBEq,Nat.reduceAdd,h1, decide_true, decide_false]);(repeat1' (with_reducible first|apply And.intro|(intro _;try first|contradiction|(exfalso;omega))|(refine hK _ ?_;clear hK K)))<;>(try (clear hK K;first|omega|assumption|((simp (disch:=omega) only [q_H,q_I]);omega))))|((with_reducible refine q_s (by simp only [go_sem,↓reduceIte,reduceCtorEq,Nat.reduceBEq];rfl) ?_);(with_reducible first|apply q_J|apply q_K|refine q_L ?_ ?_|refine q_M ?_ ?_|refine q_N ?_ ?_|refine q_O ?_ ?_)<;>(try with_reducible (intro _;try first|contradiction|(exfalso;omega))))|with_reducible refine q_t (by simp only [go_sem,↓reduceIte,reduceCtorEq,Nat.reduceBEq,q_u,resO,q_v];rfl) ?_)
  all_goals first | contradiction | omega | exact q_A rfl | exact q_A (by simp [resAV, q_y]) | skip
set_option maxRecDepth 100000 in
set_option maxHeartbeats 6400000 in
theorem bits_good (a : Int) (t : Bool) (ys : List Int) (n : Int) (la : (dg 4294967296 a.natAbs).length ≤ 128) (ly : ys.length ≤ 140737488355328) (by_ : InB 4294967296 ys) (hn : -9223372036854775808 ≤ n ∧ n ≤ 9223372036854775807) :
    Ret Try.prog 10 false [.inr (gI a), .inr [.b t, .ints .u32 ys], .inl (.i .i64 n)] (.c (.b true)) := by
  have la2 := len65 la
  have l1 : (dg 65536 (Int.natAbs (-1))).length ≤ 256 := by decide
  have hbl := bl_zero_iff a.natAbs
  have ln := zneg_len la2
  have hn1 : -a + -1 = -a - 1 := by omega
  have lnn : (dg 65536 (-a - 1).natAbs).length ≤ 257 := by rw [← hn1]; exact zadd_len (by omega) ln l1
  have hcl := cl_len 128 (shZ a n)
  have hsv : sv 4294967296 false [] = 0 := sv0 _ _
  by_cases hbig : a ≠ 0 ∧ 4096 < n
  · obtain ⟨c1, c2, c3⟩ := cl_big (shZ_big hbig.1 hbig.2)
    have hn2 := hbig.2
    have ha0 := hbig.1
    have ld : (dg 4294967296 (Int.natAbs 0)).length ≤ 128 := by decide
    cases h2 : okZ t ys
    · (refine q_w Try.func10 rfl (Nat.le_of_ble_eq_true rfl) (fun F => ?_); simp only [q_z, q_y, Try.ntmps10, Try.results10])
      repeat' (first|(with_reducible first|apply q_a|apply q_b|apply q_c|apply q_d|apply q_e|apply q_f|apply q_g|apply q_h|apply q_i|apply q_j|apply q_k|apply q_m|apply q_n|apply q_o|apply q_p|refine q_l (by decide) ?_)|((with_reducible first|refine q_q kbt_ok fun K hK=>?_|refine q_r kbt_ok q_D (by kernel_rfl) fun K hK=>?_);(simp (maxSteps:=2000000) only [go_sem,↓reduceIte,reduceCtorEq,Nat.reduceLeDiff,Nat.reduceLT,Nat.reduceBEq,Nat.reduceAdd,la, h2, bs_bl, hn1, c1, c2, c3, hsv, decide_true, decide_false]);(repeat1' (with_reducible first|apply And.intro|(intro _;try first|contradiction|(exfalso;omega))|(refine hK _ ?_;clear hK K)))<;>(try (clear hK K;first|omega|assumption|((simp (disch:=omega) only [q_H,q_I]);omega))))|((with_reducible refine q_s (by simp only [go_sem,↓reduceIte,reduceCtorEq,Nat.reduceBEq];rfl) ?_);(with_reducible first|apply q_J|apply q_K|refine q_L ?_ ?_|refine q_M ?_ ?_|refine q_N ?_ ?_|refine q_O ?_ ?_)<;>(try with_reducible (intro _;try first|contradiction|(exfalso;omega))))|with_reducible refine q_t (by simp only [go_sem,↓reduceIte,reduceCtorEq,Nat.reduceBEq,q_u,resO,q_v];rfl) ?_)
      all_goals first | contradiction | omega | exact q_A rfl | exact q_A (by simp [resAV, q_y]) | skip
    · rw [(gI_of' h2 by_).1]
      have lb := (gI_of' h2 by_).2
      generalize sv 4294967296 t ys = b at *
      have lb2 := len65 lb
      have w1 := len_bop zAnd_fit la lb
      have w2 := len_bop zOr_fit la lb
      have w3 := len_bop zXor_fit la lb
      (refine q_w Try.func10 rfl (Nat.le_of_ble_eq_true rfl) (fun F => ?_); simp only [q_z, q_y, Try.ntmps10, Try.results10])
      repeat' (first|(with_reducible first|apply q_a|apply q_b|apply q_c|apply q_d|apply q_e|apply q_f|apply q_g|apply q_h|apply q_i|apply q_j|apply q_k|apply q_m|apply q_n|apply q_o|apply q_p|refine q_l (by decide) ?_)|((with_reducible first|refine q_q kbt_ok fun K hK=>?_|refine q_r kbt_ok q_D (by kernel_rfl) fun K hK=>?_);(simp (maxSteps:=2000000) only [go_sem,↓reduceIte,reduceCtorEq,Nat.reduceLeDiff,Nat.reduceLT,Nat.reduceBEq,Nat.reduceAdd,la, lb, bs_bl, hn1, c1, c2, c3, hsv, decide_true, decide_false]);(repeat1' (with_reducible first|apply And.intro|(intro _;try first|contradiction|(exfalso;omega))|(refine hK _ ?_;clear hK K)))<;>(try (clear hK K;first|omega|assumption|((simp (disch:=omega) only [q_H,q_I]);omega))))|((with_reducible refine q_s (by simp only [go_sem,↓reduceIte,reduceCtorEq,Nat.reduceBEq];rfl) ?_);(with_reducible first|apply q_J|apply q_K|refine q_L ?_ ?_|refine q_M ?_ ?_|refine q_N ?_ ?_|refine q_O ?_ ?_)<;>(try with_reducible (intro _;try first|contradiction|(exfalso;omega))))|with_reducible refine q_t (by simp only [go_sem,↓reduceIte,reduceCtorEq,Nat.reduceBEq,q_u,resO,q_v];rfl) ?_)
      all_goals first | contradiction | omega | exact q_A rfl | exact q_A (by simp [resAV, q_y]) | skip
  · have lsh := shZ_len (a := a) (n := n) (by omega) la2
    cases h2 : okZ t ys
    · (refine q_w Try.func10 rfl (Nat.le_of_ble_eq_true rfl) (fun F => ?_); simp only [q_z, q_y, Try.ntmps10, Try.results10])
      repeat' (first|(with_reducible first|apply q_a|apply q_b|apply q_c|apply q_d|apply q_e|apply q_f|apply q_g|apply q_h|apply q_i|apply q_j|apply q_k|apply q_m|apply q_n|apply q_o|apply q_p|refine q_l (by decide) ?_)|((with_reducible first|refine q_q kbt_ok fun K hK=>?_|refine q_r kbt_ok q_D (by kernel_rfl) fun K hK=>?_);(simp (maxSteps:=2000000) only [go_sem,↓reduceIte,reduceCtorEq,Nat.reduceLeDiff,Nat.reduceLT,Nat.reduceBEq,Nat.reduceAdd,la, h2, bs_bl, hn1, hsv, decide_true, decide_false]);(repeat1' (with_reducible first|apply And.intro|(intro _;try first|contradiction|(exfalso;omega))|(refine hK _ ?_;clear hK K)))<;>(try (clear hK K;first|omega|assumption|((simp (disch:=omega) only [q_H,q_I]);omega))))|((with_reducible refine q_s (by simp only [go_sem,↓reduceIte,reduceCtorEq,Nat.reduceBEq];rfl) ?_);(with_reducible first|apply q_J|apply q_K|refine q_L ?_ ?_|refine q_M ?_ ?_|refine q_N ?_ ?_|refine q_O ?_ ?_)<;>(try with_reducible (intro _;try first|contradiction|(exfalso;omega))))|with_reducible refine q_t (by simp only [go_sem,↓reduceIte,reduceCtorEq,Nat.reduceBEq,q_u,resO,q_v];rfl) ?_)
      all_goals first | contradiction | omega | exact q_A rfl | exact q_A (by simp [resAV, q_y]) | skip
    · rw [(gI_of' h2 by_).1]
      have lb := (gI_of' h2 by_).2
      generalize sv 4294967296 t ys = b at *
      have lb2 := len65 lb
      have w1 := len_bop zAnd_fit la lb
      have w2 := len_bop zOr_fit la lb
      have w3 := len_bop zXor_fit la lb
      (refine q_w Try.func10 rfl (Nat.le_of_ble_eq_true rfl) (fun F => ?_); simp only [q_z, q_y, Try.ntmps10, Try.results10])
      repeat' (first|(with_reducible first|apply q_a|apply q_b|apply q_c|apply q_d|apply q_e|apply q_f|apply q_g|apply q_h|apply q_i|apply q_j|apply q_k|apply q_m|apply q_n|apply q_o|apply q_p|refine q_l (by decide) ?_)|((with_reducible first|refine q_q kbt_ok fun K hK=>?_|refine q_r kbt_ok q_D (by kernel_rfl) fun K hK=>?_);(simp (maxSteps:=2000000) only [go_sem,↓reduceIte,reduceCtorEq,Nat.reduceLeDiff,Nat.reduceLT,Nat.reduceBEq,Nat.reduceAdd,la, lb, bs_bl, hn1, hsv, decide_true, decide_false]);(repeat1' (with_reducible first|apply And.intro|(intro _;try first|contradiction|(exfalso;omega))|(refine hK _ ?_;clear hK K)))<;>(try (clear hK K;first|omega|assumption|((simp (disch:=omega) only [q_H,q_I]);omega))))|((with_reducible refine q_s (by simp only [go_sem,↓reduceIte,reduceCtorEq,Nat.reduceBEq];rfl) ?_);(with_reducible first|apply q_J|apply q_K|refine q_L ?_ ?_|refine q_M ?_ ?_|refine q_N ?_ ?_|refine q_O ?_ ?_)<;>(try with_reducible (intro _;try first|contradiction|(exfalso;omega))))|with_reducible refine q_t (by simp only [go_sem,↓reduceIte,reduceCtorEq,Nat.reduceBEq,q_u,resO,q_v];rfl) ?_)
      all_goals first | contradiction | omega | exact q_A rfl | exact q_A (by simp [resAV, q_y]) | skip
theorem bits_ret (s t : Bool) (xs ys : List Int) (n : Int) (lx : xs.length ≤ 140737488355328) (ly : ys.length ≤ 140737488355328) (bx : InB 4294967296 xs) (by_ : InB 4294967296 ys) (hn : -9223372036854775808 ≤ n ∧ n ≤ 9223372036854775807) :
    Ret Try.prog 10 false [.inr [.b s, .ints .u32 xs], .inr [.b t, .ints .u32 ys], .inl (.i .i64 n)] (.c (.b true)) := by
  cases h1 : okZ s xs
  · exact bits_bad s t xs ys n lx ly bx by_ hn h1
  · rw [(gI_of' h1 bx).1]
    exact bits_good _ t ys n (gI_of' h1 bx).2 ly by_ hn

end Go.Proofs.Ythfgapbcdhajiaa
