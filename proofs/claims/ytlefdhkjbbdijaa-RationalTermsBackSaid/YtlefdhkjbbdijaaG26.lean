import Derived.Test.YtlefdhkjbbdijaaG21
namespace Go.Proofs.NatL
set_option linter.unusedSimpArgs false
set_option linter.unusedVariables false
theorem fmod_gcd (z : Int) (d : Nat) : Nat.gcd (z.fmod d).natAbs d = Nat.gcd z.natAbs d := by
  have h := Int.mul_fdiv_add_fmod z d
  refine Nat.dvd_antisymm ?_ ?_
  · refine Nat.dvd_gcd ?_ (Nat.gcd_dvd_right _ _)
    have h1 : ((Nat.gcd (z.fmod d).natAbs d : Nat) : Int) ∣ z.fmod d := Int.ofNat_dvd_left.2 (Nat.gcd_dvd_left _ _)
    have h2 : ((Nat.gcd (z.fmod d).natAbs d : Nat) : Int) ∣ (d : Int) := Int.natCast_dvd_natCast.2 (Nat.gcd_dvd_right _ _)
    have h3 := Int.dvd_add (Int.dvd_mul_of_dvd_left (c := z.fdiv d) h2) h1
    rw [h] at h3
    exact Int.ofNat_dvd_left.1 h3
  · refine Nat.dvd_gcd ?_ (Nat.gcd_dvd_right _ _)
    have h1 : ((Nat.gcd z.natAbs d : Nat) : Int) ∣ z := Int.ofNat_dvd_left.2 (Nat.gcd_dvd_left _ _)
    have h2 : ((Nat.gcd z.natAbs d : Nat) : Int) ∣ (d : Int) := Int.natCast_dvd_natCast.2 (Nat.gcd_dvd_right _ _)
    have h3 := Int.dvd_sub h1 (Int.dvd_mul_of_dvd_left (c := z.fdiv d) h2)
    have e : z - d * z.fdiv d = z.fmod d := by omega
    rw [e] at h3
    exact Int.ofNat_dvd_left.1 h3
theorem flo_facts {z : Int} {d : Nat} (hd : 0 < d) : z = z.fdiv d * d + z.fmod d ∧ 0 ≤ z.fmod d ∧ z.fmod d < d ∧ (z.fdiv d).natAbs ≤ z.natAbs := by
  have h := Int.mul_fdiv_add_fmod z d
  rw [Int.mul_comm] at h
  have h2 := Int.fmod_nonneg_of_pos z (show (0 : Int) < d by omega)
  have h3 := Int.fmod_lt_of_pos z (show (0 : Int) < d by omega)
  refine ⟨by omega, h2, h3, ?_⟩
  generalize z.fdiv d = f at *
  rcases Int.lt_or_ge' f 0 with hf | hf
  · have h2 : (f + 1) * (d : Int) ≤ (f + 1) * 1 := Int.mul_le_mul_of_nonpos_left (a := f + 1) (b := d) (c := 1) (by omega) (by omega)
    rw [Int.add_mul, Int.one_mul] at h2
    omega
  · have h1 : f * 1 ≤ f * d := Int.mul_le_mul_of_nonneg_left (by omega) hf
    omega
def rndI (z : Int) (d : Nat) : Int := if (d : Int) < z.fmod d + z.fmod d ∨ (z.fmod d + z.fmod d = d ∧ (z.fdiv d).natAbs % 2 = 1) then z.fdiv d + 1 else z.fdiv d
theorem rnd_len {z : Int} {d : Nat} (hd : 0 < d) (h : (d : Int) < z.fmod d + z.fmod d ∨ (z.fmod d + z.fmod d = d ∧ (z.fdiv d).natAbs % 2 = 1)) : (z.fdiv d + 1).natAbs ≤ z.natAbs ∨ (z.fdiv d + 1).natAbs ≤ 1 := by
  obtain ⟨h1, h2, h3, h4⟩ := flo_facts (z := z) hd
  generalize z.fdiv d = f at *
  generalize z.fmod d = r at *
  rcases Int.lt_or_ge' f 0 with hf | hf
  · left; omega
  · rcases Int.lt_or_ge' f 1 with h5 | h5
    · right; omega
    · left
      have h6 : f * 2 ≤ f * d := Int.mul_le_mul_of_nonneg_left (by omega) hf
      omega
def cfN : Nat → Int → Int → Option (List Int)
  | n, z, d => if d = 0 then some [] else match n with
    | 0 => none
    | n + 1 => (cfN n d (z.fmod d)).map (z.fdiv d :: ·)
theorem cfN_zero (n : Nat) (z : Int) : cfN n z 0 = some [] := by unfold cfN; rw [if_pos rfl]
theorem cfN_none {z d : Int} (h : d ≠ 0) : cfN 0 z d = none := by unfold cfN; rw [if_neg h]
theorem cfN_succ {n : Nat} {z d : Int} (h : d ≠ 0) : cfN (n + 1) z d = (cfN n d (z.fmod d)).map (z.fdiv d :: ·) := by rw [cfN, if_neg h]
theorem cfN_len : ∀ (n : Nat) (z d : Int) (L : List Int), cfN n z d = some L → L.length ≤ n
  | n, z, d, L, h => by
    by_cases h0 : d = 0
    · rw [h0, cfN_zero] at h; cases h; simp
    · match n with
      | 0 => rw [cfN_none h0] at h; cases h
      | n + 1 =>
        rw [cfN_succ h0] at h
        obtain ⟨M, h1, rfl⟩ := Option.map_eq_some_iff.1 h
        have := cfN_len n _ _ M h1
        simp; omega
end Go.Proofs.NatL
namespace Go.Proofs.Ytlefdhkjbbdijaa
set_option linter.unusedSimpArgs false
set_option linter.unusedVariables false
open Go.Abs Go.Proofs.NatL

def qb15 : Cfg := listT [(71, qcheckCT), (72, (iF2CT (fun _ b => b ≠ 0) rDiv)), (43, makeGCT)] [30]
theorem qb15_ok : TblOk Try.prog qb15 := listE_ok (by simp only [List.mem_singleton, forall_eq]; exact flt) ⟨⟨qt3, qt3_ok, rfl⟩, ⟨ku4, ku4_ok, rfl⟩, ⟨qt15, qt15_ok, rfl⟩, trivial⟩
attribute [go_sem] qb15
set_option maxHeartbeats 1600000 in
theorem qfloor_ok (z : Int) (d : Nat) (h : RT z d) : Ret Try.prog 20 false [.inr (gQ z d)] (.t [.inr (gI (z.fdiv d)), .inr (gQ (z.fmod d) d), fltQ 0 0]) := by
  have o1 := okQ_g h
  obtain ⟨hd, lz, ld⟩ := RT_parts h
  have hg := (fmod_gcd z d).trans h.2.1
  obtain ⟨f1, f2, f3, f4⟩ := flo_facts (z := z) hd
  have lr : (dg 4294967296 (z.fmod d).natAbs).length ≤ 128 := Nat.le_trans (dg_len_mono (by omega) (by omega)) ld
  have o2 := (okZ_g z).trans (decide_eq_true lz)
  have o3 := (okZ_n d).trans (decide_eq_true ld)
  have o4 := (okZ_g (z.fmod d)).trans (decide_eq_true lr)
  have hdz : (d : Int) ≠ 0 := by omega
  clear h
  (refine q_H Try.func20 (fun F => ?_); simp only [q_z,q_y,Try.ntmps20,Try.results20])
  repeat' (first|(with_reducible first|apply q_a|apply q_b|apply q_c|apply q_d|apply q_e|apply q_f|apply q_g|apply q_h|apply q_i|apply q_j|apply q_k|apply q_m|apply q_n|apply q_o|apply q_p|refine q_l ?_)|((with_reducible first|refine q_q qb15_ok fun K hK=>?_|refine q_r qb15_ok fun K hK=>?_);simp (maxSteps:=2000000) only [go_sem,↓reduceIte,reduceCtorEq,Nat.reduceLeDiff,Nat.reduceLT,Nat.reduceBEq,Nat.reduceAdd,o1, o2, o3, o4, sv32, sv32n, Int.natAbs_natCast];(repeat1' with_reducible first|apply And.intro|(intro _;try exact q_v)|(refine hK _ ?_;clear hK K))<;>(try (clear hK K;exact q_u)))|(with_reducible refine q_s ?_;(first|apply q_J|apply q_K|apply q_L|apply q_M|apply q_N|apply q_O)<;>try (intro _;try exact q_v))|with_reducible refine q_t ?_)
  all_goals first | omega | assumption | exact q_A rfl | skip
set_option maxHeartbeats 1600000 in
theorem qfloor_bad (s t : Bool) (xs ys : List Int) (h1 : xs.length ≤ 140737488355328) (h2 : ys.length ≤ 140737488355328) (b1 : InB 4294967296 xs) (b2 : InB 4294967296 ys) (h : okQ s xs t ys = false) :
    Ret Try.prog 20 false [.inr [.b s, .ints .u32 xs, .b t, .ints .u32 ys]] (.t [.inr [.b false, .ints .u32 []], zQ, fltQ 6 (-1)]) := by
  (refine q_H Try.func20 (fun F => ?_); simp only [q_z,q_y,Try.ntmps20,Try.results20])
  repeat' (first|(with_reducible first|apply q_a|apply q_b|apply q_c|apply q_d|apply q_e|apply q_f|apply q_g|apply q_h|apply q_i|apply q_j|apply q_k|apply q_m|apply q_n|apply q_o|apply q_p|refine q_l ?_)|((with_reducible first|refine q_q qb15_ok fun K hK=>?_|refine q_r qb15_ok fun K hK=>?_);simp (maxSteps:=2000000) only [go_sem,↓reduceIte,reduceCtorEq,Nat.reduceLeDiff,Nat.reduceLT,Nat.reduceBEq,Nat.reduceAdd,h];(repeat1' with_reducible first|apply And.intro|(intro _;try exact q_v)|(refine hK _ ?_;clear hK K))<;>(try (clear hK K;exact q_u)))|(with_reducible refine q_s ?_;(first|apply q_J|apply q_K|apply q_L|apply q_M|apply q_N|apply q_O)<;>try (intro _;try exact q_v))|with_reducible refine q_t ?_)
  all_goals first | omega | assumption | exact q_B [nP, nQ, .inr [none, none]] rfl rfl | skip
def qfloorCT : CT := mkCT [nQ] false fun l K => match l with
  | [.inr [.b s, .ints .u32 xs, .b t, .ints .u32 ys]] => (xs.length ≤ 140737488355328 ∧ ys.length ≤ 140737488355328 ∧ InB 4294967296 xs ∧ InB 4294967296 ys) ∧
      (if okQ s xs t ys = true then K (.t [.inr (gI ((sv 4294967296 s xs).fdiv (V 4294967296 ys))), .inr (gQ ((sv 4294967296 s xs).fmod (V 4294967296 ys)) (V 4294967296 ys)), fltQ 0 0]) else K (.t [.inr [.b false, .ints .u32 []], zQ, fltQ 6 (-1)]))
  | _ => False
def qf1 : Cfg := addT 20 qfloorCT qt20
theorem qf1_ok : TblOk Try.prog qf1 := q_I qt20_ok Try.func20 fun l K h => by
  split at h
  · rename_i s xs t ys
    obtain ⟨⟨h1, h2, b1, b2⟩, h⟩ := h
    split at h
    · rename_i o1
      obtain ⟨e1, r1⟩ := gQ_of o1 b1 b2
      rw [e1]
      exact ⟨_, qfloor_ok _ _ r1, h⟩
    · rename_i o1
      exact ⟨_, qfloor_bad s t xs ys h1 h2 b1 b2 (by simpa using o1), h⟩
  · exact h.elim
attribute [go_sem] qfloorCT
def qb16 : Cfg := listT [(20, qfloorCT), (73, (natCT tr2 rAddN)), (74, (natCT tr2 rCmpN)), (13, iOfCT), (75, (iF2CT (fun _ _ => True) (fun a b => rCl (a + b))))] [30]
theorem qb16_ok : TblOk Try.prog qb16 := listE_ok (by simp only [List.mem_singleton, forall_eq]; exact flt) ⟨⟨qf1, qf1_ok, rfl⟩, ⟨qn6, qn6_ok, rfl⟩, ⟨qn6, qn6_ok, rfl⟩, ⟨iu1, iu1_ok, rfl⟩, ⟨ku1, ku1_ok, rfl⟩, trivial⟩
attribute [go_sem] qb16
theorem odd_dg {n : Nat} (h : 0 < (dg 4294967296 n).length) : ((dg 4294967296 n).getD 0 0) % 2 = ((n % 2 : Nat) : Int) := by
  have h0 := (dg_len_pos 4294967296 n (by omega)).1 h
  rw [dg_pos _ _ (by omega) h0]
  show (((n % 4294967296 : Nat) : Int)) % 2 = _
  omega
theorem dg0_nn (n : Nat) : 0 ≤ (dg 4294967296 n).getD 0 0 := by
  rcases Nat.eq_zero_or_pos n with h | h
  · rw [h]; exact Int.le_refl _
  · rw [dg_pos _ _ (by omega) h]
    show 0 ≤ (((n % 4294967296 : Nat) : Int))
    omega
set_option maxHeartbeats 3200000 in
theorem qround_ok (z : Int) (d : Nat) (h : RT z d) : Ret Try.prog 21 false [.inr (gQ z d)] (.t [.inr (gI (rndI z d)), fltQ 0 0]) := by
  have o1 := okQ_g h
  obtain ⟨hd, lz, ld⟩ := RT_parts h
  obtain ⟨f1, f2, f3, f4⟩ := flo_facts (z := z) hd
  have hr := rnd_len (z := z) hd
  have lr : (dg 4294967296 (z.fmod d).natAbs).length ≤ 128 := Nat.le_trans (dg_len_mono (by omega) (by omega)) ld
  have lq : (dg 4294967296 (z.fdiv d).natAbs).length ≤ 128 := Nat.le_trans (dg_len_mono (by omega) f4) lz
  have l1 : (dg 4294967296 (1 : Int).natAbs).length ≤ 128 := by decide
  have l2 := add_len (B := 4294967296) (by omega) lr lr
  have lq1 : ((d : Int) < z.fmod d + z.fmod d ∨ (z.fmod d + z.fmod d = d ∧ (z.fdiv d).natAbs % 2 = 1)) → (dg 4294967296 (z.fdiv d + 1).natAbs).length ≤ 128 := fun k => by
    rcases hr k with k | k
    · exact Nat.le_trans (dg_len_mono (by omega) k) lz
    · exact Nat.le_trans (dg_len_mono (by omega) k) (by decide)
  have o2 := (okZ_g (z.fdiv d)).trans (decide_eq_true lq)
  have o3 := (okZ_g 1).trans (decide_eq_true l1)
  have c1 := cmp3_gt ((z.fmod d).natAbs + (z.fmod d).natAbs) d
  have c2 := cmp3_z ((z.fmod d).natAbs + (z.fmod d).natAbs) d
  have ho := odd_dg (n := (z.fdiv d).natAbs)
  have hp := dg_len_pos 4294967296 (z.fdiv d).natAbs (by omega)
  unfold rndI
  clear h hr
  generalize hqq : z.fdiv d = q at *
  generalize hrr : z.fmod d = r at *
  have hnn := dg0_nn q.natAbs
  generalize hM : cmp3 (r.natAbs + r.natAbs) d = M at *
  by_cases hk : (d : Int) < r + r ∨ (r + r = d ∧ q.natAbs % 2 = 1)
  · rw [if_pos hk]
    obtain ⟨e1, e2, e3⟩ := cl_fit (lq1 hk)
    rcases Int.lt_or_ge' (d : Int) (r + r) with k1 | k1
    · have hM1 : 0 < M := c1.2 (by omega)
      (refine q_H Try.func21 (fun F => ?_); simp only [q_z,q_y,Try.ntmps21,Try.results21])
      repeat' (first|(with_reducible first|apply q_a|apply q_b|apply q_c|apply q_d|apply q_e|apply q_f|apply q_g|apply q_h|apply q_i|apply q_j|apply q_k|apply q_m|apply q_n|apply q_o|apply q_p|refine q_l ?_)|((with_reducible first|refine q_q qb16_ok fun K hK=>?_|refine q_r qb16_ok fun K hK=>?_);simp (maxSteps:=2000000) only [go_sem,↓reduceIte,reduceCtorEq,Nat.reduceLeDiff,Nat.reduceLT,Nat.reduceBEq,Nat.reduceAdd,o1, o2, o3, sv32, V32, hqq, hrr, hM, e1, e2, e3];(repeat1' with_reducible first|apply And.intro|(intro _;try exact q_v)|(refine hK _ ?_;clear hK K))<;>(try (clear hK K;exact q_u)))|(with_reducible refine q_s ?_;(first|apply q_J|apply q_K|apply q_L|apply q_M|apply q_N|apply q_O)<;>try (intro _;try exact q_v))|with_reducible refine q_t ?_)
      all_goals first | omega | assumption | exact q_A rfl | skip
    · have hM1 : M = 0 := c2.2 (by omega)
      have hq : q.natAbs % 2 = 1 := by omega
      have hq2 : 0 < (dg 4294967296 q.natAbs).length := hp.2 (by omega)
      have ho := ho hq2
      (refine q_H Try.func21 (fun F => ?_); simp only [q_z,q_y,Try.ntmps21,Try.results21])
      repeat' (first|(with_reducible first|apply q_a|apply q_b|apply q_c|apply q_d|apply q_e|apply q_f|apply q_g|apply q_h|apply q_i|apply q_j|apply q_k|apply q_m|apply q_n|apply q_o|apply q_p|refine q_l ?_)|((with_reducible first|refine q_q qb16_ok fun K hK=>?_|refine q_r qb16_ok fun K hK=>?_);simp (maxSteps:=2000000) only [go_sem,↓reduceIte,reduceCtorEq,Nat.reduceLeDiff,Nat.reduceLT,Nat.reduceBEq,Nat.reduceAdd,o1, o2, o3, sv32, V32, hqq, hrr, hM, e1, e2, e3];(repeat1' with_reducible first|apply And.intro|(intro _;try exact q_v)|(refine hK _ ?_;clear hK K))<;>(try (clear hK K;exact q_u)))|(with_reducible refine q_s ?_;(first|apply q_J|apply q_K|apply q_L|apply q_M|apply q_N|apply q_O)<;>try (intro _;try exact q_v))|with_reducible refine q_t ?_)
      all_goals first | omega | assumption | exact q_A rfl | skip
  · rw [if_neg hk]
    by_cases hM1 : M = 0
    · have hq : q.natAbs % 2 ≠ 1 := fun h => hk (.inr ⟨by omega, h⟩)
      (refine q_H Try.func21 (fun F => ?_); simp only [q_z,q_y,Try.ntmps21,Try.results21])
      repeat' (first|(with_reducible first|apply q_a|apply q_b|apply q_c|apply q_d|apply q_e|apply q_f|apply q_g|apply q_h|apply q_i|apply q_j|apply q_k|apply q_m|apply q_n|apply q_o|apply q_p|refine q_l ?_)|((with_reducible first|refine q_q qb16_ok fun K hK=>?_|refine q_r qb16_ok fun K hK=>?_);simp (maxSteps:=2000000) only [go_sem,↓reduceIte,reduceCtorEq,Nat.reduceLeDiff,Nat.reduceLT,Nat.reduceBEq,Nat.reduceAdd,o1, o2, o3, sv32, V32, hqq, hrr, hM];(repeat1' with_reducible first|apply And.intro|(intro _;try exact q_v)|(refine hK _ ?_;clear hK K))<;>(try (clear hK K;exact q_u)))|(with_reducible refine q_s ?_;(first|apply q_J|apply q_K|apply q_L|apply q_M|apply q_N|apply q_O)<;>try (intro _;try exact q_v))|with_reducible refine q_t ?_)
      all_goals first | omega | assumption | exact q_A rfl | skip
    · have hM2 : ¬ 0 < M := fun h => hk (.inl (by omega))
      (refine q_H Try.func21 (fun F => ?_); simp only [q_z,q_y,Try.ntmps21,Try.results21])
      repeat' (first|(with_reducible first|apply q_a|apply q_b|apply q_c|apply q_d|apply q_e|apply q_f|apply q_g|apply q_h|apply q_i|apply q_j|apply q_k|apply q_m|apply q_n|apply q_o|apply q_p|refine q_l ?_)|((with_reducible first|refine q_q qb16_ok fun K hK=>?_|refine q_r qb16_ok fun K hK=>?_);simp (maxSteps:=2000000) only [go_sem,↓reduceIte,reduceCtorEq,Nat.reduceLeDiff,Nat.reduceLT,Nat.reduceBEq,Nat.reduceAdd,o1, o2, o3, sv32, V32, hqq, hrr, hM];(repeat1' with_reducible first|apply And.intro|(intro _;try exact q_v)|(refine hK _ ?_;clear hK K))<;>(try (clear hK K;exact q_u)))|(with_reducible refine q_s ?_;(first|apply q_J|apply q_K|apply q_L|apply q_M|apply q_N|apply q_O)<;>try (intro _;try exact q_v))|with_reducible refine q_t ?_)
      all_goals first | omega | assumption | exact q_A rfl | skip
set_option maxHeartbeats 1600000 in
theorem qround_bad (s t : Bool) (xs ys : List Int) (h1 : xs.length ≤ 140737488355328) (h2 : ys.length ≤ 140737488355328) (b1 : InB 4294967296 xs) (b2 : InB 4294967296 ys) (h : okQ s xs t ys = false) :
    Ret Try.prog 21 false [.inr [.b s, .ints .u32 xs, .b t, .ints .u32 ys]] (.t [.inr [.b false, .ints .u32 []], fltQ 6 (-1)]) := by
  (refine q_H Try.func21 (fun F => ?_); simp only [q_z,q_y,Try.ntmps21,Try.results21])
  repeat' (first|(with_reducible first|apply q_a|apply q_b|apply q_c|apply q_d|apply q_e|apply q_f|apply q_g|apply q_h|apply q_i|apply q_j|apply q_k|apply q_m|apply q_n|apply q_o|apply q_p|refine q_l ?_)|((with_reducible first|refine q_q qb16_ok fun K hK=>?_|refine q_r qb16_ok fun K hK=>?_);simp (maxSteps:=2000000) only [go_sem,↓reduceIte,reduceCtorEq,Nat.reduceLeDiff,Nat.reduceLT,Nat.reduceBEq,Nat.reduceAdd,h];(repeat1' with_reducible first|apply And.intro|(intro _;try exact q_v)|(refine hK _ ?_;clear hK K))<;>(try (clear hK K;exact q_u)))|(with_reducible refine q_s ?_;(first|apply q_J|apply q_K|apply q_L|apply q_M|apply q_N|apply q_O)<;>try (intro _;try exact q_v))|with_reducible refine q_t ?_)
  all_goals first | omega | assumption | exact q_B [nP, .inr [none, none]] rfl rfl | skip
def qroundCT : CT := mkCT [nQ] false fun l K => match l with
  | [.inr [.b s, .ints .u32 xs, .b t, .ints .u32 ys]] => (xs.length ≤ 140737488355328 ∧ ys.length ≤ 140737488355328 ∧ InB 4294967296 xs ∧ InB 4294967296 ys) ∧
      (if okQ s xs t ys = true then K (.t [.inr (gI (rndI (sv 4294967296 s xs) (V 4294967296 ys))), fltQ 0 0]) else K (.t [.inr [.b false, .ints .u32 []], fltQ 6 (-1)]))
  | _ => False
def qf2 : Cfg := addT 21 qroundCT qf1
theorem qf2_ok : TblOk Try.prog qf2 := q_I qf1_ok Try.func21 fun l K h => by
  split at h
  · rename_i s xs t ys
    obtain ⟨⟨h1, h2, b1, b2⟩, h⟩ := h
    split at h
    · rename_i o1
      obtain ⟨e1, r1⟩ := gQ_of o1 b1 b2
      rw [e1]
      exact ⟨_, qround_ok _ _ r1, h⟩
    · rename_i o1
      exact ⟨_, qround_bad s t xs ys h1 h2 b1 b2 (by simpa using o1), h⟩
  · exact h.elim
attribute [go_sem] qroundCT
end Go.Proofs.Ytlefdhkjbbdijaa

namespace Go.Proofs.Ytlefdhkjbbdijaa
set_option linter.unusedSimpArgs false
set_option linter.unusedVariables false
open Go.Abs Go.Proofs.NatL

def tmR (L : List Int) : List (List C) := L.map fun z => [.b (decide (z < 0)), .ints .u32 (dg 4294967296 z.natAbs)]
theorem tmR_len (L : List Int) : (tmR L).length = L.length := by simp [tmR]
theorem tmR_snoc (L : List Int) (q : Int) : tmR L ++ [[.b (decide (q < 0)), .ints .u32 (dg 4294967296 q.natAbs)]] = tmR (L ++ [q]) := by simp [tmR]
theorem tmR_get (L : List Int) (i : Nat) (h : i < L.length) : (tmR L).getD i [] = [.b (decide (L.getD i 0 < 0)), .ints .u32 (dg 4294967296 (L.getD i 0).natAbs)] := by
  simp [tmR, List.getD_eq_getElem?_getD, List.getElem?_eq_getElem h]
def tmS (z : Int) (d : Nat) : List (List C) := match cfN 400 z d with | some L => tmR L | none => []
def tmC (z : Int) (d : Nat) : Int := match cfN 400 z d with | some _ => 0 | none => 2
def tmI (z : Int) (d : Nat) : Int := match cfN 400 z d with | some _ => 0 | none => -1
theorem tm_some {z : Int} {d : Nat} {L : List Int} (h : cfN 400 z d = some L) : tmS z d = tmR L ∧ tmC z d = 0 ∧ tmI z d = 0 := by simp [tmS, tmC, tmI, h]
theorem tm_none {z : Int} {d : Nat} (h : cfN 400 z d = none) : tmS z d = [] ∧ tmC z d = 2 ∧ tmI z d = -1 := by simp [tmS, tmC, tmI, h]
def qb17 : Cfg := listT [(63, atCT), (71, qcheckCT), (72, (iF2CT (fun _ b => b ≠ 0) rDiv))] [30]
theorem qb17_ok : TblOk Try.prog qb17 := listE_ok (by simp only [List.mem_singleton, forall_eq]; exact flt) ⟨⟨qt2, qt2_ok, rfl⟩, ⟨qt3, qt3_ok, rfl⟩, ⟨ku4, ku4_ok, rfl⟩, trivial⟩
attribute [go_sem] qb17
set_option maxRecDepth 100000 in
set_option maxHeartbeats 3200000 in
theorem qterms_ok (z : Int) (d : Nat) (h : RT z d) : Ret Try.prog 22 false [.inr (gQ z d)] (.t [.inl (.sl 2 (tmS z d)), fltQ (tmC z d) (tmI z d)]) := by
  have o1 := okQ_g h
  obtain ⟨hd, lz, ld⟩ := RT_parts h
  clear h
  (refine q_H Try.func22 (fun F => ?_); simp only [q_z,q_y,Try.ntmps22,Try.results22])
  repeat' (first|(with_reducible first|apply q_a|apply q_b|apply q_c|apply q_d|apply q_e|apply q_f|apply q_g|apply q_h|apply q_i|apply q_j|apply q_k|apply q_m|apply q_n|apply q_o|apply q_p|refine q_l ?_)|((with_reducible first|refine q_q qb17_ok fun K hK=>?_|refine q_r qb17_ok fun K hK=>?_);simp (maxSteps:=2000000) only [go_sem,↓reduceIte,reduceCtorEq,Nat.reduceLeDiff,Nat.reduceLT,Nat.reduceBEq,Nat.reduceAdd,o1];(repeat1' with_reducible first|apply And.intro|(intro _;try exact q_v)|(refine hK _ ?_;clear hK K))<;>(try (clear hK K;exact q_u)))|(with_reducible refine q_s ?_;(first|apply q_J|apply q_K|apply q_L|apply q_M|apply q_N|apply q_O)<;>try (intro _;try exact q_v))|with_reducible refine q_t ?_)
  all_goals first | omega | assumption | skip
  refine loop_sw (ι := { p : List Int × Int × Int // p.1.length ≤ 400 ∧ 0 ≤ p.2.2 ∧ (dg 4294967296 p.2.1.natAbs).length ≤ 128 ∧ (dg 4294967296 p.2.2.natAbs).length ≤ 128 ∧ cfN 400 z d = (cfN (400 - p.1.length) p.2.1 p.2.2).map (p.1 ++ ·) }) [(3, 9), (4, 10)]
    (fun p => ⟨47, [(3, .bx 1 0), (5, .own 5 0), (6, .bx 3 0), (7, .bx 4 0)], ⟨[(4, [.c (.b (decide (p.1.2.2 < 0))), .c (.ints .u32 (dg 4294967296 p.1.2.2.natAbs))]), (3, [.c (.b (decide (p.1.2.1 < 0))), .c (.ints .u32 (dg 4294967296 p.1.2.1.natAbs))]), (1, [.c (.i .i64 0), .c (.i .i64 0)])], [(5, ⟨0, 24, 2, .sl 2 (tmR p.1.1)⟩)], []⟩, 6⟩) (fun p => p.1.2.2.toNat) ⟨([], z, d), by simp, by simp, lz, by simpa using ld, by simp⟩ ?_ ?_
  · have dn : decide ((d : Int) < 0) = false := decide_eq_false (by omega)
    have e9 : tmR [] = [] := rfl
    simp only [dn, Int.natAbs_natCast, e9]
    ((simp only [go_sem,↓reduceIte,reduceCtorEq,Nat.reduceLeDiff,Nat.reduceLT,Nat.reduceBEq,Nat.reduceAdd])<;>(try (simp;done))<;>(try ((simp only [C.i.injEq,C.b.injEq,C.ints.injEq,C.bools.injEq,List.append_cancel_left_eq,List.cons.injEq,true_and,and_true]);(repeat' with_reducible apply And.intro)<;>(first|rfl|assumption|omega|(simp;omega)|(congr 1;omega)|(congr 2;omega)))))
  rintro ⟨⟨L, u, v⟩, g1, g2, g3, g4, g5⟩
  simp only at g1 g2 g3 g4 g5 ⊢
  have tl := tmR_len L
  have hp := dg_len_pos 4294967296 v.natAbs (by omega)
  by_cases hv : v = 0
  · have hl0 : ¬ 0 < (dg 4294967296 v.natAbs).length := fun h => by have := hp.1 h; omega
    rw [hv, cfN_zero] at g5
    have g5 : cfN 400 z d = some L := by simpa using g5
    obtain ⟨t1, t2, t3⟩ := tm_some g5
    rw [t1, t2, t3]
    repeat' (first|(with_reducible first|apply q_a|apply q_b|apply q_c|apply q_d|apply q_e|apply q_f|apply q_g|apply q_h|apply q_i|apply q_j|apply q_k|apply q_m|apply q_n|apply q_o|apply q_p|refine q_l ?_)|((with_reducible first|refine q_q qb17_ok fun K hK=>?_|refine q_r qb17_ok fun K hK=>?_);simp (maxSteps:=2000000) only [go_sem,↓reduceIte,reduceCtorEq,Nat.reduceLeDiff,Nat.reduceLT,Nat.reduceBEq,Nat.reduceAdd,tl];(repeat1' with_reducible first|apply And.intro|(intro _;try exact q_v)|(refine hK _ ?_;clear hK K))<;>(try (clear hK K;exact q_u)))|(with_reducible refine q_s ?_;(first|apply q_J|apply q_K|apply q_L|apply q_M|apply q_N|apply q_O)<;>try (intro _;try exact q_v))|with_reducible refine q_t ?_)
    all_goals first | omega | assumption | skip
    all_goals (try refine roundw_exit ?_)
    repeat' (first|(with_reducible first|apply q_a|apply q_b|apply q_c|apply q_d|apply q_e|apply q_f|apply q_g|apply q_h|apply q_i|apply q_j|apply q_k|apply q_m|apply q_n|apply q_o|apply q_p|refine q_l ?_)|((with_reducible first|refine q_q qb17_ok fun K hK=>?_|refine q_r qb17_ok fun K hK=>?_);simp (maxSteps:=2000000) only [go_sem,↓reduceIte,reduceCtorEq,Nat.reduceLeDiff,Nat.reduceLT,Nat.reduceBEq,Nat.reduceAdd,tl];(repeat1' with_reducible first|apply And.intro|(intro _;try exact q_v)|(refine hK _ ?_;clear hK K))<;>(try (clear hK K;exact q_u)))|(with_reducible refine q_s ?_;(first|apply q_J|apply q_K|apply q_L|apply q_M|apply q_N|apply q_O)<;>try (intro _;try exact q_v))|with_reducible refine q_t ?_)
    all_goals first | omega | assumption | exact q_B [.inl (some (.sl 2 [])), .inr [none, none]] rfl rfl | exact q_A rfl | skip
  · have hl0 : 0 < (dg 4294967296 v.natAbs).length := hp.2 (by omega)
    obtain ⟨V, rfl⟩ : ∃ V : Nat, v = V := ⟨v.toNat, by omega⟩
    obtain ⟨f1, f2, f3, f4⟩ := flo_facts (z := u) (d := V) (by omega)
    have lq : (dg 4294967296 (u.fdiv V).natAbs).length ≤ 128 := Nat.le_trans (dg_len_mono (by omega) f4) g3
    have lr : (dg 4294967296 (u.fmod V).natAbs).length ≤ 128 := Nat.le_trans (dg_len_mono (by omega) (by omega)) g4
    have o2 := (okZ_g u).trans (decide_eq_true g3)
    have o3 := (okZ_g (V : Int)).trans (decide_eq_true g4)
    by_cases hL : L.length = 400
    · rw [hL, Nat.sub_self, cfN_none hv] at g5
      have g5 : cfN 400 z d = none := g5
      obtain ⟨t1, t2, t3⟩ := tm_none g5
      rw [t1, t2, t3]
      repeat' (first|(with_reducible first|apply q_a|apply q_b|apply q_c|apply q_d|apply q_e|apply q_f|apply q_g|apply q_h|apply q_i|apply q_j|apply q_k|apply q_m|apply q_n|apply q_o|apply q_p|refine q_l ?_)|((with_reducible first|refine q_q qb17_ok fun K hK=>?_|refine q_r qb17_ok fun K hK=>?_);simp (maxSteps:=2000000) only [go_sem,↓reduceIte,reduceCtorEq,Nat.reduceLeDiff,Nat.reduceLT,Nat.reduceBEq,Nat.reduceAdd,tl, o2, o3, sv32];(repeat1' with_reducible first|apply And.intro|(intro _;try exact q_v)|(refine hK _ ?_;clear hK K))<;>(try (clear hK K;exact q_u)))|(with_reducible refine q_s ?_;(first|apply q_J|apply q_K|apply q_L|apply q_M|apply q_N|apply q_O)<;>try (intro _;try exact q_v))|with_reducible refine q_t ?_)
      all_goals first | omega | assumption | skip
      all_goals (try refine roundw_ret ?_)
      repeat' (first|(with_reducible first|apply q_a|apply q_b|apply q_c|apply q_d|apply q_e|apply q_f|apply q_g|apply q_h|apply q_i|apply q_j|apply q_k|apply q_m|apply q_n|apply q_o|apply q_p|refine q_l ?_)|((with_reducible first|refine q_q qb17_ok fun K hK=>?_|refine q_r qb17_ok fun K hK=>?_);simp (maxSteps:=2000000) only [go_sem,↓reduceIte,reduceCtorEq,Nat.reduceLeDiff,Nat.reduceLT,Nat.reduceBEq,Nat.reduceAdd,tl];(repeat1' with_reducible first|apply And.intro|(intro _;try exact q_v)|(refine hK _ ?_;clear hK K))<;>(try (clear hK K;exact q_u)))|(with_reducible refine q_s ?_;(first|apply q_J|apply q_K|apply q_L|apply q_M|apply q_N|apply q_O)<;>try (intro _;try exact q_v))|with_reducible refine q_t ?_)
      all_goals first | omega | assumption | exact q_B [.inl (some (.sl 2 [])), .inr [none, none]] rfl rfl | exact q_A rfl | skip
    · have g5 : cfN 400 z d = (cfN (400 - (L ++ [u.fdiv V]).length) V (u.fmod V)).map (L ++ [u.fdiv V] ++ ·) := by
        rw [show 400 - L.length = (400 - (L ++ [u.fdiv V]).length) + 1 by simp; omega, cfN_succ hv, Option.map_map] at g5
        rw [g5]
        congr 1
        funext M
        simp
      have ts := tmR_snoc L (u.fdiv V)
      repeat' (first|(with_reducible first|apply q_a|apply q_b|apply q_c|apply q_d|apply q_e|apply q_f|apply q_g|apply q_h|apply q_i|apply q_j|apply q_k|apply q_m|apply q_n|apply q_o|apply q_p|refine q_l ?_)|((with_reducible first|refine q_q qb17_ok fun K hK=>?_|refine q_r qb17_ok fun K hK=>?_);simp (maxSteps:=2000000) only [go_sem,↓reduceIte,reduceCtorEq,Nat.reduceLeDiff,Nat.reduceLT,Nat.reduceBEq,Nat.reduceAdd,tl, o2, o3, sv32];(repeat1' with_reducible first|apply And.intro|(intro _;try exact q_v)|(refine hK _ ?_;clear hK K))<;>(try (clear hK K;exact q_u)))|(with_reducible refine q_s ?_;(first|apply q_J|apply q_K|apply q_L|apply q_M|apply q_N|apply q_O)<;>try (intro _;try exact q_v))|with_reducible refine q_t ?_)
      all_goals first | omega | assumption | skip
      refine roundw_n ⟨(L ++ [u.fdiv V], V, u.fmod V), by simp; omega, f2, g4, lr, g5⟩ (by simp only [← ts]; exact q_D) ?_
      simp only; omega
set_option maxHeartbeats 1600000 in
theorem qterms_bad (s t : Bool) (xs ys : List Int) (h1 : xs.length ≤ 140737488355328) (h2 : ys.length ≤ 140737488355328) (b1 : InB 4294967296 xs) (b2 : InB 4294967296 ys) (h : okQ s xs t ys = false) :
    Ret Try.prog 22 false [.inr [.b s, .ints .u32 xs, .b t, .ints .u32 ys]] (.t [.inl (.sl 2 []), fltQ 6 (-1)]) := by
  (refine q_H Try.func22 (fun F => ?_); simp only [q_z,q_y,Try.ntmps22,Try.results22])
  repeat' (first|(with_reducible first|apply q_a|apply q_b|apply q_c|apply q_d|apply q_e|apply q_f|apply q_g|apply q_h|apply q_i|apply q_j|apply q_k|apply q_m|apply q_n|apply q_o|apply q_p|refine q_l ?_)|((with_reducible first|refine q_q qb17_ok fun K hK=>?_|refine q_r qb17_ok fun K hK=>?_);simp (maxSteps:=2000000) only [go_sem,↓reduceIte,reduceCtorEq,Nat.reduceLeDiff,Nat.reduceLT,Nat.reduceBEq,Nat.reduceAdd,h];(repeat1' with_reducible first|apply And.intro|(intro _;try exact q_v)|(refine hK _ ?_;clear hK K))<;>(try (clear hK K;exact q_u)))|(with_reducible refine q_s ?_;(first|apply q_J|apply q_K|apply q_L|apply q_M|apply q_N|apply q_O)<;>try (intro _;try exact q_v))|with_reducible refine q_t ?_)
  all_goals first | omega | assumption | exact q_B [.inl (some (.sl 2 [])), .inr [none, none]] rfl rfl | skip
def qtermsCT : CT := mkCT [nQ] false fun l K => match l with
  | [.inr [.b s, .ints .u32 xs, .b t, .ints .u32 ys]] => (xs.length ≤ 140737488355328 ∧ ys.length ≤ 140737488355328 ∧ InB 4294967296 xs ∧ InB 4294967296 ys) ∧
      (if okQ s xs t ys = true then K (.t [.inl (.sl 2 (tmS (sv 4294967296 s xs) (V 4294967296 ys))), fltQ (tmC (sv 4294967296 s xs) (V 4294967296 ys)) (tmI (sv 4294967296 s xs) (V 4294967296 ys))]) else K (.t [.inl (.sl 2 []), fltQ 6 (-1)]))
  | _ => False
def qf3 : Cfg := addT 22 qtermsCT qf2
theorem qf3_ok : TblOk Try.prog qf3 := q_I qf2_ok Try.func22 fun l K h => by
  split at h
  · rename_i s xs t ys
    obtain ⟨⟨h1, h2, b1, b2⟩, h⟩ := h
    split at h
    · rename_i o1
      obtain ⟨e1, r1⟩ := gQ_of o1 b1 b2
      rw [e1]
      exact ⟨_, qterms_ok _ _ r1, h⟩
    · rename_i o1
      exact ⟨_, qterms_bad s t xs ys h1 h2 b1 b2 (by simpa using o1), h⟩
  · exact h.elim
attribute [go_sem] qtermsCT
end Go.Proofs.Ytlefdhkjbbdijaa
