import Derived.Test.YthfgapbcdhajiaaK4
namespace Go.Proofs.Ythfgapbcdhajiaa
set_option linter.unusedSimpArgs false
set_option linter.unusedVariables false
open Go.Abs Go.Proofs.NatL

theorem and_one (x : Nat) (h : x < 4294967296) : bitI .and .u32 (x : Int) 1 = ((x % 2 : Nat) : Int) := by
  rw [and_u32]
  have e : BitVec.ofInt 32 (x : Int) = BitVec.ofNat 32 x := by simp
  have e2 : BitVec.ofInt 32 1 = BitVec.ofNat 32 1 := by decide
  rw [e, e2, BitVec.toNat_and, BitVec.toNat_ofNat, BitVec.toNat_ofNat, Nat.mod_eq_of_lt (by omega), Nat.mod_eq_of_lt (by decide), Nat.and_one_is_mod]
theorem limb_bit (e i : Nat) : bitI .and .u32 (shrI .u32 ((dg 4294967296 e).getD (i / 32) 0) ((i % 32 : Nat) : Int)) 1 = ((e / 2 ^ i % 2 : Nat) : Int) := by
  have hin := InB_dg 4294967296 (by omega) e
  have hb := InB_getD (B := 4294967296) (by omega) hin (i / 32)
  have hd := V_digit 4294967296 (by omega) _ hin (i / 32)
  rw [V32] at hd
  obtain ⟨x, hx⟩ : ∃ x : Nat, (dg 4294967296 e).getD (i / 32) 0 = x := ⟨((dg 4294967296 e).getD (i / 32) 0).toNat, by omega⟩
  rw [hx] at hb hd ⊢
  rw [Int.toNat_natCast] at hd
  rw [shrI_lit .u32 x (i % 32) (by have := Nat.mod_lt i (show 0 < 32 by omega); show i % 32 ≤ 32; omega)]
  have h2 : ((x : Int) / 2 ^ (i % 32)) = ((x / 2 ^ (i % 32) : Nat) : Int) := by rw [Int.natCast_ediv, Int.natCast_pow]; rfl
  rw [h2, and_one _ (Nat.lt_of_le_of_lt (Nat.div_le_self _ _) (by omega))]
  congr 1
  rw [← hd]
  have h3 : 2 ^ i = 4294967296 ^ (i / 32) * 2 ^ (i % 32) := by
    rw [pow32, ← Nat.pow_add]; congr 1; omega
  rw [h3, ← Nat.div_div_eq_div_mul]
  generalize e / 4294967296 ^ (i / 32) = y
  have h4 : (4294967296 : Nat) = 2 ^ (i % 32) * (2 * 2 ^ (31 - i % 32)) := by
    have := Nat.mod_lt i (show 0 < 32 by omega)
    rw [← Nat.pow_succ', ← Nat.pow_add, show i % 32 + (31 - i % 32 + 1) = 32 by omega]
  rw [h4, Nat.mod_mul_right_div_self, Nat.mod_mul_right_mod]
def pmN (A E M : Nat) : Nat := A ^ E % M
theorem pmN_even (A E M : Nat) : pmN A (2 * E) M = (pmN A E M * pmN A E M) % M := by
  unfold pmN; rw [Nat.mul_comm 2, Nat.pow_mul, Nat.pow_two, ← Nat.mul_mod]
theorem pmN_odd (A E M : Nat) : pmN A (2 * E + 1) M = ((pmN A E M * pmN A E M) % M * A) % M := by
  rw [← pmN_even]; unfold pmN; rw [Nat.pow_succ]
  conv => rhs; rw [Nat.mul_mod, Nat.mod_mod]
  exact Nat.mul_mod _ _ _
theorem pm_N (a m : Int) (hm : 0 < m) (e : Nat) : pm a e m = ((pmN (a.fmod m).natAbs e m.natAbs : Nat) : Int) := by
  have h0 : a.fmod m = a % m := Int.fmod_eq_emod_of_nonneg a (by omega)
  have h1 := Int.emod_nonneg a (b := m) (by omega)
  have key : ∀ e : Nat, a ^ e % m = (a % m) ^ e % m := fun e => by
    induction e with
    | zero => simp
    | succ e ih => rw [Int.pow_succ, Int.pow_succ, Int.mul_emod, ih, Int.mul_emod ((a % m) ^ e), Int.emod_emod_of_dvd a (Int.dvd_refl m)]
  unfold pm pmN
  rw [key, h0]
  have h2 : a % m = ((a % m).natAbs : Int) := by omega
  have h3 : m = (m.natAbs : Int) := by omega
  rw [Int.natCast_emod, Int.natCast_pow, ← h2, ← h3]
theorem pm_step (e k : Nat) : e / 2 ^ k = 2 * (e / 2 ^ (k + 1)) + e / 2 ^ k % 2 := by
  rw [Nat.pow_succ, ← Nat.div_div_eq_div_mul]; omega

def ipm : Cfg := listT [(70, atCT), (61, icheckCT), (63, isignedCT), (19, (tot2 gdDiv [z0, z0])), (66, dvGoodCT), (89, bitsGoodCT), (81, (goodCT (fun xs ys => fitN (mulN xs ys)) (fun xs ys => fitC (mulN xs ys)) (fun xs ys => fitI (mulN xs ys))))] [27]
theorem ipm_ok : TblOk Try.prog ipm := listE_ok (by simp only [List.mem_singleton, forall_eq]; exact flt) ⟨⟨iu3, iu3_ok, rfl⟩, ⟨iu3, iu3_ok, rfl⟩, ⟨iu3, iu3_ok, rfl⟩, ⟨kx9, kx9_ok, rfl⟩, ⟨iu3, iu3_ok, rfl⟩, ⟨iu3, iu3_ok, rfl⟩, ⟨iu3, iu3_ok, rfl⟩, trivial⟩
attribute [go_sem] ipm
set_option maxRecDepth 100000 in
set_option maxHeartbeats 3200000 in
theorem iPowMod_ok (a m : Int) (e : Nat) (hm : 0 < m) (la : (dg 4294967296 a.natAbs).length ≤ 128) (lm : (dg 4294967296 m.natAbs).length ≤ 128) (le : (dg 4294967296 e).length ≤ 128) :
    Ret Try.prog 50 false [.inr (gI a), .inr [.b false, .ints .u32 (dg 4294967296 e)], .inr (gI m)] (.t [.inr (gI (pm a e m)), flt2 0 0]) := by
  have oa := (okZ_g a).trans (decide_eq_true la)
  have om := (okZ_g m).trans (decide_eq_true lm)
  have oe : okZ false (dg 4294967296 e) = true := by
    have := (okZ_g (e : Int)).trans (decide_eq_true (show (dg 4294967296 (e : Int).natAbs).length ≤ 128 from le))
    rw [decide_eq_false (by omega)] at this; exact this
  have hmn : decide (m < 0) = false := decide_eq_false (by omega)
  have hm0 : (m = 0) = False := eq_false (by omega)
  have hml := (dg_len_pos 4294967296 m.natAbs (by omega)).2 (by omega)
  have km := okN_128 lm
  have ke := okN_128 le
  have e1 : ([1] : List Int) = dg 4294967296 1 := by decide
  have k1 : okN (dg 4294967296 1) = true := okN_128 (Nat.le_trans (dg_len_le (B := 4294967296) (by omega) _ 1 (by decide)) (by omega))
  have hres := pm_N a m hm e
  rw [hres]
  have hA : (dg 4294967296 (a.fmod m).natAbs).length ≤ 128 := Nat.le_trans (dg_len_mono (by omega) (fdiv_abs (a := a) (show m ≠ 0 by omega)).2) lm
  simp only [gI, hmn] at om ⊢
  have hMp : 0 < m.natAbs := by omega
  have hAle : (a.fmod m).natAbs < m.natAbs := by
    have h0 : a.fmod m = a % m := Int.fmod_eq_emod_of_nonneg a (by omega)
    have h1 := Int.emod_nonneg a (b := m) (by omega)
    have h2 := Int.emod_lt_of_pos a hm
    omega
  have hsm : sv 4294967296 false (dg 4294967296 m.natAbs) = m := by rw [sv32d, sgf]; omega
  generalize hAA : (a.fmod m).natAbs = A at *
  generalize hMM : m.natAbs = M at *
  have hin := InB_dg 4294967296 (by omega) e
  have hle : bl e ≤ 32 * (dg 4294967296 e).length := by
    have := lt_of_len (B := 4294967296) (by omega) (Nat.le_refl (dg 4294967296 e).length)
    rw [pow32] at this
    exact bl_lt e _ this
  have hlt : ∀ x : Nat, x < M → (dg 4294967296 x).length ≤ 128 := fun x h => Nat.le_trans (dg_len_mono (by omega) (Nat.le_of_lt h)) lm
  (refine q_H Try.func50 (fun F => ?_); simp only [q_z,q_y,Try.ntmps50,Try.results50])
  repeat' (first|(with_reducible first|apply q_a|apply q_b|apply q_c|apply q_d|apply q_e|apply q_f|apply q_g|apply q_h|apply q_i|apply q_j|apply q_k|apply q_m|apply q_n|apply q_o|apply q_p|refine q_l ?_)|((with_reducible first|refine q_q ipm_ok fun K hK=>?_|refine q_r ipm_ok fun K hK=>?_);simp (maxSteps:=2000000) only [go_sem,↓reduceIte,reduceCtorEq,Nat.reduceLeDiff,Nat.reduceLT,Nat.reduceBEq,Nat.reduceAdd,oa, om, oe, hm0, km, ke, k1, e1, sv32, hmn, hsm, hAA];(repeat1' with_reducible first|apply And.intro|(intro _;try exact q_v)|(refine hK _ ?_;clear hK K))<;>(try (clear hK K;exact q_u)))|(with_reducible refine q_s ?_;(first|apply q_J|apply q_K|apply q_L|apply q_M|apply q_N|apply q_O)<;>try (intro _;try exact q_v))|with_reducible refine q_t ?_)
  all_goals first | omega | skip
  refine q_G (ι := { k : Nat // k ≤ bl e }) (fun k => ⟨118, [(4, .bx 1 0), (5, .bx 2 0), (6, .bx 3 0), (7, .bx 4 0), (10, .bx 7 0), (13, .c (.ints .u32 (dg 4294967296 (pmN A (e / 2 ^ k.1) M)))), (17, .c (.i .i64 ((k.1 : Nat) - 1)))], ⟨[(7, [.c (.b (decide (a.fmod m < 0))), .c (.ints .u32 (dg 4294967296 A))]), (4, [.c (.i .i64 0), .c (.i .i64 0)]), (3, [.c (.b false), .c .nil]), (2, [.c (.b false), .c (.ints .u32 (dg 4294967296 M))]), (1, [.c (.b false), .c (.ints .u32 (dg 4294967296 e))])], [], []⟩, 11⟩) (fun k => k.1) ⟨bl e, Nat.le_refl _⟩ ?_ ?_
  · have h0 : e / 2 ^ bl e = 0 := Nat.div_eq_of_lt (lt_bl e)
    simp only [h0, show pmN A 0 M = 1 % M from rfl]
    exact q_D
  rintro ⟨k, g1⟩
  simp only at g1 ⊢
  have ho : pmN A (e / 2 ^ k) M < M := Nat.mod_lt _ hMp
  have lo1 := hlt _ ho
  have ko := okN_128 lo1
  rcases Nat.eq_zero_or_pos k with hk | hk
  · subst hk
    rw [Nat.pow_zero, Nat.div_one] at *
    have hsf : ∀ x : Nat, sg false x = (x : Int) := fun x => rfl
    obtain ⟨c1, c2, c3⟩ := cl_fit (k := 128) (z := ((pmN A e M : Nat) : Int)) lo1
    repeat' (first|(with_reducible first|apply q_a|apply q_b|apply q_c|apply q_d|apply q_e|apply q_f|apply q_g|apply q_h|apply q_i|apply q_j|apply q_k|apply q_m|apply q_n|apply q_o|apply q_p|refine q_l ?_)|((with_reducible first|refine q_q ipm_ok fun K hK=>?_|refine q_r ipm_ok fun K hK=>?_);simp (maxSteps:=2000000) only [go_sem,↓reduceIte,reduceCtorEq,Nat.reduceLeDiff,Nat.reduceLT,Nat.reduceBEq,Nat.reduceAdd,sv32d, hsf, c1, c2, c3];(repeat1' with_reducible first|apply And.intro|(intro _;try exact q_v)|(refine hK _ ?_;clear hK K))<;>(try (clear hK K;exact q_u)))|(with_reducible refine q_s ?_;(first|apply q_J|apply q_K|apply q_L|apply q_M|apply q_N|apply q_O)<;>try (intro _;try exact q_v))|with_reducible refine q_t ?_)
    all_goals first | omega | exact q_A rfl | skip
  · obtain ⟨j, rfl⟩ : ∃ j, k = j + 1 := ⟨k - 1, by omega⟩
    have hj : ((j + 1 : Nat) : Int) - 1 = (j : Nat) := by omega
    have hbit := limb_bit e j
    have hd := tdiv32 j
    have hmo := tmod32 j
    have hst := pm_step e j
    generalize hoo : pmN A (e / 2 ^ (j + 1)) M = o at *
    have l2 := mul_len (B := 4294967296) (by omega) lo1 lo1
    have k2 := okN_dg' (Nat.le_trans l2 (by omega))
    obtain ⟨f1, f2, f3⟩ := fit_small (Nat.le_trans l2 (show 128 + 128 ≤ 600 by omega))
    have hr1 := Nat.mod_lt (o * o) hMp
    have l3 := hlt _ hr1
    have k3 := okN_128 l3
    have kA := okN_128 hA
    have l4 := mul_len (B := 4294967296) (by omega) l3 hA
    have k4 := okN_dg' (Nat.le_trans l4 (by omega))
    obtain ⟨f4, f5, f6⟩ := fit_small (Nat.le_trans l4 (show 128 + 128 ≤ 600 by omega))
    have l5 := hlt _ (Nat.mod_lt (o * o % M * A) hMp)
    have m1 := mulNd' o o
    have m2 := mulNd' (o * o % M) A
    rcases Nat.mod_two_eq_zero_or_one (e / 2 ^ j) with hb | hb
    · rw [hb] at hbit hst
      have hnx : pmN A (e / 2 ^ j) M = o * o % M := by rw [hst, Nat.add_zero, pmN_even, hoo]
      repeat' (first|(with_reducible first|apply q_a|apply q_b|apply q_c|apply q_d|apply q_e|apply q_f|apply q_g|apply q_h|apply q_i|apply q_j|apply q_k|apply q_m|apply q_n|apply q_o|apply q_p|refine q_l ?_)|((with_reducible first|refine q_q ipm_ok fun K hK=>?_|refine q_r ipm_ok fun K hK=>?_);simp (maxSteps:=2000000) only [go_sem,↓reduceIte,reduceCtorEq,Nat.reduceLeDiff,Nat.reduceLT,Nat.reduceBEq,Nat.reduceAdd,hj, hd, hmo, hbit, ko, m1, f1, f2, f3, k2, km];(repeat1' with_reducible first|apply And.intro|(intro _;try exact q_v)|(refine hK _ ?_;clear hK K))<;>(try (clear hK K;exact q_u)))|(with_reducible refine q_s ?_;(first|apply q_J|apply q_K|apply q_L|apply q_M|apply q_N|apply q_O)<;>try (intro _;try exact q_v))|with_reducible refine q_t ?_)
      all_goals first | omega | skip
      refine q_F ⟨j, by omega⟩ ?_ (by simp only; omega)
      simp only [hnx]
      exact q_D
    · rw [hb] at hbit hst
      have hnx : pmN A (e / 2 ^ j) M = o * o % M * A % M := by rw [hst, pmN_odd, hoo]
      repeat' (first|(with_reducible first|apply q_a|apply q_b|apply q_c|apply q_d|apply q_e|apply q_f|apply q_g|apply q_h|apply q_i|apply q_j|apply q_k|apply q_m|apply q_n|apply q_o|apply q_p|refine q_l ?_)|((with_reducible first|refine q_q ipm_ok fun K hK=>?_|refine q_r ipm_ok fun K hK=>?_);simp (maxSteps:=2000000) only [go_sem,↓reduceIte,reduceCtorEq,Nat.reduceLeDiff,Nat.reduceLT,Nat.reduceBEq,Nat.reduceAdd,hj, hd, hmo, hbit, ko, m1, f1, f2, f3, k2, km, k3, kA, m2, f4, f5, f6, k4];(repeat1' with_reducible first|apply And.intro|(intro _;try exact q_v)|(refine hK _ ?_;clear hK K))<;>(try (clear hK K;exact q_u)))|(with_reducible refine q_s ?_;(first|apply q_J|apply q_K|apply q_L|apply q_M|apply q_N|apply q_O)<;>try (intro _;try exact q_v))|with_reducible refine q_t ?_)
      all_goals first | omega | skip
      refine q_F ⟨j, by omega⟩ ?_ (by simp only; omega)
      simp only [hnx]
      exact q_D
set_option maxHeartbeats 3200000 in
theorem iPowMod_bad (p q t : Bool) (xs ys zs : List Int) (lx : xs.length ≤ 140737488355328) (ly : ys.length ≤ 140737488355328) (lz : zs.length ≤ 140737488355328) (h : ¬ (okZ p xs = true ∧ okZ q ys = true ∧ okZ t zs = true)) :
    Ret Try.prog 50 false [.inr [.b p, .ints .u32 xs], .inr [.b q, .ints .u32 ys], .inr [.b t, .ints .u32 zs]] (.t [z0, flt2 6 (if okZ p xs = true then (if okZ q ys = true then -3 else -2) else -1)]) := by
  cases h1 : okZ p xs
  · (refine q_H Try.func50 (fun F => ?_); simp only [q_z,q_y,Try.ntmps50,Try.results50])
    repeat' (first|(with_reducible first|apply q_a|apply q_b|apply q_c|apply q_d|apply q_e|apply q_f|apply q_g|apply q_h|apply q_i|apply q_j|apply q_k|apply q_m|apply q_n|apply q_o|apply q_p|refine q_l ?_)|((with_reducible first|refine q_q ipm_ok fun K hK=>?_|refine q_r ipm_ok fun K hK=>?_);simp (maxSteps:=2000000) only [go_sem,↓reduceIte,reduceCtorEq,Nat.reduceLeDiff,Nat.reduceLT,Nat.reduceBEq,Nat.reduceAdd,h1];(repeat1' with_reducible first|apply And.intro|(intro _;try exact q_v)|(refine hK _ ?_;clear hK K))<;>(try (clear hK K;exact q_u)))|(with_reducible refine q_s ?_;(first|apply q_J|apply q_K|apply q_L|apply q_M|apply q_N|apply q_O)<;>try (intro _;try exact q_v))|with_reducible refine q_t ?_)
    all_goals exact q_B [nP] rfl rfl
  · cases h2 : okZ q ys
    · (refine q_H Try.func50 (fun F => ?_); simp only [q_z,q_y,Try.ntmps50,Try.results50])
      repeat' (first|(with_reducible first|apply q_a|apply q_b|apply q_c|apply q_d|apply q_e|apply q_f|apply q_g|apply q_h|apply q_i|apply q_j|apply q_k|apply q_m|apply q_n|apply q_o|apply q_p|refine q_l ?_)|((with_reducible first|refine q_q ipm_ok fun K hK=>?_|refine q_r ipm_ok fun K hK=>?_);simp (maxSteps:=2000000) only [go_sem,↓reduceIte,reduceCtorEq,Nat.reduceLeDiff,Nat.reduceLT,Nat.reduceBEq,Nat.reduceAdd,h1, h2];(repeat1' with_reducible first|apply And.intro|(intro _;try exact q_v)|(refine hK _ ?_;clear hK K))<;>(try (clear hK K;exact q_u)))|(with_reducible refine q_s ?_;(first|apply q_J|apply q_K|apply q_L|apply q_M|apply q_N|apply q_O)<;>try (intro _;try exact q_v))|with_reducible refine q_t ?_)
      all_goals exact q_B [nP] rfl rfl
    · have h3 : okZ t zs = false := by
        cases h3 : okZ t zs
        · rfl
        · exact absurd ⟨h1, h2, h3⟩ h
      (refine q_H Try.func50 (fun F => ?_); simp only [q_z,q_y,Try.ntmps50,Try.results50])
      repeat' (first|(with_reducible first|apply q_a|apply q_b|apply q_c|apply q_d|apply q_e|apply q_f|apply q_g|apply q_h|apply q_i|apply q_j|apply q_k|apply q_m|apply q_n|apply q_o|apply q_p|refine q_l ?_)|((with_reducible first|refine q_q ipm_ok fun K hK=>?_|refine q_r ipm_ok fun K hK=>?_);simp (maxSteps:=2000000) only [go_sem,↓reduceIte,reduceCtorEq,Nat.reduceLeDiff,Nat.reduceLT,Nat.reduceBEq,Nat.reduceAdd,h1, h2, h3];(repeat1' with_reducible first|apply And.intro|(intro _;try exact q_v)|(refine hK _ ?_;clear hK K))<;>(try (clear hK K;exact q_u)))|(with_reducible refine q_s ?_;(first|apply q_J|apply q_K|apply q_L|apply q_M|apply q_N|apply q_O)<;>try (intro _;try exact q_v))|with_reducible refine q_t ?_)
      all_goals exact q_B [nP] rfl rfl
set_option maxHeartbeats 3200000 in
theorem iPowMod_rng (p q t : Bool) (xs ys zs : List Int) (h1 : okZ p xs = true) (h2 : okZ q ys = true) (h3 : okZ t zs = true) (h : q = true ∨ q = false ∧ (t = true ∨ t = false ∧ zs = [])) :
    Ret Try.prog 50 false [.inr [.b p, .ints .u32 xs], .inr [.b q, .ints .u32 ys], .inr [.b t, .ints .u32 zs]] (.t [z0, flt2 (if q = true then 4 else if t = true then 4 else 22) (if q = true then -2 else -3)]) := by
  have l1 := okZ_len h1
  have l2 := okZ_len h2
  have l3 := okZ_len h3
  rcases h with rfl | ⟨rfl, rfl | ⟨rfl, rfl⟩⟩
  all_goals
    (refine q_H Try.func50 (fun F => ?_); simp only [q_z,q_y,Try.ntmps50,Try.results50])
    repeat' (first|(with_reducible first|apply q_a|apply q_b|apply q_c|apply q_d|apply q_e|apply q_f|apply q_g|apply q_h|apply q_i|apply q_j|apply q_k|apply q_m|apply q_n|apply q_o|apply q_p|refine q_l ?_)|((with_reducible first|refine q_q ipm_ok fun K hK=>?_|refine q_r ipm_ok fun K hK=>?_);simp (maxSteps:=2000000) only [go_sem,↓reduceIte,reduceCtorEq,Nat.reduceLeDiff,Nat.reduceLT,Nat.reduceBEq,Nat.reduceAdd,h1, h2, h3];(repeat1' with_reducible first|apply And.intro|(intro _;try exact q_v)|(refine hK _ ?_;clear hK K))<;>(try (clear hK K;exact q_u)))|(with_reducible refine q_s ?_;(first|apply q_J|apply q_K|apply q_L|apply q_M|apply q_N|apply q_O)<;>try (intro _;try exact q_v))|with_reducible refine q_t ?_)
    all_goals first | omega | exact q_B [nP] rfl rfl
def pmCT : CT := mkCT [nP, nP, nP] false fun l K => match l with
  | [.inr [.b p, .ints .u32 xs], .inr [.b q, .ints .u32 ys], .inr [.b t, .ints .u32 zs]] => (xs.length ≤ 140737488355328 ∧ ys.length ≤ 140737488355328 ∧ zs.length ≤ 140737488355328 ∧ InB 4294967296 xs ∧ InB 4294967296 ys ∧ InB 4294967296 zs) ∧
    (if okZ p xs = true then (if okZ q ys = true then (if okZ t zs = true then
        ((sv 4294967296 q ys < 0 → K (.t [z0, flt2 4 (-2)])) ∧ (¬ sv 4294967296 q ys < 0 → (sv 4294967296 t zs < 0 → K (.t [z0, flt2 4 (-3)])) ∧ (¬ sv 4294967296 t zs < 0 → (sv 4294967296 t zs = 0 → K (.t [z0, flt2 22 (-3)]))
          ∧ (¬ sv 4294967296 t zs = 0 → K (.t [.inr (gI (pm (sv 4294967296 p xs) (sv 4294967296 q ys).natAbs (sv 4294967296 t zs))), flt2 0 0])))))
      else K (.t [z0, flt2 6 (-3)])) else K (.t [z0, flt2 6 (-2)])) else K (.t [z0, flt2 6 (-1)]))
  | _ => False
theorem okZ_neg {s : Bool} {xs : List Int} (h1 : okZ s xs = true) (h2 : InB 4294967296 xs) : sv 4294967296 s xs < 0 ↔ s = true := by
  obtain ⟨a1, _⟩ := okZ_eq h1 h2
  constructor
  · intro h; rw [a1]; exact decide_eq_true h
  · intro h; rw [a1] at h; exact of_decide_eq_true h
theorem okZ_zero {s : Bool} {xs : List Int} (h1 : okZ s xs = true) (h2 : InB 4294967296 xs) : sv 4294967296 s xs = 0 ↔ xs = [] := by
  obtain ⟨_, a2, _⟩ := okZ_eq h1 h2
  have := dg_len_pos 4294967296 (sv 4294967296 s xs).natAbs (by omega)
  rw [← a2] at this
  constructor
  · intro h; exact List.eq_nil_of_length_eq_zero (by omega)
  · intro h; subst h; rw [sv0]
def ky9 : Cfg := addT 50 pmCT ky8
theorem ky9_ok : TblOk Try.prog ky9 := q_I ky8_ok Try.func50 fun l K h => by
  split at h
  · rename_i p xs q ys t zs
    obtain ⟨⟨l1, l2, l3, b1, b2, b3⟩, h⟩ := h
    split at h
    · rename_i o1
      split at h
      · rename_i o2
        split at h
        · rename_i o3
          have n2 := okZ_neg o2 b2
          have n3 := okZ_neg o3 b3
          have z3 := okZ_zero o3 b3
          by_cases hq : sv 4294967296 q ys < 0
          · have h1 := h.1 hq
            have hq' := n2.1 hq
            have := iPowMod_rng p q t xs ys zs o1 o2 o3 (.inl hq')
            rw [if_pos hq', if_pos hq'] at this
            exact ⟨_, this, h1⟩
          · have h1 := h.2 hq
            have hq' : q = false := by cases q; rfl; exact absurd (n2.2 rfl) hq
            by_cases ht : sv 4294967296 t zs < 0
            · have h2 := h1.1 ht
              have ht' := n3.1 ht
              have := iPowMod_rng p q t xs ys zs o1 o2 o3 (.inr ⟨hq', .inl ht'⟩)
              subst hq'; subst ht'
              simp only [Bool.false_eq_true, if_false, if_true] at this
              exact ⟨_, this, h2⟩
            · have h2 := h1.2 ht
              have ht' : t = false := by cases t; rfl; exact absurd (n3.2 rfl) ht
              by_cases hz : sv 4294967296 t zs = 0
              · have h3 := h2.1 hz
                have := iPowMod_rng p q t xs ys zs o1 o2 o3 (.inr ⟨hq', .inr ⟨ht', z3.1 hz⟩⟩)
                subst hq'; subst ht'
                simp only [Bool.false_eq_true, if_false, if_true] at this
                exact ⟨_, this, h3⟩
              · have h3 := h2.2 hz
                obtain ⟨e1, m1⟩ := gI_of' o1 b1
                obtain ⟨a1, a2, a3⟩ := okZ_eq o2 b2
                obtain ⟨e3, m3⟩ := gI_of' o3 b3
                subst hq'
                have := iPowMod_ok (sv 4294967296 p xs) (sv 4294967296 t zs) (sv 4294967296 false ys).natAbs (by omega) m1 m3 (by rw [← a2]; exact a3)
                rw [← e1, ← e3, ← a2] at this
                exact ⟨_, this, h3⟩
        · rename_i o3
          have := iPowMod_bad p q t xs ys zs l1 l2 l3 (fun hh => o3 hh.2.2)
          rw [if_pos o1, if_pos o2] at this
          exact ⟨_, this, h⟩
      · rename_i o2
        have := iPowMod_bad p q t xs ys zs l1 l2 l3 (fun hh => o2 hh.2.1)
        rw [if_pos o1, if_neg o2] at this
        exact ⟨_, this, h⟩
    · rename_i o1
      have := iPowMod_bad p q t xs ys zs l1 l2 l3 (fun hh => o1 hh.1)
      rw [if_neg o1] at this
      exact ⟨_, this, h⟩
  · exact h.elim
attribute [go_sem] pmCT

theorem len_of {a : Int} {n : Nat} (h : (dg 4294967296 a.natAbs).length ≤ n) (k : Nat) (hk : n ≤ k) : (dg 4294967296 a.natAbs).length ≤ k := Nat.le_trans h hk
theorem cl_add {a b : Int} {n : Nat} (h1 : (dg 4294967296 a.natAbs).length ≤ n) (h2 : (dg 4294967296 b.natAbs).length ≤ n) (hn : n ≤ 127) : cl 128 (a + b) = a + b ∧ clC 128 (a + b) = 0 ∧ clI 128 (a + b) = 0 :=
  cl_fit (Nat.le_trans (zadd_len (by omega) h1 h2) (by omega))
theorem cl_sub {a b : Int} {n : Nat} (h1 : (dg 4294967296 a.natAbs).length ≤ n) (h2 : (dg 4294967296 b.natAbs).length ≤ n) (hn : n ≤ 127) : cl 128 (a - b) = a - b ∧ clC 128 (a - b) = 0 ∧ clI 128 (a - b) = 0 :=
  cl_fit (Nat.le_trans (zsub_len (by omega) h1 h2) (by omega))
theorem cl_mul {a b : Int} {n m : Nat} (h1 : (dg 4294967296 a.natAbs).length ≤ n) (h2 : (dg 4294967296 b.natAbs).length ≤ m) (hn : n + m ≤ 128) : cl 128 (a * b) = a * b ∧ clC 128 (a * b) = 0 ∧ clI 128 (a * b) = 0 :=
  cl_fit (Nat.le_trans (zmul_len (by omega) h1 h2) (by omega))

theorem fmod_sign {a b : Int} (hb : b ≠ 0) : ∃ x : Nat, x < b.natAbs ∧ a.fmod b = sg (decide (b < 0)) x := by
  have h := Nat.mod_lt a.natAbs (show 0 < b.natAbs by omega)
  by_cases hs : decide (a < 0) = decide (b < 0) ∨ a.natAbs % b.natAbs = 0
  · exact ⟨_, h, (floor_same hb hs).2.symm⟩
  · exact ⟨b.natAbs - a.natAbs % b.natAbs, by omega, (floor_diff hb (fun h => hs (.inl h)) (fun h => hs (.inr h))).2.1.symm⟩
theorem len_fit {z : Int} {n : Nat} (h : FitK (32 * n) z) : (dg 4294967296 z.natAbs).length ≤ n + 1 := by
  refine dg_len_le (by omega) _ _ ?_
  have h2 := pow2_pos (32 * n)
  unfold FitK at h
  rw [Nat.pow_succ, pow32]
  omega

end Go.Proofs.Ythfgapbcdhajiaa
