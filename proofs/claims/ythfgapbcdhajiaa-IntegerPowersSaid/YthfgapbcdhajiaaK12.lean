import Derived.Test.YthfgapbcdhajiaaK10
namespace Go.Proofs.Ythfgapbcdhajiaa
set_option linter.unusedSimpArgs false
set_option linter.unusedVariables false
open Go.Abs Go.Proofs.NatL

set_option maxRecDepth 100000 in
set_option maxHeartbeats 6400000 in
theorem powsx_c (a n : Int) (t u : Bool) (es ms : List Int) (hn : -9223372036854775808 ≤ n ∧ n ≤ 9223372036854775807) (hf : ¬ (dg 4294967296 (a ^ n.toNat).natAbs).length ≤ 128) (la : (dg 4294967296 a.natAbs).length ≤ 128) (le : es.length ≤ 140737488355328) (lm : ms.length ≤ 140737488355328) (be : InB 4294967296 es) (bm : InB 4294967296 ms)
    (h : ¬ (okZ t es = true ∧ okZ u ms = true ∧ t = false ∧ u = false ∧ ms ≠ [])) :
    Ret Try.prog 9 false [.inr (gI a), .inl (.i .i64 n), .inr [.b t, .ints .u32 es], .inr [.b u, .ints .u32 ms]] (.c (.b true)) := by
  have hsv : ∀ s, sv 4294967296 s [] = 0 := fun s => sv0 _ _
  have la2 := lenq la
  (obtain ⟨c1, c2, c3⟩ := cl_big hf)
  cases h1 : okZ t es
  · (refine q_H Try.func9 (fun F => ?_); simp only [q_z,q_y,Try.ntmps9,Try.results9])
    repeat' (first|(with_reducible first|apply q_a|apply q_b|apply q_c|apply q_d|apply q_e|apply q_f|apply q_g|apply q_h|apply q_i|apply q_j|apply q_k|apply q_m|apply q_n|apply q_o|apply q_p|refine q_l ?_)|((with_reducible first|refine q_q kpw_ok fun K hK=>?_|refine q_r kpw_ok fun K hK=>?_);simp (maxSteps:=2000000) only [go_sem,↓reduceIte,reduceCtorEq,Nat.reduceLeDiff,Nat.reduceLT,Nat.reduceBEq,Nat.reduceAdd,la, h1, hsv, c1, c2, c3, hf, decide_true, decide_false];(repeat1' with_reducible first|apply And.intro|(intro _;try exact q_v)|(refine hK _ ?_;clear hK K))<;>(try (clear hK K;exact q_u)))|(with_reducible refine q_s ?_;(first|apply q_J|apply q_K|apply q_L|apply q_M|apply q_N|apply q_O)<;>try (intro _;try exact q_v))|with_reducible refine q_t ?_)
    all_goals first | contradiction | omega | exact q_A rfl | exact q_A (by simp [resAV, q_y]) | (simp [dg_zero]; done)
  cases h2 : okZ u ms
  · (refine q_H Try.func9 (fun F => ?_); simp only [q_z,q_y,Try.ntmps9,Try.results9])
    repeat' (first|(with_reducible first|apply q_a|apply q_b|apply q_c|apply q_d|apply q_e|apply q_f|apply q_g|apply q_h|apply q_i|apply q_j|apply q_k|apply q_m|apply q_n|apply q_o|apply q_p|refine q_l ?_)|((with_reducible first|refine q_q kpw_ok fun K hK=>?_|refine q_r kpw_ok fun K hK=>?_);simp (maxSteps:=2000000) only [go_sem,↓reduceIte,reduceCtorEq,Nat.reduceLeDiff,Nat.reduceLT,Nat.reduceBEq,Nat.reduceAdd,la, h1, h2, hsv, c1, c2, c3, hf, decide_true, decide_false];(repeat1' with_reducible first|apply And.intro|(intro _;try exact q_v)|(refine hK _ ?_;clear hK K))<;>(try (clear hK K;exact q_u)))|(with_reducible refine q_s ?_;(first|apply q_J|apply q_K|apply q_L|apply q_M|apply q_N|apply q_O)<;>try (intro _;try exact q_v))|with_reducible refine q_t ?_)
    all_goals first | contradiction | omega | exact q_A rfl | exact q_A (by simp [resAV, q_y]) | (simp [dg_zero]; done)
  cases t
  · cases u
    · have h3 : ms = [] := by
        cases ms with
        | nil => rfl
        | cons x l => exact absurd ⟨h1, h2, rfl, rfl, by simp⟩ h
      subst h3
      have n1 : ¬ sv 4294967296 false es < 0 := fun hh => by have := (okZ_neg h1 be).1 hh; contradiction
      (refine q_H Try.func9 (fun F => ?_); simp only [q_z,q_y,Try.ntmps9,Try.results9])
      repeat' (first|(with_reducible first|apply q_a|apply q_b|apply q_c|apply q_d|apply q_e|apply q_f|apply q_g|apply q_h|apply q_i|apply q_j|apply q_k|apply q_m|apply q_n|apply q_o|apply q_p|refine q_l ?_)|((with_reducible first|refine q_q kpw_ok fun K hK=>?_|refine q_r kpw_ok fun K hK=>?_);simp (maxSteps:=2000000) only [go_sem,↓reduceIte,reduceCtorEq,Nat.reduceLeDiff,Nat.reduceLT,Nat.reduceBEq,Nat.reduceAdd,la, h1, h2, hsv, c1, c2, c3, hf, decide_true, decide_false];(repeat1' with_reducible first|apply And.intro|(intro _;try exact q_v)|(refine hK _ ?_;clear hK K))<;>(try (clear hK K;exact q_u)))|(with_reducible refine q_s ?_;(first|apply q_J|apply q_K|apply q_L|apply q_M|apply q_N|apply q_O)<;>try (intro _;try exact q_v))|with_reducible refine q_t ?_)
      all_goals first | contradiction | omega | exact q_A rfl | exact q_A (by simp [resAV, q_y]) | (simp [dg_zero]; done)
    · have n1 : ¬ sv 4294967296 false es < 0 := fun hh => by have := (okZ_neg h1 be).1 hh; contradiction
      have n2 := (okZ_neg h2 bm).2 rfl
      (refine q_H Try.func9 (fun F => ?_); simp only [q_z,q_y,Try.ntmps9,Try.results9])
      repeat' (first|(with_reducible first|apply q_a|apply q_b|apply q_c|apply q_d|apply q_e|apply q_f|apply q_g|apply q_h|apply q_i|apply q_j|apply q_k|apply q_m|apply q_n|apply q_o|apply q_p|refine q_l ?_)|((with_reducible first|refine q_q kpw_ok fun K hK=>?_|refine q_r kpw_ok fun K hK=>?_);simp (maxSteps:=2000000) only [go_sem,↓reduceIte,reduceCtorEq,Nat.reduceLeDiff,Nat.reduceLT,Nat.reduceBEq,Nat.reduceAdd,la, h1, h2, hsv, c1, c2, c3, hf, decide_true, decide_false];(repeat1' with_reducible first|apply And.intro|(intro _;try exact q_v)|(refine hK _ ?_;clear hK K))<;>(try (clear hK K;exact q_u)))|(with_reducible refine q_s ?_;(first|apply q_J|apply q_K|apply q_L|apply q_M|apply q_N|apply q_O)<;>try (intro _;try exact q_v))|with_reducible refine q_t ?_)
      all_goals first | contradiction | omega | exact q_A rfl | exact q_A (by simp [resAV, q_y]) | (simp [dg_zero]; done)
  · have n1 := (okZ_neg h1 be).2 rfl
    (refine q_H Try.func9 (fun F => ?_); simp only [q_z,q_y,Try.ntmps9,Try.results9])
    repeat' (first|(with_reducible first|apply q_a|apply q_b|apply q_c|apply q_d|apply q_e|apply q_f|apply q_g|apply q_h|apply q_i|apply q_j|apply q_k|apply q_m|apply q_n|apply q_o|apply q_p|refine q_l ?_)|((with_reducible first|refine q_q kpw_ok fun K hK=>?_|refine q_r kpw_ok fun K hK=>?_);simp (maxSteps:=2000000) only [go_sem,↓reduceIte,reduceCtorEq,Nat.reduceLeDiff,Nat.reduceLT,Nat.reduceBEq,Nat.reduceAdd,la, h1, h2, hsv, c1, c2, c3, hf, decide_true, decide_false];(repeat1' with_reducible first|apply And.intro|(intro _;try exact q_v)|(refine hK _ ?_;clear hK K))<;>(try (clear hK K;exact q_u)))|(with_reducible refine q_s ?_;(first|apply q_J|apply q_K|apply q_L|apply q_M|apply q_N|apply q_O)<;>try (intro _;try exact q_v))|with_reducible refine q_t ?_)
    all_goals first | contradiction | omega | exact q_A rfl | exact q_A (by simp [resAV, q_y]) | (simp [dg_zero]; done)
set_option maxRecDepth 100000 in
set_option maxHeartbeats 6400000 in
theorem powsy_c (a n : Int) (E M : Nat) (hn : -9223372036854775808 ≤ n ∧ n ≤ 9223372036854775807) (hf : ¬ (dg 4294967296 (a ^ n.toNat).natAbs).length ≤ 128) (la : (dg 4294967296 a.natAbs).length ≤ 128) (hM : 0 < M) (le : (dg 4294967296 E).length ≤ 128) (lm : (dg 4294967296 M).length ≤ 128) :
    Ret Try.prog 9 false [.inr (gI a), .inl (.i .i64 n), .inr [.b false, .ints .u32 (dg 4294967296 E)], .inr [.b false, .ints .u32 (dg 4294967296 M)]] (.c (.b true)) := by
  have hsv : ∀ s, sv 4294967296 s [] = 0 := fun s => sv0 _ _
  have la2 := lenq la
  (obtain ⟨c1, c2, c3⟩ := cl_big hf)
  have oe := okZ_d le
  have om := okZ_d lm
  have nE := Nrm_d E
  have nM := Nrm_d M
  have lm2 := (dg_half' M 128).2 lm
  have hm : (0 : Int) < (M : Int) := by omega
  have hM0 : (M = 0) = False := eq_false (by omega)
  have hM0' : ((M : Int) = 0) = False := eq_false (by omega)
  have ea : ∀ e : Nat, pm a ((e : Int)).natAbs (M : Int) = pm a e (M : Int) := fun e => rfl
  have pos : ∀ e : Nat, (0 ≤ pm a e M ∧ pm a e M < M) := fun e => pm_nonneg hm e
  have lp : ∀ e : Nat, (dg 4294967296 (pm a e M).natAbs).length ≤ 128 := fun e => Nat.le_trans (dg_len_mono (by omega) (by have := pos e; omega)) lm
  have lpE := lp E
  have l1 : (dg 65536 (Int.natAbs 1)).length ≤ 1 := by decide
  rcases Nat.eq_zero_or_pos E with hE | hE
  · subst hE
    have hd := (fdiv_abs (a := 1) (show (M : Int) ≠ 0 by omega))
    have w1 : (1 : Int).fmod (M : Int) = pm a 0 (M : Int) := by
      rw [Int.fmod_eq_emod_of_nonneg 1 (show (0 : Int) ≤ (M : Int) by omega)]; unfold pm; rw [Int.pow_zero]
    have w2 := lenq (lp 0)
    simp only [dg_zero] at oe le ⊢
    (refine q_H Try.func9 (fun F => ?_); simp only [q_z,q_y,Try.ntmps9,Try.results9])
    repeat' (first|(with_reducible first|apply q_a|apply q_b|apply q_c|apply q_d|apply q_e|apply q_f|apply q_g|apply q_h|apply q_i|apply q_j|apply q_k|apply q_m|apply q_n|apply q_o|apply q_p|refine q_l ?_)|((with_reducible first|refine q_q kpw_ok fun K hK=>?_|refine q_r kpw_ok fun K hK=>?_);simp (maxSteps:=2000000) only [go_sem,↓reduceIte,reduceCtorEq,Nat.reduceLeDiff,Nat.reduceLT,Nat.reduceBEq,Nat.reduceAdd,la, oe, om, hsv, sv32d, sgf, hM0, hM0', nE, nM, ea, w1, lpE, lp 0, Int.natAbs_zero, c1, c2, c3, hf, decide_true, decide_false];(repeat1' with_reducible first|apply And.intro|(intro _;try exact q_v)|(refine hK _ ?_;clear hK K))<;>(try (clear hK K;exact q_u)))|(with_reducible refine q_s ?_;(first|apply q_J|apply q_K|apply q_L|apply q_M|apply q_N|apply q_O)<;>try (intro _;try exact q_v))|with_reducible refine q_t ?_)
    all_goals first | contradiction | omega | exact q_A rfl | exact q_A (by simp [resAV, q_y]) | (simp [dg_zero]; done)
  · have hEl := (dg_len_pos 4294967296 E (by omega)).2 hE
    have hE0 : (E = 0) = False := eq_false (by omega)
    have hE0' : ((E : Int) = 0) = False := eq_false (by omega)
    obtain ⟨hl0, hodd⟩ := limb0_odd E
    have hsh := shf_half E
    have lh : (dg 4294967296 (E / 2)).length ≤ 128 := Nat.le_trans (dg_len_mono (by omega) (Nat.div_le_self _ _)) le
    have oh := okZ_d lh
    have le2 := (dg_half' E 128).2 le
    have lh2 := (dg_half' (E / 2) 128).2 lh
    have p1 := lp (E / 2)
    have p2 := lenq p1
    have p3 := zmul_len (B := 65536) (by omega) p2 p2
    have p4 := (fdiv_abs (a := pm a (E / 2) M * pm a (E / 2) M) (show (M : Int) ≠ 0 by omega)).2
    have p5 := Nat.le_trans (dg_len_mono (B := 65536) (by omega) p4) lm2
    have p6 := zmul_len (B := 65536) (by omega) p5 la2
    have p7 := lenq lpE
    rcases Nat.mod_two_eq_zero_or_one E with hb | hb
    · have hodd : (dg 4294967296 E).getD 0 0 % 2 = 0 := by omega
      have hres := pm_half0 a M hm E hb
      (refine q_H Try.func9 (fun F => ?_); simp only [q_z,q_y,Try.ntmps9,Try.results9])
      repeat' (first|(with_reducible first|apply q_a|apply q_b|apply q_c|apply q_d|apply q_e|apply q_f|apply q_g|apply q_h|apply q_i|apply q_j|apply q_k|apply q_m|apply q_n|apply q_o|apply q_p|refine q_l ?_)|((with_reducible first|refine q_q kpw_ok fun K hK=>?_|refine q_r kpw_ok fun K hK=>?_);simp (maxSteps:=2000000) only [go_sem,↓reduceIte,reduceCtorEq,Nat.reduceLeDiff,Nat.reduceLT,Nat.reduceBEq,Nat.reduceAdd,la, oe, om, oh, hsv, sv32d, sgf, hM0, hM0', nE, nM, hE0, hE0', hodd, hsh, hres, ea, lpE, p1, c1, c2, c3, hf, decide_true, decide_false];(repeat1' with_reducible first|apply And.intro|(intro _;try exact q_v)|(refine hK _ ?_;clear hK K))<;>(try (clear hK K;exact q_u)))|(with_reducible refine q_s ?_;(first|apply q_J|apply q_K|apply q_L|apply q_M|apply q_N|apply q_O)<;>try (intro _;try exact q_v))|with_reducible refine q_t ?_)
      all_goals first | contradiction | omega | exact q_A rfl | exact q_A (by simp [resAV, q_y]) | (simp [dg_zero]; done)
    · have hodd : (dg 4294967296 E).getD 0 0 % 2 = 1 := by omega
      have hres := pm_half1 a M hm E hb
      (refine q_H Try.func9 (fun F => ?_); simp only [q_z,q_y,Try.ntmps9,Try.results9])
      repeat' (first|(with_reducible first|apply q_a|apply q_b|apply q_c|apply q_d|apply q_e|apply q_f|apply q_g|apply q_h|apply q_i|apply q_j|apply q_k|apply q_m|apply q_n|apply q_o|apply q_p|refine q_l ?_)|((with_reducible first|refine q_q kpw_ok fun K hK=>?_|refine q_r kpw_ok fun K hK=>?_);simp (maxSteps:=2000000) only [go_sem,↓reduceIte,reduceCtorEq,Nat.reduceLeDiff,Nat.reduceLT,Nat.reduceBEq,Nat.reduceAdd,la, oe, om, oh, hsv, sv32d, sgf, hM0, hM0', nE, nM, hE0, hE0', hodd, hsh, hres, ea, lpE, p1, c1, c2, c3, hf, decide_true, decide_false];(repeat1' with_reducible first|apply And.intro|(intro _;try exact q_v)|(refine hK _ ?_;clear hK K))<;>(try (clear hK K;exact q_u)))|(with_reducible refine q_s ?_;(first|apply q_J|apply q_K|apply q_L|apply q_M|apply q_N|apply q_O)<;>try (intro _;try exact q_v))|with_reducible refine q_t ?_)
      all_goals first | contradiction | omega | exact q_A rfl | exact q_A (by simp [resAV, q_y]) | (simp [dg_zero]; done)
end Go.Proofs.Ythfgapbcdhajiaa
