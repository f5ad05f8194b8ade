import Derived.Test.YtlefdhkjbbdijaaG21
namespace Go.Proofs.NatL
set_option linter.unusedSimpArgs false
set_option linter.unusedVariables false
theorem rd_to {m x : Int} {c d : Nat} (hc : 0 < c) (hd : 0 < d) (hg : Nat.gcd x.natAbs d = 1) (h : m * d = x * c) : rdN m c = x ∧ rdD m c = d := by
  obtain ⟨e1, e2⟩ := rd_eq hc hd h
  obtain ⟨e3, e4⟩ := rd_self hg
  exact ⟨e1.trans e3, e2.trans e4⟩
theorem fld_sub {x y sn : Int} {c d sd : Nat} (h : sn * (c * d : Nat) = (x * d + y * c) * (sd : Int)) : (sn * d - y * sd) * c = x * (sd * d : Nat) := by
  rw [Int.natCast_mul] at h ⊢
  rw [Int.sub_mul]
  have r1 : sn * (d : Int) * c = sn * (c * d) := by ac_rfl
  have r2 : y * (sd : Int) * c = y * c * sd := by ac_rfl
  have r3 : x * ((sd : Int) * d) = x * d * sd := by ac_rfl
  rw [r1, r2, r3, h, Int.add_mul]; omega
theorem fld_dist {x y w sn xn yn : Int} {c d e sd xd yd : Nat} (hc : 0 < c) (hd : 0 < d) (he : 0 < e) (h1 : sn * (c * d : Nat) = (x * d + y * c) * (sd : Int)) (h2 : xn * (c * e : Nat) = (x * w) * (xd : Int)) (h3 : yn * (d * e : Nat) = (y * w) * (yd : Int)) :
    (xn * yd + yn * xd) * (sd * e : Nat) = (sn * w) * (xd * yd : Nat) := by
  have hne : ((c : Int) * d * e) ≠ 0 := Int.mul_ne_zero (Int.mul_ne_zero (by omega) (by omega)) (by omega)
  refine Int.eq_of_mul_eq_mul_left hne ?_
  simp only [Int.natCast_mul] at h1 h2 h3 ⊢
  have e1 : (c : Int) * d * e * (sn * w * (xd * yd)) = sn * (c * d) * (w * xd * yd * e) := by ac_rfl
  rw [e1, h1]
  have e2 : (c : Int) * d * e * ((xn * yd + yn * xd) * (sd * e)) = xn * (c * e) * (d * yd * sd * e) + yn * (d * e) * (c * xd * sd * e) := by
    simp only [Int.add_mul, Int.mul_add]
    have r1 : (c : Int) * d * e * (xn * yd * (sd * e)) = xn * (c * e) * (d * yd * sd * e) := by ac_rfl
    have r2 : (c : Int) * d * e * (yn * xd * (sd * e)) = yn * (d * e) * (c * xd * sd * e) := by ac_rfl
    rw [r1, r2]
  rw [e2, h2, h3]
  simp only [Int.add_mul]
  have r1 : x * w * (xd : Int) * (d * yd * sd * e) = x * d * sd * (w * xd * yd * e) := by ac_rfl
  have r2 : y * w * (yd : Int) * (c * xd * sd * e) = y * c * sd * (w * xd * yd * e) := by ac_rfl
  rw [r1, r2]
theorem fld_div {x w xn : Int} {c e xd : Nat} (h : xn * (c * e : Nat) = (x * w) * (xd : Int)) : (xn * tn w e) * c = x * (xd * w.natAbs : Nat) := by
  rw [Int.natCast_mul] at h ⊢
  have hs : tn w e = (if w < 0 then -1 else 1) * (e : Int) := by
    unfold tn
    split
    · rename_i h; rw [decide_eq_true h, sgt]; omega
    · rename_i h; rw [decide_eq_false h, sgf]; omega
  have ha : (w.natAbs : Int) = (if w < 0 then -1 else 1) * w := by split <;> omega
  rw [hs, ha]
  generalize (if w < 0 then -1 else 1 : Int) = σ at *
  have r1 : xn * (σ * (e : Int)) * c = σ * (xn * (c * e)) := by ac_rfl
  rw [r1, h]; ac_rfl
theorem fQ_of {z : Int} {d k : Nat} (h1 : (dg 4294967296 z.natAbs).length ≤ k) (h2 : (dg 4294967296 d).length ≤ k) (hk : k ≤ 128) : fQ z d := ⟨Nat.le_trans h1 hk, Nat.le_trans h2 hk⟩
end Go.Proofs.NatL
namespace Go.Proofs.Ytlefdhkjbbdijaa
set_option linter.unusedSimpArgs false
set_option linter.unusedVariables false
open Go.Abs Go.Proofs.NatL

def qv5 : Cfg := listT [(10, partsCT), (23, qcheckCT), (34, (qtot2 qgAdd [zQ])), (35, (qtot2 qgSub [zQ])), (36, (qtot2 qgMul [zQ])), (37, (qtot2 qgDiv [zQ])), (11, validQCT), (14, ratioOfCT), (31, sameRatioCT), (24, noIntCT)] [30]
theorem qv5_ok : TblOk Try.prog qv5 := listE_ok (by simp only [List.mem_singleton, forall_eq]; exact flt) ⟨⟨qt20, qt20_ok, rfl⟩, ⟨rq15, rq15_ok, rfl⟩, ⟨qt6, qt6_ok, rfl⟩, ⟨qt7, qt7_ok, rfl⟩, ⟨qt8, qt8_ok, rfl⟩, ⟨qt10, qt10_ok, rfl⟩, ⟨rq1, rq1_ok, rfl⟩, ⟨rq2, rq2_ok, rfl⟩, ⟨rq12, rq12_ok, rfl⟩, ⟨jt15, jt15_ok, rfl⟩, trivial⟩
attribute [go_sem] qv5
set_option maxRecDepth 100000 in
set_option maxHeartbeats 6400000 in
theorem qfield_bad (s1 t1 s2 t2 s3 t3 : Bool) (x1 y1 x2 y2 x3 y3 : List Int) (h1 : x1.length ≤ 140737488355328 ∧ y1.length ≤ 140737488355328) (h2 : x2.length ≤ 140737488355328 ∧ y2.length ≤ 140737488355328) (h3 : x3.length ≤ 140737488355328 ∧ y3.length ≤ 140737488355328) (b1 : InB 4294967296 x1 ∧ InB 4294967296 y1) (b2 : InB 4294967296 x2 ∧ InB 4294967296 y2) (b3 : InB 4294967296 x3 ∧ InB 4294967296 y3)
    (h : okQ s1 x1 t1 y1 = false ∨ okQ s1 x1 t1 y1 = true ∧ okQ s2 x2 t2 y2 = false ∨ okQ s1 x1 t1 y1 = true ∧ okQ s2 x2 t2 y2 = true ∧ okQ s3 x3 t3 y3 = false) :
    Ret Try.prog 6 false [.inr [.b s1, .ints .u32 x1, .b t1, .ints .u32 y1], .inr [.b s2, .ints .u32 x2, .b t2, .ints .u32 y2], .inr [.b s3, .ints .u32 x3, .b t3, .ints .u32 y3]] (.c (.b true)) := by
  obtain ⟨h1, h1'⟩ := h1
  obtain ⟨h2, h2'⟩ := h2
  obtain ⟨h3, h3'⟩ := h3
  obtain ⟨b1, b1'⟩ := b1
  obtain ⟨b2, b2'⟩ := b2
  obtain ⟨b3, b3'⟩ := b3
  rcases h with h | ⟨h, h'⟩ | ⟨h, h', h''⟩
  · (refine q_H Try.func6 (fun F => ?_); simp only [q_z,q_y,Try.ntmps6,Try.results6])
    repeat' (first|(with_reducible first|apply q_a|apply q_b|apply q_c|apply q_d|apply q_e|apply q_f|apply q_g|apply q_h|apply q_i|apply q_j|apply q_k|apply q_m|apply q_n|apply q_o|apply q_p|refine q_l ?_)|((with_reducible first|refine q_q qv5_ok fun K hK=>?_|refine q_r qv5_ok fun K hK=>?_);simp (maxSteps:=2000000) only [go_sem,↓reduceIte,reduceCtorEq,Nat.reduceLeDiff,Nat.reduceLT,Nat.reduceBEq,Nat.reduceAdd,h];(repeat1' with_reducible first|apply And.intro|(intro _;try exact q_v)|(refine hK _ ?_;clear hK K))<;>(try (clear hK K;exact q_u)))|(with_reducible refine q_s ?_;(first|apply q_J|apply q_K|apply q_L|apply q_M|apply q_N|apply q_O)<;>try (intro _;try exact q_v))|with_reducible refine q_t ?_)
    all_goals first | omega | assumption | exact q_A rfl | skip
  · (refine q_H Try.func6 (fun F => ?_); simp only [q_z,q_y,Try.ntmps6,Try.results6])
    repeat' (first|(with_reducible first|apply q_a|apply q_b|apply q_c|apply q_d|apply q_e|apply q_f|apply q_g|apply q_h|apply q_i|apply q_j|apply q_k|apply q_m|apply q_n|apply q_o|apply q_p|refine q_l ?_)|((with_reducible first|refine q_q qv5_ok fun K hK=>?_|refine q_r qv5_ok fun K hK=>?_);simp (maxSteps:=2000000) only [go_sem,↓reduceIte,reduceCtorEq,Nat.reduceLeDiff,Nat.reduceLT,Nat.reduceBEq,Nat.reduceAdd,h, h'];(repeat1' with_reducible first|apply And.intro|(intro _;try exact q_v)|(refine hK _ ?_;clear hK K))<;>(try (clear hK K;exact q_u)))|(with_reducible refine q_s ?_;(first|apply q_J|apply q_K|apply q_L|apply q_M|apply q_N|apply q_O)<;>try (intro _;try exact q_v))|with_reducible refine q_t ?_)
    all_goals first | omega | assumption | exact q_A rfl | skip
  · (refine q_H Try.func6 (fun F => ?_); simp only [q_z,q_y,Try.ntmps6,Try.results6])
    repeat' (first|(with_reducible first|apply q_a|apply q_b|apply q_c|apply q_d|apply q_e|apply q_f|apply q_g|apply q_h|apply q_i|apply q_j|apply q_k|apply q_m|apply q_n|apply q_o|apply q_p|refine q_l ?_)|((with_reducible first|refine q_q qv5_ok fun K hK=>?_|refine q_r qv5_ok fun K hK=>?_);simp (maxSteps:=2000000) only [go_sem,↓reduceIte,reduceCtorEq,Nat.reduceLeDiff,Nat.reduceLT,Nat.reduceBEq,Nat.reduceAdd,h, h', h''];(repeat1' with_reducible first|apply And.intro|(intro _;try exact q_v)|(refine hK _ ?_;clear hK K))<;>(try (clear hK K;exact q_u)))|(with_reducible refine q_s ?_;(first|apply q_J|apply q_K|apply q_L|apply q_M|apply q_N|apply q_O)<;>try (intro _;try exact q_v))|with_reducible refine q_t ?_)
    all_goals first | omega | assumption | exact q_A rfl | skip
abbrev cQ4 (z : Int) (d : Nat) : Bool × List Int × Bool × List Int := (decide (z < 0), dg 4294967296 z.natAbs, false, dg 4294967296 d)
set_option maxRecDepth 100000 in
set_option maxHeartbeats 12800000 in
theorem qfield_ok (x y w : Int) (c d e : Nat) (hx : RT x c) (hy : RT y d) (hw : RT w e) :
    Ret Try.prog 6 false [.inr (gQ x c), .inr (gQ y d), .inr (gQ w e)] (.c (.b true)) := by
  have o1 := okQ_g hx
  have o2 := okQ_g hy
  have o3 := okQ_g hw
  obtain ⟨hc, lx, lc⟩ := RT_parts hx
  obtain ⟨hd, ly, ld⟩ := RT_parts hy
  obtain ⟨he, lw, le⟩ := RT_parts hw
  (refine q_H Try.func6 (fun F => ?_); simp only [q_z,q_y,Try.ntmps6,Try.results6])
  repeat' (first|(with_reducible first|apply q_a|apply q_b|apply q_c|apply q_d|apply q_e|apply q_f|apply q_g|apply q_h|apply q_i|apply q_j|apply q_k|apply q_m|apply q_n|apply q_o|apply q_p|refine q_l ?_)|((with_reducible first|refine q_q qv5_ok fun K hK=>?_|refine q_r qv5_ok fun K hK=>?_);simp (maxSteps:=2000000) only [go_sem,↓reduceIte,reduceCtorEq,Nat.reduceLeDiff,Nat.reduceLT,Nat.reduceBEq,Nat.reduceAdd,o1, o2, o3];(repeat1' with_reducible first|apply And.intro|(intro _;try exact q_v)|(refine hK _ ?_;clear hK K))<;>(try (clear hK K;exact q_u)))|(with_reducible refine q_s ?_;(first|apply q_J|apply q_K|apply q_L|apply q_M|apply q_N|apply q_O)<;>try (intro _;try exact q_v))|with_reducible refine q_t ?_)
  all_goals first | omega | assumption | skip
  refine q_G (ι := { i : Nat // i ≤ 3 ∧ ∀ j, j < i → ([cQ4 x c, cQ4 y d, cQ4 w e].getD j q0).2.1.length ≤ 12 ∧ ([cQ4 x c, cQ4 y d, cQ4 w e].getD j q0).2.2.2.length ≤ 12 })
    (fun i => ⟨154, [(3, .bx 0 0), (4, .bx 1 0), (5, .bx 2 0), (6, .c (.b false)), (34, .c (.sl 4 ([cQ4 x c, cQ4 y d, cQ4 w e].map rowQ))), (35, .c (.i .i64 3)), (36, .c (.i .i64 (i.1 : Nat)))], ⟨[(2, aQ w e), (1, aQ y d), (0, aQ x c)], [], []⟩, 3⟩) (fun i => 3 - i.1) ⟨0, by omega, fun j h => by omega⟩ ?_ ?_
  · exact q_D
  rintro ⟨i, g1, g2⟩
  simp only at g1 g2 ⊢
  rcases Nat.lt_or_ge i 3 with hi | hi
  · have hr := rowQ_get [cQ4 x c, cQ4 y d, cQ4 w e] i hi
    have hml : ([cQ4 x c, cQ4 y d, cQ4 w e].map rowQ).length = 3 := rfl
    generalize hl : [cQ4 x c, cQ4 y d, cQ4 w e] = l at *
    repeat' (first|(with_reducible first|apply q_a|apply q_b|apply q_c|apply q_d|apply q_e|apply q_f|apply q_g|apply q_h|apply q_i|apply q_j|apply q_k|apply q_m|apply q_n|apply q_o|apply q_p|refine q_l ?_)|((with_reducible first|refine q_q qv5_ok fun K hK=>?_|refine q_r qv5_ok fun K hK=>?_);simp (maxSteps:=2000000) only [go_sem,↓reduceIte,reduceCtorEq,Nat.reduceLeDiff,Nat.reduceLT,Nat.reduceBEq,Nat.reduceAdd,hr, hml];(repeat1' with_reducible first|apply And.intro|(intro _;try exact q_v)|(refine hK _ ?_;clear hK K))<;>(try (clear hK K;exact q_u)))|(with_reducible refine q_s ?_;(first|apply q_J|apply q_K|apply q_L|apply q_M|apply q_N|apply q_O)<;>try (intro _;try exact q_v))|with_reducible refine q_t ?_)
    all_goals first | omega | assumption | exact q_A rfl | skip
    all_goals
      refine q_F ⟨i + 1, by omega, fun j hj => ?_⟩ ?_ (by simp only; omega)
      · rcases Nat.lt_or_ge j i with k | k
        · exact g2 j k
        · obtain rfl : j = i := by omega
          exact ⟨by omega, by omega⟩
      · exact q_D
  · obtain rfl : i = 3 := by omega
    obtain ⟨m1, m2⟩ := g2 0 (by omega)
    obtain ⟨m3, m4⟩ := g2 1 (by omega)
    obtain ⟨m5, m6⟩ := g2 2 (by omega)
    have m1 : (dg 4294967296 x.natAbs).length ≤ 12 := m1
    have m2 : (dg 4294967296 c).length ≤ 12 := m2
    have m3 : (dg 4294967296 y.natAbs).length ≤ 12 := m3
    have m4 : (dg 4294967296 d).length ≤ 12 := m4
    have m5 : (dg 4294967296 w.natAbs).length ≤ 12 := m5
    have m6 : (dg 4294967296 e).length ≤ 12 := m6

    have hxg := hx.2.1
    -- the sum
    have cd0 := Nat.mul_pos hc hd
    have ce0 := Nat.mul_pos hc he
    have de0 := Nat.mul_pos hd he
    have u1 := zmul_len (B := 4294967296) (by omega) m1 (show (dg 4294967296 ((d : Int)).natAbs).length ≤ 12 by rw [Int.natAbs_natCast]; exact m4)
    have u2 := zmul_len (B := 4294967296) (by omega) m3 (show (dg 4294967296 ((c : Int)).natAbs).length ≤ 12 by rw [Int.natAbs_natCast]; exact m2)
    have u3 := zadd_len (B := 4294967296) (by omega) u1 u2
    have u4 := mul_len (B := 4294967296) (by omega) m2 m4
    have s1 := rdN_len (B := 4294967296) (by omega) (x * d + y * c) cd0 u3
    have s2 := rdD_len (B := 4294967296) (by omega) (x * d + y * c) u4
    have s3 := rd_val (x * d + y * c) (c * d)
    have s4 := rdD_pos (x * d + y * c) cd0
    have s5 := rd_gcd (x * d + y * c) cd0
    generalize e1 : rdN (x * d + y * c) (c * d) = sn at *
    generalize e2 : rdD (x * d + y * c) (c * d) = sd at *
    obtain ⟨a1, a2, a3, a4⟩ := f_fit (fQ_of (k := 25) s1 (Nat.le_trans s2 (by omega)) (by omega))
    have oS : okQ (decide (sn < 0)) (dg 4294967296 sn.natAbs) false (dg 4294967296 sd) = true := okQ_g ⟨s4, s5, Nat.le_trans s1 (by omega), Nat.le_trans s2 (by omega)⟩
    -- the difference
    obtain ⟨e3, e4⟩ := rd_to (m := sn * d - y * sd) (x := x) (c := sd * d) (d := c) (Nat.mul_pos s4 hd) hc hxg (fld_sub s3)
    obtain ⟨a5, a6, a7, a8⟩ := f_fit (z := x) (d := c) ⟨lx, lc⟩
    -- the products
    have v1 := zmul_len (B := 4294967296) (by omega) m1 m5
    have v2 := mul_len (B := 4294967296) (by omega) m2 m6
    have t1 := rdN_len (B := 4294967296) (by omega) (x * w) ce0 v1
    have t2 := rdD_len (B := 4294967296) (by omega) (x * w) v2
    have t3 := rd_val (x * w) (c * e)
    have t4 := rdD_pos (x * w) ce0
    have t5 := rd_gcd (x * w) ce0
    generalize e5 : rdN (x * w) (c * e) = xn at *
    generalize e6 : rdD (x * w) (c * e) = xd at *
    obtain ⟨a9, a10, a11, a12⟩ := f_fit (fQ_of (k := 24) t1 t2 (by omega))
    have oX : okQ (decide (xn < 0)) (dg 4294967296 xn.natAbs) false (dg 4294967296 xd) = true := okQ_g ⟨t4, t5, Nat.le_trans t1 (by omega), Nat.le_trans t2 (by omega)⟩
    have v3 := zmul_len (B := 4294967296) (by omega) m3 m5
    have v4 := mul_len (B := 4294967296) (by omega) m4 m6
    have r1 := rdN_len (B := 4294967296) (by omega) (y * w) de0 v3
    have r2 := rdD_len (B := 4294967296) (by omega) (y * w) v4
    have r3 := rd_val (y * w) (d * e)
    have r4 := rdD_pos (y * w) de0
    have r5 := rd_gcd (y * w) de0
    generalize e7 : rdN (y * w) (d * e) = yn at *
    generalize e8 : rdD (y * w) (d * e) = yd at *
    obtain ⟨a13, a14, a15, a16⟩ := f_fit (fQ_of (k := 24) r1 r2 (by omega))
    have oY : okQ (decide (yn < 0)) (dg 4294967296 yn.natAbs) false (dg 4294967296 yd) = true := okQ_g ⟨r4, r5, Nat.le_trans r1 (by omega), Nat.le_trans r2 (by omega)⟩
    have se0 := Nat.mul_pos s4 he
    have w1 := zmul_len (B := 4294967296) (by omega) s1 m5
    have w2 := mul_len (B := 4294967296) (by omega) s2 m6
    have p1 := rdN_len (B := 4294967296) (by omega) (sn * w) se0 w1
    have p2 := rdD_len (B := 4294967296) (by omega) (sn * w) w2
    have p4 := rdD_pos (sn * w) se0
    have p5 := rd_gcd (sn * w) se0
    obtain ⟨e11, e12⟩ := rd_eq (m := xn * yd + yn * xd) (n := sn * w) (c := xd * yd) (d := sd * e) (Nat.mul_pos t4 r4) se0 (fld_dist hc hd he s3 t3 r3)
    generalize e9 : rdN (sn * w) (sd * e) = pn at *
    generalize e10 : rdD (sn * w) (sd * e) = pd at *
    obtain ⟨a17, a18, a19, a20⟩ := f_fit (fQ_of (k := 40) (Nat.le_trans p1 (by omega)) (Nat.le_trans p2 (by omega)) (by omega))
    have oP : okQ (decide (pn < 0)) (dg 4294967296 pn.natAbs) false (dg 4294967296 pd) = true := okQ_g ⟨p4, p5, Nat.le_trans p1 (by omega), Nat.le_trans p2 (by omega)⟩
    have lP1 : (dg 65536 pn.natAbs).length ≤ 256 := (dg_half' _ 128).2 (Nat.le_trans p1 (by omega))
    have lP2 : (dg 65536 pd).length ≤ 256 := (dg_half' _ 128).2 (Nat.le_trans p2 (by omega))
    obtain ⟨mx, mc⟩ := RT_len65 hx
    have z1 := Nrm_g w
    by_cases h0 : w = 0
    · clear s3 s5 t3 t5 r3 r5 p5 u1 u2 u3 u4 v1 v2 v3 v4 w1 w2 hx hy hw
      repeat' (first|(with_reducible first|apply q_a|apply q_b|apply q_c|apply q_d|apply q_e|apply q_f|apply q_g|apply q_h|apply q_i|apply q_j|apply q_k|apply q_m|apply q_n|apply q_o|apply q_p|refine q_l ?_)|((with_reducible first|refine q_q qv5_ok fun K hK=>?_|refine q_r qv5_ok fun K hK=>?_);simp (maxSteps:=2000000) only [go_sem,↓reduceIte,reduceCtorEq,Nat.reduceLeDiff,Nat.reduceLT,Nat.reduceBEq,Nat.reduceAdd,o1, o2, o3, oS, oX, oY, oP, sv32, V32, sv65, V65, e1, e2, e3, e4, e5, e6, e7, e8, e9, e10, e11, e12, a1, a2, a3, a4, a5, a6, a7, a8, a9, a10, a11, a12, a13, a14, a15, a16, a17, a18, a19, a20, Nrm_g, Nrm_n, sv32n];(repeat1' with_reducible first|apply And.intro|(intro _;try exact q_v)|(refine hK _ ?_;clear hK K))<;>(try (clear hK K;exact q_u)))|(with_reducible refine q_s ?_;(first|apply q_J|apply q_K|apply q_L|apply q_M|apply q_N|apply q_O)<;>try (intro _;try exact q_v))|with_reducible refine q_t ?_)
      all_goals first | omega | assumption | exact q_A rfl | exact q_A (by simp [resAV, q_y]) | skip
    · obtain ⟨e13, e14⟩ := rd_to (m := xn * tn w e) (x := x) (c := xd * w.natAbs) (d := c) (Nat.mul_pos t4 (by omega)) hc hxg (fld_div t3)
      clear s3 s5 t3 t5 r3 r5 p5 u1 u2 u3 u4 v1 v2 v3 v4 w1 w2 hx hy hw
      repeat' (first|(with_reducible first|apply q_a|apply q_b|apply q_c|apply q_d|apply q_e|apply q_f|apply q_g|apply q_h|apply q_i|apply q_j|apply q_k|apply q_m|apply q_n|apply q_o|apply q_p|refine q_l ?_)|((with_reducible first|refine q_q qv5_ok fun K hK=>?_|refine q_r qv5_ok fun K hK=>?_);simp (maxSteps:=2000000) only [go_sem,↓reduceIte,reduceCtorEq,Nat.reduceLeDiff,Nat.reduceLT,Nat.reduceBEq,Nat.reduceAdd,o1, o2, o3, oS, oX, oY, oP, sv32, V32, sv65, V65, e1, e2, e3, e4, e5, e6, e7, e8, e9, e10, e11, e12, e13, e14, a1, a2, a3, a4, a5, a6, a7, a8, a9, a10, a11, a12, a13, a14, a15, a16, a17, a18, a19, a20, Nrm_g, Nrm_n, sv32n];(repeat1' with_reducible first|apply And.intro|(intro _;try exact q_v)|(refine hK _ ?_;clear hK K))<;>(try (clear hK K;exact q_u)))|(with_reducible refine q_s ?_;(first|apply q_J|apply q_K|apply q_L|apply q_M|apply q_N|apply q_O)<;>try (intro _;try exact q_v))|with_reducible refine q_t ?_)
      all_goals first | omega | assumption | exact q_A rfl | exact q_A (by simp [resAV, q_y]) | skip
end Go.Proofs.Ytlefdhkjbbdijaa
