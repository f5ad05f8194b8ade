import Derived.Test.YtlefdhkjbbdijaaG21
namespace Go.Proofs.NatL
set_option linter.unusedSimpArgs false
set_option linter.unusedVariables false
section
variable {X : Int} {D m : Nat}
theorem Nr.goX (h0 : 0 < m) (hm : m < D) (hg : Nat.gcd X.natAbs D = 1) : ∀ (n : Nat) (e : Nr X D m), e.v.toNat ≤ n → (nrGo X D m n e.a e.b e.p e.q e.u e.v).1.natAbs ≤ X.natAbs
  | 0, e, h => by have := e.v0; omega
  | n + 1, e, h => by
    have hx := Nr.x0 h0 hm hg
    unfold nrGo
    by_cases hQ : e.b + e.q * e.u.fdiv e.v ≤ m
    · rw [if_pos hQ]
      obtain ⟨e', g1, g2, g3, g4, g5, g6, g7⟩ := e.next h0 hm hg hQ
      have := Nr.goX h0 hm hg n e' (by have := e'.v0; omega)
      rw [g1, g2, g3, g4, g5, g6] at this
      exact this
    · rw [if_neg hQ]
      obtain ⟨k1, k2, k3, k4, k5, k6⟩ := e.stop h0 hQ
      obtain ⟨_, m1, _⟩ := e.fits hm hx (.inr ⟨k2, by omega⟩) k4
      split
      · exact e.pX
      · exact m1
theorem bN_le (h0 : 0 < m) (hm : m < D) (hg : Nat.gcd X.natAbs D = 1) : (bN X D m).natAbs ≤ X.natAbs :=
  Nr.goX h0 hm hg D (Nr.start h0 hm hg) (by show (D : Int).toNat ≤ D; omega)
theorem best_RT (h : RT X D) (h0 : 0 < m) (hm : m < D) : RT (bN X D m) (bD X D m) := by
  have hb := best_spec h0 hm h.2.1
  refine ⟨hb.1.1, hb.1.2.2, Nat.le_trans (dg_len_mono (by omega) (bN_le h0 hm h.2.1)) h.2.2.1, Nat.le_trans (dg_len_mono (by omega) (by have := hb.1.2.1; omega)) h.2.2.2⟩
end
theorem rd_le {m n : Int} {c d : Nat} (hc : 0 < c) (hd : 0 < d) (h : m.natAbs * d ≤ n.natAbs * c) : (rdN m c).natAbs * rdD n d ≤ (rdN n d).natAbs * rdD m c := by
  have e1 := rd_n m c
  have e2 := rd_d m c
  have e3 := rd_n n d
  have e4 := rd_d n d
  have g1 := rd_gpos m hc
  have g2 := rd_gpos n hd
  have a1 := congrArg Int.natAbs e1
  have a3 := congrArg Int.natAbs e3
  rw [Int.natAbs_mul, Int.natAbs_natCast] at a1 a3
  generalize Nat.gcd m.natAbs c = g at *
  generalize Nat.gcd n.natAbs d = k at *
  generalize (rdN m c).natAbs = p at *
  generalize (rdN n d).natAbs = q at *
  generalize rdD m c = r at *
  generalize rdD n d = s at *
  rw [a1, a3, e2, e4] at h
  have h1 : p * s * (g * k) ≤ q * r * (g * k) := by
    have r1 : p * g * (s * k) = p * s * (g * k) := by ac_rfl
    have r2 : q * k * (r * g) = q * r * (g * k) := by ac_rfl
    omega
  exact Nat.le_of_mul_le_mul_right h1 (Nat.mul_pos g1 g2)
theorem best_half {X s : Int} {D m t : Nat} (hD : 0 < D) (h0 : 0 < m) (h : Best X D m s t) : dl X D s t * (2 * m) ≤ D * t := by
  have q := Int.mul_fdiv_add_fmod (X * m) D
  have q1 := Int.fmod_nonneg_of_pos (X * m) (show (0 : Int) < D by omega)
  have q2 := Int.fmod_lt_of_pos (X * m) (show (0 : Int) < D by omega)
  rw [Int.mul_comm] at q
  generalize (X * m).fdiv D = f at *
  generalize (X * m).fmod D = r at *
  have k1 := best_all h f h0 (Nat.le_refl _)
  have k2 := best_all h (f + 1) h0 (Nat.le_refl _)
  have d1 : dl X D f m = r.natAbs := by unfold dl; congr 1; omega
  have d2 : dl X D (f + 1) m = (D - r).natAbs := by unfold dl; rw [Int.add_mul, Int.one_mul]; omega
  rw [d1] at k1
  rw [d2] at k2
  have k3 : dl X D s t * m + dl X D s t * m ≤ (r.natAbs + (D - r).natAbs) * t := by rw [Nat.add_mul]; omega
  have k4 : r.natAbs + (D - r).natAbs = D := by omega
  rw [k4] at k3
  have : dl X D s t * (2 * m) = dl X D s t * m + dl X D s t * m := by rw [Nat.two_mul, Nat.mul_add]
  omega
theorem dl_self (X : Int) (D : Nat) : dl X D X D = 0 := by unfold dl; rw [Int.sub_self]; rfl
end Go.Proofs.NatL
namespace Go.Proofs.Ytlefdhkjbbdijaa
set_option linter.unusedSimpArgs false
set_option linter.unusedVariables false
open Go.Abs Go.Proofs.NatL

theorem nr_RT {X : Int} {D : Nat} {m : Int} (h : RT X D) (h0 : 0 < m) : RT (nrN X D m) (nrD X D m) := by
  rcases Int.lt_or_ge' m D with k | k
  · obtain ⟨e1, e2⟩ := nr_lt (X := X) k
    rw [e1, e2]
    exact best_RT h (by omega) (by omega)
  · obtain ⟨e1, e2⟩ := nr_ge (X := X) k
    rw [e1, e2]; exact h
theorem nr_half {X : Int} {D : Nat} {m : Int} (h : RT X D) (h0 : 0 < m) : dl X D (nrN X D m) (nrD X D m) * (2 * m.natAbs) ≤ D * nrD X D m := by
  rcases Int.lt_or_ge' m D with k | k
  · obtain ⟨e1, e2⟩ := nr_lt (X := X) k
    rw [e1, e2]
    exact best_half h.1 (by omega) (best_spec (by omega) (by omega) h.2.1)
  · obtain ⟨e1, e2⟩ := nr_ge (X := X) k
    rw [e1, e2, dl_self, Nat.zero_mul]; exact Nat.zero_le _
theorem nr_mono {X : Int} {D : Nat} {m n : Int} (h : RT X D) (h0 : 0 < m) (hmn : m ≤ n) : dl X D (nrN X D n) (nrD X D n) * nrD X D m ≤ dl X D (nrN X D m) (nrD X D m) * nrD X D n := by
  rcases Int.lt_or_ge' n D with k | k
  · have k' : m < D := by omega
    obtain ⟨e1, e2⟩ := nr_lt (X := X) k
    obtain ⟨e3, e4⟩ := nr_lt (X := X) k'
    have b1 := best_spec (X := X) (D := D) (m := m.natAbs) (by omega) (by omega) h.2.1
    have b2 := best_spec (X := X) (D := D) (m := n.natAbs) (by omega) (by omega) h.2.1
    rw [e1, e2, e3, e4]
    exact best_all b2 _ b1.1.1 (by have := b1.1.2.1; omega)
  · obtain ⟨e1, e2⟩ := nr_ge (X := X) k
    rw [e1, e2, dl_self, Nat.zero_mul]; exact Nat.zero_le _
theorem dl_sub (X s : Int) (D t : Nat) : (X * t - s * D).natAbs = dl X D s t := rfl
theorem cmpZ_nn {a b : Nat} (h : a ≤ b) : cmpZ (a : Int) (b : Int) ≤ 0 := (cmpZ_le0 _ _).2 (by omega)
def qv4 : Cfg := listT [(10, partsCT), (11, validQCT), (13, iOfCT), (12, nearCT), (14, ratioOfCT), (15, (qT2 20000 dpos2 lesT)), (16, tAbsCT), (17, (qT2 20000 dany2 ordT)), (18, numberCT), (19, doubleCT)] [30]
theorem qv4_ok : TblOk Try.prog qv4 := listE_ok (by simp only [List.mem_singleton, forall_eq]; exact flt) ⟨⟨qt20, qt20_ok, rfl⟩, ⟨rq1, rq1_ok, rfl⟩, ⟨iu1, iu1_ok, rfl⟩, ⟨qt19, qt19_ok, rfl⟩, ⟨rq2, rq2_ok, rfl⟩, ⟨rq7, rq7_ok, rfl⟩, ⟨rq10, rq10_ok, rfl⟩, ⟨rq6, rq6_ok, rfl⟩, ⟨jt12, jt12_ok, rfl⟩, ⟨jt12, jt12_ok, rfl⟩, trivial⟩
attribute [go_sem] qv4
set_option maxRecDepth 100000 in
set_option maxHeartbeats 12800000 in
theorem qnearer_ret (s t : Bool) (xs ys : List Int) (m n : Int) (h : xs.length ≤ 140737488355328 ∧ ys.length ≤ 140737488355328) (b : InB 4294967296 xs ∧ InB 4294967296 ys) (hm : -9223372036854775808 ≤ m ∧ m ≤ 9223372036854775807) (hn : -9223372036854775808 ≤ n ∧ n ≤ 9223372036854775807) :
    Ret Try.prog 3 false [.inr [.b s, .ints .u32 xs, .b t, .ints .u32 ys], .inl (.i .i64 m), .inl (.i .i64 n)] (.c (.b true)) := by
  obtain ⟨h1, h2⟩ := h
  obtain ⟨b1, b2⟩ := b
  cases o1 : okQ s xs t ys
  · (refine q_H Try.func3 (fun F => ?_); simp only [q_z,q_y,Try.ntmps3,Try.results3])
    repeat' (first|(with_reducible first|apply q_a|apply q_b|apply q_c|apply q_d|apply q_e|apply q_f|apply q_g|apply q_h|apply q_i|apply q_j|apply q_k|apply q_m|apply q_n|apply q_o|apply q_p|refine q_l ?_)|((with_reducible first|refine q_q qv4_ok fun K hK=>?_|refine q_r qv4_ok fun K hK=>?_);simp (maxSteps:=2000000) only [go_sem,↓reduceIte,reduceCtorEq,Nat.reduceLeDiff,Nat.reduceLT,Nat.reduceBEq,Nat.reduceAdd,o1];(repeat1' with_reducible first|apply And.intro|(intro _;try exact q_v)|(refine hK _ ?_;clear hK K))<;>(try (clear hK K;exact q_u)))|(with_reducible refine q_s ?_;(first|apply q_J|apply q_K|apply q_L|apply q_M|apply q_N|apply q_O)<;>try (intro _;try exact q_v))|with_reducible refine q_t ?_)
    all_goals first | omega | assumption | exact q_A rfl | skip
  by_cases hb : xs.length ≤ 60 ∧ ys.length ≤ 60 ∧ 1 ≤ m ∧ 0 ≤ n ∧ m ≤ 1152921504606846976 ∧ n ≤ 1152921504606846976
  · obtain ⟨e1, hx⟩ := gQ_of o1 b1 b2
    rw [e1]
    obtain ⟨hb1, hb2, hb3, hb4, hb5, hb6⟩ := hb
    have hb1 : (dg 4294967296 (sv 4294967296 s xs).natAbs).length ≤ 60 := by
      simp only [gQ, List.cons.injEq, C.ints.injEq, true_and, and_true] at e1
      rw [← e1.2.1]; exact hb1
    have hb2 : (dg 4294967296 (V 4294967296 ys)).length ≤ 60 := by
      simp only [gQ, List.cons.injEq, C.ints.injEq, true_and, and_true] at e1
      rw [← e1.2.2.2]; exact hb2
    clear e1
    generalize sv 4294967296 s xs = X at *
    generalize V 4294967296 ys = D at *
    have o0 := okQ_g hx
    have hD := hx.1
    obtain ⟨mX, mD⟩ := RT_len65 hx
    have lm : (dg 4294967296 m.natAbs).length ≤ 128 := Nat.le_trans (dg_len_le (B := 4294967296) (by omega) _ 2 (by omega)) (by omega)
    have ln : (dg 4294967296 (m + n).natAbs).length ≤ 128 := Nat.le_trans (dg_len_le (B := 4294967296) (by omega) _ 2 (by omega)) (by omega)
    have om := (okZ_g m).trans (decide_eq_true lm)
    have on := (okZ_g (m + n)).trans (decide_eq_true ln)
    have m0 : 0 < m := by omega
    have n0 : 0 < m + n := by omega
    have ry := nr_RT hx m0
    have rz := nr_RT hx n0
    have oy := okQ_g ry
    have oz := okQ_g rz
    have hl := nr_half hx m0
    have hmo := nr_mono hx m0 (show m ≤ m + n by omega)
    obtain ⟨my, my'⟩ := RT_len65 ry
    obtain ⟨mz, mz'⟩ := RT_len65 rz
    have hty := ry.1
    have htz := rz.1
    obtain ⟨_, ly, ly'⟩ := RT_parts ry
    obtain ⟨_, lz, lz'⟩ := RT_parts rz
    generalize i1 : nrN X D m = y at *
    generalize i2 : nrD X D m = ty at *
    generalize i3 : nrN X D (m + n) = z at *
    generalize i4 : nrD X D (m + n) = tz at *
    have w0 : (dg 65536 m.natAbs).length ≤ 4 := dg_len_le (by omega) _ 4 (by omega)
    have w1 : (dg 65536 (2 * m.natAbs)).length ≤ 4 := dg_len_le (by omega) _ 4 (by omega)
    have u1 := zmul_len (B := 65536) (by omega) mX (show (dg 65536 ((ty : Int)).natAbs).length ≤ 256 by rw [Int.natAbs_natCast]; exact my')
    have u2 := zmul_len (B := 65536) (by omega) my (show (dg 65536 ((D : Int)).natAbs).length ≤ 256 by rw [Int.natAbs_natCast]; exact mD)
    have u3 := zmul_len (B := 65536) (by omega) mX (show (dg 65536 ((tz : Int)).natAbs).length ≤ 256 by rw [Int.natAbs_natCast]; exact mz')
    have u4 := zmul_len (B := 65536) (by omega) mz (show (dg 65536 ((D : Int)).natAbs).length ≤ 256 by rw [Int.natAbs_natCast]; exact mD)
    have v1 : (dg 65536 (X * ty - y * D).natAbs).length ≤ 513 := by
      have := zadd_len (B := 65536) (by omega) u1 (show (dg 65536 (-(y * (D : Int))).natAbs).length ≤ 256 + 256 by rw [Int.natAbs_neg]; exact u2)
      rwa [← Int.sub_eq_add_neg] at this
    have v2 : (dg 65536 (X * tz - z * D).natAbs).length ≤ 513 := by
      have := zadd_len (B := 65536) (by omega) u3 (show (dg 65536 (-(z * (D : Int))).natAbs).length ≤ 256 + 256 by rw [Int.natAbs_neg]; exact u4)
      rwa [← Int.sub_eq_add_neg] at this
    have v3 := mul_len (B := 65536) (by omega) mD my'
    have v4 := mul_len (B := 65536) (by omega) mD mz'
    have p1 := Nat.mul_pos hD hty
    have p2 := Nat.mul_pos hD htz
    have y1 := rdN_len (B := 65536) (by omega) (X * ty - y * D) p1 v1
    have y2 := rdN_len (B := 65536) (by omega) (X * tz - z * D) p2 v2
    have y3 := rdD_len (B := 65536) (by omega) (X * ty - y * D) v3
    have y4 := rdD_len (B := 65536) (by omega) (X * tz - z * D) v4
    have c1 : cmpZ ((rdN (X * tz - z * D) (D * tz)).natAbs * (rdD (X * ty - y * D) (D * ty) : Nat)) ((rdN (X * ty - y * D) (D * ty)).natAbs * (rdD (X * tz - z * D) (D * tz) : Nat)) ≤ 0 := by
      have := rd_le (m := X * tz - z * D) (n := X * ty - y * D) p2 p1 (by
        rw [dl_sub, dl_sub]
        have k1 : dl X D z tz * (D * ty) = dl X D z tz * ty * D := by ac_rfl
        have k2 : dl X D y ty * (D * tz) = dl X D y ty * tz * D := by ac_rfl
        rw [k1, k2]; exact Nat.mul_le_mul_right _ hmo)
      have := cmpZ_nn this
      rwa [Int.natCast_mul, Int.natCast_mul] at this
    have c2 : cmpZ ((rdN (X * ty - y * D) (D * ty)).natAbs * (2 * m.natAbs : Nat)) (1 * (rdD (X * ty - y * D) (D * ty) : Nat)) ≤ 0 := by
      have := rd_le (m := X * ty - y * D) (n := 1) (c := D * ty) (d := 2 * m.natAbs) p1 (by omega) (by
        rw [dl_sub]
        have : (1 : Int).natAbs * (D * ty) = D * ty := Nat.one_mul _
        rw [this]; exact hl)
      have g1 : Nat.gcd (1 : Int).natAbs (2 * m.natAbs) = 1 := Nat.gcd_one_left _
      obtain ⟨g2, g3⟩ := rd_self g1
      rw [g2, g3] at this
      have := cmpZ_nn this
      rwa [Int.natCast_mul, Int.natCast_mul] at this
    have c3 := decide_eq_true c2
    have w2 : (dg 65536 (1 : Int).natAbs).length ≤ 1 := by decide
    clear hl hmo hx ry rz u1 u2 u3 u4 v1 v2 v3 v4
    have sf := sgf (rdN (X * ty - y * D) (D * ty)).natAbs
    have sf2 := sgf (rdN (X * tz - z * D) (D * tz)).natAbs
    (refine q_H Try.func3 (fun F => ?_); simp only [q_z,q_y,Try.ntmps3,Try.results3])
    repeat' (first|(with_reducible first|apply q_a|apply q_b|apply q_c|apply q_d|apply q_e|apply q_f|apply q_g|apply q_h|apply q_i|apply q_j|apply q_k|apply q_m|apply q_n|apply q_o|apply q_p|refine q_l ?_)|((with_reducible first|refine q_q qv4_ok fun K hK=>?_|refine q_r qv4_ok fun K hK=>?_);simp (maxSteps:=2000000) only [go_sem,↓reduceIte,reduceCtorEq,Nat.reduceLeDiff,Nat.reduceLT,Nat.reduceBEq,Nat.reduceAdd,o0, om, on, oy, oz, m0, n0, i1, i2, i3, i4, sv32, V32, sv65, V65, svz65, sv65d, sf, sf2, c3];(repeat1' with_reducible first|apply And.intro|(intro _;try exact q_v)|(refine hK _ ?_;clear hK K))<;>(try (clear hK K;exact q_u)))|(with_reducible refine q_s ?_;(first|apply q_J|apply q_K|apply q_L|apply q_M|apply q_N|apply q_O)<;>try (intro _;try exact q_v))|with_reducible refine q_t ?_)
    all_goals first | omega | assumption | exact q_A rfl | skip
  · (refine q_H Try.func3 (fun F => ?_); simp only [q_z,q_y,Try.ntmps3,Try.results3])
    repeat' (first|(with_reducible first|apply q_a|apply q_b|apply q_c|apply q_d|apply q_e|apply q_f|apply q_g|apply q_h|apply q_i|apply q_j|apply q_k|apply q_m|apply q_n|apply q_o|apply q_p|refine q_l ?_)|((with_reducible first|refine q_q qv4_ok fun K hK=>?_|refine q_r qv4_ok fun K hK=>?_);simp (maxSteps:=2000000) only [go_sem,↓reduceIte,reduceCtorEq,Nat.reduceLeDiff,Nat.reduceLT,Nat.reduceBEq,Nat.reduceAdd,o1];(repeat1' with_reducible first|apply And.intro|(intro _;try exact q_v)|(refine hK _ ?_;clear hK K))<;>(try (clear hK K;exact q_u)))|(with_reducible refine q_s ?_;(first|apply q_J|apply q_K|apply q_L|apply q_M|apply q_N|apply q_O)<;>try (intro _;try exact q_v))|with_reducible refine q_t ?_)
    all_goals first | omega | assumption | exact q_A rfl | skip
end Go.Proofs.Ytlefdhkjbbdijaa
