import Derived.Test.YtlefdhkjbbdijaaG21
import Derived.Test.YtlefdhkjbbdijaaG26
namespace Go.Proofs.NatL
set_option linter.unusedSimpArgs false
set_option linter.unusedVariables false
theorem rd_to' {m x : Int} {c d : Nat} (hc : 0 < c) (hd : 0 < d) (hg : Nat.gcd x.natAbs d = 1) (h : m * d = x * c) : rdN m c = x ∧ rdD m c = d := by
  obtain ⟨e1, e2⟩ := rd_eq hc hd h
  obtain ⟨e3, e4⟩ := rd_self hg
  exact ⟨e1.trans e3, e2.trans e4⟩
def uv : Nat → Int → Int → Int × Int
  | 0, z, d => (z, d)
  | i + 1, z, d => uv i d (z.fmod d)
theorem uv_succ : ∀ (i : Nat) (z d : Int), uv (i + 1) z d = ((uv i z d).2, (uv i z d).1.fmod (uv i z d).2)
  | 0, z, d => rfl
  | i + 1, z, d => uv_succ i d (z.fmod d)
theorem cf_seq : ∀ (n : Nat) (z d : Int) (L : List Int), 0 ≤ d → cfN n z d = some L → (∀ i, i < L.length → 0 < (uv i z d).2 ∧ L.getD i 0 = (uv i z d).1.fdiv (uv i z d).2) ∧ (uv L.length z d).2 = 0
  | n, z, d, L, hd, h => by
    by_cases h0 : d = 0
    · rw [h0, cfN_zero] at h
      cases h
      exact ⟨fun i hi => by simp at hi, h0⟩
    · match n with
      | 0 => rw [cfN_none h0] at h; cases h
      | n + 1 =>
        rw [cfN_succ h0] at h
        obtain ⟨M, h1, rfl⟩ := Option.map_eq_some_iff.1 h
        have hr := Int.fmod_nonneg_of_pos z (show 0 < d by omega)
        obtain ⟨k1, k2⟩ := cf_seq n d (z.fmod d) M hr h1
        refine ⟨fun i hi => ?_, k2⟩
        match i with
        | 0 => exact ⟨by show 0 < d; omega, rfl⟩
        | i + 1 => exact k1 i (by simpa using hi)
theorem uv_facts {z : Int} {d : Nat} {n : Nat} {L : List Int} (hd : 0 < d) (hg : Nat.gcd z.natAbs d = 1) (h : cfN n z d = some L) :
    ∀ i, i < L.length → 0 < (uv i z d).2 ∧ (uv i z d).2 ≤ d ∧ Nat.gcd (uv i z d).1.natAbs (uv i z d).2.natAbs = 1 ∧ ((uv i z d).1.natAbs ≤ z.natAbs ∨ (uv i z d).1.natAbs ≤ d) ∧ (0 < i → (uv i z d).2 < (uv i z d).1)
  | 0, hi => by
    obtain ⟨k1, _⟩ := (cf_seq n z d L (by omega) h).1 0 hi
    exact ⟨k1, Int.le_refl _, by show Nat.gcd z.natAbs (d : Int).natAbs = 1; rw [Int.natAbs_natCast]; exact hg, .inl (Nat.le_refl _), fun h => by omega⟩
  | i + 1, hi => by
    obtain ⟨a1, a2, a3, a4, a5⟩ := uv_facts hd hg h i (by omega)
    obtain ⟨k1, _⟩ := (cf_seq n z d L (by omega) h).1 (i + 1) hi
    rw [uv_succ] at k1 ⊢
    simp only at k1 ⊢
    generalize (uv i z d).1 = u at *
    generalize (uv i z d).2 = v' at *
    obtain ⟨v, rfl⟩ : ∃ v : Nat, v' = v := ⟨v'.toNat, by omega⟩
    obtain ⟨f1, f2, f3, f4⟩ := flo_facts (z := u) (d := v) (by omega)
    rw [Int.natAbs_natCast] at a3 ⊢
    exact ⟨k1, by omega, gcd_swap' a3, .inr (by omega), fun _ => f3⟩
where
  gcd_swap' {u : Int} {v : Nat} (h : Nat.gcd u.natAbs v = 1) : Nat.gcd v (u.fmod v).natAbs = 1 := by rw [Nat.gcd_comm, fmod_gcd, h]
theorem uv_last {z : Int} {d : Nat} {n : Nat} {L : List Int} {k : Nat} (hd : 0 < d) (hg : Nat.gcd z.natAbs d = 1) (h : cfN n z d = some L) (hk : L.length = k + 1) :
    (uv k z d).2 = 1 ∧ L.getD k 0 = (uv k z d).1 := by
  obtain ⟨a1, a2, a3, a4, a5⟩ := uv_facts hd hg h k (by omega)
  obtain ⟨k1, k2⟩ := (cf_seq n z d L (by omega) h).1 k (by omega)
  have k3 := (cf_seq n z d L (by omega) h).2
  rw [hk, uv_succ] at k3
  simp only at k3
  generalize (uv k z d).1 = u at *
  generalize (uv k z d).2 = v' at *
  obtain ⟨v, rfl⟩ : ∃ v : Nat, v' = v := ⟨v'.toNat, by omega⟩
  obtain ⟨f1, f2, f3, f4⟩ := flo_facts (z := u) (d := v) (by omega)
  rw [k3] at f1
  rw [Int.natAbs_natCast] at a3
  have hv1 : v = 1 := by
    have : v ∣ u.natAbs := ⟨(u.fdiv v).natAbs, by
      have := congrArg Int.natAbs f1
      rw [Int.add_zero, Int.natAbs_mul, Int.natAbs_natCast] at this
      rw [this, Nat.mul_comm]⟩
    have := Nat.dvd_gcd this (Nat.dvd_refl v)
    rw [a3] at this
    exact Nat.dvd_one.1 this
  subst hv1
  refine ⟨rfl, ?_⟩
  rw [k2]
  have : u.fdiv ((1 : Nat) : Int) * ((1 : Nat) : Int) = u.fdiv ((1 : Nat) : Int) := Int.mul_one _
  omega
end Go.Proofs.NatL
namespace Go.Proofs.Ytlefdhkjbbdijaa
set_option linter.unusedSimpArgs false
set_option linter.unusedVariables false
open Go.Abs Go.Proofs.NatL

def qv6 : Cfg := listT [(22, qtermsCT), (10, partsCT), (13, iOfCT), (44, (iF2CT (fun _ _ => True) rCmp)), (43, makeGCT), (37, (qtot2 qgDiv [zQ])), (34, (qtot2 qgAdd [zQ])), (11, validQCT), (14, ratioOfCT), (31, sameRatioCT)] [30]
theorem qv6_ok : TblOk Try.prog qv6 := listE_ok (by simp only [List.mem_singleton, forall_eq]; exact flt) ⟨⟨qf3, qf3_ok, rfl⟩, ⟨qt20, qt20_ok, rfl⟩, ⟨iu1, iu1_ok, rfl⟩, ⟨ku6, ku6_ok, rfl⟩, ⟨qt15, qt15_ok, rfl⟩, ⟨qt10, qt10_ok, rfl⟩, ⟨qt6, qt6_ok, rfl⟩, ⟨rq1, rq1_ok, rfl⟩, ⟨rq2, rq2_ok, rfl⟩, ⟨rq12, rq12_ok, rfl⟩, trivial⟩
attribute [go_sem] qv6
set_option maxRecDepth 100000 in
set_option maxHeartbeats 6400000 in
theorem qback_bad (s t : Bool) (xs ys : List Int) (h1 : xs.length ≤ 140737488355328) (h2 : ys.length ≤ 140737488355328) (b1 : InB 4294967296 xs) (b2 : InB 4294967296 ys) (h : okQ s xs t ys = false) :
    Ret Try.prog 7 false [.inr [.b s, .ints .u32 xs, .b t, .ints .u32 ys]] (.c (.b true)) := by
  (refine q_H Try.func7 (fun F => ?_); simp only [q_z,q_y,Try.ntmps7,Try.results7])
  repeat' (first|(with_reducible first|apply q_a|apply q_b|apply q_c|apply q_d|apply q_e|apply q_f|apply q_g|apply q_h|apply q_i|apply q_j|apply q_k|apply q_m|apply q_n|apply q_o|apply q_p|refine q_l ?_)|((with_reducible first|refine q_q qv6_ok fun K hK=>?_|refine q_r qv6_ok fun K hK=>?_);simp (maxSteps:=2000000) only [go_sem,↓reduceIte,reduceCtorEq,Nat.reduceLeDiff,Nat.reduceLT,Nat.reduceBEq,Nat.reduceAdd,h];(repeat1' with_reducible first|apply And.intro|(intro _;try exact q_v)|(refine hK _ ?_;clear hK K))<;>(try (clear hK K;exact q_u)))|(with_reducible refine q_s ?_;(first|apply q_J|apply q_K|apply q_L|apply q_M|apply q_N|apply q_O)<;>try (intro _;try exact q_v))|with_reducible refine q_t ?_)
  all_goals first | omega | assumption | exact q_A rfl | exact q_A (by simp [resAV, q_y]) | skip
set_option maxRecDepth 100000 in
set_option maxHeartbeats 12800000 in
theorem qback_ok (z : Int) (d : Nat) (h : RT z d) : Ret Try.prog 7 false [.inr (gQ z d)] (.c (.b true)) := by
  have o1 := okQ_g h
  obtain ⟨hd, lz, ld⟩ := RT_parts h
  obtain ⟨mz, md⟩ := RT_len65 h
  have hg := h.2.1
  have z1 := Nrm_g z
  clear h
  have l1 : (dg 4294967296 (1 : Int).natAbs).length ≤ 128 := by decide
  have oi := (okZ_g 1).trans (decide_eq_true l1)
  have g1 : Nat.gcd (1 : Int).natAbs (1 : Int).natAbs = 1 := by decide
  have p1 : (0 : Int) < 1 := by omega
  cases hcf : cfN 400 z d with
  | none =>
    obtain ⟨t1, t2, t3⟩ := tm_none hcf
    (refine q_H Try.func7 (fun F => ?_); simp only [q_z,q_y,Try.ntmps7,Try.results7])
    repeat' (first|(with_reducible first|apply q_a|apply q_b|apply q_c|apply q_d|apply q_e|apply q_f|apply q_g|apply q_h|apply q_i|apply q_j|apply q_k|apply q_m|apply q_n|apply q_o|apply q_p|refine q_l ?_)|((with_reducible first|refine q_q qv6_ok fun K hK=>?_|refine q_r qv6_ok fun K hK=>?_);simp (maxSteps:=2000000) only [go_sem,↓reduceIte,reduceCtorEq,Nat.reduceLeDiff,Nat.reduceLT,Nat.reduceBEq,Nat.reduceAdd,o1, sv32, V32, t1, t2, t3];(repeat1' with_reducible first|apply And.intro|(intro _;try exact q_v)|(refine hK _ ?_;clear hK K))<;>(try (clear hK K;exact q_u)))|(with_reducible refine q_s ?_;(first|apply q_J|apply q_K|apply q_L|apply q_M|apply q_N|apply q_O)<;>try (intro _;try exact q_v))|with_reducible refine q_t ?_)
    all_goals first | omega | assumption | exact q_A rfl | exact q_A (by simp [resAV, q_y]) | skip
  | some L =>
    obtain ⟨t1, t2, t3⟩ := tm_some hcf
    have tl := tmR_len L
    have hL := cfN_len _ _ _ _ hcf
    have hf := uv_facts hd hg hcf
    have hlen : ∀ i, i < L.length → (dg 4294967296 (uv i z d).1.natAbs).length ≤ 128 ∧ (dg 4294967296 (uv i z d).2.natAbs).length ≤ 128 := fun i hi => by
      obtain ⟨a1, a2, a3, a4, a5⟩ := hf i hi
      refine ⟨?_, Nat.le_trans (dg_len_mono (by omega) (by omega)) ld⟩
      rcases a4 with a4 | a4
      · exact Nat.le_trans (dg_len_mono (by omega) a4) lz
      · exact Nat.le_trans (dg_len_mono (by omega) a4) ld
    obtain ⟨k, hk⟩ : ∃ k, L.length = k + 1 := by
      rcases Nat.eq_zero_or_pos L.length with h0 | h0
      · have := (cf_seq 400 z d L (by omega) hcf).2
        rw [h0] at this
        have : (d : Int) = 0 := this
        omega
      · exact ⟨L.length - 1, by omega⟩
    obtain ⟨y1, y2⟩ := uv_last hd hg hcf hk
    obtain ⟨a1, a2, a3, a4, a5⟩ := hf k (by omega)
    obtain ⟨m1, m2⟩ := hlen k (by omega)
    have hrow := tmR_get L k (by omega)
    rw [y2] at hrow
    have hkk : ((L.length : Int) - 1).toNat = k := by omega
    have ou := (okZ_g (uv k z d).1).trans (decide_eq_true m1)
    have hgk : Nat.gcd (uv k z d).1.natAbs (1 : Int).natAbs = 1 := Nat.gcd_one_right _
    have hgt : 1 < L.length → 0 < cmpZ (uv k z d).1 1 := fun h1 => (cmpZ_gt _ _).2 (by have := a5 (by omega); rw [y1] at this; exact this)
    by_cases h1 : 1 < L.length
    all_goals
      have hgt := hgt
      first | have hgt1 := hgt h1 | skip
      (refine q_H Try.func7 (fun F => ?_); simp only [q_z,q_y,Try.ntmps7,Try.results7])
      repeat' (first|(with_reducible first|apply q_a|apply q_b|apply q_c|apply q_d|apply q_e|apply q_f|apply q_g|apply q_h|apply q_i|apply q_j|apply q_k|apply q_m|apply q_n|apply q_o|apply q_p|refine q_l ?_)|((with_reducible first|refine q_q qv6_ok fun K hK=>?_|refine q_r qv6_ok fun K hK=>?_);simp (maxSteps:=2000000) only [go_sem,↓reduceIte,reduceCtorEq,Nat.reduceLeDiff,Nat.reduceLT,Nat.reduceBEq,Nat.reduceAdd,o1, sv32, V32, t1, t2, t3, tl, hrow, hkk, ou, oi, hgk, p1];(repeat1' with_reducible first|apply And.intro|(intro _;try exact q_v)|(refine hK _ ?_;clear hK K))<;>(try (clear hK K;exact q_u)))|(with_reducible refine q_s ?_;(first|apply q_J|apply q_K|apply q_L|apply q_M|apply q_N|apply q_O)<;>try (intro _;try exact q_v))|with_reducible refine q_t ?_)
      all_goals first | omega | assumption | skip
      refine q_G (ι := { i : Nat // i < L.length }) (fun i => ⟨131, [(1, .bx 0 0), (2, .c (.b false)), (3, .c (.sl 2 (tmR L))), (5, .bx 2 0), (6, .bx 3 0), (9, .c (.i .i64 ((i.1 : Int) - 1)))],
        ⟨[(3, [.c (.i .i64 0), .c (.i .i64 0)]), (2, aQ (uv i.1 z d).1 (uv i.1 z d).2.natAbs), (0, aQ z d)], [], []⟩, 4⟩) (fun i => i.1) ⟨k, by omega⟩ ?_ ?_
      · simp only [y1]
        exact q_D
      rintro ⟨i, hi⟩
      simp only
      rcases Nat.eq_zero_or_pos i with h0 | h0
      · subst h0
        have e1 : (uv 0 z d).1 = z := rfl
        have e2 : (uv 0 z d).2.natAbs = d := Int.natAbs_natCast d
        simp only [e1, e2]
        repeat' (first|(with_reducible first|apply q_a|apply q_b|apply q_c|apply q_d|apply q_e|apply q_f|apply q_g|apply q_h|apply q_i|apply q_j|apply q_k|apply q_m|apply q_n|apply q_o|apply q_p|refine q_l ?_)|((with_reducible first|refine q_q qv6_ok fun K hK=>?_|refine q_r qv6_ok fun K hK=>?_);simp (maxSteps:=2000000) only [go_sem,↓reduceIte,reduceCtorEq,Nat.reduceLeDiff,Nat.reduceLT,Nat.reduceBEq,Nat.reduceAdd,o1, sv32, V32, sv65, V65, Nrm_g, Nrm_n, sv32n];(repeat1' with_reducible first|apply And.intro|(intro _;try exact q_v)|(refine hK _ ?_;clear hK K))<;>(try (clear hK K;exact q_u)))|(with_reducible refine q_s ?_;(first|apply q_J|apply q_K|apply q_L|apply q_M|apply q_N|apply q_O)<;>try (intro _;try exact q_v))|with_reducible refine q_t ?_)
        all_goals first | omega | assumption | exact q_A rfl | exact q_A (by simp [resAV, q_y]) | skip
      · obtain ⟨j, rfl⟩ : ∃ j, i = j + 1 := ⟨i - 1, by omega⟩
        obtain ⟨b1, b2, b3, b4, b5⟩ := hf j (by omega)
        obtain ⟨c1, c2, c3, c4, c5⟩ := hf (j + 1) hi
        obtain ⟨n1, n2⟩ := hlen j (by omega)
        obtain ⟨n3, n4⟩ := hlen (j + 1) hi
        have hq := ((cf_seq 400 z d L (by omega) hcf).1 j (by omega)).2
        have hrowj := tmR_get L j (by omega)
        rw [hq] at hrowj
        have hj : ((j : Int)).toNat = j := by omega
        have hj1 : (((j + 1 : Nat) : Int) - 1).toNat = j := by omega
        have hus := uv_succ j z d
        rw [hus] at c1 c2 c3 c4 c5 n3 n4 ⊢
        simp only at c1 c2 c3 c4 c5 n3 n4 ⊢
        have hu0 := b4
        generalize hu : (uv j z d).1 = u at *
        generalize hv : (uv j z d).2 = v' at *
        obtain ⟨v, rfl⟩ : ∃ v : Nat, v' = v := ⟨v'.toNat, by omega⟩
        rw [Int.natAbs_natCast] at b3 c3
        obtain ⟨f1, f2, f3, f4⟩ := flo_facts (z := u) (d := v) (by omega)
        generalize hr : u.fmod v = r at *
        generalize hqq : u.fdiv v = q at *
        have lq : (dg 4294967296 q.natAbs).length ≤ 128 := Nat.le_trans (dg_len_mono (by omega) f4) n1
        have oq := (okZ_g q).trans (decide_eq_true lq)
        have gq : Nat.gcd q.natAbs (1 : Int).natAbs = 1 := Nat.gcd_one_right _
        have oy : okQ (decide ((v : Int) < 0)) (dg 4294967296 (v : Int).natAbs) false (dg 4294967296 r.natAbs) = true := okQ_g (z := (v : Int)) ⟨by omega, by rw [Int.natAbs_natCast]; exact c3, n2, n4⟩
        -- 1 / (v / r) = r / v
        obtain ⟨w1, w2⟩ := rd_to' (m := 1 * tn (v : Int) r.natAbs) (x := r) (c := (1 : Int).natAbs * (v : Int).natAbs) (d := v) (by show 0 < 1 * (v : Int).natAbs; omega) (by omega) (by rw [Nat.gcd_comm]; exact c3) (by
          show 1 * tn (v : Int) r.natAbs * v = r * ((1 * (v : Int).natAbs : Nat) : Int)
          rw [tn_pos (by omega), Int.natAbs_natCast, Int.one_mul, Nat.one_mul]; congr 1; omega)
        have n2' : (dg 4294967296 v).length ≤ 128 := by rw [Int.natAbs_natCast] at n2; exact n2
        have hr0 : (v : Int) ≠ 0 := by omega
        obtain ⟨a5', a6', a7', a8'⟩ := f_fit (z := r) (d := v) ⟨n4, by rw [Int.natAbs_natCast] at n2; exact n2⟩
        have oz : okQ (decide (r < 0)) (dg 4294967296 r.natAbs) false (dg 4294967296 v) = true := okQ_g ⟨by omega, by rw [Nat.gcd_comm]; exact c3, n4, by rw [Int.natAbs_natCast] at n2; exact n2⟩
        have oone : okQ (decide ((1 : Int) < 0)) (dg 4294967296 (1 : Int).natAbs) false (dg 4294967296 (1 : Int).natAbs) = true := okQ_g ⟨by decide, by decide, l1, l1⟩
        have oqq : okQ (decide (q < 0)) (dg 4294967296 q.natAbs) false (dg 4294967296 (1 : Int).natAbs) = true := okQ_g ⟨by decide, gq, lq, l1⟩
        -- q + r / v = u / v
        obtain ⟨w3, w4⟩ := rd_to' (m := q * v + r * ((1 : Int).natAbs : Nat)) (x := u) (c := (1 : Int).natAbs * v) (d := v) (by show 0 < 1 * v; omega) (by omega) b3 (by
          show (q * v + r * ((1 : Nat) : Int)) * v = u * ((1 * v : Nat) : Int)
          rw [Nat.one_mul, show ((1 : Nat) : Int) = 1 from rfl, Int.mul_one, ← f1])
        obtain ⟨a9', a10', a11', a12'⟩ := f_fit (z := u) (d := v) ⟨n1, by rw [Int.natAbs_natCast] at n2; exact n2⟩
        repeat' (first|(with_reducible first|apply q_a|apply q_b|apply q_c|apply q_d|apply q_e|apply q_f|apply q_g|apply q_h|apply q_i|apply q_j|apply q_k|apply q_m|apply q_n|apply q_o|apply q_p|refine q_l ?_)|((with_reducible first|refine q_q qv6_ok fun K hK=>?_|refine q_r qv6_ok fun K hK=>?_);simp (maxSteps:=2000000) only [go_sem,↓reduceIte,reduceCtorEq,Nat.reduceLeDiff,Nat.reduceLT,Nat.reduceBEq,Nat.reduceAdd,sv32, V32, tl, hj, hj1, hrowj, oi, oq, oy, oz, oone, oqq, g1, gq, p1, w1, w2, w3, w4, a5', a6', a7', a8', a9', a10', a11', a12'];(repeat1' with_reducible first|apply And.intro|(intro _;try exact q_v)|(refine hK _ ?_;clear hK K))<;>(try (clear hK K;exact q_u)))|(with_reducible refine q_s ?_;(first|apply q_J|apply q_K|apply q_L|apply q_M|apply q_N|apply q_O)<;>try (intro _;try exact q_v))|with_reducible refine q_t ?_)
        all_goals first | omega | assumption | skip
        all_goals first
          | (refine q_F (ι := { i : Nat // i < L.length }) ⟨j, by omega⟩ ?_ (by simp only; omega)
             simp only [hu, hv, Int.natAbs_natCast]
             exact q_D)
          | skip
end Go.Proofs.Ytlefdhkjbbdijaa
