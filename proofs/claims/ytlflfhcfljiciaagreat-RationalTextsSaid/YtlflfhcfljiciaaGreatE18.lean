import Derived.Test.YtlflfhcfljiciaaGreatE14
import Derived.Test.YtlflfhcfljiciaaGreatE17
namespace Go.Proofs.NatL
set_option linter.unusedSimpArgs false
set_option linter.unusedVariables false
theorem cmpZ_gt (a c : Int) : 0 < cmpZ a c ↔ c < a := by unfold cmpZ; (repeat' split) <;> omega
theorem cmpZ_le0 (a c : Int) : cmpZ a c ≤ 0 ↔ a ≤ c := by unfold cmpZ; (repeat' split) <;> omega
theorem okZ_n (d : Nat) : okZ false (dg 4294967296 d) = decide ((dg 4294967296 d).length ≤ 128) := by
  have e := okZ_g (d : Int)
  rwa [Int.natAbs_natCast, show decide ((d : Int) < 0) = false from decide_eq_false (by omega)] at e
theorem tn_pos {y : Int} (h : 0 ≤ y) (d : Nat) : tn y d = d := by unfold tn; rw [decide_eq_false (by omega), sgf]
section
variable {X : Int} {D m : Nat}
def nrGo (X : Int) (D m : Nat) : Nat → Int → Int → Int → Int → Int → Int → Int × Nat
  | 0, _, _, _, _, _, _ => (0, 1)
  | n + 1, a, b, p, q, u, v => if b + q * u.fdiv v ≤ m then nrGo X D m n p q (a + p * u.fdiv v) (b + q * u.fdiv v) v (u.fmod v)
      else if clP X D p q.natAbs (a + p * ((m : Int) - b).fdiv q) (b + q * ((m : Int) - b).fdiv q).natAbs then (p, q.natAbs) else (a + p * ((m : Int) - b).fdiv q, (b + q * ((m : Int) - b).fdiv q).natAbs)
theorem Nr.go (h0 : 0 < m) (hm : m < D) (hg : Nat.gcd X.natAbs D = 1) : ∀ (n : Nat) (e : Nr X D m), e.v.toNat ≤ n → Best X D m (nrGo X D m n e.a e.b e.p e.q e.u e.v).1 (nrGo X D m n e.a e.b e.p e.q e.u e.v).2
  | 0, e, h => by have := e.v0; omega
  | n + 1, e, h => by
    unfold nrGo
    by_cases hQ : e.b + e.q * e.u.fdiv e.v ≤ m
    · rw [if_pos hQ]
      obtain ⟨e', g1, g2, g3, g4, g5, g6, g7⟩ := e.next h0 hm hg hQ
      have := Nr.go h0 hm hg n e' (by have := e'.v0; omega)
      rw [g1, g2, g3, g4, g5, g6] at this
      exact this
    · rw [if_neg hQ]
      obtain ⟨k1, k2, k3, k4, k5, k6⟩ := e.stop h0 hQ
      have hq : e.q = ((e.q.natAbs : Nat) : Int) := by omega
      have hQQ : e.b + e.q * ((m : Int) - e.b).fdiv e.q = (((e.b + e.q * ((m : Int) - e.b).fdiv e.q).natAbs : Nat) : Int) := by omega
      obtain ⟨_, _, g3, g4⟩ := e.best hm k2 k3 k1 k4 k5 k6 hq hQQ
      by_cases hc : clP X D e.p e.q.natAbs (e.a + e.p * ((m : Int) - e.b).fdiv e.q) (e.b + e.q * ((m : Int) - e.b).fdiv e.q).natAbs
      · rw [if_pos hc]; exact g3 hc
      · rw [if_neg hc]; exact g4 hc
def bN (X : Int) (D m : Nat) : Int := (nrGo X D m D 0 1 1 0 X D).1
def bD (X : Int) (D m : Nat) : Nat := (nrGo X D m D 0 1 1 0 X D).2
theorem best_spec (h0 : 0 < m) (hm : m < D) (hg : Nat.gcd X.natAbs D = 1) : Best X D m (bN X D m) (bD X D m) :=
  Nr.go h0 hm hg D (Nr.start h0 hm hg) (by show (D : Int).toNat ≤ D; omega)
theorem best_is {s : Int} {t : Nat} (h0 : 0 < m) (hm : m < D) (hg : Nat.gcd X.natAbs D = 1) (h : Best X D m s t) : bN X D m = s ∧ bD X D m = t := best_unique (best_spec h0 hm hg) h
theorem Nr.lens (e : Nr X D m) (hm : m < D) (lX : (dg 4294967296 X.natAbs).length ≤ 128) (lD : (dg 4294967296 D).length ≤ 128) :
    (dg 4294967296 e.a.natAbs).length ≤ 128 ∧ (dg 4294967296 e.b.natAbs).length ≤ 128 ∧ (dg 4294967296 e.p.natAbs).length ≤ 128 ∧ (dg 4294967296 e.q.natAbs).length ≤ 128 ∧ (dg 4294967296 e.u.natAbs).length ≤ 128 ∧ (dg 4294967296 e.v.natAbs).length ≤ 128 := by
  have f : ∀ z : Int, z.natAbs ≤ X.natAbs ∨ z.natAbs ≤ D → (dg 4294967296 z.natAbs).length ≤ 128 := fun z h => by
    rcases h with h | h
    · exact Nat.le_trans (dg_len_mono (by omega) h) lX
    · exact Nat.le_trans (dg_len_mono (by omega) h) lD
  have := e.b0
  have := e.q0
  have := e.v0
  have := e.vD
  have := e.uX
  exact ⟨f _ (.inl e.aX), f _ (.inr (by omega)), f _ (.inl e.pX), f _ (.inr (by omega)), f _ (by omega), f _ (.inr (by omega))⟩
theorem Nr.full (e : Nr X D m) : 0 ≤ e.b + e.q * e.u.fdiv e.v ∧ (e.q * e.u.fdiv e.v).natAbs ≤ D ∧ e.b + e.q * e.u.fdiv e.v ≤ D := by
  obtain ⟨d1, d2, d3⟩ := e.quo
  have hv := e.v0
  have hb := e.b0
  rcases e.one with ⟨z1, z2, z3, z4, z5⟩ | ⟨z1, z2, z3⟩
  · rw [z1, Int.zero_mul, Int.add_zero, z2]
    exact ⟨by omega, by simp, by omega⟩
  · have f0 : 0 ≤ e.u.fdiv e.v := Int.fdiv_nonneg (by omega) (by omega)
    have h1 : 0 ≤ e.q * e.u.fdiv e.v := Int.mul_nonneg (by omega) f0
    have hD := e.hD
    have h2 : e.q * e.u.fdiv e.v ≤ e.q * e.u.fdiv e.v * e.v := by
      have := Int.mul_le_mul_of_nonneg_left (show 1 ≤ e.v by omega) h1
      omega
    have h3 : e.q * e.u.fdiv e.v * e.v ≤ e.q * e.u := by
      have h4 : e.u.fdiv e.v * e.v ≤ e.u := by omega
      have := Int.mul_le_mul_of_nonneg_left h4 (show 0 ≤ e.q by omega)
      rw [Int.mul_assoc]; exact this
    have h4 : e.b ≤ e.b * e.v := by
      have := Int.mul_le_mul_of_nonneg_left (show 1 ≤ e.v by omega) hb.1
      omega
    exact ⟨by omega, by omega, by omega⟩
theorem Nr.quoD (e : Nr X D m) : (e.u.fdiv e.v).natAbs ≤ e.u.natAbs := by
  obtain ⟨d1, d2, d3⟩ := e.quo
  have hv := e.v0
  generalize e.u.fdiv e.v = f at *
  rcases Int.lt_or_ge' f 0 with hf | hf
  · have h2 : (f + 1) * e.v ≤ (f + 1) * 1 := Int.mul_le_mul_of_nonpos_left (a := f + 1) (b := e.v) (c := 1) (by omega) (by omega)
    rw [Int.add_mul, Int.one_mul] at h2
    omega
  · have h1 : f * 1 ≤ f * e.v := Int.mul_le_mul_of_nonneg_left (by omega) hf
    omega
end
end Go.Proofs.NatL
namespace Go.Proofs.YtlflfhcfljiciaaGreat
set_option linter.unusedSimpArgs false
set_option linter.unusedVariables false
open Go.Abs Go.Proofs.NatL

abbrev n4 : Option C ⊕ List (Option C) := .inr [none, some (.ints .u32 []), none, some (.ints .u32 [])]
abbrev gP (a b : Int) : List C := [.b (decide (a < 0)), .ints .u32 (dg 4294967296 a.natAbs), .b (decide (b < 0)), .ints .u32 (dg 4294967296 b.natAbs)]
def qb8 : Cfg := listT [(76, (iF2CT (fun _ _ => True) (fun a b => rCl (a * b)))), (77, (iF2CT (fun _ _ => True) (fun a b => rCl (a + b))))] [28]
theorem qb8_ok : TblOk Tryz.prog qb8 := listE_ok (by simp only [List.mem_singleton, forall_eq]; exact flt) ⟨⟨ku3, ku3_ok, rfl⟩, ⟨ku1, ku1_ok, rfl⟩, trivial⟩
attribute [go_sem] qb8
set_option maxHeartbeats 1600000 in
theorem step_ret (a b p q k : Int) (la : (dg 4294967296 a.natAbs).length ≤ 128) (lb : (dg 4294967296 b.natAbs).length ≤ 128) (lp : (dg 4294967296 p.natAbs).length ≤ 128) (lq : (dg 4294967296 q.natAbs).length ≤ 128) (lk : (dg 4294967296 k.natAbs).length ≤ 128) :
    Ret Tryz.prog 75 false [.inr (gP a b), .inr (gP p q), .inr (gI k)] (.g (gP (cl 128 (a + cl 128 (p * k))) (cl 128 (b + cl 128 (q * k))))) := by
  have l1 := cl_len 128 (p * k)
  have l2 := cl_len 128 (q * k)
  (refine q_H Tryz.func75 (fun F => ?_); simp only [q_z,q_y,Tryz.ntmps75,Tryz.results75])
  repeat' (first|(with_reducible first|apply q_a|apply q_b|apply q_c|apply q_d|apply q_e|apply q_f|apply q_g|apply q_h|apply q_i|apply q_j|apply q_k|apply q_m|apply q_n|apply q_o|apply q_p|refine q_l ?_)|((with_reducible first|refine q_q qb8_ok fun K hK=>?_|refine q_r qb8_ok fun K hK=>?_);simp (maxSteps:=2000000) only [go_sem,↓reduceIte,reduceCtorEq,Nat.reduceLeDiff,Nat.reduceLT,Nat.reduceBEq,Nat.reduceAdd,sv32, okZ_g];(repeat1' with_reducible first|apply And.intro|(intro _;try exact q_v)|(refine hK _ ?_;clear hK K))<;>(try (clear hK K;exact q_u)))|(with_reducible refine q_s ?_;(first|apply q_J|apply q_K|apply q_L|apply q_M|apply q_N|apply q_O)<;>try (intro _;try exact q_v))|with_reducible refine q_t ?_)
  all_goals first | omega | exact q_A rfl | skip
def stepCT : CT := mkCT [n4, n4, nP] false fun l K => match l with
  | [.inr [.b s1, .ints .u32 x1, .b t1, .ints .u32 y1], .inr [.b s2, .ints .u32 x2, .b t2, .ints .u32 y2], .inr [.b r, .ints .u32 ks]] =>
      (okZ s1 x1 = true ∧ okZ t1 y1 = true ∧ okZ s2 x2 = true ∧ okZ t2 y2 = true ∧ okZ r ks = true ∧ InB 4294967296 x1 ∧ InB 4294967296 y1 ∧ InB 4294967296 x2 ∧ InB 4294967296 y2 ∧ InB 4294967296 ks) ∧
      K (.g (gP (cl 128 (sv 4294967296 s1 x1 + cl 128 (sv 4294967296 s2 x2 * sv 4294967296 r ks))) (cl 128 (sv 4294967296 t1 y1 + cl 128 (sv 4294967296 t2 y2 * sv 4294967296 r ks)))))
  | _ => False
theorem gI_ofQ' {s : Bool} {xs : List Int} (h1 : okZ s xs = true) (h2 : InB 4294967296 xs) : s = decide (sv 4294967296 s xs < 0) ∧ xs = dg 4294967296 (sv 4294967296 s xs).natAbs ∧ (dg 4294967296 (sv 4294967296 s xs).natAbs).length ≤ 128 := by
  obtain ⟨a1, a2, a3⟩ := okZ_eq h1 h2
  exact ⟨a1, a2, by rw [← a2]; exact a3⟩
def qt14 : Cfg := addT 75 stepCT qt13
theorem qt14_ok : TblOk Tryz.prog qt14 := q_I qt13_ok Tryz.func75 fun l K h => by
  split at h
  · rename_i s1 x1 t1 y1 s2 x2 t2 y2 r ks
    obtain ⟨⟨h1, h2, h3, h4, h5, b1, b2, b3, b4, b5⟩, h⟩ := h
    obtain ⟨e1, f1, l1⟩ := gI_ofQ' h1 b1
    obtain ⟨e2, f2, l2⟩ := gI_ofQ' h2 b2
    obtain ⟨e3, f3, l3⟩ := gI_ofQ' h3 b3
    obtain ⟨e4, f4, l4⟩ := gI_ofQ' h4 b4
    obtain ⟨e5, f5, l5⟩ := gI_ofQ' h5 b5
    have := step_ret _ _ _ _ _ l1 l2 l3 l4 l5
    rw [gP, gP, gI, ← e1, ← f1, ← e2, ← f2, ← e3, ← f3, ← e4, ← f4, ← e5, ← f5] at this
    exact ⟨_, this, h⟩
  · exact h.elim
attribute [go_sem] stepCT gP
def makeGCT : CT := mkCT [nP, nP] false fun l K => match l with
  | [.inr [.b s, .ints .u32 xs], .inr [.b t, .ints .u32 ys]] => (okZ s xs = true ∧ okZ t ys = true ∧ InB 4294967296 xs ∧ InB 4294967296 ys ∧ 0 < sv 4294967296 t ys ∧ Nat.gcd (sv 4294967296 s xs).natAbs (sv 4294967296 t ys).natAbs = 1) ∧
      K (.t [.inr (gQ (sv 4294967296 s xs) (sv 4294967296 t ys).natAbs), fltQ 0 0])
  | _ => False
def qt15 : Cfg := addT 26 makeGCT qt14
theorem qt15_ok : TblOk Tryz.prog qt15 := q_I qt14_ok Tryz.func26 fun l K h => by
  split at h
  · rename_i s xs t ys
    obtain ⟨⟨h1, h2, b1, b2, h3, h4⟩, h⟩ := h
    obtain ⟨e1, f1, l1⟩ := gI_ofQ' h1 b1
    obtain ⟨e2, f2, l2⟩ := gI_ofQ' h2 b2
    have := qMake_ok _ _ l1 l2 (show sv 4294967296 t ys ≠ 0 by omega)
    rw [gI, gI, ← e1, ← f1, ← e2, ← f2] at this
    rw [tn_pos (by omega), show ((1 : Nat) : Int) = 1 from rfl, Int.mul_one] at this
    obtain ⟨k1, k2⟩ := rd_self h4
    unfold rQ rF at this
    rw [k1, k2] at this
    obtain ⟨g1, g2, g3, g4⟩ := f_fit (z := sv 4294967296 s xs) (d := (sv 4294967296 t ys).natAbs) ⟨l1, l2⟩
    rw [g1, g2, g3, g4] at this
    exact ⟨_, this, h⟩
  · exact h.elim
def closerCT : CT := mkCT [nQ, nQ, nQ] false fun l K => match l with
  | [.inr [.b s1, .ints .u32 x1, .b t1, .ints .u32 y1], .inr [.b s2, .ints .u32 x2, .b t2, .ints .u32 y2], .inr [.b s3, .ints .u32 x3, .b t3, .ints .u32 y3]] =>
      (okQ s1 x1 t1 y1 = true ∧ okQ s2 x2 t2 y2 = true ∧ okQ s3 x3 t3 y3 = true ∧ InB 4294967296 x1 ∧ InB 4294967296 y1 ∧ InB 4294967296 x2 ∧ InB 4294967296 y2 ∧ InB 4294967296 x3 ∧ InB 4294967296 y3) ∧
      (clP (sv 4294967296 s1 x1) (V 4294967296 y1) (sv 4294967296 s2 x2) (V 4294967296 y2) (sv 4294967296 s3 x3) (V 4294967296 y3) → K (.g (gQ (sv 4294967296 s2 x2) (V 4294967296 y2)))) ∧
      (¬ clP (sv 4294967296 s1 x1) (V 4294967296 y1) (sv 4294967296 s2 x2) (V 4294967296 y2) (sv 4294967296 s3 x3) (V 4294967296 y3) → K (.g (gQ (sv 4294967296 s3 x3) (V 4294967296 y3))))
  | _ => False
def qt16 : Cfg := addT 80 closerCT qt15
theorem qt16_ok : TblOk Tryz.prog qt16 := q_I qt15_ok Tryz.func80 fun l K h => by
  split at h
  · obtain ⟨⟨h1, h2, h3, b1, b2, b3, b4, b5, b6⟩, k1, k2⟩ := h
    obtain ⟨e1, r1⟩ := gQ_of h1 b1 b2
    obtain ⟨e2, r2⟩ := gQ_of h2 b3 b4
    obtain ⟨e3, r3⟩ := gQ_of h3 b5 b6
    have := closer_ret _ _ _ _ _ _ r1 r2 r3
    rw [← e1, ← e2, ← e3] at this
    split at this
    · rename_i hc
      exact ⟨_, this, by rw [e2]; exact k1 hc⟩
    · rename_i hc
      exact ⟨_, this, by rw [e3]; exact k2 hc⟩
  · exact h.elim
attribute [go_sem] makeGCT closerCT
def qb9 : Cfg := listT [(27, iOfCT), (80, closerCT), (26, makeGCT), (75, stepCT), (78, (iF2CT (fun _ b => b ≠ 0) rDiv)), (79, (iF2CT (fun _ _ => True) (fun a b => rCl (a - b)))), (52, (iF2CT (fun _ _ => True) rCmp))] [28]
theorem qb9_ok : TblOk Tryz.prog qb9 := listE_ok (by simp only [List.mem_singleton, forall_eq]; exact flt) ⟨⟨iu1, iu1_ok, rfl⟩, ⟨qt16, qt16_ok, rfl⟩, ⟨qt15, qt15_ok, rfl⟩, ⟨qt14, qt14_ok, rfl⟩, ⟨ku4, ku4_ok, rfl⟩, ⟨ku2, ku2_ok, rfl⟩, ⟨ku6, ku6_ok, rfl⟩, trivial⟩
attribute [go_sem] qb9
set_option maxRecDepth 100000 in
set_option maxHeartbeats 6400000 in
theorem nearest_ret (X : Int) (D m : Nat) (hX : RT X D) (h0 : 0 < m) (hm : m < D) :
    Ret Tryz.prog 53 false [.inr (gQ X D), .inr (gI (m : Int))] (.t [.inr (gQ (bN X D m) (bD X D m)), fltQ 0 0]) := by
  have oX := okQ_g hX
  obtain ⟨hD, lX, lD⟩ := RT_parts hX
  have hg := hX.2.1
  have lm : (dg 4294967296 (m : Int).natAbs).length ≤ 128 := by rw [Int.natAbs_natCast]; exact Nat.le_trans (dg_len_mono (by omega) (by omega)) lD
  have l0 : (dg 4294967296 (0 : Int).natAbs).length ≤ 128 := by decide
  have l1 : (dg 4294967296 (1 : Int).natAbs).length ≤ 128 := by decide
  have x0 := Nr.x0 h0 hm hg
  (refine q_H Tryz.func53 (fun F => ?_); simp only [q_z,q_y,Tryz.ntmps53,Tryz.results53])
  repeat' (first|(with_reducible first|apply q_a|apply q_b|apply q_c|apply q_d|apply q_e|apply q_f|apply q_g|apply q_h|apply q_i|apply q_j|apply q_k|apply q_m|apply q_n|apply q_o|apply q_p|refine q_l ?_)|((with_reducible first|refine q_q qb9_ok fun K hK=>?_|refine q_r qb9_ok fun K hK=>?_);simp (maxSteps:=2000000) only [go_sem,↓reduceIte,reduceCtorEq,Nat.reduceLeDiff,Nat.reduceLT,Nat.reduceBEq,Nat.reduceAdd,sv32];(repeat1' with_reducible first|apply And.intro|(intro _;try exact q_v)|(refine hK _ ?_;clear hK K))<;>(try (clear hK K;exact q_u)))|(with_reducible refine q_s ?_;(first|apply q_J|apply q_K|apply q_L|apply q_M|apply q_N|apply q_O)<;>try (intro _;try exact q_v))|with_reducible refine q_t ?_)
  all_goals first | omega | skip
  refine loop_sw (ι := Nr X D m) [(6, 13), (7, 14)] (fun e => ⟨104, [(2, .bx 0 0), (3, .bx 1 0), (4, .bx 2 0), (5, .bx 3 0), (6, .c (.a (.func (.func 75) #[] #[]))), (7, .bx 4 0), (8, .bx 5 0), (9, .bx 6 0), (10, .bx 7 0)],
    ⟨[(7, [.c (.b (decide (e.v < 0))), .c (.ints .u32 (dg 4294967296 e.v.natAbs))]), (6, [.c (.b (decide (e.u < 0))), .c (.ints .u32 (dg 4294967296 e.u.natAbs))]), (5, [.c (.b (decide (e.p < 0))), .c (.ints .u32 (dg 4294967296 e.p.natAbs)), .c (.b (decide (e.q < 0))), .c (.ints .u32 (dg 4294967296 e.q.natAbs))]), (4, [.c (.b (decide (e.a < 0))), .c (.ints .u32 (dg 4294967296 e.a.natAbs)), .c (.b (decide (e.b < 0))), .c (.ints .u32 (dg 4294967296 e.b.natAbs))]), (3, [.c (.i .i64 0), .c (.i .i64 0)]), (2, [.c (.b false), .c .nil, .c (.b false), .c .nil]), (1, [.c (.b (decide ((m : Int) < 0))), .c (.ints .u32 (dg 4294967296 (m : Int).natAbs))]), (0, aQ X D)], [], []⟩, 8⟩) (fun e => e.v.toNat) (Nr.start h0 hm hg) ?_ ?_
  · have dn : decide ((D : Int) < 0) = false := decide_eq_false (by omega)
    simp only [Nr.start, dn, Int.natAbs_natCast]
    exact q_D
  intro e
  obtain ⟨k1, k2, k3, k4, k5, k6⟩ := e.lens hm lX lD
  have hv := e.v0
  have hvne : e.v ≠ 0 := by omega
  obtain ⟨f1, f2, f3⟩ := e.full
  have lf := Nat.le_trans (dg_len_mono (B := 4294967296) (by omega) e.quoD) k5
  have lr : (dg 4294967296 (e.u.fmod e.v).natAbs).length ≤ 128 := by
    obtain ⟨_, d2, d3⟩ := e.quo
    exact Nat.le_trans (dg_len_mono (by omega) (by omega)) k6
  have c1 := (cl_fit (Nat.le_trans (dg_len_mono (B := 4294967296) (by omega) f2) lD)).1
  have c2 := (cl_fit (z := e.b + e.q * e.u.fdiv e.v) (Nat.le_trans (dg_len_mono (B := 4294967296) (by omega) (show (e.b + e.q * e.u.fdiv e.v).natAbs ≤ D by omega)) lD)).1
  have lQ : (dg 4294967296 (e.b + e.q * e.u.fdiv e.v).natAbs).length ≤ 128 := Nat.le_trans (dg_len_mono (B := 4294967296) (by omega) (show (e.b + e.q * e.u.fdiv e.v).natAbs ≤ D by omega)) lD
  have l3 := cl_len 128 (e.a + cl 128 (e.p * e.u.fdiv e.v))
  have hcm := cmpZ_gt (e.b + e.q * e.u.fdiv e.v) m
  by_cases hQ : e.b + e.q * e.u.fdiv e.v ≤ m
  · obtain ⟨e', g1, g2, g3, g4, g5, g6, g7⟩ := e.next h0 hm hg hQ
    have hk : (e.q = 0 ∧ e.u.fdiv e.v = e.u.fdiv e.v) ∨ (0 ≤ e.u.fdiv e.v ∧ e.u.fdiv e.v ≤ e.u.fdiv e.v) := by
      rcases e.one with ⟨z1, _⟩ | ⟨z1, z2, z3⟩
      · exact .inl ⟨z1, rfl⟩
      · exact .inr ⟨Int.fdiv_nonneg (by omega) (by omega), Int.le_refl _⟩
    obtain ⟨_, m1, m2⟩ := e.fits hm x0 hk hQ
    have c3 := (cl_fit (Nat.le_trans (dg_len_mono (B := 4294967296) (by omega) m2) lX)).1
    have c4 := (cl_fit (Nat.le_trans (dg_len_mono (B := 4294967296) (by omega) m1) lX)).1
    clear hk m1 m2 f1 f2 f3 hX
    repeat' (first|(with_reducible first|apply q_a|apply q_b|apply q_c|apply q_d|apply q_e|apply q_f|apply q_g|apply q_h|apply q_i|apply q_j|apply q_k|apply q_m|apply q_n|apply q_o|apply q_p|refine q_l ?_)|((with_reducible first|refine q_q qb9_ok fun K hK=>?_|refine q_r qb9_ok fun K hK=>?_);simp (maxSteps:=2000000) only [go_sem,↓reduceIte,reduceCtorEq,Nat.reduceLeDiff,Nat.reduceLT,Nat.reduceBEq,Nat.reduceAdd,sv32, okZ_g, c1, c2, c3, c4];(repeat1' with_reducible first|apply And.intro|(intro _;try exact q_v)|(refine hK _ ?_;clear hK K))<;>(try (clear hK K;exact q_u)))|(with_reducible refine q_s ?_;(first|apply q_J|apply q_K|apply q_L|apply q_M|apply q_N|apply q_O)<;>try (intro _;try exact q_v))|with_reducible refine q_t ?_)
    all_goals first | omega | assumption | skip
    refine roundw_n e' (by simp only [g1, g2, g3, g4, g5, g6]; exact q_D) ?_
    have := e'.v0
    omega
  · obtain ⟨j1, j2, j3, j4, j5, j6⟩ := e.stop h0 hQ
    have hq : e.q = ((e.q.natAbs : Nat) : Int) := by omega
    have hQQ : e.b + e.q * ((m : Int) - e.b).fdiv e.q = (((e.b + e.q * ((m : Int) - e.b).fdiv e.q).natAbs : Nat) : Int) := by omega
    obtain ⟨g1, g2, g3, g4⟩ := e.best hm j2 j3 j1 j4 j5 j6 hq hQQ
    have hb := e.b0
    obtain ⟨_, m1, m2⟩ := e.fits hm x0 (.inr ⟨j2, by omega⟩) j4
    have hmb : (dg 4294967296 ((m : Int) - e.b).natAbs).length ≤ 128 := Nat.le_trans (dg_len_mono (by omega) (by omega)) lD
    have hqk : 0 ≤ e.q * ((m : Int) - e.b).fdiv e.q := Int.mul_nonneg (by omega) j2
    have hkk : (((m : Int) - e.b).fdiv e.q).natAbs ≤ D := by
      have : ((m : Int) - e.b).fdiv e.q * 1 ≤ ((m : Int) - e.b).fdiv e.q * e.q := Int.mul_le_mul_of_nonneg_left j1 j2
      rw [Int.mul_comm _ e.q] at this
      omega
    have lk : (dg 4294967296 (((m : Int) - e.b).fdiv e.q).natAbs).length ≤ 128 := Nat.le_trans (dg_len_mono (by omega) hkk) lD
    have c0 := (cl_fit hmb).1
    have c3 := (cl_fit (Nat.le_trans (dg_len_mono (B := 4294967296) (by omega) m2) lX)).1
    have c4 := (cl_fit (Nat.le_trans (dg_len_mono (B := 4294967296) (by omega) m1) lX)).1
    have c5 := (cl_fit (z := e.q * ((m : Int) - e.b).fdiv e.q) (Nat.le_trans (dg_len_mono (B := 4294967296) (by omega) (show (e.q * ((m : Int) - e.b).fdiv e.q).natAbs ≤ D by omega)) lD)).1
    have c6 := (cl_fit (z := e.b + e.q * ((m : Int) - e.b).fdiv e.q) (Nat.le_trans (dg_len_mono (B := 4294967296) (by omega) (show (e.b + e.q * ((m : Int) - e.b).fdiv e.q).natAbs ≤ D by omega)) lD)).1
    have lP : (dg 4294967296 (e.a + e.p * ((m : Int) - e.b).fdiv e.q).natAbs).length ≤ 128 := Nat.le_trans (dg_len_mono (B := 4294967296) (by omega) m1) lX
    have lQ2 : (dg 4294967296 (e.b + e.q * ((m : Int) - e.b).fdiv e.q).natAbs).length ≤ 128 := Nat.le_trans (dg_len_mono (B := 4294967296) (by omega) (show (e.b + e.q * ((m : Int) - e.b).fdiv e.q).natAbs ≤ D by omega)) lD
    have hqne : e.q ≠ 0 := by omega
    have o1 : okQ (decide (e.p < 0)) (dg 4294967296 e.p.natAbs) false (dg 4294967296 e.q.natAbs) = true := okQ_g ⟨by omega, g1, k3, k4⟩
    have o2 : okQ (decide (e.a + e.p * ((m : Int) - e.b).fdiv e.q < 0)) (dg 4294967296 (e.a + e.p * ((m : Int) - e.b).fdiv e.q).natAbs) false (dg 4294967296 (e.b + e.q * ((m : Int) - e.b).fdiv e.q).natAbs) = true := okQ_g ⟨by omega, g2, lP, lQ2⟩
    have b1 : clP X D e.p e.q.natAbs (e.a + e.p * ((m : Int) - e.b).fdiv e.q) (e.b + e.q * ((m : Int) - e.b).fdiv e.q).natAbs → bN X D m = e.p ∧ bD X D m = e.q.natAbs := fun h => best_is h0 hm hg (g3 h)
    have b2 : ¬ clP X D e.p e.q.natAbs (e.a + e.p * ((m : Int) - e.b).fdiv e.q) (e.b + e.q * ((m : Int) - e.b).fdiv e.q).natAbs → bN X D m = e.a + e.p * ((m : Int) - e.b).fdiv e.q ∧ bD X D m = (e.b + e.q * ((m : Int) - e.b).fdiv e.q).natAbs := fun h => best_is h0 hm hg (g4 h)
    clear m1 m2 f1 f2 f3 hX g3 g4
    repeat' (first|(with_reducible first|apply q_a|apply q_b|apply q_c|apply q_d|apply q_e|apply q_f|apply q_g|apply q_h|apply q_i|apply q_j|apply q_k|apply q_m|apply q_n|apply q_o|apply q_p|refine q_l ?_)|((with_reducible first|refine q_q qb9_ok fun K hK=>?_|refine q_r qb9_ok fun K hK=>?_);simp (maxSteps:=2000000) only [go_sem,↓reduceIte,reduceCtorEq,Nat.reduceLeDiff,Nat.reduceLT,Nat.reduceBEq,Nat.reduceAdd,sv32, V32, okZ_g, c0, c1, c2, c3, c4, c5, c6, oX, o1, o2];(repeat1' with_reducible first|apply And.intro|(intro _;try exact q_v)|(refine hK _ ?_;clear hK K))<;>(try (clear hK K;exact q_u)))|(with_reducible refine q_s ?_;(first|apply q_J|apply q_K|apply q_L|apply q_M|apply q_N|apply q_O)<;>try (intro _;try exact q_v))|with_reducible refine q_t ?_)
    all_goals first | omega | assumption | skip
    all_goals (try refine roundw_ret ?_)
    repeat' (first|(with_reducible first|apply q_a|apply q_b|apply q_c|apply q_d|apply q_e|apply q_f|apply q_g|apply q_h|apply q_i|apply q_j|apply q_k|apply q_m|apply q_n|apply q_o|apply q_p|refine q_l ?_)|((with_reducible first|refine q_q qb9_ok fun K hK=>?_|refine q_r qb9_ok fun K hK=>?_);simp (maxSteps:=2000000) only [go_sem,↓reduceIte,reduceCtorEq,Nat.reduceLeDiff,Nat.reduceLT,Nat.reduceBEq,Nat.reduceAdd,sv32];(repeat1' with_reducible first|apply And.intro|(intro _;try exact q_v)|(refine hK _ ?_;clear hK K))<;>(try (clear hK K;exact q_u)))|(with_reducible refine q_s ?_;(first|apply q_J|apply q_K|apply q_L|apply q_M|apply q_N|apply q_O)<;>try (intro _;try exact q_v))|with_reducible refine q_t ?_)
    all_goals first
      | (obtain ⟨y1, y2⟩ := b1 (by assumption); rw [y1, y2]; exact q_A rfl)
      | (obtain ⟨y1, y2⟩ := b2 (by assumption); rw [y1, y2]; exact q_A rfl)

def nearestCT : CT := mkCT [nQ, nP] false fun l K => match l with
  | [.inr [.b s, .ints .u32 xs, .b t, .ints .u32 ys], .inr [.b r, .ints .u32 ms]] =>
      (okQ s xs t ys = true ∧ InB 4294967296 xs ∧ InB 4294967296 ys ∧ okZ r ms = true ∧ InB 4294967296 ms ∧ 0 < sv 4294967296 r ms ∧ sv 4294967296 r ms < V 4294967296 ys) ∧
      K (.t [.inr (gQ (bN (sv 4294967296 s xs) (V 4294967296 ys) (sv 4294967296 r ms).natAbs) (bD (sv 4294967296 s xs) (V 4294967296 ys) (sv 4294967296 r ms).natAbs)), fltQ 0 0])
  | _ => False
def qt17 : Cfg := addT 53 nearestCT qt16
theorem qt17_ok : TblOk Tryz.prog qt17 := q_I qt16_ok Tryz.func53 fun l K h => by
  split at h
  · rename_i s xs t ys r ms
    obtain ⟨⟨h1, b1, b2, h2, b3, h3, h4⟩, h⟩ := h
    obtain ⟨e1, r1⟩ := gQ_of h1 b1 b2
    obtain ⟨e2, f2, l2⟩ := gI_ofQ' h2 b3
    have := nearest_ret _ _ (sv 4294967296 r ms).natAbs r1 (by omega) (by omega)
    rw [show (((sv 4294967296 r ms).natAbs : Nat) : Int) = sv 4294967296 r ms by omega, gI, ← e2, ← f2, ← e1] at this
    exact ⟨_, this, h⟩
  · exact h.elim
attribute [go_sem] nearestCT
def qb10 : Cfg := listT [(22, atCT), (25, validQCT), (49, ivalidCT), (52, (iF2CT (fun _ _ => True) rCmp)), (26, makeGCT), (53, nearestCT)] [28]
theorem qb10_ok : TblOk Tryz.prog qb10 := listE_ok (by simp only [List.mem_singleton, forall_eq]; exact flt) ⟨⟨qt2, qt2_ok, rfl⟩, ⟨qt1, qt1_ok, rfl⟩, ⟨it5, it5_ok, rfl⟩, ⟨ku6, ku6_ok, rfl⟩, ⟨qt17, qt17_ok, rfl⟩, ⟨qt17, qt17_ok, rfl⟩, trivial⟩
attribute [go_sem] qb10
set_option maxHeartbeats 1600000 in
theorem nearest_le (X : Int) (D : Nat) (m : Int) (hX : RT X D) (lm : (dg 4294967296 m.natAbs).length ≤ 128) (h0 : 0 < m) (hm : D ≤ m) :
    Ret Tryz.prog 28 false [.inr (gQ X D), .inr (gI m)] (.t [.inr (gQ X D), fltQ 0 0]) := by
  have oX := okQ_g hX
  obtain ⟨hD, lX, lD⟩ := RT_parts hX
  have hg := hX.2.1
  have e1 := okZ_n D
  have e2 := (dg_len_pos 4294967296 m.natAbs (by omega)).2 (by omega)
  have e3 : sv 4294967296 false (dg 4294967296 D) = (D : Int) := by rw [sv32d, sgf]
  have e4 : decide (m < 0) = false := decide_eq_false (by omega)
  have e5 := okZ_g m
  rw [e4] at e5
  have e6 := sv32 m
  rw [e4] at e6
  have hc := (cmpZ_le0 D m).2 hm
  clear hX
  simp only [gI, e4]
  (refine q_H Tryz.func28 (fun F => ?_); simp only [q_z,q_y,Tryz.ntmps28,Tryz.results28])
  repeat' (first|(with_reducible first|apply q_a|apply q_b|apply q_c|apply q_d|apply q_e|apply q_f|apply q_g|apply q_h|apply q_i|apply q_j|apply q_k|apply q_m|apply q_n|apply q_o|apply q_p|refine q_l ?_)|((with_reducible first|refine q_q qb10_ok fun K hK=>?_|refine q_r qb10_ok fun K hK=>?_);simp (maxSteps:=2000000) only [go_sem,↓reduceIte,reduceCtorEq,Nat.reduceLeDiff,Nat.reduceLT,Nat.reduceBEq,Nat.reduceAdd,sv32, okZ_g, oX, e1, e3, e5, e6, Int.natAbs_natCast];(repeat1' with_reducible first|apply And.intro|(intro _;try exact q_v)|(refine hK _ ?_;clear hK K))<;>(try (clear hK K;exact q_u)))|(with_reducible refine q_s ?_;(first|apply q_J|apply q_K|apply q_L|apply q_M|apply q_N|apply q_O)<;>try (intro _;try exact q_v))|with_reducible refine q_t ?_)
  all_goals first | omega | assumption | exact q_A rfl | skip
set_option maxHeartbeats 1600000 in
theorem nearest_lt (X : Int) (D : Nat) (m : Int) (hX : RT X D) (lm : (dg 4294967296 m.natAbs).length ≤ 128) (h0 : 0 < m) (hm : m < D) :
    Ret Tryz.prog 28 false [.inr (gQ X D), .inr (gI m)] (.t [.inr (gQ (bN X D m.natAbs) (bD X D m.natAbs)), fltQ 0 0]) := by
  have oX := okQ_g hX
  obtain ⟨hD, lX, lD⟩ := RT_parts hX
  have hg := hX.2.1
  have e1 := okZ_n D
  have e2 := (dg_len_pos 4294967296 m.natAbs (by omega)).2 (by omega)
  have e3 : sv 4294967296 false (dg 4294967296 D) = (D : Int) := by rw [sv32d, sgf]
  have e4 : decide (m < 0) = false := decide_eq_false (by omega)
  have e5 := okZ_g m
  rw [e4] at e5
  have e6 := sv32 m
  rw [e4] at e6
  have hc : ¬ cmpZ D m ≤ 0 := fun h => by have := (cmpZ_le0 D m).1 h; omega
  clear hX
  simp only [gI, e4]
  (refine q_H Tryz.func28 (fun F => ?_); simp only [q_z,q_y,Tryz.ntmps28,Tryz.results28])
  repeat' (first|(with_reducible first|apply q_a|apply q_b|apply q_c|apply q_d|apply q_e|apply q_f|apply q_g|apply q_h|apply q_i|apply q_j|apply q_k|apply q_m|apply q_n|apply q_o|apply q_p|refine q_l ?_)|((with_reducible first|refine q_q qb10_ok fun K hK=>?_|refine q_r qb10_ok fun K hK=>?_);simp (maxSteps:=2000000) only [go_sem,↓reduceIte,reduceCtorEq,Nat.reduceLeDiff,Nat.reduceLT,Nat.reduceBEq,Nat.reduceAdd,sv32, V32, okZ_g, oX, e1, e3, e5, e6, Int.natAbs_natCast];(repeat1' with_reducible first|apply And.intro|(intro _;try exact q_v)|(refine hK _ ?_;clear hK K))<;>(try (clear hK K;exact q_u)))|(with_reducible refine q_s ?_;(first|apply q_J|apply q_K|apply q_L|apply q_M|apply q_N|apply q_O)<;>try (intro _;try exact q_v))|with_reducible refine q_t ?_)
  all_goals first | omega | assumption | exact q_A rfl | skip
set_option maxHeartbeats 1600000 in
theorem nearest_bad (s t r : Bool) (xs ys ms : List Int) (h1 : xs.length ≤ 140737488355328) (h2 : ys.length ≤ 140737488355328) (h3 : ms.length ≤ 140737488355328) (b1 : InB 4294967296 xs) (b2 : InB 4294967296 ys)
    (h : okQ s xs t ys = false ∨ okQ s xs t ys = true ∧ okZ r ms = false ∨ okQ s xs t ys = true ∧ okZ r ms = true ∧ (r = true ∨ ms = [])) :
    Ret Tryz.prog 28 false [.inr [.b s, .ints .u32 xs, .b t, .ints .u32 ys], .inr [.b r, .ints .u32 ms]] (.t [zQ, fltQ (if okQ s xs t ys = true ∧ okZ r ms = true then 4 else 6) (if okQ s xs t ys = true then -2 else -1)]) := by
  rcases h with h | ⟨h, h'⟩ | ⟨h, h', h''⟩
  · simp only [h, Bool.false_eq_true, if_false, false_and]
    (refine q_H Tryz.func28 (fun F => ?_); simp only [q_z,q_y,Tryz.ntmps28,Tryz.results28])
    repeat' (first|(with_reducible first|apply q_a|apply q_b|apply q_c|apply q_d|apply q_e|apply q_f|apply q_g|apply q_h|apply q_i|apply q_j|apply q_k|apply q_m|apply q_n|apply q_o|apply q_p|refine q_l ?_)|((with_reducible first|refine q_q qb10_ok fun K hK=>?_|refine q_r qb10_ok fun K hK=>?_);simp (maxSteps:=2000000) only [go_sem,↓reduceIte,reduceCtorEq,Nat.reduceLeDiff,Nat.reduceLT,Nat.reduceBEq,Nat.reduceAdd,h];(repeat1' with_reducible first|apply And.intro|(intro _;try exact q_v)|(refine hK _ ?_;clear hK K))<;>(try (clear hK K;exact q_u)))|(with_reducible refine q_s ?_;(first|apply q_J|apply q_K|apply q_L|apply q_M|apply q_N|apply q_O)<;>try (intro _;try exact q_v))|with_reducible refine q_t ?_)
    all_goals first | omega | assumption | exact q_B [nQ] rfl rfl | skip
  · simp only [h, h', Bool.false_eq_true, if_false, and_false, if_true]
    (refine q_H Tryz.func28 (fun F => ?_); simp only [q_z,q_y,Tryz.ntmps28,Tryz.results28])
    repeat' (first|(with_reducible first|apply q_a|apply q_b|apply q_c|apply q_d|apply q_e|apply q_f|apply q_g|apply q_h|apply q_i|apply q_j|apply q_k|apply q_m|apply q_n|apply q_o|apply q_p|refine q_l ?_)|((with_reducible first|refine q_q qb10_ok fun K hK=>?_|refine q_r qb10_ok fun K hK=>?_);simp (maxSteps:=2000000) only [go_sem,↓reduceIte,reduceCtorEq,Nat.reduceLeDiff,Nat.reduceLT,Nat.reduceBEq,Nat.reduceAdd,h, h'];(repeat1' with_reducible first|apply And.intro|(intro _;try exact q_v)|(refine hK _ ?_;clear hK K))<;>(try (clear hK K;exact q_u)))|(with_reducible refine q_s ?_;(first|apply q_J|apply q_K|apply q_L|apply q_M|apply q_N|apply q_O)<;>try (intro _;try exact q_v))|with_reducible refine q_t ?_)
    all_goals first | omega | assumption | exact q_B [nQ] rfl rfl | skip
  · simp only [h, h', and_self, if_true]
    rcases h'' with rfl | rfl
    · (refine q_H Tryz.func28 (fun F => ?_); simp only [q_z,q_y,Tryz.ntmps28,Tryz.results28])
      repeat' (first|(with_reducible first|apply q_a|apply q_b|apply q_c|apply q_d|apply q_e|apply q_f|apply q_g|apply q_h|apply q_i|apply q_j|apply q_k|apply q_m|apply q_n|apply q_o|apply q_p|refine q_l ?_)|((with_reducible first|refine q_q qb10_ok fun K hK=>?_|refine q_r qb10_ok fun K hK=>?_);simp (maxSteps:=2000000) only [go_sem,↓reduceIte,reduceCtorEq,Nat.reduceLeDiff,Nat.reduceLT,Nat.reduceBEq,Nat.reduceAdd,h, h'];(repeat1' with_reducible first|apply And.intro|(intro _;try exact q_v)|(refine hK _ ?_;clear hK K))<;>(try (clear hK K;exact q_u)))|(with_reducible refine q_s ?_;(first|apply q_J|apply q_K|apply q_L|apply q_M|apply q_N|apply q_O)<;>try (intro _;try exact q_v))|with_reducible refine q_t ?_)
      all_goals first | omega | assumption | exact q_B [nQ] rfl rfl | skip
    · cases r
      · (refine q_H Tryz.func28 (fun F => ?_); simp only [q_z,q_y,Tryz.ntmps28,Tryz.results28])
        repeat' (first|(with_reducible first|apply q_a|apply q_b|apply q_c|apply q_d|apply q_e|apply q_f|apply q_g|apply q_h|apply q_i|apply q_j|apply q_k|apply q_m|apply q_n|apply q_o|apply q_p|refine q_l ?_)|((with_reducible first|refine q_q qb10_ok fun K hK=>?_|refine q_r qb10_ok fun K hK=>?_);simp (maxSteps:=2000000) only [go_sem,↓reduceIte,reduceCtorEq,Nat.reduceLeDiff,Nat.reduceLT,Nat.reduceBEq,Nat.reduceAdd,h, h'];(repeat1' with_reducible first|apply And.intro|(intro _;try exact q_v)|(refine hK _ ?_;clear hK K))<;>(try (clear hK K;exact q_u)))|(with_reducible refine q_s ?_;(first|apply q_J|apply q_K|apply q_L|apply q_M|apply q_N|apply q_O)<;>try (intro _;try exact q_v))|with_reducible refine q_t ?_)
        all_goals first | omega | assumption | exact q_B [nQ] rfl rfl | skip
      · (refine q_H Tryz.func28 (fun F => ?_); simp only [q_z,q_y,Tryz.ntmps28,Tryz.results28])
        repeat' (first|(with_reducible first|apply q_a|apply q_b|apply q_c|apply q_d|apply q_e|apply q_f|apply q_g|apply q_h|apply q_i|apply q_j|apply q_k|apply q_m|apply q_n|apply q_o|apply q_p|refine q_l ?_)|((with_reducible first|refine q_q qb10_ok fun K hK=>?_|refine q_r qb10_ok fun K hK=>?_);simp (maxSteps:=2000000) only [go_sem,↓reduceIte,reduceCtorEq,Nat.reduceLeDiff,Nat.reduceLT,Nat.reduceBEq,Nat.reduceAdd,h, h'];(repeat1' with_reducible first|apply And.intro|(intro _;try exact q_v)|(refine hK _ ?_;clear hK K))<;>(try (clear hK K;exact q_u)))|(with_reducible refine q_s ?_;(first|apply q_J|apply q_K|apply q_L|apply q_M|apply q_N|apply q_O)<;>try (intro _;try exact q_v))|with_reducible refine q_t ?_)
        all_goals first | omega | assumption | exact q_B [nQ] rfl rfl | skip
end Go.Proofs.YtlflfhcfljiciaaGreat

namespace Go.Proofs.YtlflfhcfljiciaaGreat
set_option linter.unusedSimpArgs false
set_option linter.unusedVariables false
open Go.Abs Go.Proofs.NatL

def rtrimcCT : CT := mkCTC [.inl (some (.ints .i64 []))] false 3 (fun c K => match c with
  | .ints .i64 xs => xs.length ≤ 16777216 ∧ K (.ints .i64 (trimL xs))
  | _ => False) fun l K => match l with
  | [.inl (.ints .i64 xs)] => xs.length ≤ 16777216 ∧ K (.c (.ints .i64 (trimL xs)))
  | _ => False
attribute [go_sem] rtrimcCT
def jcb : Cfg := listT [(57, rtrimcCT)] [28]
attribute [go_sem] jcb
def binFCT : CT := mkCT [.inl (some (.bools []))] true fun l K => match l with
  | [.inl (.bools l)] => l.length ≤ 16777216 ∧ K (.c (.ints .i64 (dg 65536 (B2 l))))
  | _ => False
attribute [go_sem] binFCT
def jb7 : Cfg := listT [(37, binFCT), (10, rcmpCT), (59, (rnumCT (fun _ _ => True) (· * ·)))] [28]
attribute [go_sem] jb7
end Go.Proofs.YtlflfhcfljiciaaGreat

namespace Go.Proofs.YtlflfhcfljiciaaGreat
set_option linter.unusedSimpArgs false
set_option linter.unusedVariables false
open Go.Abs Go.Proofs.NatL

theorem sv65d (s : Bool) (m : Nat) : sv 65536 s (dg 65536 m) = sg s m := sv_d (by omega) s m
theorem sg_sgz (z : Int) (c : Bool) : sg (sgz z c) z.natAbs = z := by rw [← sv65d, svz65]
attribute [go_sem] sv65d sg_self sg_sgz
def rdivCT : CT := mkCT [.inl (some (.ints .i64 [])), .inl (some (.ints .i64 []))] false fun l K => match l with
  | [.inl (.ints .i64 xs), .inl (.ints .i64 ys)] => (InB 65536 xs ∧ Trd xs ∧ xs.length ≤ 65536 ∧ InB 65536 ys ∧ Trd ys ∧ ys.length ≤ 65536 ∧ 0 < V 65536 ys) ∧ K (.t [.inl (.ints .i64 (dg 65536 (V 65536 xs / V 65536 ys))), .inl (.ints .i64 (dg 65536 (V 65536 xs % V 65536 ys)))])
  | _ => False
def jt13 : Cfg := jt12
theorem jt13_ok : TblOk Tryz.prog jt13 := jt12_ok
def rootCT : CT := mkCT [.inl (some (.ints .i64 []))] false fun l K => match l with
  | [.inl (.ints .i64 xs)] => (InB 65536 xs ∧ Trd xs ∧ xs.length ≤ 65536) ∧ K (.c (.ints .i64 (dg 65536 (rt (V 65536 xs)))))
  | _ => False
def jt14 : Cfg := jt13
theorem jt14_ok : TblOk Tryz.prog jt14 := jt13_ok
attribute [go_sem] rdivCT rootCT
def jb8 : Cfg := listT [(11, smallCT), (40, (rnumCT (fun _ _ => True) (· + ·))), (39, (rnumCT (fun xs ys => V 65536 ys ≤ V 65536 xs) (· - ·)))] [28]
attribute [go_sem] jb8
def ifloorCT : CT := mkCT [nR, nR] false fun l K => match l with
  | [.inr [.b s, .ints .i64 xs], .inr [.b t, .ints .i64 ys]] => (InB 65536 xs ∧ Trd xs ∧ xs.length ≤ 65536 ∧ InB 65536 ys ∧ Trd ys ∧ ys.length ≤ 65536 ∧ sv 65536 t ys ≠ 0) ∧ ∀ c d : Bool, K (.t [.inr (gRz ((sv 65536 s xs).fdiv (sv 65536 t ys)) c), .inr (gRz ((sv 65536 s xs).fmod (sv 65536 t ys)) d)])
  | _ => False
def jt15 : Cfg := jt14
theorem jt15_ok : TblOk Tryz.prog jt15 := jt14_ok
attribute [go_sem] ifloorCT
end Go.Proofs.YtlflfhcfljiciaaGreat
