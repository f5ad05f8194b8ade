import Derived.Test.YtgogdabniebplaaN13
namespace Go.Proofs.Ytgogdabniebplaa
set_option linter.unusedSimpArgs false
set_option linter.unusedVariables false
open Go.Abs Go.Proofs.NatL
def tb14 : Cfg := listT [(161, atCT), (160, checkCT), (162, divModCT), (146, cloneCT)] [28]
theorem tb14_ok : TblOk Try.prog tb14 := listT_ok (big := cf24) cf24_ok ⟨rfl, rfl, rfl, rfl, trivial⟩
attribute [go_sem] tb14

def dvE (xs ys : List Int) : Bool := decide (chkC xs ys = 0 ∧ ys ≠ [])
def dvQ (xs ys : List Int) : List Int := if dvE xs ys then dg 4294967296 (V 4294967296 xs / V 4294967296 ys) else []
def dvR (xs ys : List Int) : List Int := if dvE xs ys then dg 4294967296 (V 4294967296 xs % V 4294967296 ys) else []
def dvC (xs ys : List Int) : Int := if chkC xs ys ≠ 0 then chkC xs ys else if ys = [] then 22 else 0
def dvI (xs ys : List Int) : Int := if chkC xs ys ≠ 0 then chkI xs ys else if ys = [] then -2 else 0

theorem chk_good {xs ys : List Int} (h : chkC xs ys = 0) : (xs.length ≤ 600 ∧ Trd xs) ∧ ys.length ≤ 600 ∧ Trd ys ∧ chkI xs ys = 0 := by
  unfold chkC at h
  unfold chkI
  cases hx : okN xs <;> cases hy : okN ys <;> simp_all [okN]

set_option maxHeartbeats 1600000 in
theorem DivMod_ret (xs ys : List Int) (hx : xs.length ≤ 140737488355328) (hy : ys.length ≤ 140737488355328) (bx : InB 4294967296 xs) (by' : InB 4294967296 ys) :
    Ret Try.prog 127 false [.inl (.ints .u32 xs), .inl (.ints .u32 ys)] (.t [.inl (.ints .u32 (dvQ xs ys)), .inl (.ints .u32 (dvR xs ys)), .inr [.i .i64 (dvC xs ys), .i .i64 (dvI xs ys)]]) := by
  by_cases hc : chkC xs ys = 0
  · obtain ⟨⟨g1, g2⟩, g3, g4, g5⟩ := chk_good hc
    (refine q_H Try.func127 (fun F => ?_); simp only [q_z,q_y,Try.ntmps127,Try.results127])
    repeat' (first|(with_reducible first|apply q_a|apply q_b|apply q_c|apply q_d|apply q_e|apply q_f|apply q_g|apply q_h|apply q_i|apply q_j|apply q_k|apply q_m|apply q_n|apply q_o|apply q_p|refine q_l ?_)|((with_reducible first|refine q_q tb14_ok fun K hK=>?_|refine q_r tb14_ok fun K hK=>?_);simp (maxSteps:=2000000) only [go_sem,↓reduceIte,reduceCtorEq,Nat.reduceLeDiff,Nat.reduceLT,Nat.reduceBEq,Nat.reduceAdd];(repeat1' with_reducible first|apply And.intro|intro _|(refine hK _ ?_;clear hK K))<;>(try (clear hK K;exact q_u)))|(with_reducible refine q_s ?_;(first|apply q_J|apply q_K|apply q_L|apply q_M|apply q_N|apply q_O)<;>try intro _)|with_reducible refine q_t ?_)
    all_goals (try contradiction)
    · rename_i h
      have hy0 : ys = [] := List.eq_nil_of_length_eq_zero (by omega)
      subst hy0
      exact q_B [.inl (some (.ints .u32 [])), .inl (some (.ints .u32 []))] rfl (by simp [resAV, norm, nz, dvQ, dvR, dvC, dvI, dvE, hc])
    · rename_i h
      have hy0 : ys ≠ [] := fun e => by subst e; simp at h
      exact q_A (by simp [resAV, dvQ, dvR, dvC, dvI, dvE, hc, hy0])
  · (refine q_H Try.func127 (fun F => ?_); simp only [q_z,q_y,Try.ntmps127,Try.results127])
    repeat' (first|(with_reducible first|apply q_a|apply q_b|apply q_c|apply q_d|apply q_e|apply q_f|apply q_g|apply q_h|apply q_i|apply q_j|apply q_k|apply q_m|apply q_n|apply q_o|apply q_p|refine q_l ?_)|((with_reducible first|refine q_q tb14_ok fun K hK=>?_|refine q_r tb14_ok fun K hK=>?_);simp (maxSteps:=2000000) only [go_sem,↓reduceIte,reduceCtorEq,Nat.reduceLeDiff,Nat.reduceLT,Nat.reduceBEq,Nat.reduceAdd];(repeat1' with_reducible first|apply And.intro|intro _|(refine hK _ ?_;clear hK K))<;>(try (clear hK K;exact q_u)))|(with_reducible refine q_s ?_;(first|apply q_J|apply q_K|apply q_L|apply q_M|apply q_N|apply q_O)<;>try intro _)|with_reducible refine q_t ?_)
    all_goals (try contradiction)
    exact q_B [.inl (some (.ints .u32 [])), .inl (some (.ints .u32 []))] rfl (by simp [resAV, norm, nz, dvQ, dvR, dvC, dvI, dvE, hc])

def gcO (xs ys : List Int) : List Int := if chkC xs ys = 0 then dg 4294967296 (Nat.gcd (V 4294967296 xs) (V 4294967296 ys)) else []

set_option maxHeartbeats 1600000 in
theorem Gcd_ret (xs ys : List Int) (hx : xs.length ≤ 140737488355328) (hy : ys.length ≤ 140737488355328) (bx : InB 4294967296 xs) (by' : InB 4294967296 ys) :
    Ret Try.prog 131 false [.inl (.ints .u32 xs), .inl (.ints .u32 ys)] (.t [.inl (.ints .u32 (gcO xs ys)), .inr [.i .i64 (chkC xs ys), .i .i64 (chkI xs ys)]]) := by
  by_cases hc : chkC xs ys = 0
  · obtain ⟨⟨g1, g2⟩, g3, g4, g5⟩ := chk_good hc
    (refine q_H Try.func131 (fun F => ?_); simp only [q_z,q_y,Try.ntmps131,Try.results131])
    repeat' (first|(with_reducible first|apply q_a|apply q_b|apply q_c|apply q_d|apply q_e|apply q_f|apply q_g|apply q_h|apply q_i|apply q_j|apply q_k|apply q_m|apply q_n|apply q_o|apply q_p|refine q_l ?_)|((with_reducible first|refine q_q tb14_ok fun K hK=>?_|refine q_r tb14_ok fun K hK=>?_);simp (maxSteps:=2000000) only [go_sem,↓reduceIte,reduceCtorEq,Nat.reduceLeDiff,Nat.reduceLT,Nat.reduceBEq,Nat.reduceAdd];(repeat1' with_reducible first|apply And.intro|intro _|(refine hK _ ?_;clear hK K))<;>(try (clear hK K;exact q_u)))|(with_reducible refine q_s ?_;(first|apply q_J|apply q_K|apply q_L|apply q_M|apply q_N|apply q_O)<;>try intro _)|with_reducible refine q_t ?_)
    all_goals (try contradiction)
    refine q_G (ι := { p : List Int × List Int // p.1.length ≤ 600 ∧ p.2.length ≤ 600 ∧ InB 4294967296 p.1 ∧ InB 4294967296 p.2 ∧ Trd p.1 ∧ Trd p.2 ∧ Nat.gcd (V 4294967296 p.1) (V 4294967296 p.2) = Nat.gcd (V 4294967296 xs) (V 4294967296 ys) })
      (fun p => ⟨32, [(0, .c (.ints .u32 p.1.1)), (1, .c (.ints .u32 p.1.2)), (5, .bx 0 0)], ⟨[(0, [.c (.i .i64 0), .c (.i .i64 0)])], [], []⟩, 4⟩) (fun p => V 4294967296 p.1.2) ⟨(xs, ys), g1, g3, bx, by', g2, g4, rfl⟩ ?_ ?_
    · exact q_D
    rintro ⟨⟨us, vs⟩, p1, p2, p3, p4, p5, p6, p7⟩
    simp only at p1 p2 p3 p4 p5 p6 p7 ⊢
    repeat' (first|(with_reducible first|apply q_a|apply q_b|apply q_c|apply q_d|apply q_e|apply q_f|apply q_g|apply q_h|apply q_i|apply q_j|apply q_k|apply q_m|apply q_n|apply q_o|apply q_p|refine q_l ?_)|((with_reducible first|refine q_q tb14_ok fun K hK=>?_|refine q_r tb14_ok fun K hK=>?_);simp (maxSteps:=2000000) only [go_sem,↓reduceIte,reduceCtorEq,Nat.reduceLeDiff,Nat.reduceLT,Nat.reduceBEq,Nat.reduceAdd];(repeat1' with_reducible first|apply And.intro|intro _|(refine hK _ ?_;clear hK K))<;>(try (clear hK K;exact q_u)))|(with_reducible refine q_s ?_;(first|apply q_J|apply q_K|apply q_L|apply q_M|apply q_N|apply q_O)<;>try intro _)|with_reducible refine q_t ?_)
    all_goals (try contradiction)
    · rename_i h
      have v0 := V_ge_of_trd (B := 4294967296) (by omega) vs p4 p6 (by omega)
      have hpos : 0 < 4294967296 ^ (vs.length - 1) := Nat.pow_pos (by omega)
      have hlt : V 4294967296 us % V 4294967296 vs < V 4294967296 vs := Nat.mod_lt _ (by omega)
      have hl : (dg 4294967296 (V 4294967296 us % V 4294967296 vs)).length ≤ 600 := by
        refine Nat.le_trans (dg_len_le (by omega) _ vs.length (Nat.lt_trans hlt (V_lt _ (by omega) vs p4))) p2
      refine q_F ⟨(vs, dg 4294967296 (V 4294967296 us % V 4294967296 vs)), p2, hl, p4, InB_dg _ (by omega) _, p6, dg_trd _ (by omega) _, ?_⟩ ?_ (by simp only [V_dg 4294967296 (by omega)]; exact hlt)
      · simp only [V_dg 4294967296 (by omega)]
        rw [← p7, Nat.gcd_comm (V 4294967296 us), Nat.gcd_rec (V 4294967296 vs) (V 4294967296 us), Nat.gcd_comm]
      · exact q_D
    · rename_i h
      have hy0 : vs = [] := List.eq_nil_of_length_eq_zero (by omega)
      subst hy0
      have e := dg_V 4294967296 (by omega) us p3 p5
      refine q_A ?_
      rw [show V 4294967296 [] = 0 from rfl, Nat.gcd_zero_right] at p7
      simp only [resAV, gcO, hc, if_true, ← p7, e, g5]
  · (refine q_H Try.func131 (fun F => ?_); simp only [q_z,q_y,Try.ntmps131,Try.results131])
    repeat' (first|(with_reducible first|apply q_a|apply q_b|apply q_c|apply q_d|apply q_e|apply q_f|apply q_g|apply q_h|apply q_i|apply q_j|apply q_k|apply q_m|apply q_n|apply q_o|apply q_p|refine q_l ?_)|((with_reducible first|refine q_q tb14_ok fun K hK=>?_|refine q_r tb14_ok fun K hK=>?_);simp (maxSteps:=2000000) only [go_sem,↓reduceIte,reduceCtorEq,Nat.reduceLeDiff,Nat.reduceLT,Nat.reduceBEq,Nat.reduceAdd];(repeat1' with_reducible first|apply And.intro|intro _|(refine hK _ ?_;clear hK K))<;>(try (clear hK K;exact q_u)))|(with_reducible refine q_s ?_;(first|apply q_J|apply q_K|apply q_L|apply q_M|apply q_N|apply q_O)<;>try intro _)|with_reducible refine q_t ?_)
    all_goals (try contradiction)
    exact q_B [.inl (some (.ints .u32 []))] rfl (by simp [resAV, norm, nz, gcO, hc])

end Go.Proofs.Ytgogdabniebplaa
