import Derived.Test.YtgogdabniebplaaI5
namespace Go.Proofs.NatL
set_option linter.unusedSimpArgs false
set_option linter.unusedVariables false
def smallZ (a : Int) : Bool := decide (-9223372036854775808 ≤ a ∧ a ≤ 9223372036854775807)
def smV (a : Int) : Int := if smallZ a then a else 0
def smC (a : Int) : Int := if smallZ a then 0 else 14
def smI (a : Int) : Int := if smallZ a then 0 else -1
theorem sm_fit {a : Int} (h : -9223372036854775808 ≤ a ∧ a ≤ 9223372036854775807) : smV a = a ∧ smC a = 0 ∧ smI a = 0 := by simp [smV, smC, smI, smallZ, h]
theorem sm_big {a : Int} (h : ¬ (-9223372036854775808 ≤ a ∧ a ≤ 9223372036854775807)) : smV a = 0 ∧ smC a = 14 ∧ smI a = -1 := by
  have : smallZ a = false := decide_eq_false h
  simp [smV, smC, smI, this]
end Go.Proofs.NatL
namespace Go.Proofs.Ytgogdabniebplaa
set_option linter.unusedSimpArgs false
set_option linter.unusedVariables false
open Go.Abs Go.Proofs.NatL
theorem sm_or (i u : Nat) (x : Int) (hi : i ≤ 1) (hu : u < 4294967296 ^ i) (h0 : 0 ≤ x) (h1 : x < 4294967296) : bitI .or .u64 (u : Int) (shlI .u64 x (32 * (i : Int))) = ((u + 4294967296 ^ i * x.toNat : Nat) : Int) := by
  rcases (show i = 0 ∨ i = 1 by omega) with rfl | rfl
  · have hu0 : u = 0 := by simpa using hu
    subst hu0
    have h2 := shl64 x 0 (by omega) h0 h1
    rw [Int.pow_zero, Int.mul_one] at h2
    rw [show (32 * ((0 : Nat) : Int)) = ((0 : Nat) : Int) by omega, h2, or64 _ _ (by omega) (by omega) (by omega) (by omega)]
    first | (simp; done) | (simp; omega)
  · have hu1 : u < 4294967296 := by simpa using hu
    rw [show (32 * ((1 : Nat) : Int)) = 32 by omega, shl64_32 x h0 h1, or64_hi' _ _ h0 h1 (by omega) (by omega)]
    first | (simp; done) | (simp; omega)

set_option maxHeartbeats 3200000 in
theorem iSmall_false (m : Nat) (hs : false = true → 0 < m) (lm : (dg 4294967296 m).length ≤ 128) (ho : okZ false (dg 4294967296 m) = true) :
    Ret Try.prog 77 false [.inr [.b false, .ints .u32 (dg 4294967296 m)]] (.t [.inl (.i .i64 (smV (sg false m))), .inr [.i .i64 (smC (sg false m)), .i .i64 (smI (sg false m))]]) := by
  have hb := I32 m
  have hv : V 4294967296 (dg 4294967296 m) = m := V_dg 4294967296 (by omega) m
  have hlong : 2 < (dg 4294967296 m).length → ¬ (-9223372036854775808 ≤ sg false m ∧ sg false m ≤ 9223372036854775807) := fun h hh => by
    have h2 : ¬ m < 4294967296 ^ 2 := fun h3 => by have := dg_len_le (B := 4294967296) (by omega) m 2 h3; omega
    simp only [sgt, sgf] at hh; omega
  generalize dg 4294967296 m = xs at *
  simp only [sgt, sgf, forall_const, reduceCtorEq, false_implies] at hlong hs ⊢
  (refine q_H Try.func77 (fun F => ?_); simp only [q_z,q_y,Try.ntmps77,Try.results77])
  repeat' (first|(with_reducible first|apply q_a|apply q_b|apply q_c|apply q_d|apply q_e|apply q_f|apply q_g|apply q_h|apply q_i|apply q_j|apply q_k|apply q_m|apply q_n|apply q_o|apply q_p|refine q_l ?_)|((with_reducible first|refine q_q ib_ok fun K hK=>?_|refine q_r ib_ok fun K hK=>?_);simp (maxSteps:=2000000) only [go_sem,↓reduceIte,reduceCtorEq,Nat.reduceLeDiff,Nat.reduceLT,Nat.reduceBEq,Nat.reduceAdd,ho];(repeat1' with_reducible first|apply And.intro|(intro _;try exact q_v)|(refine hK _ ?_;clear hK K))<;>(try (clear hK K;exact q_u)))|(with_reducible refine q_s ?_;(first|apply q_J|apply q_K|apply q_L|apply q_M|apply q_N|apply q_O)<;>try (intro _;try exact q_v))|with_reducible refine q_t ?_)
  refine q_G (ι := { p : Nat × Nat // p.1 ≤ xs.length ∧ p.1 ≤ 2 ∧ p.2 = V 4294967296 (xs.take p.1) }) (fun p => ⟨49, [(1, .bx 0 0), (3, .bx 1 0), (5, .c (.i .u64 (p.1.2 : Nat))), (17, .c (.ints .u32 xs)), (18, .c (.i .i64 xs.length)), (19, .c (.i .i64 (p.1.1 : Nat)))], ⟨[(1, [.c (.i .i64 0), .c (.i .i64 0)]), (0, [.c (.b false), .c (.ints .u32 xs)])], [], []⟩, 3⟩) (fun p => xs.length - p.1.1) ⟨(0, 0), by simp, by simp, by simp [V]⟩ ?_ ?_
  · exact q_D
  rintro ⟨⟨i, u⟩, g1, g2, g3⟩
  simp only at g1 g2 g3 ⊢
  have hx := InB_getD (B := 4294967296) (by omega) (of_eq_true hb) i
  have hu : u < 4294967296 ^ i := by
    rw [g3]
    refine Nat.lt_of_lt_of_le (V_lt _ (by omega) _ (InB_take (of_eq_true hb) i)) (Nat.pow_le_pow_right (by omega) (by simp; omega))
  have hu2 : u < 18446744073709551616 := Nat.lt_of_lt_of_le hu (Nat.le_trans (Nat.pow_le_pow_right (by omega) g2) (by decide))
  rcases Nat.lt_or_ge i xs.length with hi | hi
  · have hor := fun h => sm_or i u _ h hu hx.1 hx.2
    have hnx := V_take_succ 4294967296 xs i hi
    repeat' (first|(with_reducible first|apply q_a|apply q_b|apply q_c|apply q_d|apply q_e|apply q_f|apply q_g|apply q_h|apply q_i|apply q_j|apply q_k|apply q_m|apply q_n|apply q_o|apply q_p|refine q_l ?_)|((with_reducible first|refine q_q ib_ok fun K hK=>?_|refine q_r ib_ok fun K hK=>?_);simp (maxSteps:=2000000) only [go_sem,↓reduceIte,reduceCtorEq,Nat.reduceLeDiff,Nat.reduceLT,Nat.reduceBEq,Nat.reduceAdd];(repeat1' with_reducible first|apply And.intro|(intro _;try exact q_v)|(refine hK _ ?_;clear hK K))<;>(try (clear hK K;exact q_u)))|(with_reducible refine q_s ?_;(first|apply q_J|apply q_K|apply q_L|apply q_M|apply q_N|apply q_O)<;>try (intro _;try exact q_v))|with_reducible refine q_t ?_)
    · obtain ⟨e1, e2, e3⟩ := sm_big (hlong (by omega))
      exact q_A (by simp only [resAV, e1, e2, e3])
    · have hw : xs.getD i 0 % 18446744073709551616 = xs.getD i 0 := Int.emod_eq_of_lt hx.1 (by omega)
      have hor := hor (by omega)
      simp only [hw, hor]
      refine q_F ⟨(i + 1, u + 4294967296 ^ i * (xs.getD i 0).toNat), hi, by simp only; omega, by simp only; rw [hnx, g3]⟩ ?_ (by simp only; omega)
      exact q_D
  · have hi' : xs.take i = xs := List.take_of_length_le hi
    rw [hi', hv] at g3
    subst g3
    repeat' (first|(with_reducible first|apply q_a|apply q_b|apply q_c|apply q_d|apply q_e|apply q_f|apply q_g|apply q_h|apply q_i|apply q_j|apply q_k|apply q_m|apply q_n|apply q_o|apply q_p|refine q_l ?_)|((with_reducible first|refine q_q ib_ok fun K hK=>?_|refine q_r ib_ok fun K hK=>?_);simp (maxSteps:=2000000) only [go_sem,↓reduceIte,reduceCtorEq,Nat.reduceLeDiff,Nat.reduceLT,Nat.reduceBEq,Nat.reduceAdd];(repeat1' with_reducible first|apply And.intro|(intro _;try exact q_v)|(refine hK _ ?_;clear hK K))<;>(try (clear hK K;exact q_u)))|(with_reducible refine q_s ?_;(first|apply q_J|apply q_K|apply q_L|apply q_M|apply q_N|apply q_O)<;>try (intro _;try exact q_v))|with_reducible refine q_t ?_)
    all_goals
      rename_i q
      simp only [Bool.bne_true, Bool.bne_false, Bool.not_eq_true', Bool.not_eq_false', decide_eq_true_eq, decide_eq_false_iff_not] at q
      by_cases hr : -9223372036854775808 ≤ sg false u ∧ sg false u ≤ 9223372036854775807
      · obtain ⟨e1, e2, e3⟩ := sm_fit hr
        simp only [sgt, sgf] at hr e1 e2 e3
        first | (exfalso; omega) | (refine q_A ?_; simp only [resAV, e1, e2, e3, AV.t.injEq, List.cons.injEq, Sum.inl.injEq, C.i.injEq, true_and, and_true]; omega) | exact q_A (by simp only [resAV, e1, e2, e3])
      · obtain ⟨e1, e2, e3⟩ := sm_big hr
        simp only [sgt, sgf] at hr e1 e2 e3
        first | (exfalso; omega) | exact q_A (by simp only [resAV, e1, e2, e3])
set_option maxHeartbeats 3200000 in
theorem iSmall_true (m : Nat) (hs : true = true → 0 < m) (lm : (dg 4294967296 m).length ≤ 128) (ho : okZ true (dg 4294967296 m) = true) :
    Ret Try.prog 77 false [.inr [.b true, .ints .u32 (dg 4294967296 m)]] (.t [.inl (.i .i64 (smV (sg true m))), .inr [.i .i64 (smC (sg true m)), .i .i64 (smI (sg true m))]]) := by
  have hb := I32 m
  have hv : V 4294967296 (dg 4294967296 m) = m := V_dg 4294967296 (by omega) m
  have hlong : 2 < (dg 4294967296 m).length → ¬ (-9223372036854775808 ≤ sg true m ∧ sg true m ≤ 9223372036854775807) := fun h hh => by
    have h2 : ¬ m < 4294967296 ^ 2 := fun h3 => by have := dg_len_le (B := 4294967296) (by omega) m 2 h3; omega
    simp only [sgt, sgf] at hh; omega
  generalize dg 4294967296 m = xs at *
  simp only [sgt, sgf, forall_const, reduceCtorEq, false_implies] at hlong hs ⊢
  (refine q_H Try.func77 (fun F => ?_); simp only [q_z,q_y,Try.ntmps77,Try.results77])
  repeat' (first|(with_reducible first|apply q_a|apply q_b|apply q_c|apply q_d|apply q_e|apply q_f|apply q_g|apply q_h|apply q_i|apply q_j|apply q_k|apply q_m|apply q_n|apply q_o|apply q_p|refine q_l ?_)|((with_reducible first|refine q_q ib_ok fun K hK=>?_|refine q_r ib_ok fun K hK=>?_);simp (maxSteps:=2000000) only [go_sem,↓reduceIte,reduceCtorEq,Nat.reduceLeDiff,Nat.reduceLT,Nat.reduceBEq,Nat.reduceAdd,ho];(repeat1' with_reducible first|apply And.intro|(intro _;try exact q_v)|(refine hK _ ?_;clear hK K))<;>(try (clear hK K;exact q_u)))|(with_reducible refine q_s ?_;(first|apply q_J|apply q_K|apply q_L|apply q_M|apply q_N|apply q_O)<;>try (intro _;try exact q_v))|with_reducible refine q_t ?_)
  refine q_G (ι := { p : Nat × Nat // p.1 ≤ xs.length ∧ p.1 ≤ 2 ∧ p.2 = V 4294967296 (xs.take p.1) }) (fun p => ⟨49, [(1, .bx 0 0), (3, .bx 1 0), (5, .c (.i .u64 (p.1.2 : Nat))), (17, .c (.ints .u32 xs)), (18, .c (.i .i64 xs.length)), (19, .c (.i .i64 (p.1.1 : Nat)))], ⟨[(1, [.c (.i .i64 0), .c (.i .i64 0)]), (0, [.c (.b true), .c (.ints .u32 xs)])], [], []⟩, 3⟩) (fun p => xs.length - p.1.1) ⟨(0, 0), by simp, by simp, by simp [V]⟩ ?_ ?_
  · exact q_D
  rintro ⟨⟨i, u⟩, g1, g2, g3⟩
  simp only at g1 g2 g3 ⊢
  have hx := InB_getD (B := 4294967296) (by omega) (of_eq_true hb) i
  have hu : u < 4294967296 ^ i := by
    rw [g3]
    refine Nat.lt_of_lt_of_le (V_lt _ (by omega) _ (InB_take (of_eq_true hb) i)) (Nat.pow_le_pow_right (by omega) (by simp; omega))
  have hu2 : u < 18446744073709551616 := Nat.lt_of_lt_of_le hu (Nat.le_trans (Nat.pow_le_pow_right (by omega) g2) (by decide))
  rcases Nat.lt_or_ge i xs.length with hi | hi
  · have hor := fun h => sm_or i u _ h hu hx.1 hx.2
    have hnx := V_take_succ 4294967296 xs i hi
    repeat' (first|(with_reducible first|apply q_a|apply q_b|apply q_c|apply q_d|apply q_e|apply q_f|apply q_g|apply q_h|apply q_i|apply q_j|apply q_k|apply q_m|apply q_n|apply q_o|apply q_p|refine q_l ?_)|((with_reducible first|refine q_q ib_ok fun K hK=>?_|refine q_r ib_ok fun K hK=>?_);simp (maxSteps:=2000000) only [go_sem,↓reduceIte,reduceCtorEq,Nat.reduceLeDiff,Nat.reduceLT,Nat.reduceBEq,Nat.reduceAdd];(repeat1' with_reducible first|apply And.intro|(intro _;try exact q_v)|(refine hK _ ?_;clear hK K))<;>(try (clear hK K;exact q_u)))|(with_reducible refine q_s ?_;(first|apply q_J|apply q_K|apply q_L|apply q_M|apply q_N|apply q_O)<;>try (intro _;try exact q_v))|with_reducible refine q_t ?_)
    · obtain ⟨e1, e2, e3⟩ := sm_big (hlong (by omega))
      exact q_A (by simp only [resAV, e1, e2, e3])
    · have hw : xs.getD i 0 % 18446744073709551616 = xs.getD i 0 := Int.emod_eq_of_lt hx.1 (by omega)
      have hor := hor (by omega)
      simp only [hw, hor]
      refine q_F ⟨(i + 1, u + 4294967296 ^ i * (xs.getD i 0).toNat), hi, by simp only; omega, by simp only; rw [hnx, g3]⟩ ?_ (by simp only; omega)
      exact q_D
  · have hi' : xs.take i = xs := List.take_of_length_le hi
    rw [hi', hv] at g3
    subst g3
    repeat' (first|(with_reducible first|apply q_a|apply q_b|apply q_c|apply q_d|apply q_e|apply q_f|apply q_g|apply q_h|apply q_i|apply q_j|apply q_k|apply q_m|apply q_n|apply q_o|apply q_p|refine q_l ?_)|((with_reducible first|refine q_q ib_ok fun K hK=>?_|refine q_r ib_ok fun K hK=>?_);simp (maxSteps:=2000000) only [go_sem,↓reduceIte,reduceCtorEq,Nat.reduceLeDiff,Nat.reduceLT,Nat.reduceBEq,Nat.reduceAdd];(repeat1' with_reducible first|apply And.intro|(intro _;try exact q_v)|(refine hK _ ?_;clear hK K))<;>(try (clear hK K;exact q_u)))|(with_reducible refine q_s ?_;(first|apply q_J|apply q_K|apply q_L|apply q_M|apply q_N|apply q_O)<;>try (intro _;try exact q_v))|with_reducible refine q_t ?_)
    all_goals
      rename_i q
      simp only [Bool.bne_true, Bool.bne_false, Bool.not_eq_true', Bool.not_eq_false', decide_eq_true_eq, decide_eq_false_iff_not] at q
      by_cases hr : -9223372036854775808 ≤ sg true u ∧ sg true u ≤ 9223372036854775807
      · obtain ⟨e1, e2, e3⟩ := sm_fit hr
        simp only [sgt, sgf] at hr e1 e2 e3
        first | (exfalso; omega) | (refine q_A ?_; simp only [resAV, e1, e2, e3, AV.t.injEq, List.cons.injEq, Sum.inl.injEq, C.i.injEq, true_and, and_true]; omega) | exact q_A (by simp only [resAV, e1, e2, e3])
      · obtain ⟨e1, e2, e3⟩ := sm_big hr
        simp only [sgt, sgf] at hr e1 e2 e3
        first | (exfalso; omega) | exact q_A (by simp only [resAV, e1, e2, e3])
def ismallCT : CT := mkCT [nP] true fun l K => match l with
  | [.inr [.b s, .ints .u32 xs]] => (okZ s xs = true ∧ InB 4294967296 xs) ∧ K (.t [.inl (.i .i64 (smV (sv 4294967296 s xs))), .inr [.i .i64 (smC (sv 4294967296 s xs)), .i .i64 (smI (sv 4294967296 s xs))]])
  | _ => False
theorem okZ_sg {s : Bool} {xs : List Int} (h1 : okZ s xs = true) (h2 : InB 4294967296 xs) : xs = dg 4294967296 (V 4294967296 xs) ∧ sv 4294967296 s xs = sg s (V 4294967296 xs) ∧ (s = true → 0 < V 4294967296 xs) ∧ xs.length ≤ 128 := by
  have ht := okZ_trd h1
  have e := dg_V 4294967296 (by omega) xs h2 ht
  refine ⟨e.symm, by rw [← sv_d (B := 4294967296) (by omega), e], fun hs => ?_, okZ_len h1⟩
  subst hs
  rcases Nat.eq_zero_or_pos (V 4294967296 xs) with h | h
  · rw [h, dg_zero] at e; rw [← e] at h1; exact absurd h1 (by decide)
  · exact h
def iu4 : Cfg := addT 77 ismallCT iu3
theorem iu4_ok : TblOk Try.prog iu4 := q_I iu3_ok Try.func77 fun l K h => by
  split at h
  · rename_i s xs
    obtain ⟨⟨h1, h2⟩, h⟩ := h
    obtain ⟨e1, e2, e3, e4⟩ := okZ_sg h1 h2
    rw [e2] at h
    cases s
    · have := iSmall_false (V 4294967296 xs) e3 (by rw [← e1]; exact e4) (by rw [← e1]; exact h1)
      rw [← e1] at this
      exact ⟨_, this.plain rfl, h⟩
    · have := iSmall_true (V 4294967296 xs) e3 (by rw [← e1]; exact e4) (by rw [← e1]; exact h1)
      rw [← e1] at this
      exact ⟨_, this.plain rfl, h⟩
  · exact h.elim
attribute [go_sem] ismallCT

end Go.Proofs.Ytgogdabniebplaa
