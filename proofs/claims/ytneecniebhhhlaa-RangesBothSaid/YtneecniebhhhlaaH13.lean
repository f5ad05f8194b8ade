import Derived.Test.YtneecniebhhhlaaH5
import Derived.Test.YtneecniebhhhlaaH6
namespace Go.Proofs.Ytneecniebhhhlaa
set_option linter.unusedSimpArgs false
set_option linter.unusedVariables false
open Go.Abs Go.Proofs.NatL
attribute [go_sem] cf0 addT mkCT mkCTO norm nz nzL List.mem_singleton List.mem_cons true_or or_true

set_option maxHeartbeats 400000 in
theorem rtrim_ret (xs : List Int) (hx : xs.length ≤ 16777216) : Ret Try.prog 114 false [.inl (.ints .i64 xs)] (.c (.ints .i64 (trimL xs))) := by
  (refine q_H Try.func114 (fun F => ?_); simp only [q_z,q_y,Try.ntmps114,Try.results114])
  repeat' (first|(with_reducible first|apply q_a|apply q_b|apply q_c|apply q_d|apply q_e|apply q_f|apply q_g|apply q_h|apply q_i|apply q_j|apply q_k|apply q_m|apply q_n|apply q_o|apply q_p|refine q_l ?_)|((with_reducible first|refine q_q cf0_ok fun K hK=>?_|refine q_r cf0_ok fun K hK=>?_);simp (maxSteps:=2000000) only [go_sem,↓reduceIte,reduceCtorEq,Nat.reduceLeDiff,Nat.reduceLT,Nat.reduceBEq,Nat.reduceAdd];(repeat1' with_reducible first|apply And.intro|intro _|(refine hK _ ?_;clear hK K))<;>(try (clear hK K;exact q_u)))|(with_reducible refine q_s ?_;(first|apply q_J|apply q_K|apply q_L|apply q_M|apply q_N|apply q_O)<;>try intro _)|with_reducible refine q_t ?_)
  refine q_G (ι := { ys : List Int // trimL ys = trimL xs ∧ ys.length ≤ 16777216 }) (fun ys => ⟨21, [(0, .c (.ints .i64 ys.1))], ⟨[], [], []⟩, 0⟩) (fun ys => ys.1.length) ⟨xs, rfl, hx⟩ ?_ ?_
  · exact q_D
  rintro ⟨ys, h1, h2⟩
  have e : 0 < (ys.length : Int) → ((ys.length : Int) - 1).toNat = ys.length - 1 := fun _ => by omega
  repeat' (first|(with_reducible first|apply q_a|apply q_b|apply q_c|apply q_d|apply q_e|apply q_f|apply q_g|apply q_h|apply q_i|apply q_j|apply q_k|apply q_m|apply q_n|apply q_o|apply q_p|refine q_l ?_)|((with_reducible first|refine q_q cf0_ok fun K hK=>?_|refine q_r cf0_ok fun K hK=>?_);simp (maxSteps:=2000000) only [go_sem,↓reduceIte,reduceCtorEq,Nat.reduceLeDiff,Nat.reduceLT,Nat.reduceBEq,Nat.reduceAdd];(repeat1' with_reducible first|apply And.intro|intro _|(refine hK _ ?_;clear hK K))<;>(try (clear hK K;exact q_u)))|(with_reducible refine q_s ?_;(first|apply q_J|apply q_K|apply q_L|apply q_M|apply q_N|apply q_O)<;>try intro _)|with_reducible refine q_t ?_)
  · rename_i hp h0
    rw [e hp] at h0 ⊢
    refine q_F ⟨ys.take (ys.length - 1), by rw [trimL_drop ys (by omega) h0, h1], by simp; omega⟩ ?_ ?_
    · exact q_D
    · show (ys.take (ys.length - 1)).length < ys.length
      simp; omega
  · rename_i hp h0
    rw [e hp] at h0
    exact q_A (by rw [← h1, trimL_stop ys (.inr h0)]; rfl)
  · exact q_A (by rw [← h1, trimL_stop ys (.inl (by omega))]; rfl)

def rtrimCT : CT := mkCT [.inl (some (.ints .i64 []))] false fun l K => match l with
  | [.inl (.ints .i64 xs)] => xs.length ≤ 16777216 ∧ K (.c (.ints .i64 (trimL xs)))
  | _ => False
def rf1 : Cfg := addT 114 rtrimCT cf0
theorem rf1_ok : TblOk Try.prog rf1 := q_I cf0_ok Try.func114 fun l K h => by
  split at h
  · exact ⟨_, rtrim_ret _ h.1, h.2⟩
  · exact h.elim
attribute [go_sem] rf1 rtrimCT

theorem of_step (i : Nat) (o xs : List Int) (h : V 65536 o = V 4294967296 (xs.take i)) (hl : o.length = 2 * i) (hi : i < xs.length) (r q : Int) (hr : r.toNat + 65536 * q.toNat = (xs.getD i 0).toNat) : V 65536 (o ++ [r, q]) = V 4294967296 (xs.take (i + 1)) := by
  rw [V_append, V_take_getD, h, hl]
  have e : (65536 : Nat) ^ (2 * i) = 4294967296 ^ i := by rw [Nat.pow_mul]
  rw [e]
  simp only [V, Nat.mul_zero, Nat.add_zero]
  rw [hr]

set_option maxHeartbeats 800000 in
theorem of_ret (xs : List Int) (hx : xs.length ≤ 1048576) (bx : InB 4294967296 xs) : Ret Try.prog 41 false [.inl (.ints .u32 xs)] (.c (.ints .i64 (dg 65536 (V 4294967296 xs)))) := by
  (refine q_H Try.func41 (fun F => ?_); simp only [q_z,q_y,Try.ntmps41,Try.results41])
  repeat' (first|(with_reducible first|apply q_a|apply q_b|apply q_c|apply q_d|apply q_e|apply q_f|apply q_g|apply q_h|apply q_i|apply q_j|apply q_k|apply q_m|apply q_n|apply q_o|apply q_p|refine q_l ?_)|((with_reducible first|refine q_q cf0_ok fun K hK=>?_|refine q_r cf0_ok fun K hK=>?_);simp (maxSteps:=2000000) only [go_sem,↓reduceIte,reduceCtorEq,Nat.reduceLeDiff,Nat.reduceLT,Nat.reduceBEq,Nat.reduceAdd];(repeat1' with_reducible first|apply And.intro|intro _|(refine hK _ ?_;clear hK K))<;>(try (clear hK K;exact q_u)))|(with_reducible refine q_s ?_;(first|apply q_J|apply q_K|apply q_L|apply q_M|apply q_N|apply q_O)<;>try intro _)|with_reducible refine q_t ?_)
  refine q_G (ι := { p : Nat × List Int // p.1 ≤ xs.length ∧ p.2.length = 2 * p.1 ∧ InB 65536 p.2 ∧ V 65536 p.2 = V 4294967296 (xs.take p.1) }) (fun p => ⟨28, [(0, .c (.ints .u32 xs)), (3, .own 0 0), (4, .c (.i .i64 p.1.1))], ⟨[], [(0, ⟨0, 3, 1, .ints .i64 p.1.2⟩)], []⟩, 1⟩) (fun p => xs.length - p.1.1) ⟨(0, []), by simp, by simp, InB_nil _, by simp [V]⟩ ?_ ?_
  · exact q_D
  rintro ⟨⟨i, o⟩, g1, g2, g3, g4⟩
  simp only at g1 g2 g3 g4 ⊢
  have b1 := InB_getD (by omega) bx i
  repeat' (first|(with_reducible first|apply q_a|apply q_b|apply q_c|apply q_d|apply q_e|apply q_f|apply q_g|apply q_h|apply q_i|apply q_j|apply q_k|apply q_m|apply q_n|apply q_o|apply q_p|refine q_l ?_)|((with_reducible first|refine q_q rf1_ok fun K hK=>?_|refine q_r rf1_ok fun K hK=>?_);simp (maxSteps:=2000000) only [go_sem,↓reduceIte,reduceCtorEq,Nat.reduceLeDiff,Nat.reduceLT,Nat.reduceBEq,Nat.reduceAdd];(repeat1' with_reducible first|apply And.intro|intro _|(refine hK _ ?_;clear hK K))<;>(try (clear hK K;exact q_u)))|(with_reducible refine q_s ?_;(first|apply q_J|apply q_K|apply q_L|apply q_M|apply q_N|apply q_O)<;>try intro _)|with_reducible refine q_t ?_)
  · rename_i ha
    refine q_F ⟨(i + 1, o ++ [xs.getD i 0 % 65536, xs.getD i 0 / 65536]), by simp only; omega, by simp [g2]; omega, InB_app g3 (InB_two (by omega) (by omega)), of_step i o xs g4 g2 (by omega) _ _ (by omega)⟩ ?_ ?_
    · exact q_D
    · show xs.length - (i + 1) < xs.length - i
      omega
  · rename_i ha
    have hi : i = xs.length := by omega
    refine q_A ?_
    simp only [resAV, q_y]
    rw [trimL_eq 65536 (by omega) _ g3, g4, hi, List.take_length]

def ofCT : CT := mkCT [.inl (some (.ints .u32 []))] false fun l K => match l with
  | [.inl (.ints .u32 xs)] => (xs.length ≤ 1048576 ∧ InB 4294967296 xs) ∧ K (.c (.ints .i64 (dg 65536 (V 4294967296 xs))))
  | _ => False
def rf2 : Cfg := addT 41 ofCT rf1
attribute [go_sem] rf2 ofCT

set_option maxHeartbeats 800000 in
theorem rcompare_ret (xs ys : List Int) (hx : xs.length ≤ 4194304) (hy : ys.length ≤ 4194304) (bx : InB 65536 xs) (by' : InB 65536 ys) (tx : Trd xs) (ty : Trd ys) : Ret Try.prog 112 false [.inl (.ints .i64 xs), .inl (.ints .i64 ys)] (.c (.i .i64 (cmp3 (V 65536 xs) (V 65536 ys)))) := by
  (refine q_H Try.func112 (fun F => ?_); simp only [q_z,q_y,Try.ntmps112,Try.results112])
  repeat' (first|(with_reducible first|apply q_a|apply q_b|apply q_c|apply q_d|apply q_e|apply q_f|apply q_g|apply q_h|apply q_i|apply q_j|apply q_k|apply q_m|apply q_n|apply q_o|apply q_p|refine q_l ?_)|((with_reducible first|refine q_q rf1_ok fun K hK=>?_|refine q_r rf1_ok fun K hK=>?_);simp (maxSteps:=2000000) only [go_sem,↓reduceIte,reduceCtorEq,Nat.reduceLeDiff,Nat.reduceLT,Nat.reduceBEq,Nat.reduceAdd];(repeat1' with_reducible first|apply And.intro|intro _|(refine hK _ ?_;clear hK K))<;>(try (clear hK K;exact q_u)))|(with_reducible refine q_s ?_;(first|apply q_J|apply q_K|apply q_L|apply q_M|apply q_N|apply q_O)<;>try intro _)|with_reducible refine q_t ?_)
  · rename_i hl
    have := len_lt (by omega) bx by' ty (by omega)
    exact q_A (by simp only [resAV, q_y, cmp3]; rw [if_pos this])
  · rename_i hl hl2
    have := len_lt (by omega) by' bx tx (by omega)
    exact q_A (by simp only [resAV, q_y, cmp3]; rw [if_neg (by omega), if_neg (by omega)])
  rename_i hl
  have hl : xs.length = ys.length := by omega
  refine q_G (ι := { i : Int // -1 ≤ i ∧ i < xs.length ∧ xs.drop (i + 1).toNat = ys.drop (i + 1).toNat }) (fun i => ⟨41, [(0, .c (.ints .i64 xs)), (1, .c (.ints .i64 ys)), (5, .c (.i .i64 i.1))], ⟨[], [], []⟩, 0⟩) (fun i => (i.1 + 1).toNat) ⟨(xs.length : Int) - 1, by omega, by omega, by rw [List.drop_eq_nil_of_le (by omega), List.drop_eq_nil_of_le (by omega)]⟩ ?_ ?_
  · exact q_D
  rintro ⟨i, h1, h2, h3⟩
  simp only
  have e1 : 0 ≤ i → (i + 1).toNat = i.toNat + 1 := fun _ => by omega
  repeat' (first|(with_reducible first|apply q_a|apply q_b|apply q_c|apply q_d|apply q_e|apply q_f|apply q_g|apply q_h|apply q_i|apply q_j|apply q_k|apply q_m|apply q_n|apply q_o|apply q_p|refine q_l ?_)|((with_reducible first|refine q_q rf1_ok fun K hK=>?_|refine q_r rf1_ok fun K hK=>?_);simp (maxSteps:=2000000) only [go_sem,↓reduceIte,reduceCtorEq,Nat.reduceLeDiff,Nat.reduceLT,Nat.reduceBEq,Nat.reduceAdd];(repeat1' with_reducible first|apply And.intro|intro _|(refine hK _ ?_;clear hK K))<;>(try (clear hK K;exact q_u)))|(with_reducible refine q_s ?_;(first|apply q_J|apply q_K|apply q_L|apply q_M|apply q_N|apply q_O)<;>try intro _)|with_reducible refine q_t ?_)
  · rename_i h0 hlt
    rw [e1 h0] at h3
    have := cmp_at (by omega) bx by' hl i.toNat (by omega) h3 hlt
    exact q_A (by simp only [resAV, q_y, cmp3]; rw [if_pos this])
  · rename_i h0 hne hlt
    rw [e1 h0] at h3
    have := cmp_at (by omega) by' bx hl.symm i.toNat (by omega) h3.symm (by omega)
    exact q_A (by simp only [resAV, q_y, cmp3]; rw [if_neg (by omega), if_neg (by omega)])
  · rename_i h0 he he2
    rw [e1 h0] at h3
    refine q_F ⟨i - 1, by omega, by omega, ?_⟩ ?_ ?_
    · rw [show (i - 1 + 1).toNat = i.toNat by omega]
      exact drop_step hl i.toNat (by omega) h3 (by omega)
    · exact q_D
    · show (i - 1 + 1).toNat < (i + 1).toNat
      omega
  · rename_i h0
    rw [show (i + 1).toNat = 0 by omega] at h3
    simp only [List.drop_zero] at h3
    exact q_A (by simp only [resAV, q_y, cmp3, h3]; simp)

set_option maxHeartbeats 1600000 in
theorem plus_ret (xs ys : List Int) (hx : xs.length ≤ 4194304) (hy : ys.length ≤ 4194304) (bx : InB 65536 xs) (by' : InB 65536 ys) : Ret Try.prog 117 false [.inl (.ints .i64 xs), .inl (.ints .i64 ys)] (.c (.ints .i64 (dg 65536 (V 65536 xs + V 65536 ys)))) := by
  (refine q_H Try.func117 (fun F => ?_); simp only [q_z,q_y,Try.ntmps117,Try.results117])
  repeat' (first|(with_reducible first|apply q_a|apply q_b|apply q_c|apply q_d|apply q_e|apply q_f|apply q_g|apply q_h|apply q_i|apply q_j|apply q_k|apply q_m|apply q_n|apply q_o|apply q_p|refine q_l ?_)|((with_reducible first|refine q_q rf1_ok fun K hK=>?_|refine q_r rf1_ok fun K hK=>?_);simp (maxSteps:=2000000) only [go_sem,↓reduceIte,reduceCtorEq,Nat.reduceLeDiff,Nat.reduceLT,Nat.reduceBEq,Nat.reduceAdd];(repeat1' with_reducible first|apply And.intro|intro _|(refine hK _ ?_;clear hK K))<;>(try (clear hK K;exact q_u)))|(with_reducible refine q_s ?_;(first|apply q_J|apply q_K|apply q_L|apply q_M|apply q_N|apply q_O)<;>try intro _)|with_reducible refine q_t ?_)
  refine q_G (ι := { p : Nat × List Int × Int // p.1 ≤ max xs.length ys.length + 1 ∧ p.2.1.length = p.1 ∧ InB 65536 p.2.1 ∧ 0 ≤ p.2.2 ∧ p.2.2 ≤ 1 ∧ (p.1 = max xs.length ys.length + 1 → p.2.2 = 0) ∧ V 65536 p.2.1 + 65536 ^ p.1 * p.2.2.toNat = V 65536 (xs.take p.1) + V 65536 (ys.take p.1) }) (fun p => ⟨53, [(0, .c (.ints .i64 xs)), (1, .c (.ints .i64 ys)), (5, .own 0 0), (6, .c (.i .i64 p.1.2.2)), (7, .c (.i .i64 p.1.1))], ⟨[], [(0, ⟨0, 3, 1, .ints .i64 p.1.2.1⟩)], []⟩, 1⟩) (fun p => max xs.length ys.length + 1 - p.1.1) ⟨(0, [], 0), by simp, rfl, InB_nil _, by simp, by simp, by simp, by simp [V]⟩ ?_ ?_
  · exact q_D
  rintro ⟨⟨i, o, c⟩, g1, g2, g3, g4, g5, g6, g7⟩
  simp only at g1 g2 g3 g4 g5 g6 g7 ⊢
  have b1 := InB_getD (by omega) bx i
  have b2 := InB_getD (by omega) by' i
  have z1 : ¬ (i : Int) < xs.length → xs.getD i 0 = 0 := fun h => getD_ge xs i (by omega)
  have z2 : ¬ (i : Int) < ys.length → ys.getD i 0 = 0 := fun h => getD_ge ys i (by omega)
  have z3 : ∀ (h : ¬ (i : Int) < xs.length) (h2 : ¬ (i : Int) < ys.length), c + xs.getD i 0 + ys.getD i 0 = c := fun h h2 => by rw [z1 h, z2 h2]; omega
  repeat' (first|(with_reducible first|apply q_a|apply q_b|apply q_c|apply q_d|apply q_e|apply q_f|apply q_g|apply q_h|apply q_i|apply q_j|apply q_k|apply q_m|apply q_n|apply q_o|apply q_p|refine q_l ?_)|((with_reducible first|refine q_q rf1_ok fun K hK=>?_|refine q_r rf1_ok fun K hK=>?_);simp (maxSteps:=2000000) only [go_sem,↓reduceIte,reduceCtorEq,Nat.reduceLeDiff,Nat.reduceLT,Nat.reduceBEq,Nat.reduceAdd];(repeat1' with_reducible first|apply And.intro|intro _|(refine hK _ ?_;clear hK K))<;>(try (clear hK K;exact q_u)))|(with_reducible refine q_s ?_;(first|apply q_J|apply q_K|apply q_L|apply q_M|apply q_N|apply q_O)<;>try intro _)|with_reducible refine q_t ?_)
  all_goals first | (exfalso; omega) | skip
  all_goals (try simp (disch := omega) only [Int.tdiv_eq_ediv_of_nonneg, Int.tmod_eq_emod_of_nonneg])
  all_goals first
    | (refine q_F ⟨(i + 1, o ++ [(c + xs.getD i 0 + ys.getD i 0) % 65536], (c + xs.getD i 0 + ys.getD i 0) / 65536), by simp only; omega, by simp [g2], InB_snoc g3 (by omega) (by omega), by simp only; omega, by simp only; omega, by simp only; omega, by simp only; exact add_step _ _ _ xs ys c _ _ _ _ g7 g2 rfl rfl (by omega)⟩ ?_ (by show max xs.length ys.length + 1 - (i + 1) < max xs.length ys.length + 1 - i; omega); exact q_D; done)
    | skip
  · have hc : c = 0 := by omega
    refine q_A ?_
    simp only [resAV, q_y]
    rw [hc] at g7
    simp at g7
    rw [trimL_eq 65536 (by omega) _ g3, g7, List.take_of_length_le (by omega), List.take_of_length_le (by omega)]

set_option maxHeartbeats 1600000 in
theorem minus_ret (xs ys : List Int) (hx : xs.length ≤ 4194304) (hy : ys.length ≤ xs.length) (bx : InB 65536 xs) (by' : InB 65536 ys) (hv : V 65536 ys ≤ V 65536 xs) : Ret Try.prog 116 false [.inl (.ints .i64 xs), .inl (.ints .i64 ys)] (.c (.ints .i64 (dg 65536 (V 65536 xs - V 65536 ys)))) := by
  (refine q_H Try.func116 (fun F => ?_); simp only [q_z,q_y,Try.ntmps116,Try.results116])
  repeat' (first|(with_reducible first|apply q_a|apply q_b|apply q_c|apply q_d|apply q_e|apply q_f|apply q_g|apply q_h|apply q_i|apply q_j|apply q_k|apply q_m|apply q_n|apply q_o|apply q_p|refine q_l ?_)|((with_reducible first|refine q_q rf1_ok fun K hK=>?_|refine q_r rf1_ok fun K hK=>?_);simp (maxSteps:=2000000) only [go_sem,↓reduceIte,reduceCtorEq,Nat.reduceLeDiff,Nat.reduceLT,Nat.reduceBEq,Nat.reduceAdd];(repeat1' with_reducible first|apply And.intro|intro _|(refine hK _ ?_;clear hK K))<;>(try (clear hK K;exact q_u)))|(with_reducible refine q_s ?_;(first|apply q_J|apply q_K|apply q_L|apply q_M|apply q_N|apply q_O)<;>try intro _)|with_reducible refine q_t ?_)
  refine q_G (ι := { p : List Int × Int // p.1.length ≤ xs.length ∧ InB 65536 p.1 ∧ 0 ≤ p.2 ∧ p.2 ≤ 1 ∧ V 65536 p.1 + V 65536 (ys.take p.1.length) = V 65536 (xs.take p.1.length) + 65536 ^ p.1.length * p.2.toNat }) (fun p => ⟨41, [(0, .c (.ints .i64 xs)), (1, .c (.ints .i64 ys)), (5, .own 0 0), (6, .c (.i .i64 p.1.2)), (7, .c (.i .i64 p.1.1.length))], ⟨[], [(0, ⟨0, 3, 1, .ints .i64 p.1.1⟩)], []⟩, 1⟩) (fun p => xs.length - p.1.1.length) ⟨([], 0), by simp, InB_nil _, by simp, by simp, by simp [V]⟩ ?_ ?_
  · exact q_D
  rintro ⟨⟨o, c⟩, g1, g2, g3, g4, g5⟩
  simp only at g1 g2 g3 g4 g5 ⊢
  have b1 := InB_getD (by omega) bx o.length
  have b2 := InB_getD (by omega) by' o.length
  have z2 : ¬ (o.length : Int) < ys.length → ys.getD o.length 0 = 0 := fun h => getD_ge ys o.length (by omega)
  repeat' (first|(with_reducible first|apply q_a|apply q_b|apply q_c|apply q_d|apply q_e|apply q_f|apply q_g|apply q_h|apply q_i|apply q_j|apply q_k|apply q_m|apply q_n|apply q_o|apply q_p|refine q_l ?_)|((with_reducible first|refine q_q rf1_ok fun K hK=>?_|refine q_r rf1_ok fun K hK=>?_);simp (maxSteps:=2000000) only [go_sem,↓reduceIte,reduceCtorEq,Nat.reduceLeDiff,Nat.reduceLT,Nat.reduceBEq,Nat.reduceAdd];(repeat1' with_reducible first|apply And.intro|intro _|(refine hK _ ?_;clear hK K))<;>(try (clear hK K;exact q_u)))|(with_reducible refine q_s ?_;(first|apply q_J|apply q_K|apply q_L|apply q_M|apply q_N|apply q_O)<;>try intro _)|with_reducible refine q_t ?_)
  all_goals first | (exfalso; omega) | skip
  all_goals first
    | (refine q_F ⟨(o ++ [if xs.getD o.length 0 - c - ys.getD o.length 0 < 0 then xs.getD o.length 0 - c - ys.getD o.length 0 + 65536 else xs.getD o.length 0 - c - ys.getD o.length 0], if xs.getD o.length 0 - c - ys.getD o.length 0 < 0 then 1 else 0), by simp; omega, InB_snoc g2 (by split <;> omega) (by split <;> omega), by simp only; split <;> omega, by simp only; split <;> omega, (by
          simp only [List.length_append, List.length_cons, List.length_nil, Nat.zero_add]
          exact sub_step _ _ _ xs ys c _ _ _ _ g5 rfl rfl rfl (by split <;> omega))⟩ ?_ (by simp; omega); exact q_D; done)
    | skip
  · refine q_A ?_
    have hl : o.length = xs.length := by omega
    simp only [resAV, q_y]
    rw [trimL_eq 65536 (by omega) _ g2, sub_end 65536 (by omega) o xs ys c g2 hl hy hv g4 g5]
end Go.Proofs.Ytneecniebhhhlaa
