import Derived.Test.YtgkajjifbcmoeaaGreatDoorH4
import Derived.Test.YtgkajjifbcmoeaaGreatDoorH6
namespace Go.Proofs.YtgkajjifbcmoeaaGreatDoor
set_option linter.unusedSimpArgs false
set_option linter.unusedVariables false
open Go.Abs Go.Proofs.NatL

theorem div32_ret (h l y : Int) (h0 : 0 ≤ h) (hy : h < y) (hy1 : y < 4294967296) (l0 : 0 ≤ l) (l1 : l < 4294967296) :
  Ret Tryz.prog 212 false [.inl (.i .u32 h), .inl (.i .u32 l), .inl (.i .u32 y)] (.t [.inl (.i .u32 ((h * 4294967296 + l) / y)), .inl (.i .u32 ((h * 4294967296 + l) % y))]) := by
 have e : bitI .or .u64 (shlI .u64 (h % 18446744073709551616) 32) (l % 18446744073709551616) = h * 4294967296 + l := by
  rw [show h % 18446744073709551616 = h by omega, show l % 18446744073709551616 = l by omega, shl64_32 h (by omega) (by omega), or64_hi h l (by omega) (by omega) l0 l1]
 have ey : y % 18446744073709551616 = y := by omega
 have q1 : (h * 4294967296 + l) / y < 4294967296 := Int.ediv_lt_of_lt_mul (by omega) (by omega)
 have q0 : 0 ≤ (h * 4294967296 + l) / y := Int.ediv_nonneg (by omega) (by omega)
 have r0 : 0 ≤ (h * 4294967296 + l) % y := Int.emod_nonneg _ (by omega)
 have r1 : (h * 4294967296 + l) % y < y := Int.emod_lt_of_pos _ (by omega)
 (refine q_H Tryz.func212 (fun F => ?_); simp only [q_z,q_y,Tryz.ntmps212,Tryz.results212])
 repeat' (first|(with_reducible first|apply q_a|apply q_b|apply q_c|apply q_d|apply q_e|apply q_f|apply q_g|apply q_h|apply q_i|apply q_j|apply q_k|apply q_m|apply q_n|apply q_o|apply q_p|refine q_l ?_)|((with_reducible first|refine q_q cf14_ok fun K hK=>?_|refine q_r cf14_ok fun K hK=>?_);simp (maxSteps:=2000000) only [go_sem,↓reduceIte,reduceCtorEq,Nat.reduceLeDiff,Nat.reduceLT,Nat.reduceBEq,Nat.reduceAdd];(repeat1' with_reducible first|apply And.intro|intro _|(refine hK _ ?_;clear hK K))<;>(try (clear hK K;exact q_u)))|(with_reducible refine q_s ?_;(first|apply q_J|apply q_K|apply q_L|apply q_M|apply q_N|apply q_O)<;>try intro _)|with_reducible refine q_t ?_)
 all_goals try omega
 all_goals try rw [e]
 all_goals try rw [ey]
 all_goals try omega
 ·refine q_A ?_
  simp only [resAV]
  rw [show (h * 4294967296 + l) / y % 4294967296 = (h * 4294967296 + l) / y by omega, show (h * 4294967296 + l) % y % 4294967296 = (h * 4294967296 + l) % y by omega]

def div32CT : CT := mkCT [] true fun l K => match l with
 | [.inl (.i .u32 h), .inl (.i .u32 l), .inl (.i .u32 y)] => (0 ≤ h ∧ h < y ∧ y < 4294967296 ∧ 0 ≤ l ∧ l < 4294967296) ∧ K (.t [.inl (.i .u32 ((h * 4294967296 + l) / y)), .inl (.i .u32 ((h * 4294967296 + l) % y))])
 | _ => False
def cf15 : Cfg := addT 212 div32CT cf14
theorem cf15_ok : TblOk Tryz.prog cf15 := q_I cf14_ok Tryz.func212 fun l K h => by
 split at h
 ·exact ⟨_, (div32_ret _ _ _ h.1.1 h.1.2.1 h.1.2.2.1 h.1.2.2.2.1 h.1.2.2.2.2).plain rfl, h.2⟩
 ·exact h.elim
attribute [go_sem] cf15 div32CT
theorem add32_ret (x y c : Int) (x0 : 0 ≤ x) (x1 : x < 4294967296) (y0 : 0 ≤ y) (y1 : y < 4294967296) (c0 : 0 ≤ c) (c1 : c ≤ 1) :
  Ret Tryz.prog 238 false [.inl (.i .u32 x), .inl (.i .u32 y), .inl (.i .u32 c)] (.t [.inl (.i .u32 ((x + y + c) % 4294967296)), .inl (.i .u32 ((x + y + c) / 4294967296))]) := by
 (refine q_H Tryz.func238 (fun F => ?_); simp only [q_z,q_y,Tryz.ntmps238,Tryz.results238])
 repeat' (first|(with_reducible first|apply q_a|apply q_b|apply q_c|apply q_d|apply q_e|apply q_f|apply q_g|apply q_h|apply q_i|apply q_j|apply q_k|apply q_m|apply q_n|apply q_o|apply q_p|refine q_l ?_)|((with_reducible first|refine q_q cf14_ok fun K hK=>?_|refine q_r cf14_ok fun K hK=>?_);simp (maxSteps:=2000000) only [go_sem,↓reduceIte,reduceCtorEq,Nat.reduceLeDiff,Nat.reduceLT,Nat.reduceBEq,Nat.reduceAdd];(repeat1' with_reducible first|apply And.intro|intro _|(refine hK _ ?_;clear hK K))<;>(try (clear hK K;exact q_u)))|(with_reducible refine q_s ?_;(first|apply q_J|apply q_K|apply q_L|apply q_M|apply q_N|apply q_O)<;>try intro _)|with_reducible refine q_t ?_)
 refine q_A ?_
 simp only [resAV, AV.t.injEq, List.cons.injEq, Sum.inl.injEq, C.i.injEq, true_and, and_true]
 omega
def add32CT : CT := mkCT [] true fun l K => match l with
 | [.inl (.i .u32 x), .inl (.i .u32 y), .inl (.i .u32 c)] => (0 ≤ x ∧ x < 4294967296 ∧ 0 ≤ y ∧ y < 4294967296 ∧ 0 ≤ c ∧ c ≤ 1) ∧ K (.t [.inl (.i .u32 ((x + y + c) % 4294967296)), .inl (.i .u32 ((x + y + c) / 4294967296))])
 | _ => False
def cf16 : Cfg := addT 238 add32CT cf15
theorem cf16_ok : TblOk Tryz.prog cf16 := q_I cf15_ok Tryz.func238 fun l K h => by
 split at h
 ·exact ⟨_, (add32_ret _ _ _ h.1.1 h.1.2.1 h.1.2.2.1 h.1.2.2.2.1 h.1.2.2.2.2.1 h.1.2.2.2.2.2).plain rfl, h.2⟩
 ·exact h.elim
attribute [go_sem] cf16 add32CT
set_option maxHeartbeats 800000 in
theorem short_ret (xs : List Int) (d : Nat) (hx : xs.length ≤ 16777216) (bx : InB 4294967296 xs) (d0 : 0 < d) (d1 : d < 4294967296) :
  Ret Tryz.prog 194 false [.inl (.ints .u32 xs), .inl (.i .u32 d)] (.t [.inl (.ints .u32 (dg 4294967296 (V 4294967296 xs / d))), .inl (.i .u32 ((V 4294967296 xs % d : Nat) : Int))]) := by
 (refine q_H Tryz.func194 (fun F => ?_); simp only [q_z,q_y,Tryz.ntmps194,Tryz.results194])
 repeat' (first|(with_reducible first|apply q_a|apply q_b|apply q_c|apply q_d|apply q_e|apply q_f|apply q_g|apply q_h|apply q_i|apply q_j|apply q_k|apply q_m|apply q_n|apply q_o|apply q_p|refine q_l ?_)|((with_reducible first|refine q_q cf16_ok fun K hK=>?_|refine q_r cf16_ok fun K hK=>?_);simp (maxSteps:=2000000) only [go_sem,↓reduceIte,reduceCtorEq,Nat.reduceLeDiff,Nat.reduceLT,Nat.reduceBEq,Nat.reduceAdd];(repeat1' with_reducible first|apply And.intro|intro _|(refine hK _ ?_;clear hK K))<;>(try (clear hK K;exact q_u)))|(with_reducible refine q_s ?_;(first|apply q_J|apply q_K|apply q_L|apply q_M|apply q_N|apply q_O)<;>try intro _)|with_reducible refine q_t ?_)
 refine q_G (ι := { p : Nat × List Int × Nat // p.1 ≤ xs.length ∧ p.2.1.length = xs.length ∧ InB 4294967296 p.2.1 ∧ p.2.2 < d ∧ V 4294967296 (p.2.1.drop p.1) * d + p.2.2 = V 4294967296 (xs.drop p.1) }) (fun p => ⟨35, [(0, .c (.ints .u32 xs)), (1, .c (.i .u32 d)), (6, .own 0 0), (7, .c (.i .u32 (p.1.2.2 : Nat))), (8, .c (.i .i64 ((p.1.1 : Int) - 1)))], ⟨[], [(0, ⟨0, 105, 1, .ints .u32 p.1.2.1⟩)], []⟩, 1⟩) (fun p => p.1.1) ⟨(xs.length, List.replicate xs.length 0, 0), by simp, by simp, InB_replicate (by omega) _, d0, by simp [V]⟩ ?_ ?_
 ·exact q_D
 rintro ⟨⟨k, o, r⟩, g1, g2, g3, g4, g5⟩
 simp only at g1 g2 g3 g4 g5 ⊢
 have b1 := InB_getD (by omega) bx ((k : Int) - 1).toNat
 have e : 0 < k → ((k : Int) - 1).toNat = k - 1 := fun _ => by omega
 repeat' (first|(with_reducible first|apply q_a|apply q_b|apply q_c|apply q_d|apply q_e|apply q_f|apply q_g|apply q_h|apply q_i|apply q_j|apply q_k|apply q_m|apply q_n|apply q_o|apply q_p|refine q_l ?_)|((with_reducible first|refine q_q cf16_ok fun K hK=>?_|refine q_r cf16_ok fun K hK=>?_);simp (maxSteps:=2000000) only [go_sem,↓reduceIte,reduceCtorEq,Nat.reduceLeDiff,Nat.reduceLT,Nat.reduceBEq,Nat.reduceAdd];(repeat1' with_reducible first|apply And.intro|intro _|(refine hK _ ?_;clear hK K))<;>(try (clear hK K;exact q_u)))|(with_reducible refine q_s ?_;(first|apply q_J|apply q_K|apply q_L|apply q_M|apply q_N|apply q_O)<;>try intro _)|with_reducible refine q_t ?_)
 ·rename_i ha
  obtain ⟨x, hxx⟩ : ∃ x : Nat, xs.getD ((k : Int) - 1).toNat 0 = x := ⟨(xs.getD ((k : Int) - 1).toNat 0).toNat, by omega⟩
  have hq : ((r : Int) * 4294967296 + xs.getD ((k : Int) - 1).toNat 0) / (d : Int) = (((r * 4294967296 + x) / d : Nat) : Int) := by rw [hxx]; simp
  have hr : ((r : Int) * 4294967296 + xs.getD ((k : Int) - 1).toNat 0) % (d : Int) = (((r * 4294967296 + x) % d : Nat) : Int) := by rw [hxx]; simp
  have hx2 : x < 4294967296 := by omega
  rw [hq, hr, e (by omega)]
  rw [e (by omega)] at hxx
  have hlt : (r * 4294967296 + x) / d < 4294967296 := by
   rw [Nat.div_lt_iff_lt_mul d0]
   have h1 : (r + 1) * 4294967296 ≤ d * 4294967296 := Nat.mul_le_mul_right _ g4
   omega
  refine q_F ⟨(k - 1, o.set (k - 1) (((r * 4294967296 + x) / d : Nat) : Int), (r * 4294967296 + x) % d), by simp only; omega, by simp [g2], InB_set g3 _ (Int.natCast_nonneg _) (by exact_mod_cast hlt), Nat.mod_lt _ d0, ?_⟩ ?_ ?_
  ·simp only
   refine short_step 4294967296 (k - 1) d o xs r _ _ x (by omega) g2 (by rw [show k - 1 + 1 = k by omega]; exact g5) (by rw [hxx]; simp) ?_
   rw [Nat.mul_comm]; exact Nat.div_add_mod _ _
  ·exact q_D
  ·show k - 1 < k
   omega
 ·rename_i ha
  have hk : k = 0 := by omega
  subst hk
  simp only [List.drop_zero] at g5
  refine q_A ?_
  simp only [resAV]
  rw [trimL_eq 4294967296 (by omega) _ g3, ← g5]
  have h1 : (V 4294967296 o * d + r) / d = V 4294967296 o := by rw [Nat.mul_comm, Nat.mul_add_div d0, Nat.div_eq_of_lt g4]; simp
  have h2 : (V 4294967296 o * d + r) % d = r := by rw [Nat.mul_comm, Nat.mul_add_mod]; exact Nat.mod_eq_of_lt g4
  rw [h1, h2]

def shortCT : CT := mkCT [.inl (some (.ints .u32 []))] false fun l K => match l with
 | [.inl (.ints .u32 xs), .inl (.i .u32 d)] => (xs.length ≤ 16777216 ∧ InB 4294967296 xs ∧ 0 < d ∧ d < 4294967296) ∧ K (.t [.inl (.ints .u32 (dg 4294967296 (V 4294967296 xs / d.toNat))), .inl (.i .u32 ((V 4294967296 xs % d.toNat : Nat) : Int))])
 | _ => False
def cf17 : Cfg := addT 194 shortCT cf16
theorem cf17_ok : TblOk Tryz.prog cf17 := q_I cf16_ok Tryz.func194 fun l K h => by
 split at h
 ·rename_i xs d
  obtain ⟨d, rfl⟩ : ∃ n : Nat, d = n := ⟨d.toNat, by omega⟩
  exact ⟨_, short_ret _ d h.1.1 h.1.2.1 (by omega) (by omega), by simpa using h.2⟩
 ·exact h.elim
attribute [go_sem] cf17 shortCT
def bl (n : Nat) : Nat := if n = 0 then 0 else n.log2 + 1
theorem bl_shr (n k : Nat) (h : 2 ^ k ≤ n) : bl n = k + bl (n / 2 ^ k) := by
 have h1 : 0 < 2 ^ k := Nat.pow_pos (by omega)
 have h2 : n / 2 ^ k ≠ 0 := by
  have := Nat.div_pos h h1; omega
 have h3 : n ≠ 0 := by omega
 unfold bl
 rw [if_neg h3, if_neg h2]
 have h4 := Nat.log2_self_le h2
 have h5 := @Nat.lt_log2_self (n / 2 ^ k)
 generalize (n / 2 ^ k).log2 = j at *
 have h6 : n.log2 = k + j := by
  rw [Nat.log2_eq_iff h3, Nat.pow_add, Nat.add_assoc, Nat.pow_add]
  have h7 := Nat.div_add_mod n (2 ^ k)
  have h8 := Nat.mod_lt n h1
  constructor
  ·exact Nat.le_trans (Nat.mul_le_mul_left _ h4) (by omega)
  ·have : 2 ^ k * (n / 2 ^ k + 1) ≤ 2 ^ k * 2 ^ (j + 1) := Nat.mul_le_mul_left _ h5
   rw [Nat.mul_add] at this
   omega
 omega
theorem bl_lt (n k : Nat) (h : n < 2 ^ k) : bl n ≤ k := by
 unfold bl
 split
 ·omega
 ·rename_i h0
  have := (Nat.log2_lt h0).2 h
  omega
theorem bl_spec (n : Nat) (h : 0 < n) : 2 ^ (bl n - 1) ≤ n ∧ n < 2 ^ (bl n) ∧ 0 < bl n := by
 have h0 : n ≠ 0 := by omega
 unfold bl
 rw [if_neg h0]
 exact ⟨by simpa using Nat.log2_self_le h0, Nat.lt_log2_self, by omega⟩

def tabOk (L : List UInt8) : Bool := (List.range 256).all fun m => (L.getD m 0).toNat == bl m
theorem tab_at (L : List UInt8) (h : tabOk L = true) (z : Nat) (hz : z < 256) : (L.getD z 0).toNat = bl z := by
 have := List.all_eq_true.1 h z (List.mem_range.2 hz)
 simpa using this
theorem tab_a (L : List UInt8) (m : Nat) : ((L.getD m 0).toNat : Int) ≤ 9223372036854775807 := by
 have := (L.getD m 0).toNat_lt
 omega
theorem tab_b (L : List UInt8) (m k : Nat) (h : k ≤ 24) : (k : Int) + ((L.getD m 0).toNat : Int) ≤ 9223372036854775807 := by
 have := (L.getD m 0).toNat_lt
 omega
theorem tab_len {T : List UInt8} {i : Int} (h : (T.length == 256) = true) (hi : i < 256) : i < (T.length : Int) := by
 have : T.length = 256 := by simpa using h
 omega
theorem tab_size {T : ByteArray} {i : Int} (h : (T.size == 256) = true) (hi : i < 256) : i < (T.size : Int) := by
 have : T.size = 256 := by simpa using h
 omega

set_option maxHeartbeats 800000 in
set_option maxRecDepth 100000 in
theorem len32_ret (x : Nat) (hx : x < 4294967296) : Ret Tryz.prog 211 false [.inl (.i .u32 x)] (.c (.i .i64 (bl x))) := by
 have s16 : shrI .u32 (x : Int) 16 = ((x / 65536 : Nat) : Int) := by rw [show (16 : Int) = ((16 : Nat) : Int) from rfl, shrI_lit .u32 x 16 (by decide)]; omega
 have s8 : ∀ y : Nat, shrI .u32 (y : Int) 8 = ((y / 256 : Nat) : Int) := fun y => by rw [show (8 : Int) = ((8 : Nat) : Int) from rfl, shrI_lit .u32 y 8 (by decide)]; omega
 (refine q_H Tryz.func211 (fun F => ?_); simp only [q_z,q_y,Tryz.ntmps211,Tryz.results211])
 refine q_a ?_
 ((first | with_reducible refine q_q cf16_ok (fun K hK => ?_) | with_reducible refine awp_region_draw cf16_ok mixed (by kernel_rfl) (fun K hK => ?_)); (simp (maxSteps:=2000000) only [go_sem,↓reduceIte,reduceCtorEq,Nat.reduceLeDiff,Nat.reduceLT,Nat.reduceBEq,Nat.reduceAdd]); (first | with_reducible apply And.intro | with_reducible intro _ | (with_reducible refine hK _ ?_; clear hK K)) <;> (repeat' (first | with_reducible apply And.intro | with_reducible intro _ | (with_reducible refine hK _ ?_; clear hK K))) <;> (try (clear hK K; first | omega | assumption | ((simp (disch := omega) only [Int.tdiv_eq_ediv_of_nonneg, Int.tmod_eq_emod_of_nonneg]); omega))))
 refine q_b ?_
 refine seq_join (ι := { p : Nat × Nat // p.1 < 65536 ∧ bl x = p.2 + bl p.1 ∧ p.2 ≤ 16 }) (fun p => ⟨19, [(0, .c (.i .u32 (p.1.1 : Nat))), (2, .c (.i .i64 (p.1.2 : Nat)))], ⟨[], [], []⟩, 0⟩) ?_ ?_
 ·repeat' (first|(with_reducible first|apply q_a|apply q_b|apply q_c|apply q_d|apply q_e|apply q_f|apply q_g|apply q_h|apply q_i|apply q_j|apply q_k|apply q_m|apply q_n|apply q_o|apply q_p|refine q_l ?_)|((with_reducible first|refine q_q cf16_ok fun K hK=>?_|refine q_r cf16_ok fun K hK=>?_);simp (maxSteps:=2000000) only [go_sem,↓reduceIte,reduceCtorEq,Nat.reduceLeDiff,Nat.reduceLT,Nat.reduceBEq,Nat.reduceAdd];(repeat1' with_reducible first|apply And.intro|intro _|(refine hK _ ?_;clear hK K))<;>(try (clear hK K;exact q_u)))|(with_reducible refine q_s ?_;(first|apply q_J|apply q_K|apply q_L|apply q_M|apply q_N|apply q_O)<;>try intro _)|with_reducible refine q_t ?_)
  ·rename_i h
   refine join_n ⟨(x / 65536, 16), by simp only; omega, bl_shr x 16 (by simp; omega), by simp⟩ ?_
   rw [s16]
   exact q_D
  ·rename_i h
   refine join_n ⟨(x, 0), by simp only; omega, by simp, by simp⟩ ?_
   exact q_D
 rintro ⟨⟨y, n⟩, g1, g2, g3⟩
 simp only at g1 g2 g3 ⊢
 refine seq_join (ι := { p : Nat × Nat // p.1 < 256 ∧ bl x = p.2 + bl p.1 ∧ p.2 ≤ 24 }) (fun p => ⟨19, [(0, .c (.i .u32 (p.1.1 : Nat))), (2, .c (.i .i64 (p.1.2 : Nat)))], ⟨[], [], []⟩, 0⟩) ?_ ?_
 ·repeat' (first|(with_reducible first|apply q_a|apply q_b|apply q_c|apply q_d|apply q_e|apply q_f|apply q_g|apply q_h|apply q_i|apply q_j|apply q_k|apply q_m|apply q_n|apply q_o|apply q_p|refine q_l ?_)|((with_reducible first|refine q_q cf16_ok fun K hK=>?_|refine q_r cf16_ok fun K hK=>?_);simp (maxSteps:=2000000) only [go_sem,↓reduceIte,reduceCtorEq,Nat.reduceLeDiff,Nat.reduceLT,Nat.reduceBEq,Nat.reduceAdd];(repeat1' with_reducible first|apply And.intro|intro _|(refine hK _ ?_;clear hK K))<;>(try (clear hK K;exact q_u)))|(with_reducible refine q_s ?_;(first|apply q_J|apply q_K|apply q_L|apply q_M|apply q_N|apply q_O)<;>try intro _)|with_reducible refine q_t ?_)
  ·rename_i h
   refine join_n ⟨(y / 256, n + 8), by simp only; omega, by have := bl_shr y 8 (by simp; omega); simp only [show (2 : Nat) ^ 8 = 256 from rfl] at this ⊢; omega, by simp only; omega⟩ ?_
   rw [s8]
   exact q_D
  ·rename_i h
   refine join_n ⟨(y, n), by simp only; omega, g2, by simp only; omega⟩ ?_
   exact q_D
 rintro ⟨⟨z, k⟩, g4, g5, g6⟩
 simp only at g4 g5 g6 ⊢
 have hz : ((z : Int) % 256).toNat = z := by omega
 have hb := bl_lt z 8 (by simpa using g4)
 repeat' (first|(with_reducible first|apply q_a|apply q_b|apply q_c|apply q_d|apply q_e|apply q_f|apply q_g|apply q_h|apply q_i|apply q_j|apply q_k|apply q_m|apply q_n|apply q_o|apply q_p|refine q_l ?_)|((with_reducible first|refine q_q cf16_ok fun K hK=>?_|refine q_r cf16_ok fun K hK=>?_);simp (maxSteps:=2000000) only [go_sem,↓reduceIte,reduceCtorEq,Nat.reduceLeDiff,Nat.reduceLT,Nat.reduceBEq,Nat.reduceAdd];(repeat1' with_reducible first|apply And.intro|intro _|(refine hK _ ?_;clear hK K))<;>(try (clear hK K;exact q_u)))|(with_reducible refine q_s ?_;(first|apply q_J|apply q_K|apply q_L|apply q_M|apply q_N|apply q_O)<;>try intro _)|with_reducible refine q_t ?_)
 ·first | exact tab_len (by decide +kernel) (by omega) | exact tab_size (by decide +kernel) (by omega)
 ·exact tab_a _ _
 ·exact tab_b _ _ _ g6
 ·refine q_A ?_
  simp only [resAV, q_y]
  rw [hz, tab_at _ (by decide +kernel) z g4, g5]
  simp

def len32CT : CT := mkCT [] true fun l K => match l with
 | [.inl (.i .u32 x)] => (0 ≤ x ∧ x < 4294967296) ∧ K (.c (.i .i64 (bl x.toNat)))
 | _ => False
def cf18 : Cfg := addT 211 len32CT cf17
theorem cf18_ok : TblOk Tryz.prog cf18 := q_I cf17_ok Tryz.func211 fun l K h => by
 split at h
 ·rename_i x
  obtain ⟨x, rfl⟩ : ∃ n : Nat, x = n := ⟨x.toNat, by omega⟩
  exact ⟨_, (len32_ret x (by omega)).plain rfl, by simpa using h.2⟩
 ·exact h.elim
attribute [go_sem] cf18 len32CT
theorem lz32_ret (x : Nat) (hx : x < 4294967296) : Ret Tryz.prog 219 false [.inl (.i .u32 x)] (.c (.i .i64 ((32 - bl x : Nat) : Int))) := by
 have hb := bl_lt x 32 (by simpa using hx)
 (refine q_H Tryz.func219 (fun F => ?_); simp only [q_z,q_y,Tryz.ntmps219,Tryz.results219])
 repeat' (first|(with_reducible first|apply q_a|apply q_b|apply q_c|apply q_d|apply q_e|apply q_f|apply q_g|apply q_h|apply q_i|apply q_j|apply q_k|apply q_m|apply q_n|apply q_o|apply q_p|refine q_l ?_)|((with_reducible first|refine q_q cf18_ok fun K hK=>?_|refine q_r cf18_ok fun K hK=>?_);simp (maxSteps:=2000000) only [go_sem,↓reduceIte,reduceCtorEq,Nat.reduceLeDiff,Nat.reduceLT,Nat.reduceBEq,Nat.reduceAdd];(repeat1' with_reducible first|apply And.intro|intro _|(refine hK _ ?_;clear hK K))<;>(try (clear hK K;exact q_u)))|(with_reducible refine q_s ?_;(first|apply q_J|apply q_K|apply q_L|apply q_M|apply q_N|apply q_O)<;>try intro _)|with_reducible refine q_t ?_)
 refine q_A ?_
 simp only [resAV, q_y, AV.c.injEq, C.i.injEq, true_and]
 omega
def lz32CT : CT := mkCT [] true fun l K => match l with
 | [.inl (.i .u32 x)] => (0 ≤ x ∧ x < 4294967296) ∧ K (.c (.i .i64 ((32 - bl x.toNat : Nat) : Int)))
 | _ => False
def cf19 : Cfg := addT 219 lz32CT cf18
theorem cf19_ok : TblOk Tryz.prog cf19 := q_I cf18_ok Tryz.func219 fun l K h => by
 split at h
 ·rename_i x
  obtain ⟨x, rfl⟩ : ∃ n : Nat, x = n := ⟨x.toNat, by omega⟩
  exact ⟨_, (lz32_ret x (by omega)).plain rfl, by simpa using h.2⟩
 ·exact h.elim
attribute [go_sem] cf19 lz32CT
end Go.Proofs.YtgkajjifbcmoeaaGreatDoor

namespace Go.Proofs.YtgkajjifbcmoeaaGreatDoor
set_option linter.unusedSimpArgs false
set_option linter.unusedVariables false
open Go.Abs Go.Proofs.NatL
attribute [go_sem] tmod32 tdiv32
set_option maxHeartbeats 1600000 in
theorem left_ret (xs : List Int) (n : Nat) (hx : xs.length ≤ 16777216) (hn : n ≤ 16777216) (bx : InB 4294967296 xs) :
  RetO Tryz.prog 185 [.inl (.ints .u32 xs), .inl (.i .i64 n)] 105 1 (.ints .u32 (dg 4294967296 (V 4294967296 xs * 2 ^ n))) := by
 have hs : n % 32 < 32 := Nat.mod_lt _ (by omega)
 have h2 : 2 ^ (n % 32) ≤ 2147483648 := by
  have : 2 ^ (n % 32) ≤ 2 ^ 31 := Nat.pow_le_pow_right (by omega) (by omega)
  simpa using this
 have h1 : 0 < 2 ^ (n % 32) := Nat.pow_pos (by omega)
 (refine q_x Tryz.func185 rfl (Nat.le_of_ble_eq_true rfl) (fun F => ?_); simp only [q_z, q_y, Tryz.ntmps185, Tryz.results185])
 repeat' (first|(with_reducible first|apply q_a|apply q_b|apply q_c|apply q_d|apply q_e|apply q_f|apply q_g|apply q_h|apply q_i|apply q_j|apply q_k|apply q_m|apply q_n|apply q_o|apply q_p|refine q_l ?_)|((with_reducible first|refine q_q cf19_ok fun K hK=>?_|refine q_r cf19_ok fun K hK=>?_);simp (maxSteps:=2000000) only [go_sem,↓reduceIte,reduceCtorEq,Nat.reduceLeDiff,Nat.reduceLT,Nat.reduceBEq,Nat.reduceAdd];(repeat1' with_reducible first|apply And.intro|intro _|(refine hK _ ?_;clear hK K))<;>(try (clear hK K;exact q_u)))|(with_reducible refine q_s ?_;(first|apply q_J|apply q_K|apply q_L|apply q_M|apply q_N|apply q_O)<;>try intro _))
 refine q_G (ι := { p : List Int × Nat // p.1.length ≤ xs.length ∧ InB 4294967296 p.1 ∧ p.2 < 2 ^ (n % 32) ∧ V 4294967296 p.1 + 4294967296 ^ p.1.length * p.2 = V 4294967296 (xs.take p.1.length) * 2 ^ (n % 32) }) (fun p => ⟨46, [(0, .c (.ints .u32 xs)), (1, .c (.i .i64 n)), (5, .own 0 0), (6, .c (.i .u32 (p.1.2 : Nat))), (19, .c (.ints .u32 xs)), (20, .c (.i .i64 xs.length)), (21, .c (.i .i64 p.1.1.length))], ⟨[], [(0, ⟨0, 105, 1, .ints .u32 (List.replicate (n / 32) 0 ++ p.1.1)⟩)], []⟩, 1⟩) (fun p => xs.length - p.1.1.length) ⟨([], 0), by simp, InB_nil _, h1, by simp [V]⟩ ?_ ?_
 ·exact q_D
 rintro ⟨⟨o, c⟩, g1, g2, g3, g4⟩
 simp only at g1 g2 g3 g4 ⊢
 have b1 := InB_getD (by omega) bx o.length
 obtain ⟨x, hxx⟩ : ∃ x : Nat, xs.getD o.length 0 = x := ⟨(xs.getD o.length 0).toNat, by omega⟩
 have e1 : shlI .u64 (xs.getD o.length 0 % 18446744073709551616) ((n % 32 : Nat) : Int) = ((x * 2 ^ (n % 32) : Nat) : Int) := by
  rw [hxx, show (x : Int) % 18446744073709551616 = x by omega, shl64 _ _ (by omega) (by omega) (by omega)]; simp
 have e2 : bitI .or .u32 (((x * 2 ^ (n % 32) : Nat) : Int) % 4294967296) (c : Int) = (((x * 2 ^ (n % 32)) % 4294967296 + c : Nat) : Int) := or32_lo x c _ (by omega) g3
 have e3 : ((x * 2 ^ (n % 32) : Nat) : Int) / 4294967296 % 4294967296 = ((x * 2 ^ (n % 32) / 4294967296 : Nat) : Int) := by
  have : x * 2 ^ (n % 32) ≤ 4294967295 * 2 ^ (n % 32) := Nat.mul_le_mul_right _ (by omega)
  omega
 have e4 : x * 2 ^ (n % 32) / 4294967296 < 2 ^ (n % 32) := by
  rw [Nat.div_lt_iff_lt_mul (by omega), Nat.mul_comm]
  exact Nat.mul_lt_mul_of_pos_left (by omega) h1
 have e5 : (x * 2 ^ (n % 32)) % 4294967296 + c < 4294967296 := by
  have d0 : 2 ^ 32 = 2 ^ (n % 32) * 2 ^ (32 - n % 32) := by rw [← Nat.pow_add]; congr 1; omega
  have d1 : x * 2 ^ (n % 32) % 4294967296 = (x % 2 ^ (32 - n % 32)) * 2 ^ (n % 32) := by
   rw [show (4294967296 : Nat) = 2 ^ 32 from rfl, d0, Nat.mul_comm x, Nat.mul_mod_mul_left, Nat.mul_comm]
  have d2 : x % 2 ^ (32 - n % 32) + 1 ≤ 2 ^ (32 - n % 32) := Nat.mod_lt _ (Nat.pow_pos (by omega))
  have d3 := Nat.mul_le_mul_right (2 ^ (n % 32)) d2
  rw [Nat.add_mul, Nat.mul_comm (2 ^ (32 - n % 32)), ← d0] at d3
  rw [d1]
  omega
 repeat' (first|(with_reducible first|apply q_a|apply q_b|apply q_c|apply q_d|apply q_e|apply q_f|apply q_g|apply q_h|apply q_i|apply q_j|apply q_k|apply q_m|apply q_n|apply q_o|apply q_p|refine q_l ?_)|((with_reducible first|refine q_q cf19_ok fun K hK=>?_|refine q_r cf19_ok fun K hK=>?_);simp (maxSteps:=2000000) only [go_sem,↓reduceIte,reduceCtorEq,Nat.reduceLeDiff,Nat.reduceLT,Nat.reduceBEq,Nat.reduceAdd];(repeat1' with_reducible first|apply And.intro|intro _|(refine hK _ ?_;clear hK K))<;>(try (clear hK K;exact q_u)))|(with_reducible refine q_s ?_;(first|apply q_J|apply q_K|apply q_L|apply q_M|apply q_N|apply q_O)<;>try intro _))
 ·rename_i ha
  rw [e1, e2, e3]
  refine q_F ⟨(o ++ [(((x * 2 ^ (n % 32)) % 4294967296 + c : Nat) : Int)], x * 2 ^ (n % 32) / 4294967296), by simp; omega, InB_snoc g2 (Int.natCast_nonneg _) (by exact_mod_cast e5), e4, ?_⟩ ?_ ?_
  ·simp only [List.length_append, List.length_cons, List.length_nil, Nat.zero_add]
   refine left_step 4294967296 o.length (2 ^ (n % 32)) o xs c _ _ g4 rfl ?_
   rw [hxx, Int.toNat_natCast]
   have := Nat.mod_add_div (x * 2 ^ (n % 32)) 4294967296
   omega
  ·exact q_D
  ·simp; omega
 ·rename_i ha
  have hl : o.length = xs.length := by omega
  rw [hl, List.take_length] at g4
  refine endsO_own rfl rfl rfl rfl rfl ?_ rfl
  simp only [C.ints.injEq, true_and]
  rw [trimL_eq 4294967296 (by omega)]
  ·congr 1
   rw [List.append_assoc, V_zeros, V_snoc, hl, Int.toNat_natCast, g4]
   have : 2 ^ n = 4294967296 ^ (n / 32) * 2 ^ (n % 32) := by
    rw [show (4294967296 : Nat) = 2 ^ 32 from rfl, ← Nat.pow_mul, ← Nat.pow_add]; congr 1; omega
   rw [this, Nat.mul_left_comm]
  ·refine InB_snoc (InB_app (InB_replicate (by omega) _) g2) (by omega) ?_
   omega

def leftCT : CT := mkCTO [.inl (some (.ints .u32 []))] 105 1 fun l K => match l with
 | [.inl (.ints .u32 xs), .inl (.i .i64 n)] => (xs.length ≤ 16777216 ∧ InB 4294967296 xs ∧ 0 ≤ n ∧ n ≤ 16777216) ∧ K (.c (.ints .u32 (dg 4294967296 (V 4294967296 xs * 2 ^ n.toNat))))
 | _ => False
def cf20 : Cfg := addT 185 leftCT cf19
theorem cf20_ok : TblOk Tryz.prog cf20 := mkCTO_ok cf19_ok (q_C Tryz.func185 (by kernel_rfl) (by kernel_rfl)) rfl fun l K h => by
 split at h
 ·rename_i xs n
  obtain ⟨n, rfl⟩ : ∃ m : Nat, n = m := ⟨n.toNat, by omega⟩
  exact ⟨_, left_ret _ n h.1.1 (by omega) h.1.2.1, by simpa using h.2⟩
 ·exact h.elim
attribute [go_sem] cf20 leftCT
set_option maxHeartbeats 1600000 in
theorem right_ret (xs : List Int) (n : Nat) (hx : xs.length ≤ 16777216) (hn : n ≤ 16777216) (bx : InB 4294967296 xs) :
  Ret Tryz.prog 186 false [.inl (.ints .u32 xs), .inl (.i .i64 n)] (.c (.ints .u32 (dg 4294967296 (V 4294967296 xs / 2 ^ n)))) := by
 have hs : n % 32 < 32 := Nat.mod_lt _ (by omega)
 have h1 : 0 < 2 ^ (n % 32) := Nat.pow_pos (by omega)
 have hdvd : 2 ^ (n % 32) ∣ 4294967296 := by
  have : 2 ^ (n % 32) ∣ 2 ^ 32 := Nat.pow_dvd_pow 2 (by omega)
  simpa using this
 have hR := V_drop_div 4294967296 (by omega) xs bx (n / 32)
 generalize hRd : V 4294967296 (xs.drop (n / 32)) = R at hR
 have hfin : R / 2 ^ (n % 32) = V 4294967296 xs / 2 ^ n := by
  rw [hR, Nat.div_div_eq_div_mul]
  congr 1
  rw [show (4294967296 : Nat) = 2 ^ 32 from rfl, ← Nat.pow_mul, ← Nat.pow_add]; congr 1; omega
 (refine q_H Tryz.func186 (fun F => ?_); simp only [q_z,q_y,Tryz.ntmps186,Tryz.results186])
 repeat' (first|(with_reducible first|apply q_a|apply q_b|apply q_c|apply q_d|apply q_e|apply q_f|apply q_g|apply q_h|apply q_i|apply q_j|apply q_k|apply q_m|apply q_n|apply q_o|apply q_p|refine q_l ?_)|((with_reducible first|refine q_q cf20_ok fun K hK=>?_|refine q_r cf20_ok fun K hK=>?_);simp (maxSteps:=2000000) only [go_sem,↓reduceIte,reduceCtorEq,Nat.reduceLeDiff,Nat.reduceLT,Nat.reduceBEq,Nat.reduceAdd];(repeat1' with_reducible first|apply And.intro|intro _|(refine hK _ ?_;clear hK K))<;>(try (clear hK K;exact q_u)))|(with_reducible refine q_s ?_;(first|apply q_J|apply q_K|apply q_L|apply q_M|apply q_N|apply q_O)<;>try intro _)|with_reducible refine q_t ?_)
 refine q_G (ι := { p : List Int // InB 4294967296 p ∧ V 4294967296 p = (R / 2 ^ (n % 32)) % 4294967296 ^ p.length ∧ (p.length = 0 ∨ n / 32 + p.length ≤ xs.length) }) (fun p => ⟨45, [(0, .c (.ints .u32 xs)), (1, .c (.i .i64 n)), (5, .own 0 0), (6, .c (.i .i64 ((n / 32 + p.1.length : Nat) : Int)))], ⟨[], [(0, ⟨0, 105, 1, .ints .u32 p.1⟩)], []⟩, 1⟩) (fun p => xs.length - (n / 32 + p.1.length)) ⟨[], InB_nil _, by simp [V, Nat.mod_one], .inl rfl⟩ ?_ ?_
 ·exact q_D
 rintro ⟨o, g2, g3, g4⟩
 simp only at g2 g3 g4 ⊢
 have b1 := InB_getD (by omega) bx (n / 32 + o.length)
 have b2 := InB_getD (by omega) bx (n / 32 + o.length + 1)
 obtain ⟨x, hxx⟩ : ∃ x : Nat, xs.getD (n / 32 + o.length) 0 = x := ⟨(xs.getD (n / 32 + o.length) 0).toNat, by omega⟩
 obtain ⟨y, hyy⟩ : ∃ y : Nat, xs.getD (n / 32 + o.length + 1) 0 = y := ⟨(xs.getD (n / 32 + o.length + 1) 0).toNat, by omega⟩
 have d1 : x = R / 4294967296 ^ o.length % 4294967296 := by
  have := V_digit 4294967296 (by omega) xs bx (n / 32 + o.length)
  rw [hR, Nat.div_div_eq_div_mul, ← Nat.pow_add, this, hxx]; simp
 have d2 : y = R / 4294967296 ^ (o.length + 1) % 4294967296 := by
  have := V_digit 4294967296 (by omega) xs bx (n / 32 + o.length + 1)
  rw [hR, Nat.div_div_eq_div_mul, ← Nat.pow_add, ← Nat.add_assoc, this, hyy]; simp
 have d3 := right_digit R 4294967296 (2 ^ (n % 32)) o.length hdvd h1 (by omega)
 rw [← d1, ← d2] at d3
 have d4 : ∀ z : Nat, V 4294967296 (o ++ [(((x + 4294967296 * y) / 2 ^ (n % 32) % 4294967296 : Nat) : Int)]) = (R / 2 ^ (n % 32)) % 4294967296 ^ (o.length + 1) := fun _ => by
  rw [V_snoc, g3, Int.toNat_natCast, d3, mod_pow_succ']
 have t1 : (((n / 32 + o.length : Nat) : Int) + 1).toNat = n / 32 + o.length + 1 := by omega
 have t2 : shlI .u64 ((y : Int) % 18446744073709551616) 32 = (y : Int) * 4294967296 := by rw [show (y : Int) % 18446744073709551616 = y by omega, shl64_32 _ (by omega) (by omega)]
 have t3 : bitI .or .u64 ((x : Int) % 18446744073709551616) ((y : Int) * 4294967296) = ((x + 4294967296 * y : Nat) : Int) := by
  rw [show (x : Int) % 18446744073709551616 = x by omega, or64_hi' _ _ (by omega) (by omega) (by omega) (by omega)]; omega
 have t4 : ∀ z : Nat, shrI .u64 (z : Int) ((n % 32 : Nat) : Int) % 4294967296 = ((z / 2 ^ (n % 32) % 4294967296 : Nat) : Int) := fun z => by
  rw [shr64 _ _ (by omega)]; simp
 repeat' (first|(with_reducible first|apply q_a|apply q_b|apply q_c|apply q_d|apply q_e|apply q_f|apply q_g|apply q_h|apply q_i|apply q_j|apply q_k|apply q_m|apply q_n|apply q_o|apply q_p|refine q_l ?_)|((with_reducible first|refine q_q cf20_ok fun K hK=>?_|refine q_r cf20_ok fun K hK=>?_);simp (maxSteps:=2000000) only [go_sem,↓reduceIte,reduceCtorEq,Nat.reduceLeDiff,Nat.reduceLT,Nat.reduceBEq,Nat.reduceAdd];(repeat1' with_reducible first|apply And.intro|intro _|(refine hK _ ?_;clear hK K))<;>(try (clear hK K;exact q_u)))|(with_reducible refine q_s ?_;(first|apply q_J|apply q_K|apply q_L|apply q_M|apply q_N|apply q_O)<;>try intro _)|with_reducible refine q_t ?_)
 ·rename_i ha hb
  simp only [t1, hxx, hyy, t2, t3, t4]
  refine q_F ⟨o ++ [(((x + 4294967296 * y) / 2 ^ (n % 32) % 4294967296 : Nat) : Int)], InB_snoc g2 (Int.natCast_nonneg _) (by exact_mod_cast Nat.mod_lt _ (by omega)), by rw [d4 0]; simp, .inr (by simp; omega)⟩ ?_ ?_
  ·exact q_D
  ·simp; omega
 ·rename_i ha hb
  have hy0 : y = 0 := by
   have := getD_ge xs (n / 32 + o.length + 1) (by omega)
   rw [this] at hyy; omega
  have t5 : (x : Int) % 18446744073709551616 = x := by omega
  simp only [hxx, t5, t4]
  subst hy0
  simp only [Nat.mul_zero, Nat.add_zero] at d4
  refine q_F ⟨o ++ [((x / 2 ^ (n % 32) % 4294967296 : Nat) : Int)], InB_snoc g2 (Int.natCast_nonneg _) (by exact_mod_cast Nat.mod_lt _ (by omega)), by rw [d4 0]; simp, .inr (by simp; omega)⟩ ?_ ?_
  ·exact q_D
  ·simp; omega
 ·rename_i ha
  refine q_A ?_
  simp only [resAV, q_y]
  rw [trimL_eq 4294967296 (by omega) _ g2, g3, ← hfin]
  congr 3
  refine Nat.mod_eq_of_lt (Nat.lt_of_le_of_lt (Nat.div_le_self _ _) ?_)
  rw [← hRd]
  have h3 := V_lt 4294967296 (by omega) _ (InB_drop bx (n / 32))
  have h4 : (xs.drop (n / 32)).length ≤ o.length := by simp; omega
  exact Nat.lt_of_lt_of_le h3 (Nat.pow_le_pow_right (by omega) h4)

def rightCT : CT := mkCT [.inl (some (.ints .u32 []))] false fun l K => match l with
 | [.inl (.ints .u32 xs), .inl (.i .i64 n)] => (xs.length ≤ 16777216 ∧ InB 4294967296 xs ∧ 0 ≤ n ∧ n ≤ 16777216) ∧ K (.c (.ints .u32 (dg 4294967296 (V 4294967296 xs / 2 ^ n.toNat))))
 | _ => False
def cf21 : Cfg := addT 186 rightCT cf20
theorem cf21_ok : TblOk Tryz.prog cf21 := q_I cf20_ok Tryz.func186 fun l K h => by
 split at h
 ·rename_i xs n
  obtain ⟨n, rfl⟩ : ∃ m : Nat, n = m := ⟨n.toNat, by omega⟩
  exact ⟨_, right_ret _ n h.1.1 (by omega) h.1.2.1, by simpa using h.2⟩
 ·exact h.elim
attribute [go_sem] cf21 rightCT
end Go.Proofs.YtgkajjifbcmoeaaGreatDoor

namespace Go.Proofs.YtgkajjifbcmoeaaGreatDoor
set_option linter.unusedSimpArgs false
set_option linter.unusedVariables false
open Go.Abs Go.Proofs.NatL

theorem getD_win (pre us suf : List Int) (k : Nat) (h : k < us.length) : (pre ++ us ++ suf).getD (pre.length + k) 0 = us.getD k 0 := by
 rw [List.append_assoc, List.getD_eq_getElem?_getD, List.getElem?_append_right (by omega), List.getElem?_append_left (by omega), List.getD_eq_getElem?_getD]
 congr 2; omega

theorem mod32 (g : Nat) (h : g < 4294967296) : (g : Int) % 4294967296 = g := by omega

set_option maxRecDepth 100000 in
set_option maxHeartbeats 3200000 in
theorem digit_ret (pre us suf vs : List Int) (hu : us.length = vs.length + 1) (hn : 2 ≤ vs.length) (hl : (pre ++ us ++ suf).length ≤ 16777216) (bu : InB 4294967296 us) (bv : InB 4294967296 vs) (hlt : V 4294967296 us < 4294967296 * V 4294967296 vs) (ht : Trd vs) :
  RetW Tryz.prog 220 105 (.ints .u32 (pre ++ us ++ suf)) pre.length us.length [.inl (.ints .u32 vs)] (.ints .u32 (pre ++ pad 4294967296 (vs.length + 1) (V 4294967296 us % V 4294967296 vs) ++ suf)) [.inl (.i .u32 ((V 4294967296 us / V 4294967296 vs : Nat) : Int))] := by
 have est := est_of 4294967296 (by omega) us vs vs.length hu rfl hn bu bv hlt ht
 have rd := getD_win pre us suf
 rw [hu] at rd
 simp only [List.length_append] at hl
 have c0 := InB_getD (by omega) bu vs.length
 have c1 := InB_getD (by omega) bu (vs.length - 1)
 have c2 := InB_getD (by omega) bu (vs.length - 2)
 have c3 := InB_getD (by omega) bv (vs.length - 1)
 have c4 := InB_getD (by omega) bv (vs.length - 2)
 obtain ⟨u0, hu0⟩ : ∃ x : Nat, us.getD vs.length 0 = x := ⟨(us.getD vs.length 0).toNat, by omega⟩
 obtain ⟨u1, hu1⟩ : ∃ x : Nat, us.getD (vs.length - 1) 0 = x := ⟨(us.getD (vs.length - 1) 0).toNat, by omega⟩
 obtain ⟨u2, hu2⟩ : ∃ x : Nat, us.getD (vs.length - 2) 0 = x := ⟨(us.getD (vs.length - 2) 0).toNat, by omega⟩
 obtain ⟨v1, hv1⟩ : ∃ x : Nat, vs.getD (vs.length - 1) 0 = x := ⟨(vs.getD (vs.length - 1) 0).toNat, by omega⟩
 obtain ⟨v2, hv2⟩ : ∃ x : Nat, vs.getD (vs.length - 2) 0 = x := ⟨(vs.getD (vs.length - 2) 0).toNat, by omega⟩
 rw [hu0, hu1, hu2, hv1, hv2] at est
 simp only [Int.toNat_natCast] at est
 have k1 := est.kv1
 have k2 := est.hd
 have i1 : ((vs.length : Int) - 1).toNat = vs.length - 1 := by omega
 have i2 : ((vs.length : Int) - 2).toNat = vs.length - 2 := by omega
 have r0 := rd vs.length (by omega)
 have r1 := rd (vs.length - 1) (by omega)
 have r2 := rd (vs.length - 2) (by omega)
 rw [hu0] at r0
 rw [hu1] at r1
 rw [hu2] at r2
 have hhead : bitI .or .u64 (shlI .u64 ((u0 : Int) % 18446744073709551616) 32) ((u1 : Int) % 18446744073709551616) = ((u1 + 4294967296 * u0 : Nat) : Int) := by
  rw [show (u0 : Int) % 18446744073709551616 = u0 by omega, show (u1 : Int) % 18446744073709551616 = u1 by omega, shl64_32 _ (by omega) (by omega), or64_hi _ _ (by omega) (by omega) (by omega) (by omega)]; omega
 have hv1m : (v1 : Int) % 18446744073709551616 = v1 := by omega
 have hhl : u1 + 4294967296 * u0 < 18446744073709551616 := by omega
 rw [hu]
 (refine ret_win Tryz.func220 rfl (Nat.le_of_ble_eq_true rfl) rfl (fun F => ?_); simp only [q_z, q_y, Tryz.ntmps220, Tryz.results220])
 refine q_a ?_
 ((first | with_reducible refine q_q cf21_ok (fun K hK => ?_) | with_reducible refine awp_region_draw cf21_ok mixed (by kernel_rfl) (fun K hK => ?_)); (simp (maxSteps:=2000000) only [go_sem,↓reduceIte,reduceCtorEq,Nat.reduceLeDiff,Nat.reduceLT,Nat.reduceBEq,Nat.reduceAdd]); (first | with_reducible apply And.intro | with_reducible intro _ | (with_reducible refine hK _ ?_; clear hK K)) <;> (repeat' (first | with_reducible apply And.intro | with_reducible intro _ | (with_reducible refine hK _ ?_; clear hK K))) <;> (try (clear hK K; first | omega | assumption | ((simp (disch := omega) only [Int.tdiv_eq_ediv_of_nonneg, Int.tmod_eq_emod_of_nonneg]); omega))))
 refine q_b (q_a ?_)
 ((first | with_reducible refine q_q cf21_ok (fun K hK => ?_) | with_reducible refine awp_region_draw cf21_ok mixed (by kernel_rfl) (fun K hK => ?_)); (simp (maxSteps:=2000000) only [go_sem,↓reduceIte,reduceCtorEq,Nat.reduceLeDiff,Nat.reduceLT,Nat.reduceBEq,Nat.reduceAdd]); (first | with_reducible apply And.intro | with_reducible intro _ | (with_reducible refine hK _ ?_; clear hK K)) <;> (repeat' (first | with_reducible apply And.intro | with_reducible intro _ | (with_reducible refine hK _ ?_; clear hK K))) <;> (try (clear hK K; first | omega | assumption | ((simp (disch := omega) only [Int.tdiv_eq_ediv_of_nonneg, Int.tmod_eq_emod_of_nonneg]); omega))))
 refine q_b (q_a ?_)
 ((first | with_reducible refine q_q cf21_ok (fun K hK => ?_) | with_reducible refine awp_region_draw cf21_ok mixed (by kernel_rfl) (fun K hK => ?_)); (simp (maxSteps:=2000000) only [go_sem,↓reduceIte,reduceCtorEq,Nat.reduceLeDiff,Nat.reduceLT,Nat.reduceBEq,Nat.reduceAdd]); (first | with_reducible apply And.intro | with_reducible intro _ | (with_reducible refine hK _ ?_; clear hK K)) <;> (repeat' (first | with_reducible apply And.intro | with_reducible intro _ | (with_reducible refine hK _ ?_; clear hK K))) <;> (try (clear hK K; first | omega | assumption | ((simp (disch := omega) only [Int.tdiv_eq_ediv_of_nonneg, Int.tmod_eq_emod_of_nonneg]); omega))))
 simp only [i1, r0, r1, hv1, hhead, hv1m]
 refine q_b (q_a ?_)
 ((first | with_reducible refine q_q cf21_ok (fun K hK => ?_) | with_reducible refine awp_region_draw cf21_ok mixed (by kernel_rfl) (fun K hK => ?_)); (simp (maxSteps:=2000000) only [go_sem,↓reduceIte,reduceCtorEq,Nat.reduceLeDiff,Nat.reduceLT,Nat.reduceBEq,Nat.reduceAdd]); (first | with_reducible apply And.intro | with_reducible intro _ | (with_reducible refine hK _ ?_; clear hK K)) <;> (repeat' (first | with_reducible apply And.intro | with_reducible intro _ | (with_reducible refine hK _ ?_; clear hK K))) <;> (try (clear hK K; first | omega | assumption | ((simp (disch := omega) only [Int.tdiv_eq_ediv_of_nonneg, Int.tmod_eq_emod_of_nonneg]); omega))))
 refine q_b ?_
 have hq1 : ((u1 + 4294967296 * u0 : Nat) : Int) / (v1 : Int) = (((u1 + 4294967296 * u0) / v1 : Nat) : Int) := by simp
 have hq2 : ((u1 + 4294967296 * u0 : Nat) : Int) % (v1 : Int) = (((u1 + 4294967296 * u0) % v1 : Nat) : Int) := by simp
 simp only [hq1, hq2]
 generalize hhd : u1 + 4294967296 * u0 = head at *
 refine seq_join (ι := { g : Nat // g < 4294967296 ∧ V 4294967296 us / V 4294967296 vs ≤ g ∧ g ≤ V 4294967296 us / V 4294967296 vs + 1 }) (fun g => ⟨141, [(0, .bw 0 pre.length (vs.length + 1)), (1, .c (.ints .u32 vs)), (5, .c (.i .i64 vs.length)), (8, .c (.i .u64 (g.1 : Nat)))], ⟨[], [], [(0, ⟨105, .ints .u32 (pre ++ us ++ suf)⟩)]⟩, 0⟩) ?_ ?_
 ·refine q_e ?_
  refine q_G (ι := { p : Nat × Nat // p.1 * v1 + p.2 = head ∧ V 4294967296 us / V 4294967296 vs ≤ p.1 ∧ p.2 < 4294967296 }) (fun p => ⟨141, [(0, .bw 0 pre.length (vs.length + 1)), (1, .c (.ints .u32 vs)), (5, .c (.i .i64 vs.length)), (7, .c (.i .u64 (v1 : Nat))), (8, .c (.i .u64 (p.1.1 : Nat))), (9, .c (.i .u64 (p.1.2 : Nat)))], ⟨[], [], [(0, ⟨105, .ints .u32 (pre ++ us ++ suf)⟩)]⟩, 0⟩) (fun p => p.1.1) ⟨(head / v1, head % v1), by simp only; rw [Nat.mul_comm]; exact Nat.div_add_mod _ _, est.start (by omega), by have := Nat.mod_lt head k1; simp only; omega⟩ ?_ ?_
  ·exact q_D
  rintro ⟨⟨g, r⟩, g1, g2, g3⟩
  simp only at g1 g2 g3 ⊢
  have hgl : g ≤ head := by
   have : g * 1 ≤ g * v1 := Nat.mul_le_mul_left _ k1
   omega
  have t1 : bitI .or .u64 (shlI .u64 (r : Int) 32) ((u2 : Int) % 18446744073709551616) = ((r * 4294967296 + u2 : Nat) : Int) := by
   rw [show (u2 : Int) % 18446744073709551616 = u2 by omega, shl64_32 _ (by omega) (by omega), or64_hi _ _ (by omega) (by omega) (by omega) (by omega)]; omega
  have t2 : g < 4294967296 → ((g : Int) * ((v2 : Int) % 18446744073709551616)) % 18446744073709551616 = ((g * v2 : Nat) : Int) := fun hg => by
   rw [show (v2 : Int) % 18446744073709551616 = v2 by omega]
   have : g * v2 ≤ 4294967295 * 4294967295 := Nat.mul_le_mul (by omega) (by omega)
   rw [← Int.natCast_mul]; omega
  have dn : V 4294967296 us / V 4294967296 vs < g → (g - 1) * v1 + (r + v1) = head := fun h => by
   have h0 : 0 < g := Nat.lt_of_le_of_lt (Nat.zero_le _) h
   obtain ⟨g', rfl⟩ : ∃ g', g = g' + 1 := ⟨g - 1, by omega⟩
   rw [Nat.add_mul, Nat.one_mul] at g1
   simp only [Nat.add_sub_cancel]; omega
  have j1 : V 4294967296 us / V 4294967296 vs < g → 4294967296 ≤ r + v1 → g - 1 < 4294967296 ∧ V 4294967296 us / V 4294967296 vs ≤ g - 1 ∧ g - 1 ≤ V 4294967296 us / V 4294967296 vs + 1 := fun h k =>
   have hs := est.stop_lt (dn h) k
   ⟨hs, by omega, est.near hs (est.stop_fits (dn h) k)⟩
  have j2 : g < 4294967296 → g * v2 ≤ r * 4294967296 + u2 → g < 4294967296 ∧ V 4294967296 us / V 4294967296 vs ≤ g ∧ g ≤ V 4294967296 us / V 4294967296 vs + 1 := fun h k => ⟨h, g2, est.near h (est.fits g1 k)⟩
  have j3 : (4294967296 ≤ g ∨ r * 4294967296 + u2 < g * v2) → V 4294967296 us / V 4294967296 vs < g := est.more g1
  repeat' (first|(with_reducible first|apply q_a|apply q_b|apply q_c|apply q_d|apply q_e|apply q_f|apply q_g|apply q_h|apply q_i|apply q_j|apply q_k|apply q_m|apply q_n|apply q_o|apply q_p|refine q_l ?_)|((with_reducible first|refine q_q cf21_ok fun K hK=>?_|refine q_r cf21_ok fun K hK=>?_);simp (maxSteps:=2000000) only [go_sem,↓reduceIte,reduceCtorEq,Nat.reduceLeDiff,Nat.reduceLT,Nat.reduceBEq,Nat.reduceAdd];(repeat1' with_reducible first|apply And.intro|intro _|(refine hK _ ?_;clear hK K))<;>(try (clear hK K;exact q_u)))|(with_reducible refine q_s ?_;(first|apply q_J|apply q_K|apply q_L|apply q_M|apply q_N|apply q_O)<;>try intro _)|with_reducible refine endsW_ret (by ((simp only [go_sem,↓reduceIte,reduceCtorEq,Nat.reduceLeDiff,Nat.reduceLT,Nat.reduceBEq,Nat.reduceAdd,ressO,resO,argsC]);rfl)) (by ((simp (maxSteps:=2000000) only [go_sem,↓reduceIte,reduceCtorEq,Nat.reduceLeDiff,Nat.reduceLT,Nat.reduceBEq,Nat.reduceAdd]);rfl)) rfl rfl rfl ?_ ?_)
  ·rename_i ha hb hc
   simp only [i2, r2, hv2, t1] at hb
   rw [t2 (by omega)] at hb
   have hq := j3 (.inr (by omega))
   have hg0 : 0 < g := Nat.lt_of_le_of_lt (Nat.zero_le _) hq
   refine join_n ⟨g - 1, j1 hq (by omega)⟩ ?_
   exact q_D
  ·rename_i ha hb hc
   simp only [i2, r2, hv2, t1] at hb
   rw [t2 (by omega)] at hb
   have hq := j3 (.inr (by omega))
   have hg0 : 0 < g := Nat.lt_of_le_of_lt (Nat.zero_le _) hq
   refine q_F ⟨(g - 1, r + v1), dn hq, by simp only; omega, by simp only; omega⟩ ?_ (by simp only; omega)
   exact q_D
  ·rename_i ha hb
   simp only [i2, r2, hv2, t1] at hb
   rw [t2 (by omega)] at hb
   refine join_n ⟨g, j2 (by omega) (by omega)⟩ ?_
   exact q_D
  ·rename_i ha hc
   have hq := j3 (.inl (by omega))
   have hg0 : 0 < g := Nat.lt_of_le_of_lt (Nat.zero_le _) hq
   refine join_n ⟨g - 1, j1 hq (by omega)⟩ ?_
   exact q_D
  ·rename_i ha hc
   have hq := j3 (.inl (by omega))
   have hg0 : 0 < g := Nat.lt_of_le_of_lt (Nat.zero_le _) hq
   refine q_F ⟨(g - 1, r + v1), dn hq, by simp only; omega, by simp only; omega⟩ ?_ (by simp only; omega)
   exact q_D
 rintro ⟨g, g1, g2, g3⟩
 simp only at g1 g2 g3 ⊢
 clear hhead hq1 hq2 hhl r0 r1 r2 i1 i2 hv1m rd
 repeat' (first|(with_reducible first|apply q_a|apply q_b|apply q_c|apply q_d|apply q_e|apply q_f|apply q_g|apply q_h|apply q_i|apply q_j|apply q_k|apply q_m|apply q_n|apply q_o|apply q_p|refine q_l ?_)|((with_reducible first|refine q_q cf21_ok fun K hK=>?_|refine q_r cf21_ok fun K hK=>?_);simp (maxSteps:=2000000) only [go_sem,↓reduceIte,reduceCtorEq,Nat.reduceLeDiff,Nat.reduceLT,Nat.reduceBEq,Nat.reduceAdd];(repeat1' with_reducible first|apply And.intro|intro _|(refine hK _ ?_;clear hK K))<;>(try (clear hK K;exact q_u)))|(with_reducible refine q_s ?_;(first|apply q_J|apply q_K|apply q_L|apply q_M|apply q_N|apply q_O)<;>try intro _)|with_reducible refine endsW_ret (by ((simp only [go_sem,↓reduceIte,reduceCtorEq,Nat.reduceLeDiff,Nat.reduceLT,Nat.reduceBEq,Nat.reduceAdd,ressO,resO,argsC]);rfl)) (by ((simp (maxSteps:=2000000) only [go_sem,↓reduceIte,reduceCtorEq,Nat.reduceLeDiff,Nat.reduceLT,Nat.reduceBEq,Nat.reduceAdd]);rfl)) rfl rfl rfl ?_ ?_)
 refine q_G (ι := { p : Nat × List Int × Nat × Nat // p.1 ≤ vs.length + 1 ∧ p.2.1.length = p.1 ∧ InB 4294967296 p.2.1 ∧ p.2.2.1 < 4294967296 ∧ p.2.2.2 ≤ 1 ∧ V 4294967296 p.2.1 + g * V 4294967296 (vs.take p.1) = V 4294967296 (us.take p.1) + 4294967296 ^ p.1 * (p.2.2.2 + p.2.2.1) ∧ (vs.length < p.1 → p.2.2.1 = 0) })
  (fun p => ⟨141, [(0, .bw 0 pre.length (vs.length + 1)), (1, .c (.ints .u32 vs)), (5, .c (.i .i64 vs.length)), (8, .c (.i .u64 (g : Nat))), (10, .c (.i .u64 (p.1.2.2.1 : Nat))), (11, .c (.i .u32 (p.1.2.2.2 : Nat))), (74, .c (.i .i64 ((vs.length : Int) + 1))), (75, .c (.i .i64 (p.1.1 : Nat)))], ⟨[], [], [(0, ⟨105, .ints .u32 (pre ++ (p.1.2.1 ++ us.drop p.1.1) ++ suf)⟩)]⟩, 0⟩) (fun p => vs.length + 1 - p.1.1) ⟨(0, [], 0, 0), by simp, rfl, InB_nil _, by simp, by simp, by simp [V], by simp⟩ ?_ ?_
 ·exact q_D
 rintro ⟨⟨i, o, c, b⟩, p1, p2, p3, p4, p5, p6, p7⟩
 simp only at p1 p2 p3 p4 p5 p6 p7 ⊢
 have hlen : (pre ++ (o ++ us.drop i) ++ suf).length = pre.length + us.length + suf.length := by simp; omega
 have bx := InB_getD (by omega) bu i
 have by' := InB_getD (by omega) bv i
 obtain ⟨x, hx⟩ : ∃ x : Nat, us.getD i 0 = x := ⟨(us.getD i 0).toNat, by omega⟩
 obtain ⟨y, hy⟩ : ∃ x : Nat, vs.getD i 0 = x := ⟨(vs.getD i 0).toNat, by omega⟩
 rw [hx] at bx
 rw [hy] at by'
 have hm : ((g : Int) * ((y : Int) % 18446744073709551616)) % 18446744073709551616 = ((g * y : Nat) : Int) := by
  rw [show (y : Int) % 18446744073709551616 = y by omega]
  have : g * y ≤ 4294967295 * 4294967295 := Nat.mul_le_mul (by omega) (by omega)
  rw [← Int.natCast_mul]; omega
 have hmle : g * y ≤ 4294967295 * 4294967295 := Nat.mul_le_mul (by omega) (by omega)
 have hget : i < us.length → (pre ++ (o ++ us.drop i) ++ suf).getD (pre.length + i) 0 = x := fun h => by rw [getD_mid3 _ _ _ _ _ p2 h, hx]
 have hset : i < us.length → ∀ v, (pre ++ (o ++ us.drop i) ++ suf).set (pre.length + i) v = pre ++ ((o ++ [v]) ++ us.drop (i + 1)) ++ suf := fun h v => set_mid3 _ _ _ _ _ v p2 h
 generalize hM : g * y = M at *
 repeat' (first|(with_reducible first|apply q_a|apply q_b|apply q_c|apply q_d|apply q_e|apply q_f|apply q_g|apply q_h|apply q_i|apply q_j|apply q_k|apply q_m|apply q_n|apply q_o|apply q_p|refine q_l ?_)|((with_reducible first|refine q_q cf21_ok fun K hK=>?_|refine q_r cf21_ok fun K hK=>?_);simp (maxSteps:=2000000) only [go_sem,↓reduceIte,reduceCtorEq,Nat.reduceLeDiff,Nat.reduceLT,Nat.reduceBEq,Nat.reduceAdd];(repeat1' with_reducible first|apply And.intro|intro _|(refine hK _ ?_;clear hK K))<;>(try (clear hK K;exact q_u)))|(with_reducible refine q_s ?_;(first|apply q_J|apply q_K|apply q_L|apply q_M|apply q_N|apply q_O)<;>try intro _)|with_reducible refine endsW_ret (by ((simp only [go_sem,↓reduceIte,reduceCtorEq,Nat.reduceLeDiff,Nat.reduceLT,Nat.reduceBEq,Nat.reduceAdd,ressO,resO,argsC]);rfl)) (by ((simp (maxSteps:=2000000) only [go_sem,↓reduceIte,reduceCtorEq,Nat.reduceLeDiff,Nat.reduceLT,Nat.reduceBEq,Nat.reduceAdd]);rfl)) rfl rfl rfl ?_ ?_)
 ·rename_i ha hb
  simp only [hget (by omega), hset (by omega), hx, hy, hm]
  have hd : ((((x : Int) - (((c : Int) + (M : Int)) % 18446744073709551616) % 4294967296 - (b : Int)) % 4294967296) : Int) = ((x + 4294967296 * (if x < (c + M) % 4294967296 + b then 1 else 0) - (c + M) % 4294967296 - b : Nat) : Int) := by split <;> omega
  have hbb : (if (x : Int) < (((c : Int) + (M : Int)) % 18446744073709551616) % 4294967296 + (b : Int) then (1 : Int) else 0) = ((if x < (c + M) % 4294967296 + b then 1 else 0 : Nat) : Int) := by split <;> split <;> omega
  refine q_F ⟨(i + 1, o ++ [((x + 4294967296 * (if x < (c + M) % 4294967296 + b then 1 else 0) - (c + M) % 4294967296 - b : Nat) : Int)], (c + M) / 4294967296, if x < (c + M) % 4294967296 + b then 1 else 0), by simp only; omega, by simp [p2], InB_snoc p3 (by omega) (by split <;> omega), by simp only; omega, by simp only; split <;> omega,
   msub_step _ i g o us vs c b _ ((c + M) % 4294967296) ((c + M) / 4294967296) (if x < (c + M) % 4294967296 + b then 1 else 0) p6 p2 (by rw [hy, Int.toNat_natCast, hM]; omega) (by rw [hx, Int.toNat_natCast]; split <;> omega), by simp only; omega⟩ ?_ (by simp only; omega)
  rw [hd, hbb]
  exact q_D
 ·rename_i ha hb
  have hy0 : y = 0 := by
   have := getD_ge vs i (by omega)
   omega
  subst hy0
  have hM0 : M = 0 := by rw [← hM, Nat.mul_zero]
  simp only [hget (by omega), hset (by omega), hx]
  have hd : ((((x : Int) - ((c : Int) % 4294967296) - (b : Int)) % 4294967296) : Int) = ((x + 4294967296 * (if x < c + b then 1 else 0) - c - b : Nat) : Int) := by split <;> omega
  have hbb : (if (x : Int) < (c : Int) % 4294967296 + (b : Int) then (1 : Int) else 0) = ((if x < c + b then 1 else 0 : Nat) : Int) := by split <;> split <;> omega
  refine q_F ⟨(i + 1, o ++ [((x + 4294967296 * (if x < c + b then 1 else 0) - c - b : Nat) : Int)], 0, if x < c + b then 1 else 0), by simp only; omega, by simp [p2], InB_snoc p3 (by omega) (by split <;> omega), by simp only; omega, by simp only; split <;> omega,
   msub_step _ i g o us vs c b _ c 0 (if x < c + b then 1 else 0) p6 p2 (by rw [hy, Int.toNat_natCast, Nat.mul_zero]) (by rw [hx, Int.toNat_natCast]; split <;> omega), fun _ => rfl⟩ ?_ (by simp only; omega)
  rw [hd, hbb]
  exact q_D
 ·rename_i ha hb
  have hi : i = vs.length + 1 := by omega
  have hc := p7 (by omega)
  have hb1 : b = 1 := by omega
  have hoi : o.length = vs.length + 1 := by omega
  rw [hi, List.take_of_length_le (by omega), List.take_of_length_le (by omega), hc, hb1] at p6
  have lo := V_lt _ (by omega) o p3
  have lv := V_lt _ (by omega) vs bv
  rw [hoi] at lo
  obtain ⟨e1, e2⟩ := digit_end1 (M := 4294967296 ^ (vs.length + 1)) est g3 g2 (by omega) lo
  have hr := Nat.mod_lt (V 4294967296 us) est.vpos
  generalize hqq : V 4294967296 us / V 4294967296 vs = q at *
  generalize hrr : V 4294967296 us % V 4294967296 vs = rr at *
  have hcon : pre ++ (o ++ us.drop i) ++ suf = pre ++ ([] ++ o.drop 0) ++ suf := by
   rw [List.drop_eq_nil_of_le (by omega)]; simp
  have hg8 : ((g : Int) - 1) % 18446744073709551616 = (q : Int) := by omega
  rw [hcon, hg8]
  clear hget hset hm hM hx hy bx by' p1 p2 p6 p7
  refine q_G (ι := { p : Nat × List Int × Nat // p.1 ≤ vs.length ∧ p.2.1.length = p.1 ∧ InB 4294967296 p.2.1 ∧ p.2.2 ≤ 1 ∧ V 4294967296 p.2.1 + 4294967296 ^ p.1 * p.2.2 = V 4294967296 (o.take p.1) + V 4294967296 (vs.take p.1) })
   (fun p => ⟨141, [(0, .bw 0 pre.length (vs.length + 1)), (1, .c (.ints .u32 vs)), (5, .c (.i .i64 vs.length)), (8, .c (.i .u64 (q : Nat))), (13, .c (.i .u32 (p.1.2.2 : Nat))), (111, .c (.i .i64 vs.length)), (112, .c (.i .i64 (p.1.1 : Nat)))], ⟨[], [], [(0, ⟨105, .ints .u32 (pre ++ (p.1.2.1 ++ o.drop p.1.1) ++ suf)⟩)]⟩, 0⟩) (fun p => vs.length - p.1.1) ⟨(0, [], 0), by simp, rfl, InB_nil _, by simp, by simp [V]⟩ ?_ ?_
  ·exact q_D
  rintro ⟨⟨j, o2, k⟩, p1, p2, p4, p5, p6⟩
  simp only at p1 p2 p4 p5 p6 ⊢
  have hlen2 : (pre ++ (o2 ++ o.drop j) ++ suf).length = pre.length + us.length + suf.length := by simp; omega
  have bx := InB_getD (by omega) p3 j
  have by' := InB_getD (by omega) bv j
  have bn := InB_getD (by omega) p3 vs.length
  have hget : (pre ++ (o2 ++ o.drop j) ++ suf).getD (pre.length + j) 0 = o.getD j 0 := getD_mid3 _ _ _ _ _ p2 (by omega)
  have hset : ∀ v, (pre ++ (o2 ++ o.drop j) ++ suf).set (pre.length + j) v = pre ++ ((o2 ++ [v]) ++ o.drop (j + 1)) ++ suf := fun v => set_mid3 _ _ _ _ _ v p2 (by omega)
  have hget' : j = vs.length → (pre ++ (o2 ++ o.drop j) ++ suf).getD (pre.length + vs.length) 0 = o.getD vs.length 0 := fun h => by rw [← h]; exact hget
  have hset' : j = vs.length → ∀ v, (pre ++ (o2 ++ o.drop j) ++ suf).set (pre.length + vs.length) v = pre ++ (o2 ++ [v]) ++ suf := fun h v => by rw [← h, hset, List.drop_eq_nil_of_le (by omega), List.append_nil]
  repeat' (first|(with_reducible first|apply q_a|apply q_b|apply q_c|apply q_d|apply q_e|apply q_f|apply q_g|apply q_h|apply q_i|apply q_j|apply q_k|apply q_m|apply q_n|apply q_o|apply q_p|refine q_l ?_)|((with_reducible first|refine q_q cf21_ok fun K hK=>?_|refine q_r cf21_ok fun K hK=>?_);simp (maxSteps:=2000000) only [go_sem,↓reduceIte,reduceCtorEq,Nat.reduceLeDiff,Nat.reduceLT,Nat.reduceBEq,Nat.reduceAdd];(repeat1' with_reducible first|apply And.intro|intro _|(refine hK _ ?_;clear hK K))<;>(try (clear hK K;exact q_u)))|(with_reducible refine q_s ?_;(first|apply q_J|apply q_K|apply q_L|apply q_M|apply q_N|apply q_O)<;>try intro _)|with_reducible refine endsW_ret (by ((simp only [go_sem,↓reduceIte,reduceCtorEq,Nat.reduceLeDiff,Nat.reduceLT,Nat.reduceBEq,Nat.reduceAdd,ressO,resO,argsC]);rfl)) (by ((simp (maxSteps:=2000000) only [go_sem,↓reduceIte,reduceCtorEq,Nat.reduceLeDiff,Nat.reduceLT,Nat.reduceBEq,Nat.reduceAdd]);rfl)) rfl rfl rfl ?_ ?_)
  ·rename_i hj
   simp only [hget, hset]
   refine q_F ⟨(j + 1, o2 ++ [(o.getD j 0 + vs.getD j 0 + (k : Int)) % 4294967296], ((o.getD j 0 + vs.getD j 0 + (k : Int)) / 4294967296).toNat), by simp only; omega, by simp [p2], InB_snoc p4 (by omega) (by omega), by simp only; omega,
    add_step _ _ _ o vs (k : Int) ((o.getD j 0 + vs.getD j 0 + (k : Int)) % 4294967296) ((o.getD j 0 + vs.getD j 0 + (k : Int)) / 4294967296) _ _ (by simpa using p6) p2 rfl rfl (by omega)⟩ ?_ (by simp only; omega)
   exact q_D
  ·rename_i hj
   simp only [List.cons.injEq, Sum.inl.injEq, C.i.injEq, true_and, and_true]
   omega
  ·rename_i hj
   have hj' : j = vs.length := by omega
   simp only [hget' hj', hset' hj', C.ints.injEq, true_and]
   rw [hj'] at p2 p6
   have l2 := V_lt _ (by omega) o2 p4
   rw [p2] at l2
   rw [List.take_of_length_le (Nat.le_refl vs.length)] at p6
   have so := V_take_getD 4294967296 o vs.length
   rw [List.take_of_length_le (by omega)] at so
   obtain ⟨x, hx⟩ : ∃ x : Nat, o.getD vs.length 0 = x := ⟨(o.getD vs.length 0).toNat, by omega⟩
   rw [hx] at so ⊢
   rw [Int.toNat_natCast] at so
   have hP : 0 < 4294967296 ^ vs.length := Nat.pow_pos (by omega)
   obtain ⟨f1, f2⟩ := addback_end (4294967296 ^ vs.length) 4294967296 (V 4294967296 o2) k x rr hP (by
    rw [Nat.mul_add]
    have : 4294967296 ^ (vs.length + 1) = 4294967296 ^ vs.length * 4294967296 := Nat.pow_succ _ _
    omega) l2 (by omega)
   have hz : ((x : Int) + (k : Int)) % 4294967296 = 0 := by omega
   rw [hz]
   congr 2
   have hb2 : InB 4294967296 (o2 ++ [0]) := InB_snoc p4 (by omega) (by omega)
   rw [pad_eq 4294967296 (by omega) _ hb2, V_snoc]
   simp [p2, f2]
 ·rename_i ha hb
  have hi : i = vs.length + 1 := by omega
  have hc := p7 (by omega)
  have hb1 : b = 0 := by omega
  rw [hi, List.take_of_length_le (by omega), List.take_of_length_le (by omega), hc, hb1, Nat.add_zero, Nat.mul_zero, Nat.add_zero] at p6
  obtain ⟨e1, e2⟩ := digit_end0 est g2 p6
  rw [← e1, mod32 g g1]
 ·rename_i ha hb
  have hi : i = vs.length + 1 := by omega
  have hc := p7 (by omega)
  have hb1 : b = 0 := by omega
  rw [hi, List.take_of_length_le (by omega), List.take_of_length_le (by omega), hc, hb1, Nat.add_zero, Nat.mul_zero, Nat.add_zero] at p6
  obtain ⟨e1, e2⟩ := digit_end0 est g2 p6
  rw [← e2, List.drop_eq_nil_of_le (by omega), List.append_nil]
  have := pad_eq 4294967296 (by omega) o p3
  rw [p2, hi] at this
  rw [← this]

def digitCT : CT := mkCTW [.inl (some (.ints .u32 []))] 105 fun con lo len l K => match con, l with
 | .ints .u32 xs, [.inl (.ints .u32 vs)] => ((0 ≤ lo ∧ lo + len ≤ xs.length ∧ len = vs.length + 1 ∧ 2 ≤ vs.length ∧ xs.length ≤ 16777216 ∧ InB 4294967296 xs ∧ InB 4294967296 vs ∧ Trd vs) ∧ V 4294967296 ((xs.drop lo.toNat).take len.toNat) < 4294967296 * V 4294967296 vs) ∧
   K (.ints .u32 (xs.take lo.toNat ++ pad 4294967296 (vs.length + 1) (V 4294967296 ((xs.drop lo.toNat).take len.toNat) % V 4294967296 vs) ++ xs.drop (lo.toNat + len.toNat))) [.inl (.i .u32 ((V 4294967296 ((xs.drop lo.toNat).take len.toNat) / V 4294967296 vs : Nat) : Int))]
 | _, _ => False

end Go.Proofs.YtgkajjifbcmoeaaGreatDoor
