import Derived.Test.YtgkajjifbcmoeaaGreatDoorH3
import Derived.Test.YtgkajjifbcmoeaaGreatDoorH4
import Derived.Test.YtgkajjifbcmoeaaGreatDoorH6
import Derived.Test.YtgkajjifbcmoeaaGreatDoorH7
namespace Go.Proofs.YtgkajjifbcmoeaaGreatDoor
set_option linter.unusedSimpArgs false
set_option linter.unusedVariables false
open Go.Abs Go.Proofs.NatL

theorem win_split (xs : List Int) (a b : Nat) (h : a + b ≤ xs.length) : xs = xs.take a ++ (xs.drop a).take b ++ xs.drop (a + b) := by
 rw [List.append_assoc, ← List.drop_drop, List.take_append_drop, List.take_append_drop]

def cf22 : Cfg := addT 220 digitCT cf21
theorem cf22_ok : TblOk Tryz.prog cf22 := mkCTW_ok cf21_ok (q_C Tryz.func220 (by kernel_rfl) (by kernel_rfl)) rfl fun con lo len al K h => by
 split at h
 ·rename_i xs vs
  obtain ⟨⟨⟨h1, h2, h3, h4, h5, h6, h7, h8⟩, h9⟩, h⟩ := h
  obtain ⟨a, rfl⟩ : ∃ a : Nat, lo = a := ⟨lo.toNat, by omega⟩
  obtain ⟨b, rfl⟩ : ∃ b : Nat, len = b := ⟨len.toNat, by omega⟩
  simp only [Int.toNat_natCast] at h9 h
  have e := win_split xs a b (by omega)
  have l1 : (xs.take a).length = a := by simp; omega
  have l2 : ((xs.drop a).take b).length = b := by simp; omega
  have := digit_ret (xs.take a) ((xs.drop a).take b) (xs.drop (a + b)) vs (by omega) h4 (by rw [← e]; exact h5) (InB_take (InB_drop h6 _) _) h7 h9 h8
  rw [← e, l1, l2] at this
  exact ⟨a, b, _, _, rfl, rfl, this, h⟩
 ·exact h.elim
attribute [go_sem] cf22 digitCT
theorem cast_lt32 (n : Nat) (h : n < 4294967296) : (n : Int) < ((4294967296 : Nat) : Int) := by omega

set_option maxRecDepth 100000 in
set_option maxHeartbeats 1600000 in
theorem divide_ret (xs ys : List Int) (hx : xs.length ≤ 1048576) (hy : ys.length ≤ xs.length) (hn : 2 ≤ ys.length) (bx : InB 4294967296 xs) (by' : InB 4294967296 ys) (tx : Trd xs) (ty : Trd ys) :
  Ret Tryz.prog 203 false [.inl (.ints .u32 xs), .inl (.ints .u32 ys)] (.t [.inl (.ints .u32 (dg 4294967296 (V 4294967296 xs / V 4294967296 ys))), .inl (.ints .u32 (dg 4294967296 (V 4294967296 xs % V 4294967296 ys)))]) := by
 have ct := InB_getD (by omega) by' (ys.length - 1)
 obtain ⟨t, ht⟩ : ∃ t : Nat, ys.getD (ys.length - 1) 0 = t := ⟨(ys.getD (ys.length - 1) 0).toNat, by omega⟩
 have t0 : 0 < t := by
  rcases ty with h | h
  ·omega
  ·omega
 have i1 : ((ys.length : Int) - 1).toNat = ys.length - 1 := by omega
 obtain ⟨b1, b2, b3⟩ := bl_spec t t0
 have b4 : bl t ≤ 32 := bl_lt t 32 (by simp only [show (2 : Nat) ^ 32 = 4294967296 from rfl]; omega)
 obtain ⟨s, hs⟩ : ∃ s, s = 32 - bl t := ⟨_, rfl⟩
 obtain ⟨n1, n2⟩ := shift_norm 32 t (bl t) s b3 b1 b2 (by omega)
 have hS0 : 0 < 2 ^ s := Nat.pow_pos (by omega)
 have hS1 : 2 ^ s ≤ 2 ^ 31 := Nat.pow_le_pow_right (by omega) (by omega)
 have m1 := norm_hi 4294967296 (by omega) ys by' (by omega) (2 ^ s) (by rw [ht]; exact n1) hS0
 have m2 := norm_lo 4294967296 ys (by omega) (2 ^ s) (by rw [ht]; exact n2)
 have vx := V_lt _ (by omega) xs bx
 have st := start_lt 4294967296 xs.length ys.length (V 4294967296 xs) (V 4294967296 ys * 2 ^ s) (2 ^ s) vx (by simp only [show (2 : Nat) ^ 31 = 2147483648 from rfl] at hS1; omega) hS0 (by omega) m2
 have vy0 := V_ge_of_trd (by omega) ys by' ty (by omega)
 have hq : V 4294967296 xs * 2 ^ s / (V 4294967296 ys * 2 ^ s) = V 4294967296 xs / V 4294967296 ys := Nat.mul_div_mul_right _ _ hS0
 have hr : V 4294967296 xs * 2 ^ s % (V 4294967296 ys * 2 ^ s) / 2 ^ s = V 4294967296 xs % V 4294967296 ys := by rw [Nat.mul_mod_mul_right, Nat.mul_div_cancel _ hS0]
 have vlen : (dg 4294967296 (V 4294967296 ys * 2 ^ s)).length = ys.length := by
  have h1 := dg_len_le (B := 4294967296) (by omega) _ _ m1
  have h2 := dg_len_gt (B := 4294967296) (by omega) (V 4294967296 ys * 2 ^ s) (ys.length - 1) (by
   have : V 4294967296 ys * 1 ≤ V 4294967296 ys * 2 ^ s := Nat.mul_le_mul_left _ hS0
   omega)
  omega
 have ulen : (dg 4294967296 (V 4294967296 xs * 2 ^ s)).length ≤ xs.length + 1 := by
  refine dg_len_le (by omega) _ _ ?_
  rw [Nat.pow_succ]
  have : 2 ^ s ≤ 4294967296 := by simp only [show (2 : Nat) ^ 31 = 2147483648 from rfl] at hS1; omega
  exact Nat.mul_lt_mul_of_lt_of_le vx this (by omega)
 have hpos : 0 < 4294967296 ^ (ys.length - 1) := Nat.pow_pos (by omega)
 have vv0 : 0 < V 4294967296 ys * 2 ^ s := Nat.mul_pos (by omega) hS0
 have hsi : ((32 - bl t : Nat) : Int) = (s : Int) := by omega
 generalize hU : V 4294967296 xs * 2 ^ s = U at *
 generalize hVv : V 4294967296 ys * 2 ^ s = Vv at *
 (refine q_H Tryz.func203 (fun F => ?_); simp only [q_z,q_y,Tryz.ntmps203,Tryz.results203])
 repeat' (first|(with_reducible first|apply q_a|apply q_b|apply q_c|apply q_d|apply q_e|apply q_f|apply q_g|apply q_h|apply q_i|apply q_j|apply q_k|apply q_m|apply q_n|apply q_o|apply q_p|refine q_l ?_)|((with_reducible first|refine q_q cf22_ok fun K hK=>?_|refine q_r cf22_ok fun K hK=>?_);simp (maxSteps:=2000000) only [go_sem,↓reduceIte,reduceCtorEq,Nat.reduceLeDiff,Nat.reduceLT,Nat.reduceBEq,Nat.reduceAdd];(repeat1' with_reducible first|apply And.intro|intro _|(refine hK _ ?_;clear hK K))<;>(try (clear hK K;exact q_u)))|(with_reducible refine q_s ?_;(first|apply q_J|apply q_K|apply q_L|apply q_M|apply q_N|apply q_O)<;>try intro _)|with_reducible refine q_t ?_)
 ·rw [i1]; exact ct.1
 ·rw [i1]; exact ct.2
 simp only [i1, ht, Int.toNat_natCast, ← hs, hU, hVv]
 refine q_G (ι := { u : List Int // InB 4294967296 u ∧ V 4294967296 u = U ∧ u.length ≤ xs.length + 1 })
  (fun u => ⟨68, [(0, .c (.ints .u32 xs)), (6, .c (.i .i64 ys.length)), (7, .c (.i .i64 (s : Nat))), (8, .c (.ints .u32 (dg 4294967296 Vv))), (9, .own 1 0)], ⟨[], [(1, ⟨0, 105, 1, .ints .u32 u.1⟩)], []⟩, 2⟩) (fun u => xs.length + 1 - u.1.length) ⟨dg 4294967296 U, InB_dg _ (by omega) _, V_dg _ (by omega) _, ulen⟩ ?_ ?_
 ·exact q_D
 rintro ⟨u, u1, u2, u3⟩
 simp only at u1 u2 u3 ⊢
 repeat' (first|(with_reducible first|apply q_a|apply q_b|apply q_c|apply q_d|apply q_e|apply q_f|apply q_g|apply q_h|apply q_i|apply q_j|apply q_k|apply q_m|apply q_n|apply q_o|apply q_p|refine q_l ?_)|((with_reducible first|refine q_q cf22_ok fun K hK=>?_|refine q_r cf22_ok fun K hK=>?_);simp (maxSteps:=2000000) only [go_sem,↓reduceIte,reduceCtorEq,Nat.reduceLeDiff,Nat.reduceLT,Nat.reduceBEq,Nat.reduceAdd];(repeat1' with_reducible first|apply And.intro|intro _|(refine hK _ ?_;clear hK K))<;>(try (clear hK K;exact q_u)))|(with_reducible refine q_s ?_;(first|apply q_J|apply q_K|apply q_L|apply q_M|apply q_N|apply q_O)<;>try intro _)|with_reducible refine q_t ?_)
 ·rename_i h
  refine q_F ⟨u ++ [0], InB_snoc u1 (by omega) (by omega), by rw [V_snoc]; simpa using u2, by simp; omega⟩ ?_ (by simp; omega)
  exact q_D
 rename_i h
 have hul : u.length = xs.length + 1 := by omega
 have e3 : ((u.length : Int) - (ys.length : Int)).toNat = xs.length + 1 - ys.length := by omega
 rw [e3]
 refine q_G (ι := { p : Nat × List Int × List Int // p.1 ≤ xs.length + 1 - ys.length ∧ p.2.1.length = xs.length + 1 - ys.length ∧ InB 4294967296 p.2.1 ∧ p.2.2.length = xs.length + 1 ∧ InB 4294967296 p.2.2 ∧ V 4294967296 (p.2.1.drop p.1) = U / (4294967296 ^ p.1 * Vv) ∧ V 4294967296 p.2.2 = U % (4294967296 ^ p.1 * Vv) })
  (fun p => ⟨68, [(6, .c (.i .i64 ys.length)), (7, .c (.i .i64 (s : Nat))), (8, .c (.ints .u32 (dg 4294967296 Vv))), (9, .own 1 0), (10, .own 2 0), (11, .c (.i .i64 ((p.1.1 : Int) - 1)))], ⟨[], [(1, ⟨0, 105, 1, .ints .u32 p.1.2.2⟩), (2, ⟨0, 105, 1, .ints .u32 p.1.2.1⟩)], []⟩, 3⟩) (fun p => p.1.1)
  ⟨(xs.length + 1 - ys.length, List.replicate (xs.length + 1 - ys.length) 0, u), Nat.le_refl _, by simp, InB_replicate (by omega) _, hul, u1, by rw [List.drop_eq_nil_of_le (by simp), Nat.div_eq_of_lt st]; rfl, by rw [Nat.mod_eq_of_lt st]; exact u2⟩ ?_ ?_
 ·exact q_D
 rintro ⟨⟨k, o, v⟩, p1, p2, p3, p4, p5, p6, p7⟩
 simp only at p1 p2 p3 p4 p5 p6 p7 ⊢
 have vT := dg_trd 4294967296 (by omega) Vv
 have vI := InB_dg 4294967296 (by omega) Vv
 have vV := V_dg 4294967296 (by omega) Vv
 have hvlt : V 4294967296 v < 4294967296 ^ k * Vv := by rw [p7]; exact Nat.mod_lt _ (Nat.mul_pos (Nat.pow_pos (by omega)) vv0)
 rcases Nat.eq_zero_or_pos k with hk | hk
 ·subst hk
  have hvn : V 4294967296 v < 4294967296 ^ ys.length := by rw [Nat.pow_zero, Nat.one_mul] at hvlt; omega
  have htk := take_small 4294967296 v ys.length (by omega) hvn
  have hto : trimL o = dg 4294967296 (U / Vv) := by
   rw [trimL_eq 4294967296 (by omega) o p3]
   congr 1
   simpa using p6
  have htl : (trimL (v.take ys.length)).length ≤ 1048576 := Nat.le_trans (trimL_len _) (by simp; omega)
  have hin : InB 4294967296 (trimL (v.take ys.length)) := fun x hx => (InB_take p5 _) x (trimL_mem _ x hx)
  have hvr : V 4294967296 (trimL (v.take ys.length)) = U % Vv := by
   rw [V_trimL, htk, p7, Nat.pow_zero, Nat.one_mul]
  repeat' (first|(with_reducible first|apply q_a|apply q_b|apply q_c|apply q_d|apply q_e|apply q_f|apply q_g|apply q_h|apply q_i|apply q_j|apply q_k|apply q_m|apply q_n|apply q_o|apply q_p|refine q_l ?_)|((with_reducible first|refine q_q cf22_ok fun K hK=>?_|refine q_r cf22_ok fun K hK=>?_);simp (maxSteps:=2000000) only [go_sem,↓reduceIte,reduceCtorEq,Nat.reduceLeDiff,Nat.reduceLT,Nat.reduceBEq,Nat.reduceAdd];(repeat1' with_reducible first|apply And.intro|intro _|(refine hK _ ?_;clear hK K))<;>(try (clear hK K;exact q_u)))|(with_reducible refine q_s ?_;(first|apply q_J|apply q_K|apply q_L|apply q_M|apply q_N|apply q_O)<;>try intro _)|with_reducible refine q_t ?_)
  all_goals (try omega)
  refine awp_told ⟨68, [(6, .c (.i .i64 ys.length)), (7, .c (.i .i64 (s : Nat))), (9, .c (.ints .u32 v)), (10, .c (.ints .u32 o))], ⟨[], [], []⟩, 3⟩ ?_ ?_
  ·exact q_D
  repeat' (first|(with_reducible first|apply q_a|apply q_b|apply q_c|apply q_d|apply q_e|apply q_f|apply q_g|apply q_h|apply q_i|apply q_j|apply q_k|apply q_m|apply q_n|apply q_o|apply q_p|refine q_l ?_)|((with_reducible first|refine q_q cf22_ok fun K hK=>?_|refine q_r cf22_ok fun K hK=>?_);simp (maxSteps:=2000000) only [go_sem,↓reduceIte,reduceCtorEq,Nat.reduceLeDiff,Nat.reduceLT,Nat.reduceBEq,Nat.reduceAdd];(repeat1' with_reducible first|apply And.intro|intro _|(refine hK _ ?_;clear hK K))<;>(try (clear hK K;exact q_u)))|(with_reducible refine q_s ?_;(first|apply q_J|apply q_K|apply q_L|apply q_M|apply q_N|apply q_O)<;>try intro _)|with_reducible refine q_t ?_)
  exact q_A (by simp only [resAV, hto, hvr, hq, hr])
 ·obtain ⟨j, rfl⟩ : ∃ j, k = j + 1 := ⟨k - 1, by omega⟩
  have j1 : (((j + 1 : Nat) : Int) - 1).toNat = j := by omega
  have j2 : ((((j + 1 : Nat) : Int) - 1) + (ys.length : Int) + 1).toNat - j = ys.length + 1 := by omega
  have hvlt2 : V 4294967296 v < 4294967296 ^ (j + (ys.length + 1)) := by
   have : 4294967296 ^ (j + 1) * Vv ≤ 4294967296 ^ (j + 1) * 4294967296 ^ ys.length := Nat.mul_le_mul_left _ (Nat.le_of_lt m1)
   rw [← Nat.pow_add] at this
   rw [show j + (ys.length + 1) = j + 1 + ys.length by omega]
   omega
  have hwin := V_win 4294967296 v j (ys.length + 1) (by omega) hvlt2
  have hlo := V_lt 4294967296 (by omega) _ (InB_take p5 j)
  have hjl : (v.take j).length = j := by simp; omega
  rw [hjl] at hlo
  obtain ⟨⟨d1, d2⟩, d3⟩ := div_step 4294967296 j U Vv _ _ _ _ vv0 p7 hwin hlo (by omega) p6
  have hml : V 4294967296 ((v.drop j).take (ys.length + 1)) % Vv < 4294967296 ^ (ys.length + 1) := by
   have h1 := Nat.mod_lt (V 4294967296 ((v.drop j).take (ys.length + 1))) vv0
   have h2 : 4294967296 ^ ys.length ≤ 4294967296 ^ (ys.length + 1) := Nat.pow_le_pow_right (by omega) (by omega)
   omega
  have hnv := V_rewin 4294967296 (by omega) v j (ys.length + 1) _ (by omega) hvlt2 hml
  have hnl := rewin_len 4294967296 v j (ys.length + 1) (V 4294967296 ((v.drop j).take (ys.length + 1)) % Vv) (by omega)
  have hqlt : V 4294967296 ((v.drop j).take (ys.length + 1)) / Vv < 4294967296 := Nat.div_lt_of_lt_mul (by rw [Nat.mul_comm]; exact d3)
  have hni : InB 4294967296 (v.take j ++ pad 4294967296 (ys.length + 1) (V 4294967296 ((v.drop j).take (ys.length + 1)) % Vv) ++ v.drop (j + (ys.length + 1))) := InB_app (InB_app (InB_take p5 _) (InB_pad _ _ _ (by omega))) (InB_drop p5 _)
  repeat' (first|(with_reducible first|apply q_a|apply q_b|apply q_c|apply q_d|apply q_e|apply q_f|apply q_g|apply q_h|apply q_i|apply q_j|apply q_k|apply q_m|apply q_n|apply q_o|apply q_p|refine q_l ?_)|((with_reducible first|refine q_q cf22_ok fun K hK=>?_|refine q_r cf22_ok fun K hK=>?_);simp (maxSteps:=2000000) only [go_sem,↓reduceIte,reduceCtorEq,Nat.reduceLeDiff,Nat.reduceLT,Nat.reduceBEq,Nat.reduceAdd];(repeat1' with_reducible first|apply And.intro|intro _|(refine hK _ ?_;clear hK K))<;>(try (clear hK K;exact q_u)))|(with_reducible refine q_s ?_;(first|apply q_J|apply q_K|apply q_L|apply q_M|apply q_N|apply q_O)<;>try intro _)|with_reducible refine q_t ?_)
  all_goals (try simp only [j1, j2, vV, vlen])
  ·exact d3
  ·refine q_F ⟨(j, o.set j ((V 4294967296 ((v.drop j).take (ys.length + 1)) / Vv : Nat) : Int), v.take j ++ pad 4294967296 (ys.length + 1) (V 4294967296 ((v.drop j).take (ys.length + 1)) % Vv) ++ v.drop (j + (ys.length + 1))), by simp only; omega, by simp [p2], InB_set p3 _ (Int.natCast_nonneg _) (cast_lt32 _ hqlt), by rw [hnl]; exact p4, hni, ?_, ?_⟩ ?_ (by simp only; omega)
   ·simp only
    rw [V_set_drop _ _ _ _ (by omega), d2]
   ·simp only
    rw [hnv, d1]
   ·exact q_D
  ·exfalso; omega

def divideCT : CT := mkCT [.inl (some (.ints .u32 [])), .inl (some (.ints .u32 []))] false fun l K => match l with
 | [.inl (.ints .u32 xs), .inl (.ints .u32 ys)] => (xs.length ≤ 1048576 ∧ ys.length ≤ xs.length ∧ 2 ≤ ys.length ∧ InB 4294967296 xs ∧ InB 4294967296 ys ∧ Trd xs ∧ Trd ys) ∧ K (.t [.inl (.ints .u32 (dg 4294967296 (V 4294967296 xs / V 4294967296 ys))), .inl (.ints .u32 (dg 4294967296 (V 4294967296 xs % V 4294967296 ys)))])
 | _ => False
def cf23 : Cfg := addT 203 divideCT cf22
theorem cf23_ok : TblOk Tryz.prog cf23 := q_I cf22_ok Tryz.func203 fun l K h => by
 split at h
 ·obtain ⟨⟨h1, h2, h3, h4, h5, h6, h7⟩, h⟩ := h
  exact ⟨_, divide_ret _ _ h1 h2 h3 h4 h5 h6 h7, h⟩
 ·exact h.elim
attribute [go_sem] cf23 divideCT
set_option maxHeartbeats 1600000 in
theorem divMod_ret (xs ys : List Int) (hx : xs.length ≤ 1048576) (hy : ys.length ≤ 1048576) (h0 : 0 < ys.length) (bx : InB 4294967296 xs) (by' : InB 4294967296 ys) (tx : Trd xs) (ty : Trd ys) :
  Ret Tryz.prog 162 false [.inl (.ints .u32 xs), .inl (.ints .u32 ys)] (.t [.inl (.ints .u32 (dg 4294967296 (V 4294967296 xs / V 4294967296 ys))), .inl (.ints .u32 (dg 4294967296 (V 4294967296 xs % V 4294967296 ys)))]) := by
 obtain ⟨c1, c2, c3⟩ := cmpL_le bx by' tx ty
 have d0 := InB_getD (by omega) by' 0
 have e1 : ys.length = 1 → ys = [ys.getD 0 0] := fun h => by
  match ys, h with
  | [y], _ => rfl
 have e2 : ys.length = 1 → V 4294967296 ys = (ys.getD 0 0).toNat := fun h => by
  rw [e1 h]; simp [V]
 have e3 : ys.length = 1 → 0 < ys.getD 0 0 := fun h => by
  rcases ty with h1 | h1
  ·omega
  ·rw [h] at h1; simp only [Nat.sub_self] at h1; omega
 have e4 : ¬ V 4294967296 xs < V 4294967296 ys → ys.length ≤ xs.length := fun h => V_le_len (by omega) bx by' ty (by omega)
 have hre : ys.length = 1 → trimL [((V 4294967296 xs % (ys.getD 0 0).toNat : Nat) : Int)] = dg 4294967296 (V 4294967296 xs % V 4294967296 ys) := fun h => by
  have hm : V 4294967296 xs % (ys.getD 0 0).toNat < 4294967296 := Nat.lt_trans (Nat.mod_lt _ (by have := e3 h; omega)) (by omega)
  rw [trimL_eq 4294967296 (by omega)]
  ·rw [V, V, Int.toNat_natCast, e2 h]; simp
  ·intro x hx; rw [List.mem_singleton] at hx; subst hx; omega
 (refine q_H Tryz.func162 (fun F => ?_); simp only [q_z,q_y,Tryz.ntmps162,Tryz.results162])
 repeat' (first|(with_reducible first|apply q_a|apply q_b|apply q_c|apply q_d|apply q_e|apply q_f|apply q_g|apply q_h|apply q_i|apply q_j|apply q_k|apply q_m|apply q_n|apply q_o|apply q_p|refine q_l ?_)|((with_reducible first|refine q_q cf23_ok fun K hK=>?_|refine q_r cf23_ok fun K hK=>?_);simp (maxSteps:=2000000) only [go_sem,↓reduceIte,reduceCtorEq,Nat.reduceLeDiff,Nat.reduceLT,Nat.reduceBEq,Nat.reduceAdd];(repeat1' with_reducible first|apply And.intro|intro _|(refine hK _ ?_;clear hK K))<;>(try (clear hK K;exact q_u)))|(with_reducible refine q_s ?_;(first|apply q_J|apply q_K|apply q_L|apply q_M|apply q_N|apply q_O)<;>try intro _)|with_reducible refine q_t ?_)
 ·rename_i h
  have h1 := c1.1 h
  exact q_B [.inl (some (.ints .u32 []))] rfl (by simp only [resAV, norm, nz, Nat.div_eq_of_lt h1, Nat.mod_eq_of_lt h1, dg_zero, dg_V 4294967296 (by omega) xs bx tx])
 ·rename_i h k
  have k' : ys.length = 1 := by omega
  exact q_A (by simp only [resAV, hre k', e2 k'])
 ·exact q_A (by simp only [resAV])

def divModCT : CT := mkCT [.inl (some (.ints .u32 [])), .inl (some (.ints .u32 []))] false fun l K => match l with
 | [.inl (.ints .u32 xs), .inl (.ints .u32 ys)] => (xs.length ≤ 1048576 ∧ ys.length ≤ 1048576 ∧ 0 < ys.length ∧ InB 4294967296 xs ∧ InB 4294967296 ys ∧ Trd xs ∧ Trd ys) ∧ K (.t [.inl (.ints .u32 (dg 4294967296 (V 4294967296 xs / V 4294967296 ys))), .inl (.ints .u32 (dg 4294967296 (V 4294967296 xs % V 4294967296 ys)))])
 | _ => False
def cf24 : Cfg := addT 162 divModCT cf0
theorem cf24_ok : TblOk Tryz.prog cf24 := q_I cf0_ok Tryz.func162 fun l K h => by
 split at h
 ·obtain ⟨⟨h1, h2, h3, h4, h5, h6, h7⟩, h⟩ := h
  exact ⟨_, divMod_ret _ _ h1 h2 h3 h4 h5 h6 h7, h⟩
 ·exact h.elim
attribute [go_sem] cf24 divModCT
end Go.Proofs.YtgkajjifbcmoeaaGreatDoor

namespace Go.Proofs.YtgkajjifbcmoeaaGreatDoor
set_option linter.unusedSimpArgs false
set_option linter.unusedVariables false
open Go.Abs Go.Proofs.NatL
def tb14 : Cfg := listT [(163, atCT), (160, checkCT), (162, divModCT), (161, cloneCT)] [34]
theorem tb14_ok : TblOk Tryz.prog tb14 := listE_ok (by simp only [List.mem_singleton, forall_eq]; exact flt) ⟨⟨cf1, cf1_ok, rfl⟩, ⟨cf6, cf6_ok, rfl⟩, ⟨cf24, cf24_ok, rfl⟩, ⟨cf10, cf10_ok, rfl⟩, trivial⟩
attribute [go_sem] tb14
def dvE (xs ys : List Int) : Bool := decide (chkC xs ys = 0 ∧ ys ≠ [])
def dvQ (xs ys : List Int) : List Int := if dvE xs ys then dg 4294967296 (V 4294967296 xs / V 4294967296 ys) else []
def dvR (xs ys : List Int) : List Int := if dvE xs ys then dg 4294967296 (V 4294967296 xs % V 4294967296 ys) else []
def dvC (xs ys : List Int) : Int := if chkC xs ys ≠ 0 then chkC xs ys else if ys = [] then 22 else 0
def dvI (xs ys : List Int) : Int := if chkC xs ys ≠ 0 then chkI xs ys else if ys = [] then -2 else 0

theorem chk_good {xs ys : List Int} (h : chkC xs ys = 0) : (xs.length ≤ 600 ∧ Trd xs) ∧ ys.length ≤ 600 ∧ Trd ys ∧ chkI xs ys = 0 := by
 unfold chkC at h
 unfold chkI
 cases hx : okN xs <;> cases hy : okN ys <;> simp_all [okN]

set_option maxHeartbeats 1600000 in
theorem DivMod_ret (xs ys : List Int) (hx : xs.length ≤ 140737488355328) (hy : ys.length ≤ 140737488355328) (bx : InB 4294967296 xs) (by' : InB 4294967296 ys) :
  Ret Tryz.prog 85 false [.inl (.ints .u32 xs), .inl (.ints .u32 ys)] (.t [.inl (.ints .u32 (dvQ xs ys)), .inl (.ints .u32 (dvR xs ys)), .inr [.i .i64 (dvC xs ys), .i .i64 (dvI xs ys)]]) := by
 by_cases hc : chkC xs ys = 0
 ·obtain ⟨⟨g1, g2⟩, g3, g4, g5⟩ := chk_good hc
  (refine q_H Tryz.func85 (fun F => ?_); simp only [q_z,q_y,Tryz.ntmps85,Tryz.results85])
  repeat' (first|(with_reducible first|apply q_a|apply q_b|apply q_c|apply q_d|apply q_e|apply q_f|apply q_g|apply q_h|apply q_i|apply q_j|apply q_k|apply q_m|apply q_n|apply q_o|apply q_p|refine q_l ?_)|((with_reducible first|refine q_q tb14_ok fun K hK=>?_|refine q_r tb14_ok fun K hK=>?_);simp (maxSteps:=2000000) only [go_sem,↓reduceIte,reduceCtorEq,Nat.reduceLeDiff,Nat.reduceLT,Nat.reduceBEq,Nat.reduceAdd];(repeat1' with_reducible first|apply And.intro|intro _|(refine hK _ ?_;clear hK K))<;>(try (clear hK K;exact q_u)))|(with_reducible refine q_s ?_;(first|apply q_J|apply q_K|apply q_L|apply q_M|apply q_N|apply q_O)<;>try intro _)|with_reducible refine q_t ?_)
  all_goals (try contradiction)
  ·rename_i h
   have hy0 : ys = [] := List.eq_nil_of_length_eq_zero (by omega)
   subst hy0
   exact q_B [.inl (some (.ints .u32 [])), .inl (some (.ints .u32 []))] rfl (by simp [resAV, norm, nz, dvQ, dvR, dvC, dvI, dvE, hc])
  ·rename_i h
   have hy0 : ys ≠ [] := fun e => by subst e; simp at h
   exact q_A (by simp [resAV, dvQ, dvR, dvC, dvI, dvE, hc, hy0])
 ·(refine q_H Tryz.func85 (fun F => ?_); simp only [q_z,q_y,Tryz.ntmps85,Tryz.results85])
  repeat' (first|(with_reducible first|apply q_a|apply q_b|apply q_c|apply q_d|apply q_e|apply q_f|apply q_g|apply q_h|apply q_i|apply q_j|apply q_k|apply q_m|apply q_n|apply q_o|apply q_p|refine q_l ?_)|((with_reducible first|refine q_q tb14_ok fun K hK=>?_|refine q_r tb14_ok fun K hK=>?_);simp (maxSteps:=2000000) only [go_sem,↓reduceIte,reduceCtorEq,Nat.reduceLeDiff,Nat.reduceLT,Nat.reduceBEq,Nat.reduceAdd];(repeat1' with_reducible first|apply And.intro|intro _|(refine hK _ ?_;clear hK K))<;>(try (clear hK K;exact q_u)))|(with_reducible refine q_s ?_;(first|apply q_J|apply q_K|apply q_L|apply q_M|apply q_N|apply q_O)<;>try intro _)|with_reducible refine q_t ?_)
  all_goals (try contradiction)
  exact q_B [.inl (some (.ints .u32 [])), .inl (some (.ints .u32 []))] rfl (by simp [resAV, norm, nz, dvQ, dvR, dvC, dvI, dvE, hc])

end Go.Proofs.YtgkajjifbcmoeaaGreatDoor

namespace Go.Proofs.YtgkajjifbcmoeaaGreatDoor
set_option linter.unusedSimpArgs false
set_option linter.unusedVariables false
open Go.Abs Go.Proofs.NatL
attribute [go_sem] cf0 addT mkCT mkCTO norm nz nzL List.mem_singleton List.mem_cons true_or or_true
set_option maxHeartbeats 400000 in
theorem rtrim_ret (xs : List Int) (hx : xs.length ≤ 16777216) : Ret Tryz.prog 148 false [.inl (.ints .i64 xs)] (.c (.ints .i64 (trimL xs))) := by
 (refine q_H Tryz.func148 (fun F => ?_); simp only [q_z,q_y,Tryz.ntmps148,Tryz.results148])
 repeat' (first|(with_reducible first|apply q_a|apply q_b|apply q_c|apply q_d|apply q_e|apply q_f|apply q_g|apply q_h|apply q_i|apply q_j|apply q_k|apply q_m|apply q_n|apply q_o|apply q_p|refine q_l ?_)|((with_reducible first|refine q_q cf0_ok fun K hK=>?_|refine q_r cf0_ok fun K hK=>?_);simp (maxSteps:=2000000) only [go_sem,↓reduceIte,reduceCtorEq,Nat.reduceLeDiff,Nat.reduceLT,Nat.reduceBEq,Nat.reduceAdd];(repeat1' with_reducible first|apply And.intro|intro _|(refine hK _ ?_;clear hK K))<;>(try (clear hK K;exact q_u)))|(with_reducible refine q_s ?_;(first|apply q_J|apply q_K|apply q_L|apply q_M|apply q_N|apply q_O)<;>try intro _)|with_reducible refine q_t ?_)
 refine q_G (ι := { ys : List Int // trimL ys = trimL xs ∧ ys.length ≤ 16777216 }) (fun ys => ⟨21, [(0, .c (.ints .i64 ys.1))], ⟨[], [], []⟩, 0⟩) (fun ys => ys.1.length) ⟨xs, rfl, hx⟩ ?_ ?_
 ·exact q_D
 rintro ⟨ys, h1, h2⟩
 have e : 0 < (ys.length : Int) → ((ys.length : Int) - 1).toNat = ys.length - 1 := fun _ => by omega
 repeat' (first|(with_reducible first|apply q_a|apply q_b|apply q_c|apply q_d|apply q_e|apply q_f|apply q_g|apply q_h|apply q_i|apply q_j|apply q_k|apply q_m|apply q_n|apply q_o|apply q_p|refine q_l ?_)|((with_reducible first|refine q_q cf0_ok fun K hK=>?_|refine q_r cf0_ok fun K hK=>?_);simp (maxSteps:=2000000) only [go_sem,↓reduceIte,reduceCtorEq,Nat.reduceLeDiff,Nat.reduceLT,Nat.reduceBEq,Nat.reduceAdd];(repeat1' with_reducible first|apply And.intro|intro _|(refine hK _ ?_;clear hK K))<;>(try (clear hK K;exact q_u)))|(with_reducible refine q_s ?_;(first|apply q_J|apply q_K|apply q_L|apply q_M|apply q_N|apply q_O)<;>try intro _)|with_reducible refine q_t ?_)
 ·rename_i hp h0
  rw [e hp] at h0 ⊢
  refine q_F ⟨ys.take (ys.length - 1), by rw [trimL_drop ys (by omega) h0, h1], by simp; omega⟩ ?_ ?_
  ·exact q_D
  ·show (ys.take (ys.length - 1)).length < ys.length
   simp; omega
 ·rename_i hp h0
  rw [e hp] at h0
  exact q_A (by rw [← h1, trimL_stop ys (.inr h0)]; rfl)
 ·exact q_A (by rw [← h1, trimL_stop ys (.inl (by omega))]; rfl)

def rtrimCT : CT := mkCT [.inl (some (.ints .i64 []))] false fun l K => match l with
 | [.inl (.ints .i64 xs)] => xs.length ≤ 16777216 ∧ K (.c (.ints .i64 (trimL xs)))
 | _ => False
def rf1 : Cfg := addT 148 rtrimCT cf0
theorem rf1_ok : TblOk Tryz.prog rf1 := q_I cf0_ok Tryz.func148 fun l K h => by
 split at h
 ·exact ⟨_, rtrim_ret _ h.1, h.2⟩
 ·exact h.elim
attribute [go_sem] rf1 rtrimCT
theorem of_step (i : Nat) (o xs : List Int) (h : V 65536 o = V 4294967296 (xs.take i)) (hl : o.length = 2 * i) (hi : i < xs.length) (r q : Int) (hr : r.toNat + 65536 * q.toNat = (xs.getD i 0).toNat) : V 65536 (o ++ [r, q]) = V 4294967296 (xs.take (i + 1)) := by
 rw [V_append, V_take_getD, h, hl]
 have e : (65536 : Nat) ^ (2 * i) = 4294967296 ^ i := by rw [Nat.pow_mul]
 rw [e]
 simp only [V, Nat.mul_zero, Nat.add_zero]
 rw [hr]

set_option maxHeartbeats 800000 in
theorem of_ret (xs : List Int) (hx : xs.length ≤ 1048576) (bx : InB 4294967296 xs) : Ret Tryz.prog 106 false [.inl (.ints .u32 xs)] (.c (.ints .i64 (dg 65536 (V 4294967296 xs)))) := by
 (refine q_H Tryz.func106 (fun F => ?_); simp only [q_z,q_y,Tryz.ntmps106,Tryz.results106])
 repeat' (first|(with_reducible first|apply q_a|apply q_b|apply q_c|apply q_d|apply q_e|apply q_f|apply q_g|apply q_h|apply q_i|apply q_j|apply q_k|apply q_m|apply q_n|apply q_o|apply q_p|refine q_l ?_)|((with_reducible first|refine q_q cf0_ok fun K hK=>?_|refine q_r cf0_ok fun K hK=>?_);simp (maxSteps:=2000000) only [go_sem,↓reduceIte,reduceCtorEq,Nat.reduceLeDiff,Nat.reduceLT,Nat.reduceBEq,Nat.reduceAdd];(repeat1' with_reducible first|apply And.intro|intro _|(refine hK _ ?_;clear hK K))<;>(try (clear hK K;exact q_u)))|(with_reducible refine q_s ?_;(first|apply q_J|apply q_K|apply q_L|apply q_M|apply q_N|apply q_O)<;>try intro _)|with_reducible refine q_t ?_)
 refine q_G (ι := { p : Nat × List Int // p.1 ≤ xs.length ∧ p.2.length = 2 * p.1 ∧ InB 65536 p.2 ∧ V 65536 p.2 = V 4294967296 (xs.take p.1) }) (fun p => ⟨28, [(0, .c (.ints .u32 xs)), (3, .own 0 0), (4, .c (.i .i64 p.1.1))], ⟨[], [(0, ⟨0, 3, 1, .ints .i64 p.1.2⟩)], []⟩, 1⟩) (fun p => xs.length - p.1.1) ⟨(0, []), by simp, by simp, InB_nil _, by simp [V]⟩ ?_ ?_
 ·exact q_D
 rintro ⟨⟨i, o⟩, g1, g2, g3, g4⟩
 simp only at g1 g2 g3 g4 ⊢
 have b1 := InB_getD (by omega) bx i
 repeat' (first|(with_reducible first|apply q_a|apply q_b|apply q_c|apply q_d|apply q_e|apply q_f|apply q_g|apply q_h|apply q_i|apply q_j|apply q_k|apply q_m|apply q_n|apply q_o|apply q_p|refine q_l ?_)|((with_reducible first|refine q_q rf1_ok fun K hK=>?_|refine q_r rf1_ok fun K hK=>?_);simp (maxSteps:=2000000) only [go_sem,↓reduceIte,reduceCtorEq,Nat.reduceLeDiff,Nat.reduceLT,Nat.reduceBEq,Nat.reduceAdd];(repeat1' with_reducible first|apply And.intro|intro _|(refine hK _ ?_;clear hK K))<;>(try (clear hK K;exact q_u)))|(with_reducible refine q_s ?_;(first|apply q_J|apply q_K|apply q_L|apply q_M|apply q_N|apply q_O)<;>try intro _)|with_reducible refine q_t ?_)
 ·rename_i ha
  refine q_F ⟨(i + 1, o ++ [xs.getD i 0 % 65536, xs.getD i 0 / 65536]), by simp only; omega, by simp [g2]; omega, InB_app g3 (InB_two (by omega) (by omega)), of_step i o xs g4 g2 (by omega) _ _ (by omega)⟩ ?_ ?_
  ·exact q_D
  ·show xs.length - (i + 1) < xs.length - i
   omega
 ·rename_i ha
  have hi : i = xs.length := by omega
  refine q_A ?_
  simp only [resAV, q_y]
  rw [trimL_eq 65536 (by omega) _ g3, g4, hi, List.take_length]

def ofCT : CT := mkCT [.inl (some (.ints .u32 []))] false fun l K => match l with
 | [.inl (.ints .u32 xs)] => (xs.length ≤ 1048576 ∧ InB 4294967296 xs) ∧ K (.c (.ints .i64 (dg 65536 (V 4294967296 xs))))
 | _ => False
attribute [go_sem] ofCT
set_option maxHeartbeats 800000 in
theorem rcompare_ret (xs ys : List Int) (hx : xs.length ≤ 4194304) (hy : ys.length ≤ 4194304) (bx : InB 65536 xs) (by' : InB 65536 ys) (tx : Trd xs) (ty : Trd ys) : Ret Tryz.prog 128 false [.inl (.ints .i64 xs), .inl (.ints .i64 ys)] (.c (.i .i64 (cmp3 (V 65536 xs) (V 65536 ys)))) := by
 (refine q_H Tryz.func128 (fun F => ?_); simp only [q_z,q_y,Tryz.ntmps128,Tryz.results128])
 repeat' (first|(with_reducible first|apply q_a|apply q_b|apply q_c|apply q_d|apply q_e|apply q_f|apply q_g|apply q_h|apply q_i|apply q_j|apply q_k|apply q_m|apply q_n|apply q_o|apply q_p|refine q_l ?_)|((with_reducible first|refine q_q rf1_ok fun K hK=>?_|refine q_r rf1_ok fun K hK=>?_);simp (maxSteps:=2000000) only [go_sem,↓reduceIte,reduceCtorEq,Nat.reduceLeDiff,Nat.reduceLT,Nat.reduceBEq,Nat.reduceAdd];(repeat1' with_reducible first|apply And.intro|intro _|(refine hK _ ?_;clear hK K))<;>(try (clear hK K;exact q_u)))|(with_reducible refine q_s ?_;(first|apply q_J|apply q_K|apply q_L|apply q_M|apply q_N|apply q_O)<;>try intro _)|with_reducible refine q_t ?_)
 ·rename_i hl
  have := len_lt (by omega) bx by' ty (by omega)
  exact q_A (by simp only [resAV, q_y, cmp3]; rw [if_pos this])
 ·rename_i hl hl2
  have := len_lt (by omega) by' bx tx (by omega)
  exact q_A (by simp only [resAV, q_y, cmp3]; rw [if_neg (by omega), if_neg (by omega)])
 rename_i hl
 have hl : xs.length = ys.length := by omega
 refine q_G (ι := { i : Int // -1 ≤ i ∧ i < xs.length ∧ xs.drop (i + 1).toNat = ys.drop (i + 1).toNat }) (fun i => ⟨41, [(0, .c (.ints .i64 xs)), (1, .c (.ints .i64 ys)), (5, .c (.i .i64 i.1))], ⟨[], [], []⟩, 0⟩) (fun i => (i.1 + 1).toNat) ⟨(xs.length : Int) - 1, by omega, by omega, by rw [List.drop_eq_nil_of_le (by omega), List.drop_eq_nil_of_le (by omega)]⟩ ?_ ?_
 ·exact q_D
 rintro ⟨i, h1, h2, h3⟩
 simp only
 have e1 : 0 ≤ i → (i + 1).toNat = i.toNat + 1 := fun _ => by omega
 repeat' (first|(with_reducible first|apply q_a|apply q_b|apply q_c|apply q_d|apply q_e|apply q_f|apply q_g|apply q_h|apply q_i|apply q_j|apply q_k|apply q_m|apply q_n|apply q_o|apply q_p|refine q_l ?_)|((with_reducible first|refine q_q rf1_ok fun K hK=>?_|refine q_r rf1_ok fun K hK=>?_);simp (maxSteps:=2000000) only [go_sem,↓reduceIte,reduceCtorEq,Nat.reduceLeDiff,Nat.reduceLT,Nat.reduceBEq,Nat.reduceAdd];(repeat1' with_reducible first|apply And.intro|intro _|(refine hK _ ?_;clear hK K))<;>(try (clear hK K;exact q_u)))|(with_reducible refine q_s ?_;(first|apply q_J|apply q_K|apply q_L|apply q_M|apply q_N|apply q_O)<;>try intro _)|with_reducible refine q_t ?_)
 ·rename_i h0 hlt
  rw [e1 h0] at h3
  have := cmp_at (by omega) bx by' hl i.toNat (by omega) h3 hlt
  exact q_A (by simp only [resAV, q_y, cmp3]; rw [if_pos this])
 ·rename_i h0 hne hlt
  rw [e1 h0] at h3
  have := cmp_at (by omega) by' bx hl.symm i.toNat (by omega) h3.symm (by omega)
  exact q_A (by simp only [resAV, q_y, cmp3]; rw [if_neg (by omega), if_neg (by omega)])
 ·rename_i h0 he he2
  rw [e1 h0] at h3
  refine q_F ⟨i - 1, by omega, by omega, ?_⟩ ?_ ?_
  ·rw [show (i - 1 + 1).toNat = i.toNat by omega]
   exact drop_step hl i.toNat (by omega) h3 (by omega)
  ·exact q_D
  ·show (i - 1 + 1).toNat < (i + 1).toNat
   omega
 ·rename_i h0
  rw [show (i + 1).toNat = 0 by omega] at h3
  simp only [List.drop_zero] at h3
  exact q_A (by simp only [resAV, q_y, cmp3, h3]; simp)

set_option maxHeartbeats 1600000 in
theorem plus_ret (xs ys : List Int) (hx : xs.length ≤ 4194304) (hy : ys.length ≤ 4194304) (bx : InB 65536 xs) (by' : InB 65536 ys) : Ret Tryz.prog 131 false [.inl (.ints .i64 xs), .inl (.ints .i64 ys)] (.c (.ints .i64 (dg 65536 (V 65536 xs + V 65536 ys)))) := by
 (refine q_H Tryz.func131 (fun F => ?_); simp only [q_z,q_y,Tryz.ntmps131,Tryz.results131])
 repeat' (first|(with_reducible first|apply q_a|apply q_b|apply q_c|apply q_d|apply q_e|apply q_f|apply q_g|apply q_h|apply q_i|apply q_j|apply q_k|apply q_m|apply q_n|apply q_o|apply q_p|refine q_l ?_)|((with_reducible first|refine q_q rf1_ok fun K hK=>?_|refine q_r rf1_ok fun K hK=>?_);simp (maxSteps:=2000000) only [go_sem,↓reduceIte,reduceCtorEq,Nat.reduceLeDiff,Nat.reduceLT,Nat.reduceBEq,Nat.reduceAdd];(repeat1' with_reducible first|apply And.intro|intro _|(refine hK _ ?_;clear hK K))<;>(try (clear hK K;exact q_u)))|(with_reducible refine q_s ?_;(first|apply q_J|apply q_K|apply q_L|apply q_M|apply q_N|apply q_O)<;>try intro _)|with_reducible refine q_t ?_)
 refine q_G (ι := { p : Nat × List Int × Int // p.1 ≤ max xs.length ys.length + 1 ∧ p.2.1.length = p.1 ∧ InB 65536 p.2.1 ∧ 0 ≤ p.2.2 ∧ p.2.2 ≤ 1 ∧ (p.1 = max xs.length ys.length + 1 → p.2.2 = 0) ∧ V 65536 p.2.1 + 65536 ^ p.1 * p.2.2.toNat = V 65536 (xs.take p.1) + V 65536 (ys.take p.1) }) (fun p => ⟨53, [(0, .c (.ints .i64 xs)), (1, .c (.ints .i64 ys)), (5, .own 0 0), (6, .c (.i .i64 p.1.2.2)), (7, .c (.i .i64 p.1.1))], ⟨[], [(0, ⟨0, 3, 1, .ints .i64 p.1.2.1⟩)], []⟩, 1⟩) (fun p => max xs.length ys.length + 1 - p.1.1) ⟨(0, [], 0), by simp, rfl, InB_nil _, by simp, by simp, by simp, by simp [V]⟩ ?_ ?_
 ·exact q_D
 rintro ⟨⟨i, o, c⟩, g1, g2, g3, g4, g5, g6, g7⟩
 simp only at g1 g2 g3 g4 g5 g6 g7 ⊢
 have b1 := InB_getD (by omega) bx i
 have b2 := InB_getD (by omega) by' i
 have z1 : ¬ (i : Int) < xs.length → xs.getD i 0 = 0 := fun h => getD_ge xs i (by omega)
 have z2 : ¬ (i : Int) < ys.length → ys.getD i 0 = 0 := fun h => getD_ge ys i (by omega)
 have z3 : ∀ (h : ¬ (i : Int) < xs.length) (h2 : ¬ (i : Int) < ys.length), c + xs.getD i 0 + ys.getD i 0 = c := fun h h2 => by rw [z1 h, z2 h2]; omega
 repeat' (first|(with_reducible first|apply q_a|apply q_b|apply q_c|apply q_d|apply q_e|apply q_f|apply q_g|apply q_h|apply q_i|apply q_j|apply q_k|apply q_m|apply q_n|apply q_o|apply q_p|refine q_l ?_)|((with_reducible first|refine q_q rf1_ok fun K hK=>?_|refine q_r rf1_ok fun K hK=>?_);simp (maxSteps:=2000000) only [go_sem,↓reduceIte,reduceCtorEq,Nat.reduceLeDiff,Nat.reduceLT,Nat.reduceBEq,Nat.reduceAdd];(repeat1' with_reducible first|apply And.intro|intro _|(refine hK _ ?_;clear hK K))<;>(try (clear hK K;exact q_u)))|(with_reducible refine q_s ?_;(first|apply q_J|apply q_K|apply q_L|apply q_M|apply q_N|apply q_O)<;>try intro _)|with_reducible refine q_t ?_)
 all_goals first | (exfalso; omega) | skip
 all_goals (try simp (disch := omega) only [Int.tdiv_eq_ediv_of_nonneg, Int.tmod_eq_emod_of_nonneg])
 all_goals first
  | (refine q_F ⟨(i + 1, o ++ [(c + xs.getD i 0 + ys.getD i 0) % 65536], (c + xs.getD i 0 + ys.getD i 0) / 65536), by simp only; omega, by simp [g2], InB_snoc g3 (by omega) (by omega), by simp only; omega, by simp only; omega, by simp only; omega, by simp only; exact add_step _ _ _ xs ys c _ _ _ _ g7 g2 rfl rfl (by omega)⟩ ?_ (by show max xs.length ys.length + 1 - (i + 1) < max xs.length ys.length + 1 - i; omega); exact q_D; done)
  | skip
 ·have hc : c = 0 := by omega
  refine q_A ?_
  simp only [resAV, q_y]
  rw [hc] at g7
  simp at g7
  rw [trimL_eq 65536 (by omega) _ g3, g7, List.take_of_length_le (by omega), List.take_of_length_le (by omega)]

set_option maxHeartbeats 1600000 in
theorem minus_ret (xs ys : List Int) (hx : xs.length ≤ 4194304) (hy : ys.length ≤ xs.length) (bx : InB 65536 xs) (by' : InB 65536 ys) (hv : V 65536 ys ≤ V 65536 xs) : Ret Tryz.prog 181 false [.inl (.ints .i64 xs), .inl (.ints .i64 ys)] (.c (.ints .i64 (dg 65536 (V 65536 xs - V 65536 ys)))) := by
 (refine q_H Tryz.func181 (fun F => ?_); simp only [q_z,q_y,Tryz.ntmps181,Tryz.results181])
 repeat' (first|(with_reducible first|apply q_a|apply q_b|apply q_c|apply q_d|apply q_e|apply q_f|apply q_g|apply q_h|apply q_i|apply q_j|apply q_k|apply q_m|apply q_n|apply q_o|apply q_p|refine q_l ?_)|((with_reducible first|refine q_q rf1_ok fun K hK=>?_|refine q_r rf1_ok fun K hK=>?_);simp (maxSteps:=2000000) only [go_sem,↓reduceIte,reduceCtorEq,Nat.reduceLeDiff,Nat.reduceLT,Nat.reduceBEq,Nat.reduceAdd];(repeat1' with_reducible first|apply And.intro|intro _|(refine hK _ ?_;clear hK K))<;>(try (clear hK K;exact q_u)))|(with_reducible refine q_s ?_;(first|apply q_J|apply q_K|apply q_L|apply q_M|apply q_N|apply q_O)<;>try intro _)|with_reducible refine q_t ?_)
 refine q_G (ι := { p : List Int × Int // p.1.length ≤ xs.length ∧ InB 65536 p.1 ∧ 0 ≤ p.2 ∧ p.2 ≤ 1 ∧ V 65536 p.1 + V 65536 (ys.take p.1.length) = V 65536 (xs.take p.1.length) + 65536 ^ p.1.length * p.2.toNat }) (fun p => ⟨41, [(0, .c (.ints .i64 xs)), (1, .c (.ints .i64 ys)), (5, .own 0 0), (6, .c (.i .i64 p.1.2)), (7, .c (.i .i64 p.1.1.length))], ⟨[], [(0, ⟨0, 3, 1, .ints .i64 p.1.1⟩)], []⟩, 1⟩) (fun p => xs.length - p.1.1.length) ⟨([], 0), by simp, InB_nil _, by simp, by simp, by simp [V]⟩ ?_ ?_
 ·exact q_D
 rintro ⟨⟨o, c⟩, g1, g2, g3, g4, g5⟩
 simp only at g1 g2 g3 g4 g5 ⊢
 have b1 := InB_getD (by omega) bx o.length
 have b2 := InB_getD (by omega) by' o.length
 have z2 : ¬ (o.length : Int) < ys.length → ys.getD o.length 0 = 0 := fun h => getD_ge ys o.length (by omega)
 repeat' (first|(with_reducible first|apply q_a|apply q_b|apply q_c|apply q_d|apply q_e|apply q_f|apply q_g|apply q_h|apply q_i|apply q_j|apply q_k|apply q_m|apply q_n|apply q_o|apply q_p|refine q_l ?_)|((with_reducible first|refine q_q rf1_ok fun K hK=>?_|refine q_r rf1_ok fun K hK=>?_);simp (maxSteps:=2000000) only [go_sem,↓reduceIte,reduceCtorEq,Nat.reduceLeDiff,Nat.reduceLT,Nat.reduceBEq,Nat.reduceAdd];(repeat1' with_reducible first|apply And.intro|intro _|(refine hK _ ?_;clear hK K))<;>(try (clear hK K;exact q_u)))|(with_reducible refine q_s ?_;(first|apply q_J|apply q_K|apply q_L|apply q_M|apply q_N|apply q_O)<;>try intro _)|with_reducible refine q_t ?_)
 all_goals first | (exfalso; omega) | skip
 all_goals first
  | (refine q_F ⟨(o ++ [if xs.getD o.length 0 - c - ys.getD o.length 0 < 0 then xs.getD o.length 0 - c - ys.getD o.length 0 + 65536 else xs.getD o.length 0 - c - ys.getD o.length 0], if xs.getD o.length 0 - c - ys.getD o.length 0 < 0 then 1 else 0), by simp; omega, InB_snoc g2 (by split <;> omega) (by split <;> omega), by simp only; split <;> omega, by simp only; split <;> omega, (by
     simp only [List.length_append, List.length_cons, List.length_nil, Nat.zero_add]
     exact sub_step _ _ _ xs ys c _ _ _ _ g5 rfl rfl rfl (by split <;> omega))⟩ ?_ (by simp; omega); exact q_D; done)
  | skip
 ·refine q_A ?_
  have hl : o.length = xs.length := by omega
  simp only [resAV, q_y]
  rw [trimL_eq 65536 (by omega) _ g2, sub_end 65536 (by omega) o xs ys c g2 hl hy hv g4 g5]
end Go.Proofs.YtgkajjifbcmoeaaGreatDoor

namespace Go.Proofs.YtgkajjifbcmoeaaGreatDoor
set_option linter.unusedSimpArgs false
set_option linter.unusedVariables false
open Go.Abs Go.Proofs.NatL
attribute [go_sem] cf0 addT mkCT mkCTO norm nz nzL List.mem_singleton List.mem_cons true_or or_true rf1 rtrimCT ofCT
theorem mulC (x y : Int) (hx : 0 ≤ x ∧ x < 65536) (hy : 0 ≤ y ∧ y < 65536) : 0 ≤ x * y ∧ x * y ≤ 4294836225 := by
 constructor
 ·exact Int.mul_nonneg hx.1 hy.1
 ·have h1 : x * y ≤ 65535 * y := Int.mul_le_mul_of_nonneg_right (by omega) hy.1
  omega

set_option maxHeartbeats 3200000 in
theorem times_ret (xs ys : List Int) (hx : xs.length ≤ 4194304) (hy : ys.length ≤ 4194304) (bx : InB 65536 xs) (by' : InB 65536 ys) : Ret Tryz.prog 68 false [.inl (.ints .i64 xs), .inl (.ints .i64 ys)] (.c (.ints .i64 (dg 65536 (V 65536 xs * V 65536 ys)))) := by
 (refine q_H Tryz.func68 (fun F => ?_); simp only [q_z,q_y,Tryz.ntmps68,Tryz.results68])
 repeat' (first|(with_reducible first|apply q_a|apply q_b|apply q_c|apply q_d|apply q_e|apply q_f|apply q_g|apply q_h|apply q_i|apply q_j|apply q_k|apply q_m|apply q_n|apply q_o|apply q_p|refine q_l ?_)|((with_reducible first|refine q_q rf1_ok fun K hK=>?_|refine q_r rf1_ok fun K hK=>?_);simp (maxSteps:=2000000) only [go_sem,↓reduceIte,reduceCtorEq,Nat.reduceLeDiff,Nat.reduceLT,Nat.reduceBEq,Nat.reduceAdd];(repeat1' with_reducible first|apply And.intro|intro _|(refine hK _ ?_;clear hK K))<;>(try (clear hK K;exact q_u)))|(with_reducible refine q_s ?_;(first|apply q_J|apply q_K|apply q_L|apply q_M|apply q_N|apply q_O)<;>try intro _)|with_reducible refine q_t ?_)
 refine q_G (ι := { p : Nat × List Int // p.1 ≤ xs.length ∧ p.2.length = xs.length + ys.length + 1 ∧ InB 65536 p.2 ∧ (∀ j, p.1 + ys.length ≤ j → p.2.getD j 0 = 0) ∧ V 65536 p.2 = V 65536 (xs.take p.1) * V 65536 ys }) (fun p => ⟨67, [(0, .c (.ints .i64 xs)), (1, .c (.ints .i64 ys)), (5, .own 0 0), (6, .c (.i .i64 p.1.1))], ⟨[], [(0, ⟨0, 3, 1, .ints .i64 p.1.2⟩)], []⟩, 1⟩) (fun p => xs.length - p.1.1) ⟨(0, List.replicate (xs.length + ys.length + 1) 0), by simp, by simp, InB_replicate (by omega) _, fun j _ => getD_replicate _ j, by simp [V_replicate, V]⟩ ?_ ?_
 ·exact q_D
 rintro ⟨⟨i, o⟩, g1, g2, g3, g4, g5⟩
 simp only at g1 g2 g3 g4 g5 ⊢
 have b1 := InB_getD (by omega) bx i
 repeat' (first|(with_reducible first|apply q_a|apply q_b|apply q_c|apply q_d|apply q_e|apply q_f|apply q_g|apply q_h|apply q_i|apply q_j|apply q_k|apply q_m|apply q_n|apply q_o|apply q_p|refine q_l ?_)|((with_reducible first|refine q_q rf1_ok fun K hK=>?_|refine q_r rf1_ok fun K hK=>?_);simp (maxSteps:=2000000) only [go_sem,↓reduceIte,reduceCtorEq,Nat.reduceLeDiff,Nat.reduceLT,Nat.reduceBEq,Nat.reduceAdd];(repeat1' with_reducible first|apply And.intro|intro _|(refine hK _ ?_;clear hK K))<;>(try (clear hK K;exact q_u)))|(with_reducible refine q_s ?_;(first|apply q_J|apply q_K|apply q_L|apply q_M|apply q_N|apply q_O)<;>try intro _)|with_reducible refine q_t ?_)
 ·rename_i ha
  refine q_G (ι := { p : Nat × List Int × Int // p.1 ≤ ys.length + 1 ∧ (p.1 = ys.length + 1 → p.2.2 = 0) ∧ p.2.1.length = xs.length + ys.length + 1 ∧ InB 65536 p.2.1 ∧ (∀ j, p.1 ≤ ys.length → i + ys.length ≤ j → p.2.1.getD j 0 = 0) ∧ (∀ j, i + 1 + ys.length ≤ j → p.2.1.getD j 0 = 0) ∧ (0 ≤ p.2.2 ∧ p.2.2 < 65536) ∧ V 65536 p.2.1 + 65536 ^ (i + p.1) * p.2.2.toNat = V 65536 o + 65536 ^ i * ((xs.getD i 0).toNat * V 65536 (ys.take p.1)) }) (fun p => ⟨67, [(0, .c (.ints .i64 xs)), (1, .c (.ints .i64 ys)), (5, .own 0 0), (6, .c (.i .i64 i)), (7, .c (.i .i64 p.1.2.2)), (8, .c (.i .i64 p.1.1))], ⟨[], [(0, ⟨0, 3, 1, .ints .i64 p.1.2.1⟩)], []⟩, 1⟩) (fun p => ys.length + 1 - p.1.1) ⟨(0, o, 0), by simp, by simp, by simp [g2], g3, fun j _ hj => g4 j hj, fun j hj => g4 j (by omega), by simp, by simp [V]⟩ ?_ ?_
  ·exact q_D
  rintro ⟨⟨k, o', c⟩, k1, k0, k2, k3, k4, k7, k5, k6⟩
  simp only at k1 k0 k2 k3 k4 k7 k5 k6 ⊢
  have b2 := InB_getD (by omega) by' k
  have b3 := InB_getD (by omega) k3 (i + k)
  have b4 := mulC _ _ b1 b2
  have e1 : ((i : Int) + (k : Int)).toNat = i + k := by omega
  have z2 : ¬ (k : Int) < ys.length → ys.getD k 0 = 0 := fun h => getD_ge ys k (by omega)
  have z3 : ¬ (k : Int) < ys.length → xs.getD i 0 * ys.getD k 0 = 0 := fun h => by rw [z2 h]; simp
  have z4 : ys.length ≤ k → k ≤ ys.length → o'.getD (i + k) 0 = 0 := fun h h2 => k4 _ h2 (by omega)
  have hm : (xs.getD i 0 * ys.getD k 0).toNat = (xs.getD i 0).toNat * (ys.getD k 0).toNat := Int.toNat_mul b1.1 b2.1
  repeat' (first|(with_reducible first|apply q_a|apply q_b|apply q_c|apply q_d|apply q_e|apply q_f|apply q_g|apply q_h|apply q_i|apply q_j|apply q_k|apply q_m|apply q_n|apply q_o|apply q_p|refine q_l ?_)|((with_reducible first|refine q_q rf1_ok fun K hK=>?_|refine q_r rf1_ok fun K hK=>?_);simp (maxSteps:=2000000) only [go_sem,↓reduceIte,reduceCtorEq,Nat.reduceLeDiff,Nat.reduceLT,Nat.reduceBEq,Nat.reduceAdd];(repeat1' with_reducible first|apply And.intro|intro _|(refine hK _ ?_;clear hK K))<;>(try (clear hK K;exact q_u)))|(with_reducible refine q_s ?_;(first|apply q_J|apply q_K|apply q_L|apply q_M|apply q_N|apply q_O)<;>try intro _)|with_reducible refine q_t ?_)
  all_goals first | (exfalso; omega) | skip
  all_goals (try simp only [e1])
  all_goals (try simp (disch := omega) only [Int.tdiv_eq_ediv_of_nonneg, Int.tmod_eq_emod_of_nonneg])
  all_goals first
   | (refine q_F ⟨(k + 1, o'.set (i + k) ((c + xs.getD i 0 * ys.getD k 0 + o'.getD (i + k) 0) % 65536), (c + xs.getD i 0 * ys.getD k 0 + o'.getD (i + k) 0) / 65536), by simp only; omega, by simp only; omega, by simp [k2], InB_set k3 _ (by omega) (by omega), (by
      intro j hj1 hj
      simp only at hj1 ⊢
      rw [NatL.getD_set_ne _ _ _ _ (by omega)]
      exact k4 j (by omega) hj), (by
      intro j hj
      simp only
      rw [NatL.getD_set_ne _ _ _ _ (by omega)]
      exact k7 j hj), by simp only; omega, (by
      simp only
      rw [V_take_getD]
      exact mul_inner 65536 i k _ _ _ _ _ _ _ _ _ _ _ k6 (V_set 65536 o' (i + k) _ (by omega)) rfl (by omega))⟩ ?_ (by show ys.length + 1 - (k + 1) < ys.length + 1 - k; omega); exact q_D; done)
   | skip
  ·have hc : c = 0 := by omega
   refine q_F ⟨(i + 1, o'), by simp only; omega, k2, k3, k7, ?_⟩ ?_ ?_
   ·simp only
    rw [V_take_getD, Nat.add_mul, ← g5, Nat.mul_assoc]
    rw [List.take_of_length_le (by omega), hc] at k6
    simp only [Int.toNat_zero, Nat.mul_zero, Nat.add_zero] at k6
    omega
   ·exact q_D
   ·show xs.length - (i + 1) < xs.length - i
    omega
 ·rename_i ha
  have hi : i = xs.length := by omega
  refine q_A ?_
  simp only [resAV, q_y]
  rw [trimL_eq 65536 (by omega) _ g3, g5, hi, List.take_length]

theorem limb_step (j : Nat) (o xs : List Int) (h : V 4294967296 o = V 65536 (xs.take (2 * j))) (hl : o.length = j) (v : Int) (hr : v.toNat = (xs.getD (2 * j) 0).toNat + 65536 * (xs.getD (2 * j + 1) 0).toNat) : V 4294967296 (o ++ [v]) = V 65536 (xs.take (2 * (j + 1))) := by
 rw [V_snoc, show 2 * (j + 1) = 2 * j + 1 + 1 by omega, V_take_getD, V_take_getD, ← h, hl, hr]
 have e : (65536 : Nat) ^ (2 * j) = 4294967296 ^ j := by rw [Nat.pow_mul]
 rw [Nat.pow_succ, e, Nat.mul_add, Nat.mul_assoc]
 omega

set_option maxHeartbeats 1600000 in
theorem limbs_ret (xs : List Int) (hx : xs.length ≤ 4194304) (bx : InB 65536 xs) (tx : Trd xs) : Ret Tryz.prog 70 false [.inl (.ints .i64 xs)] (.c (.ints .u32 (dg 4294967296 (V 65536 xs)))) := by
 (refine q_H Tryz.func70 (fun F => ?_); simp only [q_z,q_y,Tryz.ntmps70,Tryz.results70])
 repeat' (first|(with_reducible first|apply q_a|apply q_b|apply q_c|apply q_d|apply q_e|apply q_f|apply q_g|apply q_h|apply q_i|apply q_j|apply q_k|apply q_m|apply q_n|apply q_o|apply q_p|refine q_l ?_)|((with_reducible first|refine q_q rf1_ok fun K hK=>?_|refine q_r rf1_ok fun K hK=>?_);simp (maxSteps:=2000000) only [go_sem,↓reduceIte,reduceCtorEq,Nat.reduceLeDiff,Nat.reduceLT,Nat.reduceBEq,Nat.reduceAdd];(repeat1' with_reducible first|apply And.intro|intro _|(refine hK _ ?_;clear hK K))<;>(try (clear hK K;exact q_u)))|(with_reducible refine q_s ?_;(first|apply q_J|apply q_K|apply q_L|apply q_M|apply q_N|apply q_O)<;>try intro _)|with_reducible refine q_t ?_)
 refine q_G (ι := { p : Nat × List Int // 2 * p.1 ≤ xs.length + 1 ∧ p.2.length = p.1 ∧ InB 4294967296 p.2 ∧ V 4294967296 p.2 = V 65536 (xs.take (2 * p.1)) }) (fun p => ⟨36, [(0, .c (.ints .i64 xs)), (3, .own 0 0), (4, .c (.i .i64 ((2 * p.1.1 : Nat) : Int)))], ⟨[], [(0, ⟨0, 105, 1, .ints .u32 p.1.2⟩)], []⟩, 1⟩) (fun p => xs.length + 1 - 2 * p.1.1) ⟨(0, []), by simp, by simp, InB_nil _, by simp [V]⟩ ?_ ?_
 ·exact q_D
 rintro ⟨⟨j, o⟩, g1, g2, g3, g4⟩
 simp only at g1 g2 g3 g4 ⊢
 have b1 := InB_getD (by omega) bx (2 * j)
 have b2 := InB_getD (by omega) bx (2 * j + 1)
 have e1 : (((2 * j : Nat) : Int) + 1).toNat = 2 * j + 1 := by omega
 have z2 : ¬ ((2 * j : Nat) : Int) + 1 < xs.length → xs.getD (2 * j + 1) 0 = 0 := fun h => getD_ge xs _ (by omega)
 repeat' (first|(with_reducible first|apply q_a|apply q_b|apply q_c|apply q_d|apply q_e|apply q_f|apply q_g|apply q_h|apply q_i|apply q_j|apply q_k|apply q_m|apply q_n|apply q_o|apply q_p|refine q_l ?_)|((with_reducible first|refine q_q rf1_ok fun K hK=>?_|refine q_r rf1_ok fun K hK=>?_);simp (maxSteps:=2000000) only [go_sem,↓reduceIte,reduceCtorEq,Nat.reduceLeDiff,Nat.reduceLT,Nat.reduceBEq,Nat.reduceAdd];(repeat1' with_reducible first|apply And.intro|intro _|(refine hK _ ?_;clear hK K))<;>(try (clear hK K;exact q_u)))|(with_reducible refine q_s ?_;(first|apply q_J|apply q_K|apply q_L|apply q_M|apply q_N|apply q_O)<;>try intro _)|with_reducible refine q_t ?_)
 all_goals (try simp only [e1])
 all_goals first
  | (refine q_F ⟨(j + 1, o ++ [xs.getD (2 * j) 0 + 65536 * xs.getD (2 * j + 1) 0]), by simp only; omega, by simp [g2], InB_snoc g3 (by omega) (by omega), limb_step j o xs g4 g2 _ (by omega)⟩ ?_ (by show xs.length + 1 - 2 * (j + 1) < xs.length + 1 - 2 * j; omega); exact q_D; done)
  | skip
 ·rename_i ha
  refine q_A ?_
  rw [List.take_of_length_le (by omega)] at g4
  simp only [resAV, q_y]
  rw [← g4, dg_V 4294967296 (by omega) o g3]
  by_cases h0 : xs.length = 0
  ·have : j = 0 := by omega
   subst this
   have ho : o = [] := List.eq_nil_of_length_eq_zero g2
   have hxs : xs = [] := List.eq_nil_of_length_eq_zero h0
   subst ho
   exact .inl rfl
  ·refine trd_of_ge (by omega) o g3 ?_
   have h1 := V_ge_of_trd (by omega) xs bx tx (by omega)
   rw [g4, g2]
   refine Nat.le_trans ?_ h1
   have e : (4294967296 : Nat) ^ (j - 1) = 65536 ^ (2 * (j - 1)) := by rw [Nat.pow_mul]
   rw [e]
   exact Nat.pow_le_pow_right (by omega) (by omega)

set_option maxHeartbeats 1600000 in
theorem sameLimbs_ret (xs ys : List Int) (hx : xs.length ≤ 16777216) (hy : ys.length ≤ 16777216) : Ret Tryz.prog 179 false [.inl (.ints .u32 xs), .inl (.ints .u32 ys)] (.c (.b (decide (xs = ys)))) := by
 (refine q_H Tryz.func179 (fun F => ?_); simp only [q_z,q_y,Tryz.ntmps179,Tryz.results179])
 repeat' (first|(with_reducible first|apply q_a|apply q_b|apply q_c|apply q_d|apply q_e|apply q_f|apply q_g|apply q_h|apply q_i|apply q_j|apply q_k|apply q_m|apply q_n|apply q_o|apply q_p|refine q_l ?_)|((with_reducible first|refine q_q rf1_ok fun K hK=>?_|refine q_r rf1_ok fun K hK=>?_);simp (maxSteps:=2000000) only [go_sem,↓reduceIte,reduceCtorEq,Nat.reduceLeDiff,Nat.reduceLT,Nat.reduceBEq,Nat.reduceAdd];(repeat1' with_reducible first|apply And.intro|intro _|(refine hK _ ?_;clear hK K))<;>(try (clear hK K;exact q_u)))|(with_reducible refine q_s ?_;(first|apply q_J|apply q_K|apply q_L|apply q_M|apply q_N|apply q_O)<;>try intro _)|with_reducible refine q_t ?_)
 ·rename_i hl
  exact q_A (by simp only [resAV, q_y]; rw [decide_eq_false (fun h => hl (by rw [h]))])
 rename_i hl
 have hl : xs.length = ys.length := by omega
 refine q_G (ι := { i : Nat // i ≤ xs.length ∧ xs.take i = ys.take i }) (fun i => ⟨26, [(0, .c (.ints .u32 xs)), (1, .c (.ints .u32 ys)), (5, .c (.i .i64 i.1))], ⟨[], [], []⟩, 0⟩) (fun i => xs.length - i.1) ⟨0, by simp, by simp⟩ ?_ ?_
 ·exact q_D
 rintro ⟨i, h1, h2⟩
 simp only
 repeat' (first|(with_reducible first|apply q_a|apply q_b|apply q_c|apply q_d|apply q_e|apply q_f|apply q_g|apply q_h|apply q_i|apply q_j|apply q_k|apply q_m|apply q_n|apply q_o|apply q_p|refine q_l ?_)|((with_reducible first|refine q_q rf1_ok fun K hK=>?_|refine q_r rf1_ok fun K hK=>?_);simp (maxSteps:=2000000) only [go_sem,↓reduceIte,reduceCtorEq,Nat.reduceLeDiff,Nat.reduceLT,Nat.reduceBEq,Nat.reduceAdd];(repeat1' with_reducible first|apply And.intro|intro _|(refine hK _ ?_;clear hK K))<;>(try (clear hK K;exact q_u)))|(with_reducible refine q_s ?_;(first|apply q_J|apply q_K|apply q_L|apply q_M|apply q_N|apply q_O)<;>try intro _)|with_reducible refine q_t ?_)
 ·rename_i h3 hne
  exact q_A (by simp only [resAV, q_y]; rw [decide_eq_false (fun h => hne (by rw [h]))])
 ·rename_i h3 he
  refine q_F ⟨i + 1, by omega, ?_⟩ ?_ ?_
  ·rw [List.take_succ_eq_append_getElem (by omega), List.take_succ_eq_append_getElem (by omega), h2]
   have e : xs.getD i 0 = ys.getD i 0 := by omega
   rw [getD_eq xs i (by omega), getD_eq ys i (by omega)] at e
   rw [e]
  ·exact q_D
  ·show xs.length - (i + 1) < xs.length - i
   omega
 ·rename_i h3
  rw [List.take_of_length_le (by omega), List.take_of_length_le (by omega)] at h2
  exact q_A (by simp only [resAV, q_y]; rw [decide_eq_true h2])

end Go.Proofs.YtgkajjifbcmoeaaGreatDoor

namespace Go.Proofs.YtgkajjifbcmoeaaGreatDoor
set_option linter.unusedSimpArgs false
set_option linter.unusedVariables false
open Go.Abs Go.Proofs.NatL


attribute [go_sem] decide_true decide_false
def sameCT : CT := mkCT [.inl (some (.ints .u32 [])), .inl (some (.ints .u32 []))] true fun l K => match l with
 | [.inl (.ints .u32 xs), .inl (.ints .u32 ys)] => (xs.length ≤ 16777216 ∧ ys.length ≤ 16777216) ∧ K (.c (.b (decide (xs = ys))))
 | _ => False
def limbsCT : CT := mkCT [.inl (some (.ints .i64 []))] false fun l K => match l with
 | [.inl (.ints .i64 xs)] => (xs.length ≤ 4194304 ∧ InB 65536 xs ∧ Trd xs) ∧ K (.c (.ints .u32 (dg 4294967296 (V 65536 xs))))
 | _ => False
def ch1 : Cfg := addT 70 limbsCT cf0
theorem ch1_ok : TblOk Tryz.prog ch1 := q_I cf0_ok Tryz.func70 fun l K h => by
 split at h
 ·exact ⟨_, limbs_ret _ h.1.1 h.1.2.1 h.1.2.2, h.2⟩
 ·exact h.elim
def ch2 : Cfg := addT 179 sameCT cf0
theorem ch2_ok : TblOk Tryz.prog ch2 := q_I cf0_ok Tryz.func179 fun l K h => by
 split at h
 ·exact ⟨_, (sameLimbs_ret _ _ h.1.1 h.1.2).plain rfl, h.2⟩
 ·exact h.elim
attribute [go_sem] ch1 limbsCT ch2 sameCT
theorem chkC_zero {xs ys : List Int} (h : okN xs = true) (k : okN ys = true) : chkC xs ys = 0 ∧ chkI xs ys = 0 := by simp [chkC, chkI, h, k]
theorem okN_parts {xs : List Int} (h : okN xs = true) : xs.length ≤ 600 ∧ Trd xs := by simpa [okN] using h
theorem oneF_good {xs ys n : List Int} {c i : Int} (h : okN xs = true) (k : okN ys = true) : oneF xs ys n c i = .t [.inl (.ints .u32 n), .inr [.i .i64 c, .i .i64 i]] := by
 unfold oneF; rw [if_neg]; simp [(chkC_zero h k).1]
theorem okN_LB {xs : List Int} (h : okN xs = true) : xs.length ≤ 140737488355328 := Nat.le_trans (okN_parts h).1 (by omega)
def subO (xs ys : List Int) : List Int := if V 4294967296 xs < V 4294967296 ys then [] else subN xs ys
def subC (xs ys : List Int) : Int := if V 4294967296 xs < V 4294967296 ys then 4 else 0
def subI (xs ys : List Int) : Int := if V 4294967296 xs < V 4294967296 ys then -2 else 0
def db6 : Cfg := addT 106 ofCT cf0
theorem db6_ok : TblOk Tryz.prog db6 := q_I cf0_ok Tryz.func106 fun l K h => by
 split at h
 ·exact ⟨_, of_ret _ h.1.1 h.1.2, h.2⟩
 ·exact h.elim
attribute [go_sem] V65 I65 T65 V32 I32 T32 I0 T0 V0
def rnumCT (p : List Int → List Int → Prop) (f : Nat → Nat → Nat) : CT := mkCT [.inl (some (.ints .i64 [])), .inl (some (.ints .i64 []))] false fun l K => match l with
 | [.inl (.ints .i64 xs), .inl (.ints .i64 ys)] => (xs.length ≤ 4194304 ∧ ys.length ≤ 4194304 ∧ InB 65536 xs ∧ InB 65536 ys ∧ Trd xs ∧ Trd ys ∧ p xs ys) ∧ K (.c (.ints .i64 (dg 65536 (f (V 65536 xs) (V 65536 ys)))))
 | _ => False
def rcmpCT : CT := mkCT [.inl (some (.ints .i64 [])), .inl (some (.ints .i64 []))] true fun l K => match l with
 | [.inl (.ints .i64 xs), .inl (.ints .i64 ys)] => (xs.length ≤ 4194304 ∧ ys.length ≤ 4194304 ∧ InB 65536 xs ∧ InB 65536 ys ∧ Trd xs ∧ Trd ys) ∧ K (.c (.i .i64 (cmp3 (V 65536 xs) (V 65536 ys))))
 | _ => False
def db7 : Cfg := addT 128 rcmpCT cf0
theorem db7_ok : TblOk Tryz.prog db7 := q_I cf0_ok Tryz.func128 fun l K h => by
 split at h
 ·obtain ⟨⟨h1, h2, h3, h4, h5, h6⟩, h⟩ := h
  exact ⟨_, (rcompare_ret _ _ h1 h2 h3 h4 h5 h6).plain rfl, h⟩
 ·exact h.elim
def db8 : Cfg := addT 131 (rnumCT (fun _ _ => True) (· + ·)) cf0
theorem db8_ok : TblOk Tryz.prog db8 := q_I cf0_ok Tryz.func131 fun l K h => by
 split at h
 ·obtain ⟨⟨h1, h2, h3, h4, h5, h6, h7⟩, h⟩ := h
  exact ⟨_, plus_ret _ _ h1 h2 h3 h4, h⟩
 ·exact h.elim
def db9 : Cfg := addT 68 (rnumCT (fun _ _ => True) (· * ·)) cf0
theorem db9_ok : TblOk Tryz.prog db9 := q_I cf0_ok Tryz.func68 fun l K h => by
 split at h
 ·obtain ⟨⟨h1, h2, h3, h4, h5, h6, h7⟩, h⟩ := h
  exact ⟨_, times_ret _ _ h1 h2 h3 h4, h⟩
 ·exact h.elim
def db10 : Cfg := addT 181 (rnumCT (fun xs ys => V 65536 ys ≤ V 65536 xs) (· - ·)) cf0
theorem db10_ok : TblOk Tryz.prog db10 := q_I cf0_ok Tryz.func181 fun l K h => by
 split at h
 ·obtain ⟨⟨h1, h2, h3, h4, h5, h6, h7⟩, h⟩ := h
  exact ⟨_, minus_ret _ _ h1 (V_le_len (by omega) h3 h4 h6 h7) h3 h4 h7, h⟩
 ·exact h.elim
attribute [go_sem] db6 db7 db8 db9 db10 rnumCT rcmpCT
theorem fit_dg (n : Nat) : fitN (dg 4294967296 n) = (if (dg 4294967296 n).length ≤ 600 then dg 4294967296 n else []) ∧ fitC (dg 4294967296 n) = (if (dg 4294967296 n).length ≤ 600 then 0 else 14) ∧ fitI (dg 4294967296 n) = (if (dg 4294967296 n).length ≤ 600 then 0 else -1) := by
 have e : trimL (dg 4294967296 n) = dg 4294967296 n := trimL_stop _ (dg_trd 4294967296 (by omega) n)
 simp only [fitN, fitC, fitI, e, and_self]
end Go.Proofs.YtgkajjifbcmoeaaGreatDoor

namespace Go.Proofs.YtgkajjifbcmoeaaGreatDoor
set_option linter.unusedSimpArgs false
set_option linter.unusedVariables false
open Go.Abs Go.Proofs.NatL

theorem okN_LB' {xs : List Int} (h : okN xs = true) : xs.length ≤ 140737488355328 := by
 have : xs.length ≤ 600 ∧ Trd xs := by simpa [okN] using h
 omega



theorem bl_ok {xs : List Int} (h : okN xs = true) (bx : InB 4294967296 xs) : bl (V 4294967296 xs) ≤ 19200 := by
 have ox' : xs.length ≤ 600 ∧ Trd xs := by simpa [okN] using h
 obtain ⟨m, hm⟩ : ∃ m, m = 19200 := ⟨_, rfl⟩
 have h3 : 32 * xs.length ≤ m := by omega
 rw [← hm]
 refine bl_lt _ _ ?_
 have := V_lt _ (by omega) xs bx
 have h2 : (4294967296 : Nat) ^ xs.length = 2 ^ (32 * xs.length) := by
  rw [show (4294967296 : Nat) = 2 ^ 32 from rfl, ← Nat.pow_mul]
 rw [h2] at this
 exact Nat.lt_of_lt_of_le this (Nat.pow_le_pow_right (by omega) h3)
theorem v1d : V 4294967296 [1] = 1 := rfl
attribute [go_sem] v1d V32 I32 T32 I0 T0 V0
theorem lt_bl (n : Nat) : n < 2 ^ bl n := by
 rcases Nat.eq_zero_or_pos n with h | h
 ·subst h; exact Nat.pow_pos (by omega)
 ·exact (bl_spec n h).2.1
end Go.Proofs.YtgkajjifbcmoeaaGreatDoor
