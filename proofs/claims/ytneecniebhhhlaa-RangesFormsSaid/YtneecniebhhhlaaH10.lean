import Derived.Test.YtneecniebhhhlaaH9
namespace Go.Proofs.Ytneecniebhhhlaa
set_option linter.unusedSimpArgs false
set_option linter.unusedVariables false
open Go.Abs Go.Proofs.NatL
attribute [go_sem] tmod32 tdiv32

set_option maxHeartbeats 1600000 in
theorem left_ret (xs : List Int) (n : Nat) (hx : xs.length ≤ 16777216) (hn : n ≤ 16777216) (bx : InB 4294967296 xs) :
    RetO Try.prog 164 [.inl (.ints .u32 xs), .inl (.i .i64 n)] 91 1 (.ints .u32 (dg 4294967296 (V 4294967296 xs * 2 ^ n))) := by
  have hs : n % 32 < 32 := Nat.mod_lt _ (by omega)
  have h2 : 2 ^ (n % 32) ≤ 2147483648 := by
    have : 2 ^ (n % 32) ≤ 2 ^ 31 := Nat.pow_le_pow_right (by omega) (by omega)
    simpa using this
  have h1 : 0 < 2 ^ (n % 32) := Nat.pow_pos (by omega)
  (refine q_x Try.func164 rfl (Nat.le_of_ble_eq_true rfl) (fun F => ?_); simp only [q_z, q_y, Try.ntmps164, Try.results164])
  repeat' (first|(with_reducible first|apply q_a|apply q_b|apply q_c|apply q_d|apply q_e|apply q_f|apply q_g|apply q_h|apply q_i|apply q_j|apply q_k|apply q_m|apply q_n|apply q_o|apply q_p|refine q_l ?_)|((with_reducible first|refine q_q cf19_ok fun K hK=>?_|refine q_r cf19_ok fun K hK=>?_);simp (maxSteps:=2000000) only [go_sem,↓reduceIte,reduceCtorEq,Nat.reduceLeDiff,Nat.reduceLT,Nat.reduceBEq,Nat.reduceAdd];(repeat1' with_reducible first|apply And.intro|intro _|(refine hK _ ?_;clear hK K))<;>(try (clear hK K;exact q_u)))|(with_reducible refine q_s ?_;(first|apply q_J|apply q_K|apply q_L|apply q_M|apply q_N|apply q_O)<;>try intro _))
  refine q_G (ι := { p : List Int × Nat // p.1.length ≤ xs.length ∧ InB 4294967296 p.1 ∧ p.2 < 2 ^ (n % 32) ∧ V 4294967296 p.1 + 4294967296 ^ p.1.length * p.2 = V 4294967296 (xs.take p.1.length) * 2 ^ (n % 32) }) (fun p => ⟨46, [(0, .c (.ints .u32 xs)), (1, .c (.i .i64 n)), (5, .own 0 0), (6, .c (.i .u32 (p.1.2 : Nat))), (19, .c (.ints .u32 xs)), (20, .c (.i .i64 xs.length)), (21, .c (.i .i64 p.1.1.length))], ⟨[], [(0, ⟨0, 91, 1, .ints .u32 (List.replicate (n / 32) 0 ++ p.1.1)⟩)], []⟩, 1⟩) (fun p => xs.length - p.1.1.length) ⟨([], 0), by simp, InB_nil _, h1, by simp [V]⟩ ?_ ?_
  · exact q_D
  rintro ⟨⟨o, c⟩, g1, g2, g3, g4⟩
  simp only at g1 g2 g3 g4 ⊢
  have b1 := InB_getD (by omega) bx o.length
  obtain ⟨x, hxx⟩ : ∃ x : Nat, xs.getD o.length 0 = x := ⟨(xs.getD o.length 0).toNat, by omega⟩
  have e1 : shlI .u64 (xs.getD o.length 0 % 18446744073709551616) ((n % 32 : Nat) : Int) = ((x * 2 ^ (n % 32) : Nat) : Int) := by
    rw [hxx, show (x : Int) % 18446744073709551616 = x by omega, shl64 _ _ (by omega) (by omega) (by omega)]; simp
  have e2 : bitI .or .u32 (((x * 2 ^ (n % 32) : Nat) : Int) % 4294967296) (c : Int) = (((x * 2 ^ (n % 32)) % 4294967296 + c : Nat) : Int) := or32_lo x c _ (by omega) g3
  have e3 : ((x * 2 ^ (n % 32) : Nat) : Int) / 4294967296 % 4294967296 = ((x * 2 ^ (n % 32) / 4294967296 : Nat) : Int) := by
    have : x * 2 ^ (n % 32) ≤ 4294967295 * 2 ^ (n % 32) := Nat.mul_le_mul_right _ (by omega)
    omega
  have e4 : x * 2 ^ (n % 32) / 4294967296 < 2 ^ (n % 32) := by
    rw [Nat.div_lt_iff_lt_mul (by omega), Nat.mul_comm]
    exact Nat.mul_lt_mul_of_pos_left (by omega) h1
  have e5 : (x * 2 ^ (n % 32)) % 4294967296 + c < 4294967296 := by
    have d0 : 2 ^ 32 = 2 ^ (n % 32) * 2 ^ (32 - n % 32) := by rw [← Nat.pow_add]; congr 1; omega
    have d1 : x * 2 ^ (n % 32) % 4294967296 = (x % 2 ^ (32 - n % 32)) * 2 ^ (n % 32) := by
      rw [show (4294967296 : Nat) = 2 ^ 32 from rfl, d0, Nat.mul_comm x, Nat.mul_mod_mul_left, Nat.mul_comm]
    have d2 : x % 2 ^ (32 - n % 32) + 1 ≤ 2 ^ (32 - n % 32) := Nat.mod_lt _ (Nat.pow_pos (by omega))
    have d3 := Nat.mul_le_mul_right (2 ^ (n % 32)) d2
    rw [Nat.add_mul, Nat.mul_comm (2 ^ (32 - n % 32)), ← d0] at d3
    rw [d1]
    omega
  repeat' (first|(with_reducible first|apply q_a|apply q_b|apply q_c|apply q_d|apply q_e|apply q_f|apply q_g|apply q_h|apply q_i|apply q_j|apply q_k|apply q_m|apply q_n|apply q_o|apply q_p|refine q_l ?_)|((with_reducible first|refine q_q cf19_ok fun K hK=>?_|refine q_r cf19_ok fun K hK=>?_);simp (maxSteps:=2000000) only [go_sem,↓reduceIte,reduceCtorEq,Nat.reduceLeDiff,Nat.reduceLT,Nat.reduceBEq,Nat.reduceAdd];(repeat1' with_reducible first|apply And.intro|intro _|(refine hK _ ?_;clear hK K))<;>(try (clear hK K;exact q_u)))|(with_reducible refine q_s ?_;(first|apply q_J|apply q_K|apply q_L|apply q_M|apply q_N|apply q_O)<;>try intro _))
  · rename_i ha
    rw [e1, e2, e3]
    refine q_F ⟨(o ++ [(((x * 2 ^ (n % 32)) % 4294967296 + c : Nat) : Int)], x * 2 ^ (n % 32) / 4294967296), by simp; omega, InB_snoc g2 (Int.natCast_nonneg _) (by exact_mod_cast e5), e4, ?_⟩ ?_ ?_
    · simp only [List.length_append, List.length_cons, List.length_nil, Nat.zero_add]
      refine left_step 4294967296 o.length (2 ^ (n % 32)) o xs c _ _ g4 rfl ?_
      rw [hxx, Int.toNat_natCast]
      have := Nat.mod_add_div (x * 2 ^ (n % 32)) 4294967296
      omega
    · exact q_D
    · simp; omega
  · rename_i ha
    have hl : o.length = xs.length := by omega
    rw [hl, List.take_length] at g4
    refine endsO_own rfl rfl rfl rfl rfl ?_ rfl
    simp only [C.ints.injEq, true_and]
    rw [trimL_eq 4294967296 (by omega)]
    · congr 1
      rw [List.append_assoc, V_zeros, V_snoc, hl, Int.toNat_natCast, g4]
      have : 2 ^ n = 4294967296 ^ (n / 32) * 2 ^ (n % 32) := by
        rw [show (4294967296 : Nat) = 2 ^ 32 from rfl, ← Nat.pow_mul, ← Nat.pow_add]; congr 1; omega
      rw [this, Nat.mul_left_comm]
    · refine InB_snoc (InB_app (InB_replicate (by omega) _) g2) (by omega) ?_
      omega

def leftCT : CT := mkCTO [.inl (some (.ints .u32 []))] 91 1 fun l K => match l with
  | [.inl (.ints .u32 xs), .inl (.i .i64 n)] => (xs.length ≤ 16777216 ∧ InB 4294967296 xs ∧ 0 ≤ n ∧ n ≤ 16777216) ∧ K (.c (.ints .u32 (dg 4294967296 (V 4294967296 xs * 2 ^ n.toNat))))
  | _ => False
def cf20 : Cfg := addT 164 leftCT cf19
theorem cf20_ok : TblOk Try.prog cf20 := mkCTO_ok cf19_ok (q_C Try.func164 (by kernel_rfl) (by kernel_rfl)) rfl fun l K h => by
  split at h
  · rename_i xs n
    obtain ⟨n, rfl⟩ : ∃ m : Nat, n = m := ⟨n.toNat, by omega⟩
    exact ⟨_, left_ret _ n h.1.1 (by omega) h.1.2.1, by simpa using h.2⟩
  · exact h.elim
attribute [go_sem] cf20 leftCT

set_option maxHeartbeats 1600000 in
theorem right_ret (xs : List Int) (n : Nat) (hx : xs.length ≤ 16777216) (hn : n ≤ 16777216) (bx : InB 4294967296 xs) :
    Ret Try.prog 165 false [.inl (.ints .u32 xs), .inl (.i .i64 n)] (.c (.ints .u32 (dg 4294967296 (V 4294967296 xs / 2 ^ n)))) := by
  have hs : n % 32 < 32 := Nat.mod_lt _ (by omega)
  have h1 : 0 < 2 ^ (n % 32) := Nat.pow_pos (by omega)
  have hdvd : 2 ^ (n % 32) ∣ 4294967296 := by
    have : 2 ^ (n % 32) ∣ 2 ^ 32 := Nat.pow_dvd_pow 2 (by omega)
    simpa using this
  have hR := V_drop_div 4294967296 (by omega) xs bx (n / 32)
  generalize hRd : V 4294967296 (xs.drop (n / 32)) = R at hR
  have hfin : R / 2 ^ (n % 32) = V 4294967296 xs / 2 ^ n := by
    rw [hR, Nat.div_div_eq_div_mul]
    congr 1
    rw [show (4294967296 : Nat) = 2 ^ 32 from rfl, ← Nat.pow_mul, ← Nat.pow_add]; congr 1; omega
  (refine q_H Try.func165 (fun F => ?_); simp only [q_z,q_y,Try.ntmps165,Try.results165])
  repeat' (first|(with_reducible first|apply q_a|apply q_b|apply q_c|apply q_d|apply q_e|apply q_f|apply q_g|apply q_h|apply q_i|apply q_j|apply q_k|apply q_m|apply q_n|apply q_o|apply q_p|refine q_l ?_)|((with_reducible first|refine q_q cf20_ok fun K hK=>?_|refine q_r cf20_ok fun K hK=>?_);simp (maxSteps:=2000000) only [go_sem,↓reduceIte,reduceCtorEq,Nat.reduceLeDiff,Nat.reduceLT,Nat.reduceBEq,Nat.reduceAdd];(repeat1' with_reducible first|apply And.intro|intro _|(refine hK _ ?_;clear hK K))<;>(try (clear hK K;exact q_u)))|(with_reducible refine q_s ?_;(first|apply q_J|apply q_K|apply q_L|apply q_M|apply q_N|apply q_O)<;>try intro _)|with_reducible refine q_t ?_)
  refine q_G (ι := { p : List Int // InB 4294967296 p ∧ V 4294967296 p = (R / 2 ^ (n % 32)) % 4294967296 ^ p.length ∧ (p.length = 0 ∨ n / 32 + p.length ≤ xs.length) }) (fun p => ⟨45, [(0, .c (.ints .u32 xs)), (1, .c (.i .i64 n)), (5, .own 0 0), (6, .c (.i .i64 ((n / 32 + p.1.length : Nat) : Int)))], ⟨[], [(0, ⟨0, 91, 1, .ints .u32 p.1⟩)], []⟩, 1⟩) (fun p => xs.length - (n / 32 + p.1.length)) ⟨[], InB_nil _, by simp [V, Nat.mod_one], .inl rfl⟩ ?_ ?_
  · exact q_D
  rintro ⟨o, g2, g3, g4⟩
  simp only at g2 g3 g4 ⊢
  have b1 := InB_getD (by omega) bx (n / 32 + o.length)
  have b2 := InB_getD (by omega) bx (n / 32 + o.length + 1)
  obtain ⟨x, hxx⟩ : ∃ x : Nat, xs.getD (n / 32 + o.length) 0 = x := ⟨(xs.getD (n / 32 + o.length) 0).toNat, by omega⟩
  obtain ⟨y, hyy⟩ : ∃ y : Nat, xs.getD (n / 32 + o.length + 1) 0 = y := ⟨(xs.getD (n / 32 + o.length + 1) 0).toNat, by omega⟩
  have d1 : x = R / 4294967296 ^ o.length % 4294967296 := by
    have := V_digit 4294967296 (by omega) xs bx (n / 32 + o.length)
    rw [hR, Nat.div_div_eq_div_mul, ← Nat.pow_add, this, hxx]; simp
  have d2 : y = R / 4294967296 ^ (o.length + 1) % 4294967296 := by
    have := V_digit 4294967296 (by omega) xs bx (n / 32 + o.length + 1)
    rw [hR, Nat.div_div_eq_div_mul, ← Nat.pow_add, ← Nat.add_assoc, this, hyy]; simp
  have d3 := right_digit R 4294967296 (2 ^ (n % 32)) o.length hdvd h1 (by omega)
  rw [← d1, ← d2] at d3
  have d4 : ∀ z : Nat, V 4294967296 (o ++ [(((x + 4294967296 * y) / 2 ^ (n % 32) % 4294967296 : Nat) : Int)]) = (R / 2 ^ (n % 32)) % 4294967296 ^ (o.length + 1) := fun _ => by
    rw [V_snoc, g3, Int.toNat_natCast, d3, mod_pow_succ']
  have t1 : (((n / 32 + o.length : Nat) : Int) + 1).toNat = n / 32 + o.length + 1 := by omega
  have t2 : shlI .u64 ((y : Int) % 18446744073709551616) 32 = (y : Int) * 4294967296 := by rw [show (y : Int) % 18446744073709551616 = y by omega, shl64_32 _ (by omega) (by omega)]
  have t3 : bitI .or .u64 ((x : Int) % 18446744073709551616) ((y : Int) * 4294967296) = ((x + 4294967296 * y : Nat) : Int) := by
    rw [show (x : Int) % 18446744073709551616 = x by omega, or64_hi' _ _ (by omega) (by omega) (by omega) (by omega)]; omega
  have t4 : ∀ z : Nat, shrI .u64 (z : Int) ((n % 32 : Nat) : Int) % 4294967296 = ((z / 2 ^ (n % 32) % 4294967296 : Nat) : Int) := fun z => by
    rw [shr64 _ _ (by omega)]; simp
  repeat' (first|(with_reducible first|apply q_a|apply q_b|apply q_c|apply q_d|apply q_e|apply q_f|apply q_g|apply q_h|apply q_i|apply q_j|apply q_k|apply q_m|apply q_n|apply q_o|apply q_p|refine q_l ?_)|((with_reducible first|refine q_q cf20_ok fun K hK=>?_|refine q_r cf20_ok fun K hK=>?_);simp (maxSteps:=2000000) only [go_sem,↓reduceIte,reduceCtorEq,Nat.reduceLeDiff,Nat.reduceLT,Nat.reduceBEq,Nat.reduceAdd];(repeat1' with_reducible first|apply And.intro|intro _|(refine hK _ ?_;clear hK K))<;>(try (clear hK K;exact q_u)))|(with_reducible refine q_s ?_;(first|apply q_J|apply q_K|apply q_L|apply q_M|apply q_N|apply q_O)<;>try intro _)|with_reducible refine q_t ?_)
  · rename_i ha hb
    simp only [t1, hxx, hyy, t2, t3, t4]
    refine q_F ⟨o ++ [(((x + 4294967296 * y) / 2 ^ (n % 32) % 4294967296 : Nat) : Int)], InB_snoc g2 (Int.natCast_nonneg _) (by exact_mod_cast Nat.mod_lt _ (by omega)), by rw [d4 0]; simp, .inr (by simp; omega)⟩ ?_ ?_
    · exact q_D
    · simp; omega
  · rename_i ha hb
    have hy0 : y = 0 := by
      have := getD_ge xs (n / 32 + o.length + 1) (by omega)
      rw [this] at hyy; omega
    have t5 : (x : Int) % 18446744073709551616 = x := by omega
    simp only [hxx, t5, t4]
    subst hy0
    simp only [Nat.mul_zero, Nat.add_zero] at d4
    refine q_F ⟨o ++ [((x / 2 ^ (n % 32) % 4294967296 : Nat) : Int)], InB_snoc g2 (Int.natCast_nonneg _) (by exact_mod_cast Nat.mod_lt _ (by omega)), by rw [d4 0]; simp, .inr (by simp; omega)⟩ ?_ ?_
    · exact q_D
    · simp; omega
  · rename_i ha
    refine q_A ?_
    simp only [resAV, q_y]
    rw [trimL_eq 4294967296 (by omega) _ g2, g3, ← hfin]
    congr 3
    refine Nat.mod_eq_of_lt (Nat.lt_of_le_of_lt (Nat.div_le_self _ _) ?_)
    rw [← hRd]
    have h3 := V_lt 4294967296 (by omega) _ (InB_drop bx (n / 32))
    have h4 : (xs.drop (n / 32)).length ≤ o.length := by simp; omega
    exact Nat.lt_of_lt_of_le h3 (Nat.pow_le_pow_right (by omega) h4)

def rightCT : CT := mkCT [.inl (some (.ints .u32 []))] false fun l K => match l with
  | [.inl (.ints .u32 xs), .inl (.i .i64 n)] => (xs.length ≤ 16777216 ∧ InB 4294967296 xs ∧ 0 ≤ n ∧ n ≤ 16777216) ∧ K (.c (.ints .u32 (dg 4294967296 (V 4294967296 xs / 2 ^ n.toNat))))
  | _ => False
def cf21 : Cfg := addT 165 rightCT cf20
theorem cf21_ok : TblOk Try.prog cf21 := q_I cf20_ok Try.func165 fun l K h => by
  split at h
  · rename_i xs n
    obtain ⟨n, rfl⟩ : ∃ m : Nat, n = m := ⟨n.toNat, by omega⟩
    exact ⟨_, right_ret _ n h.1.1 (by omega) h.1.2.1, by simpa using h.2⟩
  · exact h.elim
attribute [go_sem] cf21 rightCT

end Go.Proofs.Ytneecniebhhhlaa
