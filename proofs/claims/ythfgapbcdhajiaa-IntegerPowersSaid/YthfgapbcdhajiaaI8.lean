import Derived.Test.YthfgapbcdhajiaaI7
import Derived.Test.YthfgapbcdhajiaaP6
namespace Go.Proofs.Ythfgapbcdhajiaa
set_option linter.unusedSimpArgs false
set_option linter.unusedVariables false
open Go.Abs Go.Proofs.NatL

theorem InB_map_pad {xs : List Int} {n v : Nat} (h : InB 4294967296 xs) (hl : xs.length = n) (hv : V 4294967296 xs = v) : xs = pad 4294967296 n v := by
  subst hl; subst hv; exact pad_eq _ (by omega) xs h
theorem not_u32 (x : Nat) (h : x < 4294967296) : bitI .xor .u32 IntKind.u32.max (x : Int) = ((4294967295 - x : Nat) : Int) := by
  have e : IntKind.u32.max = 4294967295 := by decide
  rw [e, xor_u32]
  have e2 : BitVec.ofInt 32 4294967295 = BitVec.allOnes 32 := by decide
  have e3 : BitVec.ofInt 32 (x : Int) = BitVec.ofNat 32 x := by simp
  rw [e2, e3, BitVec.allOnes_xor, BitVec.toNat_not, BitVec.toNat_ofNat, Nat.mod_eq_of_lt (by omega)]
theorem twos_row (xs : List Int) (n : Nat) (hx : xs.length ≤ n) : xs.take (xs.length.min n) ++ (List.replicate n (0 : Int)).drop (xs.length.min n) = xs ++ List.replicate (n - xs.length) 0 := by
  rw [show xs.length.min n = xs.length from Nat.min_eq_left hx, List.take_length, List.drop_replicate]
theorem twos_row_in {xs : List Int} (n : Nat) (bx : InB 4294967296 xs) : InB 4294967296 (xs ++ List.replicate (n - xs.length) 0) := InB_app bx (InB_replicate (by omega) _)
theorem twos_row_V (xs : List Int) (n : Nat) : V 4294967296 (xs ++ List.replicate (n - xs.length) 0) = V 4294967296 xs := by
  rw [V_append, V_replicate, Nat.mul_zero, Nat.add_zero]
theorem twos_end (n v r c : Nat) (hc : c ≤ 1) (h : r + 4294967296 ^ n * c + v = 4294967296 ^ n) (hr : r < 4294967296 ^ n) : r = twv true v n := by
  unfold twv
  rw [if_pos rfl]
  generalize 4294967296 ^ n = p at *
  rcases (show c = 0 ∨ c = 1 by omega) with rfl | rfl
  · rw [show p - v = r by omega, Nat.mod_eq_of_lt hr]
  · have : v = 0 ∧ r = 0 := by omega
    obtain ⟨rfl, rfl⟩ := this
    simp
set_option maxRecDepth 100000 in
set_option maxHeartbeats 3200000 in
theorem itwos_own (s : Bool) (xs : List Int) (n : Nat) (hx : xs.length ≤ n) (hn : n ≤ 65536) (bx : InB 4294967296 xs) :
    RetO Try.prog 115 [.inr [.b s, .ints .u32 xs], .inl (.i .i64 (n : Int))] 73 1 (.ints .u32 (pad 4294967296 n (twv s (V 4294967296 xs) n))) := by
  have hrow := twos_row xs n hx
  have hin := twos_row_in n bx
  have hV := twos_row_V xs n
  have hlen : (xs ++ List.replicate (n - xs.length) (0 : Int)).length = n := by simp; omega
  cases s
  · (refine q_x Try.func115 rfl (Nat.le_of_ble_eq_true rfl) (fun F => ?_); simp only [q_z, q_y, Try.ntmps115, Try.results115])
    repeat' (first|(with_reducible first|apply q_a|apply q_b|apply q_c|apply q_d|apply q_e|apply q_f|apply q_g|apply q_h|apply q_i|apply q_j|apply q_k|apply q_m|apply q_n|apply q_o|apply q_p|refine q_l ?_)|((with_reducible first|refine q_q cf0_ok fun K hK=>?_|refine q_r cf0_ok fun K hK=>?_);simp (maxSteps:=2000000) only [go_sem,↓reduceIte,reduceCtorEq,Nat.reduceLeDiff,Nat.reduceLT,Nat.reduceBEq,Nat.reduceAdd];(repeat1' with_reducible first|apply And.intro|intro _|(refine hK _ ?_;clear hK K))<;>(try (clear hK K;exact q_u)))|(with_reducible refine q_s ?_;(first|apply q_J|apply q_K|apply q_L|apply q_M|apply q_N|apply q_O)<;>try intro _))
    refine endsO_own rfl rfl rfl rfl rfl ?_ rfl
    simp only [C.ints.injEq, true_and]
    rw [hrow]
    exact InB_map_pad hin hlen hV
  · (refine q_x Try.func115 rfl (Nat.le_of_ble_eq_true rfl) (fun F => ?_); simp only [q_z, q_y, Try.ntmps115, Try.results115])
    repeat' (first|(with_reducible first|apply q_a|apply q_b|apply q_c|apply q_d|apply q_e|apply q_f|apply q_g|apply q_h|apply q_i|apply q_j|apply q_k|apply q_m|apply q_n|apply q_o|apply q_p|refine q_l ?_)|((with_reducible first|refine q_q cf0_ok fun K hK=>?_|refine q_r cf0_ok fun K hK=>?_);simp (maxSteps:=2000000) only [go_sem,↓reduceIte,reduceCtorEq,Nat.reduceLeDiff,Nat.reduceLT,Nat.reduceBEq,Nat.reduceAdd,hrow];(repeat1' with_reducible first|apply And.intro|intro _|(refine hK _ ?_;clear hK K))<;>(try (clear hK K;exact q_u)))|(with_reducible refine q_s ?_;(first|apply q_J|apply q_K|apply q_L|apply q_M|apply q_N|apply q_O)<;>try intro _))
    generalize xs ++ List.replicate (n - xs.length) (0 : Int) = ys at *
    refine q_G (ι := { p : Nat × List Int × Nat // p.1 ≤ n ∧ p.2.1.length = p.1 ∧ InB 4294967296 p.2.1 ∧ p.2.2 ≤ 1 ∧ V 4294967296 p.2.1 + 4294967296 ^ p.1 * p.2.2 + V 4294967296 (ys.take p.1) = 4294967296 ^ p.1 }) (fun p => ⟨40, [(5, .own 1 0), (6, .c (.i .u64 (p.1.2.2 : Nat))), (19, .own 1 0), (20, .c (.i .i64 (n : Int))), (21, .c (.i .i64 (p.1.1 : Nat)))], ⟨[], [(1, ⟨0, 73, 1, .ints .u32 (p.1.2.1 ++ ys.drop p.1.1)⟩)], []⟩, 2⟩) (fun p => n - p.1.1) ⟨(0, [], 1), by simp, rfl, InB_nil _, by simp, by simp [V]⟩ ?_ ?_
    · exact q_D
    rintro ⟨⟨i, o, c⟩, g1, g2, g3, g4, g5⟩
    simp only at g1 g2 g3 g4 g5 ⊢
    have hy := InB_getD (B := 4294967296) (by omega) hin i
    have hl2 : (o ++ ys.drop i).length = n := by simp; omega
    rcases Nat.lt_or_ge i n with hi | hi
    · have hg : (o ++ ys.drop i).getD i 0 = ys.getD i 0 := by
        have := getD_mid o ys (by omega)
        rw [g2] at this; exact this
      have hst : ∀ v : Int, (o ++ ys.drop i).set i v = (o ++ [v]) ++ ys.drop (i + 1) := fun v => by
        have := set_mid o ys v (by omega)
        rw [g2] at this; exact this
      obtain ⟨x, hxx⟩ : ∃ x : Nat, ys.getD i 0 = x := ⟨(ys.getD i 0).toNat, by omega⟩
      have hx' : x < 4294967296 := by omega
      have hnot := not_u32 x hx'
      have e1 : ((c : Int) + ((4294967295 - x : Nat) : Int) % 18446744073709551616) % 18446744073709551616 = ((c + (4294967295 - x) : Nat) : Int) := by omega
      have e2 : ((c + (4294967295 - x) : Nat) : Int) % 4294967296 = (((c + (4294967295 - x)) % 4294967296 : Nat) : Int) := by omega
      have e3 : ((c + (4294967295 - x) : Nat) : Int) / 4294967296 = (((c + (4294967295 - x)) / 4294967296 : Nat) : Int) := by omega
      repeat' (first|(with_reducible first|apply q_a|apply q_b|apply q_c|apply q_d|apply q_e|apply q_f|apply q_g|apply q_h|apply q_i|apply q_j|apply q_k|apply q_m|apply q_n|apply q_o|apply q_p|refine q_l ?_)|((with_reducible first|refine q_q cf0_ok fun K hK=>?_|refine q_r cf0_ok fun K hK=>?_);simp (maxSteps:=2000000) only [go_sem,↓reduceIte,reduceCtorEq,Nat.reduceLeDiff,Nat.reduceLT,Nat.reduceBEq,Nat.reduceAdd,hl2, hg, hxx, hnot, e1, e2, e3, hst];(repeat1' with_reducible first|apply And.intro|(intro _;try exact q_v)|(refine hK _ ?_;clear hK K))<;>(try (clear hK K;exact q_u)))|(with_reducible refine q_s ?_;(first|apply q_J|apply q_K|apply q_L|apply q_M|apply q_N|apply q_O)<;>try (intro _;try exact q_v)))
      refine q_F ⟨(i + 1, o ++ [(((c + (4294967295 - x)) % 4294967296 : Nat) : Int)], (c + (4294967295 - x)) / 4294967296), hi, by simp [g2], InB_snoc g3 (by omega) (by omega), by simp only; omega, ?_⟩ ?_ (by simp only; omega)
      · exact twos_step 4294967296 i o ys c _ _ (4294967295 - x) g5 g2 (Nat.mod_add_div _ _) (by rw [hxx, Int.toNat_natCast]; omega)
      · exact q_D
    · have hi' : i = n := by omega
      subst hi'
      repeat' (first|(with_reducible first|apply q_a|apply q_b|apply q_c|apply q_d|apply q_e|apply q_f|apply q_g|apply q_h|apply q_i|apply q_j|apply q_k|apply q_m|apply q_n|apply q_o|apply q_p|refine q_l ?_)|((with_reducible first|refine q_q cf0_ok fun K hK=>?_|refine q_r cf0_ok fun K hK=>?_);simp (maxSteps:=2000000) only [go_sem,↓reduceIte,reduceCtorEq,Nat.reduceLeDiff,Nat.reduceLT,Nat.reduceBEq,Nat.reduceAdd,hl2];(repeat1' with_reducible first|apply And.intro|(intro _;try exact q_v)|(refine hK _ ?_;clear hK K))<;>(try (clear hK K;exact q_u)))|(with_reducible refine q_s ?_;(first|apply q_J|apply q_K|apply q_L|apply q_M|apply q_N|apply q_O)<;>try (intro _;try exact q_v)))
      refine endsO_own rfl rfl rfl rfl rfl ?_ rfl
      simp only [C.ints.injEq, true_and]
      rw [List.drop_eq_nil_of_le (by omega), List.append_nil]
      rw [List.take_of_length_le (by omega), hV] at g5
      refine InB_map_pad g3 g2 (twos_end i _ _ c g4 g5 ?_)
      rw [← g2]; exact V_lt _ (by omega) o g3
def itwosCT : CT := mkCTO [nP] 73 1 fun l K => match l with
  | [.inr [.b s, .ints .u32 xs], .inl (.i .i64 n)] => ((xs.length : Int) ≤ n ∧ n ≤ 65536 ∧ InB 4294967296 xs) ∧ K (.c (.ints .u32 (pad 4294967296 n.toNat (twv s (V 4294967296 xs) n.toNat))))
  | _ => False
def iu6 : Cfg := addT 115 itwosCT iu5
theorem iu6_ok : TblOk Try.prog iu6 := mkCTO_ok iu5_ok (q_C Try.func115 (by kernel_rfl) (by kernel_rfl)) rfl fun l K h => by
  split at h
  · rename_i s xs n
    obtain ⟨⟨h1, h2, h3⟩, h⟩ := h
    obtain ⟨k, rfl⟩ : ∃ k : Nat, n = k := ⟨n.toNat, by omega⟩
    exact ⟨_, itwos_own s xs k (by omega) (by omega) h3, by simpa using h⟩
  · exact h.elim
attribute [go_sem] itwosCT

def ibb : Cfg := listT [(115, itwosCT), (63, isignedCT)] [27]
theorem ibb_ok : TblOk Try.prog ibb := listT_ok (big := iu6) iu6_ok ⟨rfl, rfl, trivial⟩
attribute [go_sem] ibb
theorem pad_top (n r : Nat) (h : r < 4294967296 ^ (n + 1)) : (pad 4294967296 (n + 1) r).getD n 0 = ((r / 4294967296 ^ n : Nat) : Int) := by
  have h1 : r / 4294967296 ^ n < 4294967296 := Nat.div_lt_of_lt_mul (by rw [Nat.pow_succ] at h; exact h)
  have h2 : (pad 4294967296 (n + 1) r).getD n 0 = ((r / 4294967296 ^ n % 4294967296 : Nat) : Int) := by
    simp only [pad, List.getD_eq_getElem?_getD, List.getElem?_map, List.getElem?_range (Nat.lt_succ_self n), Option.map_some, Option.getD_some]
  rw [h2, Nat.mod_eq_of_lt h1]
theorem top_iff (n r : Nat) : 2147483648 ≤ r / 4294967296 ^ n ↔ 2 ^ (32 * n + 31) ≤ r := by
  have hp : 0 < 4294967296 ^ n := Nat.pow_pos (by omega)
  rw [Nat.le_div_iff_mul_le hp, Nat.pow_add, ← pow32, Nat.mul_comm]
set_option maxRecDepth 100000 in
set_option maxHeartbeats 3200000 in
theorem iback_ret (n : Nat) (z : Int) (hn : n ≤ 1000) (hz : FitK (32 * n + 31) z) :
    Ret Try.prog 116 false [.inl (.ints .u32 (pad 4294967296 (n + 1) (lo (32 * n + 32) z)))] (rCz z) := by
  have hr := lo_lt (32 * n + 32) z
  have hr2 : lo (32 * n + 32) z < 4294967296 ^ (n + 1) := by rw [pow32]; exact hr
  have hp := pad_top n _ hr2
  have ht := top_iff n (lo (32 * n + 32) z)
  obtain ⟨h1, h2⟩ := sgn_lo hz
  have hl := pad_len 4294967296 (n + 1) (lo (32 * n + 32) z)
  have hin := InB_pad 4294967296 (n + 1) (lo (32 * n + 32) z) (by omega)
  have hV := V_pad 4294967296 (n + 1) (lo (32 * n + 32) z) (by omega) hr2
  generalize lo (32 * n + 32) z = R at *
  have e0 : ∀ xs : List Int, InB 4294967296 xs → trimL xs = dg 4294967296 (V 4294967296 xs) := fun xs h => trimL_eq _ (by omega) xs h
  by_cases hneg : z < 0
  · have htop : 2147483648 ≤ R / 4294967296 ^ n := ht.2 (h2.2 hneg)
    have htop2 : R / 4294967296 ^ n < 4294967296 := Nat.div_lt_of_lt_mul (by rw [Nat.pow_succ] at hr2; exact hr2)
    have hb : ((R / 4294967296 ^ n : Nat) : Int) / 2147483648 = 1 := by omega
    have hz2 : twv true R (n + 1) = z.natAbs := by
      unfold twv
      unfold sgn at h1
      rw [if_pos (h2.2 hneg)] at h1
      rw [if_pos rfl, pow32, show 32 * (n + 1) = 32 * n + 31 + 1 by omega, Nat.mod_eq_of_lt (by omega)]
      omega
    have hz3 : z.natAbs < 4294967296 ^ (n + 1) := by rw [← hz2]; exact twv_lt hr2
    have hi1 : ((n + 1 : Nat) : Int) - 1 = (n : Nat) := by omega
    have hl3 := pad_len 4294967296 (n + 1) z.natAbs
    have hin3 := InB_pad 4294967296 (n + 1) z.natAbs (by omega)
    have hV3 := V_pad 4294967296 (n + 1) z.natAbs (by omega) hz3
    have hld := dg_len_le (B := 4294967296) (by omega) _ _ hz3
    have hsg : sg true z.natAbs = z := by rw [sgt]; omega
    generalize pad 4294967296 (n + 1) R = xs at *
    (refine q_H Try.func116 (fun F => ?_); simp only [q_z,q_y,Try.ntmps116,Try.results116])
    repeat' (first|(with_reducible first|apply q_a|apply q_b|apply q_c|apply q_d|apply q_e|apply q_f|apply q_g|apply q_h|apply q_i|apply q_j|apply q_k|apply q_m|apply q_n|apply q_o|apply q_p|refine q_l ?_)|((with_reducible first|refine q_q ibb_ok fun K hK=>?_|refine q_r ibb_ok fun K hK=>?_);simp (maxSteps:=2000000) only [go_sem,↓reduceIte,reduceCtorEq,Nat.reduceLeDiff,Nat.reduceLT,Nat.reduceBEq,Nat.reduceAdd,hl, hi1, hp, hb, shr31, hV, hz2];(repeat1' with_reducible first|apply And.intro|(intro _;try exact q_v)|(refine hK _ ?_;clear hK K))<;>(try (clear hK K;exact q_u)))|(with_reducible refine q_s ?_;(first|apply q_J|apply q_K|apply q_L|apply q_M|apply q_N|apply q_O)<;>try (intro _;try exact q_v))|with_reducible refine q_t ?_)
    all_goals first | omega | skip
    refine q_G (ι := { ys : List Int // trimL ys = dg 4294967296 z.natAbs ∧ ys.length ≤ n + 1 }) (fun ys => ⟨41, [(0, .own 2 0), (2, .bx 0 0), (3, .bx 1 0), (4, .c (.b true))], ⟨[(1, [.c (.i .i64 0), .c (.i .i64 0)]), (0, [.c (.b false), .c .nil])], [(2, ⟨0, 73, 1, .ints .u32 ys.1⟩)], []⟩, 3⟩) (fun ys => ys.1.length) ⟨pad 4294967296 (n + 1) z.natAbs, by rw [e0 _ hin3, hV3], by omega⟩ ?_ ?_
    · exact q_D
    rintro ⟨ys, g1, g2⟩
    simp only at g1 g2 ⊢
    have ey : ((ys.length : Int) - 1).toNat = ys.length - 1 := by omega
    by_cases hstop : ys.length = 0 ∨ ys.getD (ys.length - 1) 0 ≠ 0
    · have : ys = dg 4294967296 z.natAbs := by rw [← g1, trimL_stop ys hstop]
      subst this
      rcases hstop with hs | hs
      all_goals
        repeat' (first|(with_reducible first|apply q_a|apply q_b|apply q_c|apply q_d|apply q_e|apply q_f|apply q_g|apply q_h|apply q_i|apply q_j|apply q_k|apply q_m|apply q_n|apply q_o|apply q_p|refine q_l ?_)|((with_reducible first|refine q_q ibb_ok fun K hK=>?_|refine q_r ibb_ok fun K hK=>?_);simp (maxSteps:=2000000) only [go_sem,↓reduceIte,reduceCtorEq,Nat.reduceLeDiff,Nat.reduceLT,Nat.reduceBEq,Nat.reduceAdd,ey, sv32d, hsg];(repeat1' with_reducible first|apply And.intro|(intro _;try exact q_v)|(refine hK _ ?_;clear hK K))<;>(try (clear hK K;exact q_u)))|(with_reducible refine q_s ?_;(first|apply q_J|apply q_K|apply q_L|apply q_M|apply q_N|apply q_O)<;>try (intro _;try exact q_v))|with_reducible refine q_t ?_)
        all_goals first | omega | exact q_A rfl
    · have hs : 0 < ys.length ∧ ys.getD (ys.length - 1) 0 = 0 := by omega
      repeat' (first|(with_reducible first|apply q_a|apply q_b|apply q_c|apply q_d|apply q_e|apply q_f|apply q_g|apply q_h|apply q_i|apply q_j|apply q_k|apply q_m|apply q_n|apply q_o|apply q_p|refine q_l ?_)|((with_reducible first|refine q_q ibb_ok fun K hK=>?_|refine q_r ibb_ok fun K hK=>?_);simp (maxSteps:=2000000) only [go_sem,↓reduceIte,reduceCtorEq,Nat.reduceLeDiff,Nat.reduceLT,Nat.reduceBEq,Nat.reduceAdd,ey];(repeat1' with_reducible first|apply And.intro|(intro _;try exact q_v)|(refine hK _ ?_;clear hK K))<;>(try (clear hK K;exact q_u)))|(with_reducible refine q_s ?_;(first|apply q_J|apply q_K|apply q_L|apply q_M|apply q_N|apply q_O)<;>try (intro _;try exact q_v))|with_reducible refine q_t ?_)
      all_goals first | omega | skip
      refine q_F ⟨ys.take (ys.length - 1), by rw [trimL_drop ys (by omega) hs.2, g1], by simp; omega⟩ ?_ (by simp; omega)
      exact q_D
  · have htop : ¬ 2147483648 ≤ R / 4294967296 ^ n := fun h => hneg (h2.1 (ht.1 h))
    have hb : ¬ ((R / 4294967296 ^ n : Nat) : Int) / 2147483648 = 1 := by omega
    have hzR : R = z.natAbs := by
      unfold sgn at h1
      rw [if_neg (fun h => hneg (h2.1 h))] at h1
      omega
    subst hzR
    have hi1 : ((n + 1 : Nat) : Int) - 1 = (n : Nat) := by omega
    have hld := dg_len_le (B := 4294967296) (by omega) _ _ hr2
    have hsg : sg false z.natAbs = z := by rw [sgf]; omega
    have g0 := e0 _ hin
    rw [hV] at g0
    generalize pad 4294967296 (n + 1) z.natAbs = xs at *
    (refine q_H Try.func116 (fun F => ?_); simp only [q_z,q_y,Try.ntmps116,Try.results116])
    repeat' (first|(with_reducible first|apply q_a|apply q_b|apply q_c|apply q_d|apply q_e|apply q_f|apply q_g|apply q_h|apply q_i|apply q_j|apply q_k|apply q_m|apply q_n|apply q_o|apply q_p|refine q_l ?_)|((with_reducible first|refine q_q ibb_ok fun K hK=>?_|refine q_r ibb_ok fun K hK=>?_);simp (maxSteps:=2000000) only [go_sem,↓reduceIte,reduceCtorEq,Nat.reduceLeDiff,Nat.reduceLT,Nat.reduceBEq,Nat.reduceAdd,hl, hi1, hp, hb, shr31];(repeat1' with_reducible first|apply And.intro|(intro _;try exact q_v)|(refine hK _ ?_;clear hK K))<;>(try (clear hK K;exact q_u)))|(with_reducible refine q_s ?_;(first|apply q_J|apply q_K|apply q_L|apply q_M|apply q_N|apply q_O)<;>try (intro _;try exact q_v))|with_reducible refine q_t ?_)
    all_goals first | omega | skip
    refine q_G (ι := { ys : List Int // trimL ys = dg 4294967296 z.natAbs ∧ ys.length ≤ n + 1 }) (fun ys => ⟨41, [(0, .c (.ints .u32 ys.1)), (2, .bx 0 0), (3, .bx 1 0), (4, .c (.b false))], ⟨[(1, [.c (.i .i64 0), .c (.i .i64 0)]), (0, [.c (.b false), .c .nil])], [], []⟩, 2⟩) (fun ys => ys.1.length) ⟨xs, g0, by omega⟩ ?_ ?_
    · exact q_D
    rintro ⟨ys, g1, g2⟩
    simp only at g1 g2 ⊢
    have ey : ((ys.length : Int) - 1).toNat = ys.length - 1 := by omega
    by_cases hstop : ys.length = 0 ∨ ys.getD (ys.length - 1) 0 ≠ 0
    · have : ys = dg 4294967296 z.natAbs := by rw [← g1, trimL_stop ys hstop]
      subst this
      rcases hstop with hs | hs
      all_goals
        repeat' (first|(with_reducible first|apply q_a|apply q_b|apply q_c|apply q_d|apply q_e|apply q_f|apply q_g|apply q_h|apply q_i|apply q_j|apply q_k|apply q_m|apply q_n|apply q_o|apply q_p|refine q_l ?_)|((with_reducible first|refine q_q ibb_ok fun K hK=>?_|refine q_r ibb_ok fun K hK=>?_);simp (maxSteps:=2000000) only [go_sem,↓reduceIte,reduceCtorEq,Nat.reduceLeDiff,Nat.reduceLT,Nat.reduceBEq,Nat.reduceAdd,ey, sv32d, hsg];(repeat1' with_reducible first|apply And.intro|(intro _;try exact q_v)|(refine hK _ ?_;clear hK K))<;>(try (clear hK K;exact q_u)))|(with_reducible refine q_s ?_;(first|apply q_J|apply q_K|apply q_L|apply q_M|apply q_N|apply q_O)<;>try (intro _;try exact q_v))|with_reducible refine q_t ?_)
        all_goals first | omega | exact q_A rfl
    · have hs : 0 < ys.length ∧ ys.getD (ys.length - 1) 0 = 0 := by omega
      repeat' (first|(with_reducible first|apply q_a|apply q_b|apply q_c|apply q_d|apply q_e|apply q_f|apply q_g|apply q_h|apply q_i|apply q_j|apply q_k|apply q_m|apply q_n|apply q_o|apply q_p|refine q_l ?_)|((with_reducible first|refine q_q ibb_ok fun K hK=>?_|refine q_r ibb_ok fun K hK=>?_);simp (maxSteps:=2000000) only [go_sem,↓reduceIte,reduceCtorEq,Nat.reduceLeDiff,Nat.reduceLT,Nat.reduceBEq,Nat.reduceAdd,ey];(repeat1' with_reducible first|apply And.intro|(intro _;try exact q_v)|(refine hK _ ?_;clear hK K))<;>(try (clear hK K;exact q_u)))|(with_reducible refine q_s ?_;(first|apply q_J|apply q_K|apply q_L|apply q_M|apply q_N|apply q_O)<;>try (intro _;try exact q_v))|with_reducible refine q_t ?_)
      all_goals first | omega | skip
      refine q_F ⟨ys.take (ys.length - 1), by rw [trimL_drop ys (by omega) hs.2, g1], by simp; omega⟩ ?_ (by simp; omega)
      exact q_D
end Go.Proofs.Ythfgapbcdhajiaa
