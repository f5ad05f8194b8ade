import Derived.Test.YtneecniebhhhlaaH12
import Derived.Test.YtneecniebhhhlaaH14
import Derived.Test.YtneecniebhhhlaaH5
namespace Go.Proofs.Ytneecniebhhhlaa
set_option linter.unusedSimpArgs false
set_option linter.unusedVariables false
open Go.Abs Go.Proofs.NatL

def bitsGoodCT : CT := mkCT [.inl (some (.ints .u32 []))] true fun l K => match l with
  | [.inl (.ints .u32 xs)] => (okN xs = true ∧ InB 4294967296 xs) ∧ K (.t [.inl (.i .i64 (bl (V 4294967296 xs) : Nat)), .inr [.i .i64 0, .i .i64 0]])
  | _ => False
def bitsBadCT : CT := mkCT [.inl (some (.ints .u32 []))] true fun l K => match l with
  | [.inl (.ints .u32 xs)] => (xs.length ≤ 140737488355328 ∧ InB 4294967296 xs ∧ okN xs = false) ∧ K (.t [.inl (.i .i64 0), .inr [.i .i64 6, .i .i64 (-1)]])
  | _ => False
theorem okN_LB' {xs : List Int} (h : okN xs = true) : xs.length ≤ 140737488355328 := by
  have : xs.length ≤ 600 ∧ Trd xs := by simpa [okN] using h
  omega
def cf25 : Cfg := addT 127 bitsGoodCT cf24
theorem cf25_ok : TblOk Try.prog cf25 := q_I cf24_ok Try.func127 fun l K h => by
  split at h
  · obtain ⟨⟨h1, h2⟩, h⟩ := h
    have := Bits_ret _ (okN_LB' h1) h2
    simp only [if_pos h1] at this
    exact ⟨_, this.plain rfl, h⟩
  · exact h.elim
attribute [go_sem] bitsGoodCT bitsBadCT
def tb17 : Cfg := listT [(158, atCT), (127, bitsGoodCT), (164, leftCT), (165, rightCT), (159, divModCT), (162, compareCT), (161, (numCT (fun _ _ => True) addN))] [28]
theorem tb17_ok : TblOk Try.prog tb17 := listT_ok (big := cf25) cf25_ok ⟨rfl, rfl, rfl, rfl, rfl, rfl, rfl, trivial⟩
attribute [go_sem] tb17
def tb17b : Cfg := listT [(158, atCT), (127, bitsBadCT)] [28]
attribute [go_sem] tb17b

theorem bl_ok {xs : List Int} (h : okN xs = true) (bx : InB 4294967296 xs) : bl (V 4294967296 xs) ≤ 19200 := by
  have ox' : xs.length ≤ 600 ∧ Trd xs := by simpa [okN] using h
  obtain ⟨m, hm⟩ : ∃ m, m = 19200 := ⟨_, rfl⟩
  have h3 : 32 * xs.length ≤ m := by omega
  rw [← hm]
  refine bl_lt _ _ ?_
  have := V_lt _ (by omega) xs bx
  have h2 : (4294967296 : Nat) ^ xs.length = 2 ^ (32 * xs.length) := by
    rw [show (4294967296 : Nat) = 2 ^ 32 from rfl, ← Nat.pow_mul]
  rw [h2] at this
  exact Nat.lt_of_lt_of_le this (Nat.pow_le_pow_right (by omega) h3)
theorem v1d : V 4294967296 [1] = 1 := rfl
attribute [go_sem] v1d V32 I32 T32 I0 T0 V0

theorem bl_zero {n : Nat} (h : bl n = 0) : n = 0 := by
  unfold bl at h
  split at h
  · assumption
  · omega
theorem pow_sq (k A : Nat) (h : A < 2 ^ k) : A < 2 ^ ((k + 1) / 2) * 2 ^ ((k + 1) / 2) := by
  rw [← Nat.pow_add]
  exact Nat.lt_of_lt_of_le h (Nat.pow_le_pow_right (by omega) (by omega))
theorem lt_bl (n : Nat) : n < 2 ^ bl n := by
  rcases Nat.eq_zero_or_pos n with h | h
  · subst h; exact Nat.pow_pos (by omega)
  · exact (bl_spec n h).2.1
theorem two_len (n k : Nat) (h : n ≤ 2 ^ k) : (dg 4294967296 n).length ≤ k + 1 := by
  refine dg_len_le (by omega) _ _ ?_
  have h1 : 2 ^ k < 2 ^ (k + 1) := Nat.pow_lt_pow_right (by omega) (by omega)
  have h2 : (2 : Nat) ^ (k + 1) ≤ 4294967296 ^ (k + 1) := Nat.pow_le_pow_left (by omega) _
  omega

set_option maxHeartbeats 1600000 in
theorem Sqrt_good (xs : List Int) (bx : InB 4294967296 xs) (ho : okN xs = true) :
    Ret Try.prog 109 false [.inl (.ints .u32 xs)] (.t [.inl (.ints .u32 (dg 4294967296 (rt (V 4294967296 xs)))), .inr [.i .i64 0, .i .i64 0]]) := by
  obtain ⟨lx, tx⟩ : xs.length ≤ 600 ∧ Trd xs := by simpa [okN] using ho
  have hbl := bl_ok ho bx
  have e := dg_V 4294967296 (by omega) xs bx tx
  have hb1 : InB 4294967296 [1] := fun x hx => by rw [List.mem_singleton] at hx; subst hx; omega
  have htd : (((bl (V 4294967296 xs) : Nat) : Int) + 1).tdiv 2 = (((bl (V 4294967296 xs) + 1) / 2 : Nat) : Int) := by
    rw [Int.tdiv_eq_ediv_of_nonneg (by omega)]; omega
  have hlt := lt_bl (V 4294967296 xs)
  have hz : bl (V 4294967296 xs) = 0 → V 4294967296 xs = 0 := bl_zero
  have h1 := pow_sq _ _ hlt
  (refine q_H Try.func109 (fun F => ?_); simp only [q_z,q_y,Try.ntmps109,Try.results109])
  repeat' (first|(with_reducible first|apply q_a|apply q_b|apply q_c|apply q_d|apply q_e|apply q_f|apply q_g|apply q_h|apply q_i|apply q_j|apply q_k|apply q_m|apply q_n|apply q_o|apply q_p|refine q_l ?_)|((with_reducible first|refine q_q tb17_ok fun K hK=>?_|refine q_r tb17_ok fun K hK=>?_);simp (maxSteps:=2000000) only [go_sem,↓reduceIte,reduceCtorEq,Nat.reduceLeDiff,Nat.reduceLT,Nat.reduceBEq,Nat.reduceAdd];(repeat1' with_reducible first|apply And.intro|(intro _;try exact q_w)|(refine hK _ ?_;clear hK K))<;>(try (clear hK K;exact q_u)))|(with_reducible refine q_s ?_;(first|apply q_J|apply q_K|apply q_L|apply q_M|apply q_N|apply q_O)<;>try (intro _;try exact q_w))|with_reducible refine q_t ?_)
  · rename_i h
    have h0 := hz (by omega)
    exact q_B [.inl (some (.ints .u32 []))] rfl (by simp [resAV, norm, nz, h0, rt_zero, dg_zero])
  rename_i h
  have hA0 : 0 < V 4294967296 xs := by
    rcases Nat.eq_zero_or_pos (V 4294967296 xs) with h2 | h2
    · rw [h2] at h; exact absurd (by decide) h
    · exact h2
  simp only [htd, Int.toNat_natCast, Nat.one_mul]
  generalize hA : V 4294967296 xs = A at *
  generalize hk : (bl A + 1) / 2 = k at *
  have hk' : k ≤ 9600 := by omega
  refine q_G (ι := { x : Nat // 0 < x ∧ x ≤ 2 ^ k ∧ A < (x + 1) * (x + 1) }) (fun x => ⟨45, [(0, .c (.ints .u32 xs)), (3, .bx 0 0), (6, .c (.ints .u32 (dg 4294967296 x.1)))], ⟨[(0, [.c (.i .i64 0), .c (.i .i64 0)])], [], []⟩, 3⟩) (fun x => x.1) ⟨2 ^ k, Nat.pow_pos (by omega), Nat.le_refl _, Nat.lt_of_lt_of_le h1 (Nat.mul_le_mul (by omega) (by omega))⟩ ?_ ?_
  · exact q_D
  rintro ⟨x, x0, x1, x2⟩
  simp only at x0 x1 x2 ⊢
  have ex := two_len x k x1
  have bxx := InB_dg 4294967296 (by omega) x
  have txx := dg_trd 4294967296 (by omega) x
  have vxx := V_dg 4294967296 (by omega) x
  have l0 := (dg_len_pos 4294967296 x (by omega)).2 x0
  have hq : (dg 4294967296 (A / x)).length ≤ 600 := by
    have := dg_len_mono (B := 4294967296) (by omega) (Nat.div_le_self A x)
    rw [e] at this; omega
  have bq := InB_dg 4294967296 (by omega) (A / x)
  have vq := V_dg 4294967296 (by omega) (A / x)
  have vs := V_dg 4294967296 (by omega) (x + A / x)
  have bs' := InB_dg 4294967296 (by omega) (x + A / x)
  have ls : (dg 4294967296 (x + A / x)).length ≤ 10002 := add_len (by omega) (Nat.le_trans ex (by omega)) (Nat.le_trans hq (by omega))
  have bn := InB_dg 4294967296 (by omega) ((x + A / x) / 2)
  have tn := dg_trd 4294967296 (by omega) ((x + A / x) / 2)
  have vn := V_dg 4294967296 (by omega) ((x + A / x) / 2)
  have ln := dg_len_mono (B := 4294967296) (by omega) (Nat.div_le_self (x + A / x) 2)
  obtain ⟨c1, -, -⟩ := cmpL_le bn bxx tn txx
  rw [vn, vxx] at c1
  have p1 : (2 : Nat) ^ Int.toNat 1 = 2 := rfl
  have nst := newton_step A x x0
  have nen := newton_end A x x0
  have eadd : addN (dg 4294967296 x) (dg 4294967296 (A / x)) = dg 4294967296 (x + A / x) := by unfold addN; rw [vxx, vq]
  have haddV : V 4294967296 (addN (dg 4294967296 x) (dg 4294967296 (A / x))) = x + A / x := by rw [eadd, V32]
  have haddI : InB 4294967296 (addN (dg 4294967296 x) (dg 4294967296 (A / x))) := by rw [eadd]; exact bs'
  have haddL : (addN (dg 4294967296 x) (dg 4294967296 (A / x))).length ≤ 10002 := by rw [eadd]; exact ls
  repeat' (first|(with_reducible first|apply q_a|apply q_b|apply q_c|apply q_d|apply q_e|apply q_f|apply q_g|apply q_h|apply q_i|apply q_j|apply q_k|apply q_m|apply q_n|apply q_o|apply q_p|refine q_l ?_)|((with_reducible first|refine q_q tb17_ok fun K hK=>?_|refine q_r tb17_ok fun K hK=>?_);simp (maxSteps:=2000000) only [go_sem,↓reduceIte,reduceCtorEq,Nat.reduceLeDiff,Nat.reduceLT,Nat.reduceBEq,Nat.reduceAdd];(repeat1' with_reducible first|apply And.intro|(intro _;try exact q_w)|(refine hK _ ?_;clear hK K))<;>(try (clear hK K;exact q_u)))|(with_reducible refine q_s ?_;(first|apply q_J|apply q_K|apply q_L|apply q_M|apply q_N|apply q_O)<;>try (intro _;try exact q_w))|with_reducible refine q_t ?_)
  all_goals (try simp only [hA, haddV, p1] at *)
  all_goals (try first | assumption | omega)
  · rename_i h2
    have hx' : x ≤ (x + A / x) / 2 := by
      have : ¬ (x + A / x) / 2 < x := fun h3 => by have := c1.2 h3; omega
      omega
    rw [rt_eq (nen hx') x2]
    exact q_A rfl
  · rename_i h2
    have hx' : (x + A / x) / 2 < x := c1.1 (by omega)
    refine q_F ⟨(x + A / x) / 2, ?_, by omega, nst⟩ ?_ hx'
    · rcases Nat.eq_zero_or_pos ((x + A / x) / 2) with h3 | h3
      · rw [h3] at nst; omega
      · exact h3
    · exact q_D

end Go.Proofs.Ytneecniebhhhlaa

namespace Go.Proofs.Ytneecniebhhhlaa
set_option linter.unusedSimpArgs false
set_option linter.unusedVariables false
open Go.Abs Go.Proofs.NatL

def chunkCT : CT := mkCT [] true fun l K => match l with
  | [.inl (.i .i64 b)] => (2 ≤ b ∧ b ≤ 36) ∧ ∀ n : Nat, 0 < n ∧ n ≤ 32 ∧ b.toNat ^ n < 4294967296 → K (.t [.inl (.i .u32 ((b.toNat ^ n : Nat) : Int)), .inl (.i .i64 (n : Int))])
  | _ => False

theorem chunk_ex (b : Nat) (h1 : 2 ≤ b) (h2 : b ≤ 36) : ∀ m, 4294967296 ≤ b ^ (m + 2) → ∃ n, b ^ (n + 1) < 4294967296 ∧ 4294967296 ≤ b ^ (n + 2)
  | 0, h => ⟨0, by simp only [Nat.zero_add, Nat.pow_one]; omega, h⟩
  | m + 1, h => by
    rcases Nat.lt_or_ge (b ^ (m + 2)) 4294967296 with h3 | h3
    · exact ⟨m + 1, h3, h⟩
    · exact chunk_ex b h1 h2 m h3

set_option maxHeartbeats 800000 in
theorem chunk_ret (b : Nat) (h1 : 2 ≤ b) (h2 : b ≤ 36) : ∃ n : Nat, (0 < n ∧ n ≤ 32 ∧ b ^ n < 4294967296) ∧ Ret Try.prog 167 false [.inl (.i .i64 b)] (.t [.inl (.i .u32 ((b ^ n : Nat) : Int)), .inl (.i .i64 (n : Int))]) := by
  obtain ⟨n, hn1, hn2⟩ := chunk_ex b h1 h2 30 (by
    have : 2 ^ 32 ≤ b ^ 32 := Nat.pow_le_pow_left h1 _
    exact this)
  have hn32 : n + 1 ≤ 32 := by
    have h3 : 2 ^ (n + 1) ≤ b ^ (n + 1) := Nat.pow_le_pow_left h1 _
    have h4 : 2 ^ (n + 1) < 2 ^ 32 := by simp only [show (2 : Nat) ^ 32 = 4294967296 from rfl]; omega
    have := (Nat.pow_lt_pow_iff_right (a := 2) (by omega)).1 h4
    omega
  refine ⟨n + 1, ⟨by omega, hn32, hn1⟩, ?_⟩
  (refine q_H Try.func167 (fun F => ?_); simp only [q_z,q_y,Try.ntmps167,Try.results167])
  repeat' (first|(with_reducible first|apply q_a|apply q_b|apply q_c|apply q_d|apply q_e|apply q_f|apply q_g|apply q_h|apply q_i|apply q_j|apply q_k|apply q_m|apply q_n|apply q_o|apply q_p|refine q_l ?_)|((with_reducible first|refine q_q cf0_ok fun K hK=>?_|refine q_r cf0_ok fun K hK=>?_);simp (maxSteps:=2000000) only [go_sem,↓reduceIte,reduceCtorEq,Nat.reduceLeDiff,Nat.reduceLT,Nat.reduceBEq,Nat.reduceAdd];(repeat1' with_reducible first|apply And.intro|intro _|(refine hK _ ?_;clear hK K))<;>(try (clear hK K;exact q_u)))|(with_reducible refine q_s ?_;(first|apply q_J|apply q_K|apply q_L|apply q_M|apply q_N|apply q_O)<;>try intro _)|with_reducible refine q_t ?_)
  refine q_G (ι := { p : Nat × Nat // p.1 ≤ n ∧ p.2 = b ^ (p.1 + 1) }) (fun p => ⟨22, [(0, .c (.i .i64 b)), (4, .c (.i .u64 (p.1.2 : Nat))), (5, .c (.i .i64 ((p.1.1 : Int) + 1)))], ⟨[], [], []⟩, 0⟩) (fun p => n - p.1.1) ⟨(0, b), by simp, by simp⟩ ?_ ?_
  · exact q_D
  rintro ⟨⟨k, P⟩, hk, hP⟩
  simp only at hk hP ⊢
  have hPn : P < 4294967296 := Nat.lt_of_le_of_lt (by rw [hP]; exact Nat.pow_le_pow_right (by omega) (by omega)) hn1
  have hQ : P * b = b ^ (k + 2) := by rw [hP, ← Nat.pow_succ]
  have hQl : P * b ≤ 4294967295 * 36 := Nat.mul_le_mul (by omega) h2
  have e1 : ((P : Int) * ((b : Int) % 18446744073709551616)) % 18446744073709551616 = ((P * b : Nat) : Int) := by
    rw [show (b : Int) % 18446744073709551616 = b by omega, ← Int.natCast_mul]; omega
  have hk1 : P * b < 4294967296 → k + 1 ≤ n := fun h => by
    rcases Nat.lt_or_ge k n with h3 | h3
    · omega
    · have : k = n := by omega
      subst this; omega
  have hk2 : ¬ P * b < 4294967296 → k = n := fun h => by
    rcases Nat.lt_or_ge k n with h3 | h3
    · have : b ^ (k + 2) ≤ b ^ (n + 1) := Nat.pow_le_pow_right (by omega) (by omega)
      omega
    · omega
  generalize P * b = Q at *
  repeat' (first|(with_reducible first|apply q_a|apply q_b|apply q_c|apply q_d|apply q_e|apply q_f|apply q_g|apply q_h|apply q_i|apply q_j|apply q_k|apply q_m|apply q_n|apply q_o|apply q_p|refine q_l ?_)|((with_reducible first|refine q_q cf0_ok fun K hK=>?_|refine q_r cf0_ok fun K hK=>?_);simp (maxSteps:=2000000) only [go_sem,↓reduceIte,reduceCtorEq,Nat.reduceLeDiff,Nat.reduceLT,Nat.reduceBEq,Nat.reduceAdd];(repeat1' with_reducible first|apply And.intro|intro _|(refine hK _ ?_;clear hK K))<;>(try (clear hK K;exact q_u)))|(with_reducible refine q_s ?_;(first|apply q_J|apply q_K|apply q_L|apply q_M|apply q_N|apply q_O)<;>try intro _)|with_reducible refine q_t ?_)
  all_goals (try simp only [e1] at *)
  · rename_i h
    refine q_F ⟨(k + 1, Q), hk1 (by omega), hQ⟩ ?_ (by simp only; have := hk1 (by omega); omega)
    exact q_D
  · rename_i h
    have hkn := hk2 (by omega)
    subst hkn
    refine q_A ?_
    simp only [resAV, ← hP]
    rw [show (P : Int) % 4294967296 = P by omega]; rfl

def ck1 : Cfg := addT 167 chunkCT cf25
theorem ck1_ok : TblOk Try.prog ck1 := q_I cf25_ok Try.func167 fun l K h => by
  split at h
  · rename_i b
    obtain ⟨⟨h1, h2⟩, h⟩ := h
    obtain ⟨m, rfl⟩ : ∃ m : Nat, b = m := ⟨b.toNat, by omega⟩
    obtain ⟨n, hn, hr⟩ := chunk_ret m (by omega) (by omega)
    exact ⟨_, hr.plain rfl, by simpa using h n hn⟩
  · exact h.elim
attribute [go_sem] chunkCT

theorem getD_set_self (xs : List Int) (i : Nat) (v : Int) (h : i < xs.length) : (xs.set i v).getD i 0 = v := by
  simp [List.getD_eq_getElem?_getD, h]

set_option maxHeartbeats 800000 in
theorem reverse_ret (xs : List Int) (hx : xs.length ≤ 16777216) : RetW Try.prog 169 3 (.ints .i64 xs) 0 xs.length [] (.ints .i64 xs.reverse) [] := by
  (refine ret_win Try.func169 rfl (Nat.le_of_ble_eq_true rfl) rfl (fun F => ?_); simp only [q_z, q_y, Try.ntmps169, Try.results169])
  repeat' (first|(with_reducible first|apply q_a|apply q_b|apply q_c|apply q_d|apply q_e|apply q_f|apply q_g|apply q_h|apply q_i|apply q_j|apply q_k|apply q_m|apply q_n|apply q_o|apply q_p|refine q_l ?_)|((with_reducible first|refine q_q cf0_ok fun K hK=>?_|refine q_r cf0_ok fun K hK=>?_);simp (maxSteps:=2000000) only [go_sem,↓reduceIte,reduceCtorEq,Nat.reduceLeDiff,Nat.reduceLT,Nat.reduceBEq,Nat.reduceAdd];(repeat1' with_reducible first|apply And.intro|intro _|(refine hK _ ?_;clear hK K))<;>(try (clear hK K;exact q_u)))|(with_reducible refine q_s ?_;(first|apply q_J|apply q_K|apply q_L|apply q_M|apply q_N|apply q_O)<;>try intro _)|with_reducible refine endsW_ret (by ((simp only [go_sem,↓reduceIte,reduceCtorEq,Nat.reduceLeDiff,Nat.reduceLT,Nat.reduceBEq,Nat.reduceAdd,ressO,resO,argsC]);rfl)) (by ((simp (maxSteps:=2000000) only [go_sem,↓reduceIte,reduceCtorEq,Nat.reduceLeDiff,Nat.reduceLT,Nat.reduceBEq,Nat.reduceAdd]);rfl)) rfl rfl rfl ?_ ?_)
  refine q_G (ι := { p : Nat × List Int // 2 * p.1 ≤ xs.length + 1 ∧ p.2.length = xs.length ∧ ∀ k, k < xs.length → p.2.getD k 0 = if k < p.1 ∨ xs.length - p.1 ≤ k then xs.getD (xs.length - 1 - k) 0 else xs.getD k 0 })
    (fun p => ⟨28, [(0, .bw 0 0 xs.length), (2, .c (.i .i64 (p.1.1 : Nat))), (3, .c (.i .i64 ((xs.length : Int) - 1 - (p.1.1 : Nat))))], ⟨[], [], [(0, ⟨3, .ints .i64 p.1.2⟩)]⟩, 0⟩) (fun p => xs.length + 1 - 2 * p.1.1) ⟨(0, xs), by simp, rfl, fun k hk => by simp only [Nat.not_lt_zero, Nat.sub_zero, false_or]; rw [if_neg (by omega)]⟩ ?_ ?_
  · exact q_D
  rintro ⟨⟨i, c⟩, g1, g2, g3⟩
  simp only at g1 g2 g3 ⊢
  have e1 : ((xs.length : Int) - 1 - (i : Int)).toNat = xs.length - 1 - i := by omega
  repeat' (first|(with_reducible first|apply q_a|apply q_b|apply q_c|apply q_d|apply q_e|apply q_f|apply q_g|apply q_h|apply q_i|apply q_j|apply q_k|apply q_m|apply q_n|apply q_o|apply q_p|refine q_l ?_)|((with_reducible first|refine q_q cf0_ok fun K hK=>?_|refine q_r cf0_ok fun K hK=>?_);simp (maxSteps:=2000000) only [go_sem,↓reduceIte,reduceCtorEq,Nat.reduceLeDiff,Nat.reduceLT,Nat.reduceBEq,Nat.reduceAdd];(repeat1' with_reducible first|apply And.intro|(intro _;try exact q_v)|(refine hK _ ?_;clear hK K))<;>(try (clear hK K;exact q_u)))|(with_reducible refine q_s ?_;(first|apply q_J|apply q_K|apply q_L|apply q_M|apply q_N|apply q_O)<;>try (intro _;try exact q_v))|with_reducible refine endsW_ret (by ((simp only [go_sem,↓reduceIte,reduceCtorEq,Nat.reduceLeDiff,Nat.reduceLT,Nat.reduceBEq,Nat.reduceAdd,ressO,resO,argsC]);rfl)) (by ((simp (maxSteps:=2000000) only [go_sem,↓reduceIte,reduceCtorEq,Nat.reduceLeDiff,Nat.reduceLT,Nat.reduceBEq,Nat.reduceAdd]);rfl)) rfl rfl rfl ?_ ?_)
  · rename_i h
    rw [e1]
    refine q_F ⟨(i + 1, (c.set i (c.getD (xs.length - 1 - i) 0)).set (xs.length - 1 - i) (c.getD i 0)), by simp only; omega, by simp [g2], ?_⟩ ?_ (by simp only; omega)
    · intro k hk
      simp only
      have hij : xs.length - 1 - i ≠ i := by omega
      by_cases hk1 : k = xs.length - 1 - i
      · subst hk1
        rw [getD_set_self _ _ _ (by simp; omega), g3 i (by omega), if_neg (by omega), if_pos (by omega)]
        congr 1; omega
      · rw [NatL.getD_set_ne _ _ _ _ (fun e => hk1 e.symm)]
        by_cases hk2 : k = i
        · subst hk2
          rw [getD_set_self _ _ _ (by omega), g3 (xs.length - 1 - k) (by omega), if_neg (by omega), if_pos (by omega)]
        · rw [NatL.getD_set_ne _ _ _ _ (fun e => hk2 e.symm), g3 k hk]
          by_cases h3 : k < i ∨ xs.length - i ≤ k
          · rw [if_pos h3, if_pos (by omega)]
          · rw [if_neg h3, if_neg (by omega)]
    · exact q_D
  · rename_i h
    refine endsW_n rfl rfl rfl rfl rfl rfl ?_
    congr 1
    refine List.ext_getElem (by simp [g2]) fun k h1 h2 => ?_
    have := g3 k (by omega)
    rw [getD_eq _ _ h1] at this
    rw [this, List.getElem_reverse, ← getD_eq _ _ (by omega)]
    split
    · rfl
    · congr 1; omega

def reverseCT : CT := mkCTW [] 3 fun con lo len l K => match con, l with
  | .ints .i64 xs, [] => (lo = 0 ∧ len = xs.length ∧ xs.length ≤ 16777216) ∧ K (.ints .i64 xs.reverse) []
  | _, _ => False
def ck2 : Cfg := addT 169 reverseCT ck1
theorem ck2_ok : TblOk Try.prog ck2 := mkCTW_ok ck1_ok (q_C Try.func169 (by kernel_rfl) (by kernel_rfl)) rfl fun con lo len al K h => by
  split at h
  · rename_i xs
    obtain ⟨⟨rfl, rfl, h1⟩, h⟩ := h
    exact ⟨0, xs.length, _, _, rfl, rfl, reverse_ret xs h1, h⟩
  · exact h.elim
attribute [go_sem] reverseCT

end Go.Proofs.Ytneecniebhhhlaa
