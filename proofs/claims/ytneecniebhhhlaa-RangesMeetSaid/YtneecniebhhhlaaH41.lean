import Derived.Test.YtneecniebhhhlaaH25
import Derived.Test.YtneecniebhhhlaaH34
namespace Go.Proofs.Ytneecniebhhhlaa
set_option linter.unusedSimpArgs false
set_option linter.unusedVariables false
open Go.Abs Go.Proofs.NatL

def pRi (n : Nat) (a m : Int) : Prop := 0 ≤ a ∧ 0 < m ∧ m.toNat < n ∧ Nat.gcd a.natAbs m.natAbs = 1 ∧ (dg 65536 a.natAbs).length ≤ 300 ∧ (dg 65536 m.natAbs).length ≤ 300
def isI (a m : Int) (i : Nat) : Prop := (i : Int) < m ∧ ∃ k : Int, a * i = 1 + m * k
def rinvCT (n : Nat) : CT := mkCT [nR, nR] false fun l K => match l with
  | [.inr [.b s, .ints .i64 xs], .inr [.b t, .ints .i64 ys]] => ((InB 65536 xs ∧ Trd xs ∧ InB 65536 ys ∧ Trd ys) ∧ pRi n (sv 65536 s xs) (sv 65536 t ys)) ∧ ∀ i : Nat, isI (sv 65536 s xs) (sv 65536 t ys) i → K (.g (gR (i : Int)))
  | _ => False
theorem isI_ex {n : Nat} {a m : Int} (h : pRi n a m) : ∃ i, isI a m i := by
  obtain ⟨h0, h1, _, hg, _⟩ := h
  obtain ⟨i, hi, k, hk⟩ := inv_ex a.toNat m.toNat (by omega) (by rw [show a.toNat = a.natAbs by omega, show m.toNat = m.natAbs by omega]; exact hg)
  exact ⟨i, by omega, k, by rw [Int.toNat_of_nonneg h0, Int.toNat_of_nonneg (by omega)] at hk; exact hk⟩
theorem isI_unique {a m : Int} {i j : Nat} (h0 : 0 ≤ a) (h1 : 0 < m) (hi : isI a m i) (hj : isI a m j) : i = j := by
  obtain ⟨x, rfl⟩ : ∃ x : Nat, a = x := ⟨a.toNat, by omega⟩
  obtain ⟨y, rfl⟩ : ∃ y : Nat, m = y := ⟨m.toNat, by omega⟩
  have q1 := hi.1
  have q2 := hj.1
  exact inv_unique (by omega) (by omega) hi.2 hj.2
theorem gRz_of' {t : Bool} {ys : List Int} (h1 : InB 65536 ys) (h2 : Trd ys) : gRz (sv 65536 t ys) t = [.b t, .ints .i64 ys] := by
  obtain ⟨e1, e2⟩ := sv_ys (s := t) h1 h2
  rw [e2, gRz_eq, ← e1]
def rivB (n : Nat) : Cfg := addT 151 (rinvCT n) rj6
theorem rivB_ok (n : Nat) (ih : ∀ (a m : Int) (s t : Bool) (i : Nat), pRi n a m → isI a m i → Ret Try.prog 151 false [.inr (gRz a s), .inr (gRz m t)] (.g (gR (i : Int)))) : TblOk Try.prog (rivB n) := q_I rj6_ok Try.func151 fun l K h => by
  split at h
  · rename_i s xs t ys
    obtain ⟨⟨⟨b1, t1, b2, t2⟩, hp⟩, h⟩ := h
    obtain ⟨i, hi⟩ := isI_ex hp
    have := ih _ _ s t i hp hi
    rw [gRz_of' b1 t1, gRz_of' b2 t2] at this
    exact ⟨_, this, h i hi⟩
  · exact h.elim
def rivT (n : Nat) : Cfg := listT [(44, floorDCT), (58, (rI2CT 4194304 ordF)), (53, numberCT), (60, iminusCT), (66, (rI2CT 1048576 mulF)), (72, plusDCT), (151, rinvCT n)] [28]
theorem rivT_ok (n : Nat) (hb : TblOk Try.prog (rivB n)) : TblOk Try.prog (rivT n) := listE_ok (by simp only [List.mem_singleton, forall_eq]; exact flt)
  ⟨⟨rj3, rj3_ok, rfl⟩, ⟨jt12, jt12_ok, rfl⟩, ⟨jt12, jt12_ok, rfl⟩, ⟨jt12, jt12_ok, rfl⟩, ⟨jt12, jt12_ok, rfl⟩, ⟨rj3, rj3_ok, rfl⟩, ⟨rivB n, hb, rfl⟩, trivial⟩
attribute [go_sem] rivT rinvCT
theorem cz_eq' (a b : Int) : cmpZ a b = 0 ↔ a = b := by unfold cmpZ; (repeat' split) <;> omega
theorem ri_math {a m r : Int} {y0 : Nat} (hr : a.fmod m = r) (h1 : 1 < r) (h2 : r < m) (hy : isI m r y0) :
    (0 ≤ (-(y0 : Int)).fmod r ∧ (-(y0 : Int)).fmod r < r) ∧ 0 ≤ (m * (-(y0 : Int)).fmod r + 1).fdiv r ∧ isI a m ((m * (-(y0 : Int)).fmod r + 1).fdiv r).toNat ∧ (m * (-(y0 : Int)).fmod r + 1).fdiv r ≠ 0 := by
  obtain ⟨y1, k, hk⟩ := hy
  have e0 := Int.fmod_add_mul_fdiv a m
  rw [hr] at e0
  have f1 := (Int.fdiv_fmod_unique (a := -(y0 : Int)) (b := r) (by omega)).1 ⟨rfl, rfl⟩
  generalize hq : (-(y0 : Int)).fdiv r = q at *
  generalize hY : (-(y0 : Int)).fmod r = y at *
  obtain ⟨f1, f2, f3⟩ := f1
  -- m * y + 1 is a multiple of r
  have hx : m * y + 1 = r * (-k - m * q) := by
    have : m * y = m * (-(y0 : Int)) - m * (r * q) := by rw [← Int.mul_sub]; congr 1; omega
    rw [this, Int.mul_neg, hk, Int.mul_sub, Int.mul_neg, Int.mul_left_comm]; omega
  have hd : (m * y + 1).fdiv r = -k - m * q := by
    rw [hx]
    exact Int.mul_fdiv_cancel_left _ (by omega)
  rw [hd]
  generalize -k - m * q = x at *
  have hmy : 0 ≤ m * y := Int.mul_nonneg (by omega) f2
  have hx0 : 0 < x := by
    rcases Int.lt_or_le 0 x with h | h
    · exact h
    · have := Int.mul_nonpos_of_nonneg_of_nonpos (show 0 ≤ r by omega) h
      omega
  have hlt : x < m := by
    rcases Int.lt_or_le x m with h | h
    · exact h
    · have a1 := Int.mul_le_mul_of_nonneg_left h (show 0 ≤ r by omega)
      have a2 : m * y ≤ m * (r - 1) := Int.mul_le_mul_of_nonneg_left (by omega) (by omega)
      rw [Int.mul_sub, Int.mul_one, Int.mul_comm m r] at a2
      omega
  refine ⟨⟨f2, f3⟩, by omega, ⟨by omega, y + a.fdiv m * x, ?_⟩, by omega⟩
  rw [Int.toNat_of_nonneg (by omega)]
  have : a * x = r * x + m * a.fdiv m * x := by rw [← Int.add_mul]; congr 1; omega
  rw [this, ← hx, Int.mul_add, Int.mul_assoc]
  omega
theorem ri_one {a m : Int} {i : Nat} (h0 : 0 ≤ a) (hr : a.fmod m = 1) (hm : 1 < m) (hi : isI a m i) : i = 1 := by
  refine isI_unique h0 (by omega) hi ⟨by omega, a.fdiv m, ?_⟩
  have e0 := Int.fmod_add_mul_fdiv a m
  rw [hr] at e0
  omega
set_option maxRecDepth 100000 in
set_option maxHeartbeats 12800000 in
theorem rinv_step (n : Nat) (hb : TblOk Try.prog (rivT n)) (a m : Int) (s t : Bool) (i : Nat) (h : pRi (n + 1) a m) (hi : isI a m i) :
    Ret Try.prog 151 false [.inr (gRz a s), .inr (gRz m t)] (.g (gR (i : Int))) := by
  obtain ⟨h0, h1, h2, hg, l1, l2⟩ := h
  have hm0 : ¬ m = 0 := by omega
  have f1 := (Int.fdiv_fmod_unique (a := a) (b := m) h1).1 ⟨rfl, rfl⟩
  obtain ⟨fe, f2, f3⟩ := f1
  have hone := @ri_one a m i h0
  have hmath := fun y0 => @ri_math a m (a.fmod m) y0 rfl
  have hgr : Nat.gcd m.natAbs (a.fmod m).natAbs = 1 := by
    rw [← hg]
    obtain ⟨x, rfl⟩ : ∃ x : Nat, a = x := ⟨a.toNat, by omega⟩
    obtain ⟨y, rfl⟩ : ∃ y : Nat, m = y := ⟨m.toNat, by omega⟩
    rw [(fd_nat x y).2]
    simp only [Int.natAbs_natCast]
    rw [Nat.gcd_comm x y, Nat.gcd_rec y x, Nat.gcd_comm]
  generalize hr : a.fmod m = r at *
  have c1 := cz_eq' m 1
  have c2 := cz_eq' r 1
  have q1 := len_i64 (z := 1) (by omega)
  have l3 : (dg 65536 r.natAbs).length ≤ 300 := Nat.le_trans (dg_len_mono (by omega) (by omega)) l2
  have hi1 := hi.1
  by_cases hm : m = 1
  · have hi0 : i = 0 := by omega
    subst hi0
    have c1 := c1.2 hm
    simp only [gRz]
    (refine q_H Try.func151 (fun F => ?_); simp only [q_z,q_y,Try.ntmps151,Try.results151])
    repeat' (first|(with_reducible first|apply q_a|apply q_b|apply q_c|apply q_d|apply q_e|apply q_f|apply q_g|apply q_h|apply q_i|apply q_j|apply q_k|apply q_m|apply q_n|apply q_o|apply q_p|refine q_l ?_)|((with_reducible first|refine q_q hb fun K hK=>?_|refine q_r hb fun K hK=>?_);simp (maxSteps:=2000000) only [go_sem,↓reduceIte,reduceCtorEq,Nat.reduceLeDiff,Nat.reduceLT,Nat.reduceBEq,Nat.reduceAdd,hr, c1];(repeat1' with_reducible first|apply And.intro|(intro _;try exact q_v)|(refine hK _ ?_;clear hK K))<;>(try (clear hK K;exact q_u)))|(with_reducible refine q_s ?_;(first|apply q_J|apply q_K|apply q_L|apply q_M|apply q_N|apply q_O)<;>try (intro _;try exact q_v))|with_reducible refine q_t ?_)
    all_goals first | contradiction | omega | exact q_B [nR] rfl rfl | skip
  · by_cases hr1 : r = 1
    · have c2 := c2.2 hr1
      obtain rfl := hone hr1 (by omega) hi
      have e1 : sgz r t = false := by rw [hr1]; cases t <;> rfl
      simp only [gRz]
      (refine q_H Try.func151 (fun F => ?_); simp only [q_z,q_y,Try.ntmps151,Try.results151])
      repeat' (first|(with_reducible first|apply q_a|apply q_b|apply q_c|apply q_d|apply q_e|apply q_f|apply q_g|apply q_h|apply q_i|apply q_j|apply q_k|apply q_m|apply q_n|apply q_o|apply q_p|refine q_l ?_)|((with_reducible first|refine q_q hb fun K hK=>?_|refine q_r hb fun K hK=>?_);simp (maxSteps:=2000000) only [go_sem,↓reduceIte,reduceCtorEq,Nat.reduceLeDiff,Nat.reduceLT,Nat.reduceBEq,Nat.reduceAdd,hr, c2];(repeat1' with_reducible first|apply And.intro|(intro _;try exact q_v)|(refine hK _ ?_;clear hK K))<;>(try (clear hK K;exact q_u)))|(with_reducible refine q_s ?_;(first|apply q_J|apply q_K|apply q_L|apply q_M|apply q_N|apply q_O)<;>try (intro _;try exact q_v))|with_reducible refine q_t ?_)
      all_goals first | contradiction | omega | exact q_A (by rw [hr1]; rfl) | skip
    · have hr0 : 0 < r := by
        rcases Int.lt_or_le 0 r with h | h
        · exact h
        · have : r = 0 := by omega
          subst this
          simp at hgr
          omega
      have pr : pRi n m r := ⟨by omega, hr0, by omega, hgr, l2, l3⟩
      obtain ⟨y0, hy0⟩ := isI_ex pr
      have hall : ∀ P : Nat → Prop, (∀ j, isI m r j → P j) = P y0 := fun P => propext ⟨fun h => h y0 hy0, fun h j hj => by
        have := isI_unique (by omega) hr0 hj hy0
        subst this; exact h⟩
      obtain ⟨⟨y1, y2⟩, x0, hx, xne⟩ := hmath y0 (by omega) (by omega) hy0
      have hy3 := hy0.1
      have l4 : (dg 65536 (-(y0 : Int)).natAbs).length ≤ 300 := Nat.le_trans (dg_len_mono (by omega) (by omega)) l3
      generalize hY : (-(y0 : Int)).fmod r = y at *
      have l5 : (dg 65536 y.natAbs).length ≤ 300 := Nat.le_trans (dg_len_mono (by omega) (by omega)) l3
      have l6 : (dg 65536 (m * y).natAbs).length ≤ 600 := by
        rw [Int.natAbs_mul]
        exact Nat.le_trans (mul_len (by omega) l2 l5) (by omega)
      have l7 : (dg 65536 (m * y + 1).natAbs).length ≤ 601 := by
        obtain ⟨e, he⟩ : ∃ e, e = 600 := ⟨_, rfl⟩
        have q1 := lt_of_len (B := 65536) (a := (m * y).natAbs) (k := e) (by omega) (by omega)
        have := dg_len_le (B := 65536) (by omega) (m * y + 1).natAbs (e + 1) (by rw [Nat.pow_succ]; omega)
        omega
      have ei : (m * y + 1).fdiv r = (i : Int) := by
        have := isI_unique h0 h1 hi hx
        omega
      rw [ei] at xne
      have ef := fun c => gRz_ne xne c false
      have l8 : (dg 65536 (i : Int).natAbs).length ≤ 300 := Nat.le_trans (dg_len_mono (by omega) (by omega)) l2
      simp only [gRz]
      (refine q_H Try.func151 (fun F => ?_); simp only [q_z,q_y,Try.ntmps151,Try.results151])
      repeat' (first|(with_reducible first|apply q_a|apply q_b|apply q_c|apply q_d|apply q_e|apply q_f|apply q_g|apply q_h|apply q_i|apply q_j|apply q_k|apply q_m|apply q_n|apply q_o|apply q_p|refine q_l ?_)|((with_reducible first|refine q_q hb fun K hK=>?_|refine q_r hb fun K hK=>?_);simp (maxSteps:=2000000) only [go_sem,↓reduceIte,reduceCtorEq,Nat.reduceLeDiff,Nat.reduceLT,Nat.reduceBEq,Nat.reduceAdd,hr, hall, hY, ei];(repeat1' with_reducible first|apply And.intro|(intro _;try exact q_v)|(refine hK _ ?_;clear hK K))<;>(try (clear hK K;exact q_u)))|(with_reducible refine q_s ?_;(first|apply q_J|apply q_K|apply q_L|apply q_M|apply q_N|apply q_O)<;>try (intro _;try exact q_v))|with_reducible refine q_t ?_)
      all_goals first | contradiction | omega | exact pr | exact q_A (congrArg AV.g ((ef _).trans (by simp only [gRz, sgz_false]))) | skip
theorem rinv_ret (n : Nat) : ∀ (a m : Int) (s t : Bool) (i : Nat), pRi n a m → isI a m i → Ret Try.prog 151 false [.inr (gRz a s), .inr (gRz m t)] (.g (gR (i : Int))) := by
  induction n with
  | zero => intro a m s t i h _; exact absurd h.2.2.1 (by omega)
  | succ n ih => intro a m s t i h hi; exact rinv_step n (rivT_ok n (rivB_ok n ih)) a m s t i h hi
def rinvTCT : CT := mkCT [nR, nR] false fun l K => match l with
  | [.inr [.b s, .ints .i64 xs], .inr [.b t, .ints .i64 ys]] => ((InB 65536 xs ∧ Trd xs ∧ InB 65536 ys ∧ Trd ys) ∧ pRi ((sv 65536 t ys).toNat + 1) (sv 65536 s xs) (sv 65536 t ys)) ∧ ∀ i : Nat, isI (sv 65536 s xs) (sv 65536 t ys) i → K (.g (gR (i : Int)))
  | _ => False
def rj8 : Cfg := addT 151 rinvTCT rj6
theorem rj8_ok : TblOk Try.prog rj8 := q_I rj6_ok Try.func151 fun l K h => by
  split at h
  · rename_i s xs t ys
    obtain ⟨⟨⟨b1, t1, b2, t2⟩, hp⟩, h⟩ := h
    obtain ⟨i, hi⟩ := isI_ex hp
    have := rinv_ret _ _ _ s t i hp hi
    rw [gRz_of' b1 t1, gRz_of' b2 t2] at this
    exact ⟨_, this, h i hi⟩
  · exact h.elim
attribute [go_sem] rinvTCT
end Go.Proofs.Ytneecniebhhhlaa
