import Derived.Test.YtneecniebhhhlaaH19
import Derived.Test.YtneecniebhhhlaaH24
namespace Go.Proofs.NatL
set_option linter.unusedSimpArgs false
set_option linter.unusedVariables false
structure Eu (a m : Nat) where
  s : Bool
  u : Nat
  v : Nat
  hi : Nat
  lo : Nat
  g : Nat.gcd hi lo = 1
  pos : 0 < hi
  sz : u * lo + v * hi = m
  him : hi ≤ m
  lom : lo ≤ m
  um : u ≤ m
  e1 : ∃ k : Int, (a : Int) * sg s u = hi + m * k
  e2 : ∃ k : Int, (a : Int) * sg (!s) v = lo + m * k
theorem Eu.v_le {a m : Nat} (e : Eu a m) : e.v ≤ m := by
  have h := e.sz
  have := Nat.le_mul_of_pos_right e.v e.pos
  omega
theorem Eu.next_sz {a m : Nat} (e : Eu a m) (h0 : 0 < e.lo) : e.v * (e.hi % e.lo) + (e.u + e.hi / e.lo * e.v) * e.lo = m := by
  have h := e.sz
  have hd := Nat.div_add_mod e.hi e.lo
  rw [← hd, Nat.mul_add] at h
  rw [Nat.add_mul, Nat.mul_right_comm]
  have e1 : e.v * (e.lo * (e.hi / e.lo)) = e.hi / e.lo * e.lo * e.v := by rw [Nat.mul_comm e.v, Nat.mul_comm e.lo]
  omega
theorem eu_not (s : Bool) (n : Nat) : sg (!s) n = -sg s n := by cases s <;> simp [sg]
theorem eu_add (s : Bool) (m n : Nat) : sg s (m + n) = sg s m + sg s n := by cases s <;> simp [sg] <;> omega
theorem eu_mul (s : Bool) (m n : Nat) : sg s (m * n) = (m : Int) * sg s n := by cases s <;> simp [sg, Int.mul_neg]
def Eu.next {a m : Nat} (e : Eu a m) (h0 : 0 < e.lo) : Eu a m where
  s := !e.s
  u := e.v
  v := e.u + e.hi / e.lo * e.v
  hi := e.lo
  lo := e.hi % e.lo
  g := by have := e.g; rw [Nat.gcd_comm, Nat.gcd_rec] at this; rw [Nat.gcd_comm]; exact this
  pos := h0
  sz := e.next_sz h0
  him := e.lom
  lom := Nat.le_trans (Nat.le_of_lt (Nat.mod_lt _ h0)) e.lom
  um := e.v_le
  e1 := e.e2
  e2 := by
    obtain ⟨k, hk⟩ := e.e1
    obtain ⟨l, hl⟩ := e.e2
    refine ⟨k - (e.hi / e.lo : Nat) * l, ?_⟩
    rw [Bool.not_not, eu_add, eu_mul, Int.mul_add, hk]
    have h1 : (a : Int) * (((e.hi / e.lo : Nat) : Int) * sg e.s e.v) = -(((e.hi / e.lo : Nat) : Int) * (e.lo + m * l)) := by
      rw [← hl, eu_not, Int.mul_left_comm, Int.mul_neg, Int.mul_neg, Int.neg_neg]
    rw [h1]
    have hd := Nat.div_add_mod e.hi e.lo
    have hd2 : (e.hi : Int) = e.lo * ((e.hi / e.lo : Nat) : Int) + ((e.hi % e.lo : Nat) : Int) := by
      have := congrArg (fun n : Nat => (n : Int)) hd
      simp only [Int.natCast_add, Int.natCast_mul] at this
      exact this.symm
    rw [hd2, Int.mul_add, Int.mul_sub]
    generalize ((e.hi / e.lo : Nat) : Int) = q
    generalize ((e.hi % e.lo : Nat) : Int) = r
    have c1 : (e.lo : Int) * q = q * e.lo := Int.mul_comm _ _
    have c2 : (m : Int) * (q * l) = q * (m * l) := Int.mul_left_comm _ _ _
    rw [c1, c2]
    generalize q * (e.lo : Int) = p1
    generalize q * ((m : Int) * l) = p2
    omega
def Eu.start (a m : Nat) (hm : 0 < m) (hg : Nat.gcd a m = 1) : Eu a m where
  s := true
  u := 0
  v := 1
  hi := m
  lo := a % m
  g := by rw [Nat.gcd_comm a m, Nat.gcd_rec] at hg; rw [Nat.gcd_comm]; exact hg
  pos := hm
  sz := by omega
  him := Nat.le_refl _
  lom := Nat.le_of_lt (Nat.mod_lt _ hm)
  um := Nat.zero_le _
  e1 := ⟨-1, by simp [sg]; omega⟩
  e2 := ⟨((a / m : Nat) : Int), by
    have h := Nat.div_add_mod a m
    have h2 := congrArg (fun n : Nat => (n : Int)) h
    simp only [Int.natCast_add, Int.natCast_mul] at h2
    simp only [sg, Bool.not_true, Bool.false_eq_true, if_false]
    generalize (m : Int) * ((a / m : Nat) : Int) = p at *
    omega⟩
theorem Eu.ends {a m : Nat} : ∀ n (e : Eu a m), e.lo = n → ∃ e' : Eu a m, e'.lo = 0 := by
  intro n
  induction n using Nat.strongRecOn with
  | _ n ih =>
    intro e he
    by_cases h0 : e.lo = 0
    · exact ⟨e, h0⟩
    · have hp : 0 < e.lo := by omega
      exact ih (e.next hp).lo (by have := Nat.mod_lt e.hi hp; show e.hi % e.lo < n; omega) (e.next hp) rfl
theorem Eu.inv {a m : Nat} (hm : 0 < m) (e : Eu a m) (h0 : e.lo = 0) : ∃ k : Int, (a : Int) * (sg e.s e.u % m) = 1 + m * k := by
  have hg := e.g
  rw [h0, Nat.gcd_zero_right] at hg
  obtain ⟨k, hk⟩ := e.e1
  rw [hg] at hk
  have hd := Int.mul_ediv_add_emod (sg e.s e.u) m
  refine ⟨k - a * (sg e.s e.u / m), ?_⟩
  have : sg e.s e.u % m = sg e.s e.u - m * (sg e.s e.u / m) := by omega
  rw [this, Int.mul_sub, hk, Int.mul_sub, Int.mul_left_comm]
  omega
theorem inv_unique {a m i j : Nat} (hi : i < m) (hj : j < m) (h1 : ∃ k : Int, (a : Int) * i = 1 + m * k) (h2 : ∃ k : Int, (a : Int) * j = 1 + m * k) : i = j := by
  obtain ⟨k, hk⟩ := h1
  obtain ⟨l, hl⟩ := h2
  have e : (i : Int) = j + m * (k * j - l * i) := by
    have e1 : (i : Int) * (a * j) = j * (a * i) := by rw [Int.mul_left_comm, Int.mul_left_comm (j : Int), Int.mul_comm (i : Int) j]
    rw [hl, hk, Int.mul_add, Int.mul_add, Int.mul_one, Int.mul_one, Int.mul_left_comm (i : Int), Int.mul_left_comm (j : Int)] at e1
    rw [Int.mul_sub, Int.mul_comm k, Int.mul_comm l]
    omega
  have h := congrArg (fun x : Int => x % m) e
  simp only [Int.add_mul_emod_self_left] at h
  rw [Int.emod_eq_of_lt (by omega) (by omega), Int.emod_eq_of_lt (by omega) (by omega)] at h
  omega
theorem inv_ex (a m : Nat) (hm : 0 < m) (hg : Nat.gcd a m = 1) : ∃ i : Nat, i < m ∧ ∃ k : Int, (a : Int) * i = 1 + m * k := by
  obtain ⟨e, h0⟩ := Eu.ends _ (Eu.start a m hm hg) rfl
  have h1 := Int.emod_nonneg (sg e.s e.u) (show (m : Int) ≠ 0 by omega)
  have h2 := Int.emod_lt_of_pos (sg e.s e.u) (show (0 : Int) < m by omega)
  obtain ⟨k, hk⟩ := e.inv hm h0
  refine ⟨(sg e.s e.u % m).toNat, by omega, k, ?_⟩
  rw [Int.toNat_of_nonneg h1]; exact hk
end Go.Proofs.NatL
namespace Go.Proofs.Ytneecniebhhhlaa
set_option linter.unusedSimpArgs false
set_option linter.unusedVariables false
open Go.Abs Go.Proofs.NatL

def rv1 : Cfg := listT [(28, iOfCT), (146, (rg2CT (fun a b => FB (a - b)) sub_R)), (147, (rg2CT (fun a b => FB (a * b)) mul_R)), (144, (rg2CT (fun _ b => b ≠ 0) dmR)), (139, zeroRCT)] [28]
theorem rv1_ok : TblOk Try.prog rv1 := listE_ok (by simp only [List.mem_singleton, forall_eq]; exact flt) ⟨⟨iu1, iu1_ok, rfl⟩, ⟨rc2, rc2_ok, rfl⟩, ⟨rc2, rc2_ok, rfl⟩, ⟨rc2, rc2_ok, rfl⟩, ⟨rc2, rc2_ok, rfl⟩, trivial⟩
attribute [go_sem] rv1
theorem zero_len' (z : Int) : decide (((dg 4294967296 z.natAbs).length : Int) = 0) = decide (z = 0) := by
  have := dg_len_pos 4294967296 z.natAbs (by omega)
  congr 1; apply propext; omega
theorem fd_nat (a b : Nat) : (a : Int).fdiv b = ((a / b : Nat) : Int) ∧ (a : Int).fmod b = ((a % b : Nat) : Int) := ⟨by rw [Int.fdiv_eq_ediv_of_nonneg _ (by omega)]; rfl, by rw [Int.fmod_eq_emod_of_nonneg _ (by omega)]; rfl⟩
set_option maxRecDepth 100000 in
set_option maxHeartbeats 6400000 in
theorem inverse_ret (a m i : Nat) (hm : 0 < m) (hg : Nat.gcd a m = 1) (ha : a ≤ 100 * W80) (hb : m ≤ 100 * W80) (hi : i < m) (hk : ∃ k : Int, (a : Int) * i = 1 + m * k) :
    Ret Try.prog 175 false [.inr (gI a), .inr (gI m)] (.g (gI i)) := by
  have hw := W80_ge
  have fa : FB (a : Int) := FB_w (by omega)
  have fm : FB (m : Int) := FB_w (by omega)
  have hm0 : ¬ (m : Int) = 0 := by omega
  obtain ⟨d1, d2⟩ := fd_nat a m
  simp only [gI]
  (refine q_H Try.func175 (fun F => ?_); simp only [q_z,q_y,Try.ntmps175,Try.results175])
  repeat' (first|(with_reducible first|apply q_a|apply q_b|apply q_c|apply q_d|apply q_e|apply q_f|apply q_g|apply q_h|apply q_i|apply q_j|apply q_k|apply q_m|apply q_n|apply q_o|apply q_p|refine q_l ?_)|((with_reducible first|refine q_q rv1_ok fun K hK=>?_|refine q_r rv1_ok fun K hK=>?_);simp (maxSteps:=2000000) only [go_sem,↓reduceIte,reduceCtorEq,Nat.reduceLeDiff,Nat.reduceLT,Nat.reduceBEq,Nat.reduceAdd,d1, d2];(repeat1' with_reducible first|apply And.intro|(intro _;try exact q_v)|(refine hK _ ?_;clear hK K))<;>(try (clear hK K;exact q_u)))|(with_reducible refine q_s ?_;(first|apply q_J|apply q_K|apply q_L|apply q_M|apply q_N|apply q_O)<;>try (intro _;try exact q_v))|with_reducible refine q_t ?_)
  all_goals try omega
  refine q_G (ι := Eu a m) (fun e => ⟨45, [(3, .bx 1 0), (4, .bx 2 0), (5, .bx 3 0), (6, .bx 4 0), (7, .bx 5 0), (9, .bx 7 0)], ⟨[(7, [.c (.b (decide ((e.lo : Int) < 0))), .c (.ints .u32 (dg 4294967296 (e.lo : Int).natAbs))]), (5, [.c (.b (decide ((e.hi : Int) < 0))), .c (.ints .u32 (dg 4294967296 (e.hi : Int).natAbs))]), (4, [.c (.b (decide (sg (!e.s) e.v < 0))), .c (.ints .u32 (dg 4294967296 (sg (!e.s) e.v).natAbs))]), (3, [.c (.b (decide (sg e.s e.u < 0))), .c (.ints .u32 (dg 4294967296 (sg e.s e.u).natAbs))]), (2, [.c (.b false), .c .nil]), (1, [.c (.b (decide ((m : Int) < 0))), .c (.ints .u32 (dg 4294967296 (m : Int).natAbs))])], [], []⟩, 8⟩) (fun e => e.lo) (Eu.start a m hm hg) ?_ ?_
  · have z1 : sg true 0 = 0 := rfl
    have z2 : sg false 1 = 1 := rfl
    have z3 : dg 4294967296 (0 : Int).natAbs = [] := rfl
    simp only [Eu.start, Bool.not_true, z1, z2, z3]
    ((simp only [go_sem,↓reduceIte,reduceCtorEq,Nat.reduceLeDiff,Nat.reduceLT,Nat.reduceBEq,Nat.reduceAdd])<;>(try (simp;done))<;>(try ((simp only [C.i.injEq,C.b.injEq,C.ints.injEq,C.bools.injEq,List.append_cancel_left_eq,List.cons.injEq,true_and,and_true]);(repeat' with_reducible apply And.intro)<;>(first|rfl|assumption|omega|(simp;omega)|(congr 1;omega)|(congr 2;omega)))))
  intro e
  have hv := e.v_le
  have hzl := zero_len' (e.lo : Int)
  have fv : FB (sg (!e.s) e.v) := FB_w (by have : (sg (!e.s) e.v).natAbs = e.v := sg_abs _ _; omega)
  have hhi := e.him
  have hlo := e.lom
  have hum := e.um
  have fh : FB (e.hi : Int) := FB_w (by omega)
  obtain ⟨d3, d4⟩ := fd_nat e.hi e.lo
  by_cases h0 : e.lo = 0
  · have h00 : (e.lo : Int) = 0 := by omega
    have hu : FB (sg e.s e.u) := FB_w (by have : (sg e.s e.u).natAbs = e.u := sg_abs _ _; omega)
    have hr : (sg e.s e.u).fmod m = i := by
      rw [Int.fmod_eq_emod_of_nonneg _ (by omega)]
      have h1 := Int.emod_nonneg (sg e.s e.u) (show (m : Int) ≠ 0 by omega)
      have h2 := Int.emod_lt_of_pos (sg e.s e.u) (show (0 : Int) < m by omega)
      obtain ⟨k, hk2⟩ := e.inv hm h0
      have := inv_unique (a := a) (m := m) (i := (sg e.s e.u % m).toNat) (j := i) (by omega) hi ⟨k, by rw [Int.toNat_of_nonneg h1]; exact hk2⟩ hk
      omega
    repeat' (first|(with_reducible first|apply q_a|apply q_b|apply q_c|apply q_d|apply q_e|apply q_f|apply q_g|apply q_h|apply q_i|apply q_j|apply q_k|apply q_m|apply q_n|apply q_o|apply q_p|refine q_l ?_)|((with_reducible first|refine q_q rv1_ok fun K hK=>?_|refine q_r rv1_ok fun K hK=>?_);simp (maxSteps:=2000000) only [go_sem,↓reduceIte,reduceCtorEq,Nat.reduceLeDiff,Nat.reduceLT,Nat.reduceBEq,Nat.reduceAdd,hzl, h00, hr];(repeat1' with_reducible first|apply And.intro|(intro _;try exact q_v)|(refine hK _ ?_;clear hK K))<;>(try (clear hK K;exact q_u)))|(with_reducible refine q_s ?_;(first|apply q_J|apply q_K|apply q_L|apply q_M|apply q_N|apply q_O)<;>try (intro _;try exact q_v))|with_reducible refine q_t ?_)
    all_goals first | contradiction | omega | exact q_A rfl
  · have hp : 0 < e.lo := by omega
    have h00 : ¬ (e.lo : Int) = 0 := by omega
    have fl : FB (e.lo : Int) := FB_w (by omega)
    have hnv := (e.next hp).v_le
    have hnv2 : (e.next hp).v = e.u + e.hi / e.lo * e.v := rfl
    have hdl : e.hi / e.lo ≤ e.hi := Nat.div_le_self _ _
    have f1 : FB (((e.hi / e.lo : Nat) : Int) * sg (!e.s) e.v) := FB_w (by
      have h1 : (((e.hi / e.lo : Nat) : Int) * sg (!e.s) e.v).natAbs = e.hi / e.lo * e.v := by rw [← eu_mul, sg_abs]
      rw [h1]; omega)
    have e3 : sg e.s e.u - ((e.hi / e.lo : Nat) : Int) * sg (!e.s) e.v = sg (!(e.next hp).s) (e.next hp).v := by
      show _ = sg (!!e.s) (e.u + e.hi / e.lo * e.v)
      rw [Bool.not_not, eu_add, eu_mul, eu_not, Int.mul_neg]; omega
    have f2 : FB (sg e.s e.u - ((e.hi / e.lo : Nat) : Int) * sg (!e.s) e.v) := FB_w (by rw [e3, sg_abs]; exact Nat.le_trans hnv (by omega))
    have f3 : FB (sg e.s e.u) := FB_w (by rw [sg_abs]; omega)
    have f4 : FB ((e.hi / e.lo : Nat) : Int) := FB_w (by rw [Int.natAbs_natCast]; generalize e.hi / e.lo = d at *; omega)
    repeat' (first|(with_reducible first|apply q_a|apply q_b|apply q_c|apply q_d|apply q_e|apply q_f|apply q_g|apply q_h|apply q_i|apply q_j|apply q_k|apply q_m|apply q_n|apply q_o|apply q_p|refine q_l ?_)|((with_reducible first|refine q_q rv1_ok fun K hK=>?_|refine q_r rv1_ok fun K hK=>?_);simp (maxSteps:=2000000) only [go_sem,↓reduceIte,reduceCtorEq,Nat.reduceLeDiff,Nat.reduceLT,Nat.reduceBEq,Nat.reduceAdd,hzl, h00, d3, d4];(repeat1' with_reducible first|apply And.intro|(intro _;try exact q_v)|(refine hK _ ?_;clear hK K))<;>(try (clear hK K;exact q_u)))|(with_reducible refine q_s ?_;(first|apply q_J|apply q_K|apply q_L|apply q_M|apply q_N|apply q_O)<;>try (intro _;try exact q_v))|with_reducible refine q_t ?_)
    all_goals first | contradiction | omega | skip
    all_goals
      refine q_F (e.next hp) ?_ (Nat.mod_lt _ hp)
      rw [e3]
      exact q_D
def pInv (a m : Int) : Prop := 0 ≤ a ∧ 0 < m ∧ a.natAbs ≤ 100 * W80 ∧ m.natAbs ≤ 100 * W80 ∧ Nat.gcd a.natAbs m.natAbs = 1
def inverseCT : CT := mkCT [nP, nP] false fun l K => match l with
  | [.inr [.b s, .ints .u32 xs], .inr [.b t, .ints .u32 ys]] => (Nrm s xs ∧ Nrm t ys ∧ pInv (sv 4294967296 s xs) (sv 4294967296 t ys)) ∧
      (∀ i : Nat, (i : Int) < sv 4294967296 t ys → (∃ k : Int, sv 4294967296 s xs * i = 1 + sv 4294967296 t ys * k) → K (.g (gI i)))
  | _ => False
def rz1 : Cfg := addT 175 inverseCT rc2
theorem rz1_ok : TblOk Try.prog rz1 := q_I rc2_ok Try.func175 fun l K h => by
  split at h
  · rename_i s xs t ys
    obtain ⟨⟨n1, n2, p1, p2, p3, p4, p5⟩, h⟩ := h
    rw [gI_nrm n1, gI_nrm n2]
    generalize sv 4294967296 s xs = a at *
    generalize sv 4294967296 t ys = m at *
    obtain ⟨a, rfl⟩ : ∃ n : Nat, a = n := ⟨a.toNat, by omega⟩
    obtain ⟨m, rfl⟩ : ∃ n : Nat, m = n := ⟨m.toNat, by omega⟩
    simp only [Int.natAbs_natCast] at p3 p4 p5
    obtain ⟨i, hi, hk⟩ := inv_ex a m (by omega) p5
    exact ⟨_, inverse_ret a m i (by omega) p5 p3 p4 hi hk, h i (by omega) hk⟩
  · exact h.elim
attribute [go_sem] inverseCT
end Go.Proofs.Ytneecniebhhhlaa

namespace Go.Proofs.NatL
set_option linter.unusedSimpArgs false
set_option linter.unusedVariables false
def smallZ (a : Int) : Bool := decide (-9223372036854775808 ≤ a ∧ a ≤ 9223372036854775807)
def smV (a : Int) : Int := if smallZ a then a else 0
def smC (a : Int) : Int := if smallZ a then 0 else 14
def smI (a : Int) : Int := if smallZ a then 0 else -1
end Go.Proofs.NatL
namespace Go.Proofs.Ytneecniebhhhlaa
set_option linter.unusedSimpArgs false
set_option linter.unusedVariables false
open Go.Abs Go.Proofs.NatL
def ismallCT : CT := mkCT [nP] true fun l K => match l with
  | [.inr [.b s, .ints .u32 xs]] => (okZ s xs = true ∧ InB 4294967296 xs) ∧ K (.t [.inl (.i .i64 (smV (sv 4294967296 s xs))), .inr [.i .i64 (smC (sv 4294967296 s xs)), .i .i64 (smI (sv 4294967296 s xs))]])
  | _ => False
attribute [go_sem] ismallCT

end Go.Proofs.Ytneecniebhhhlaa

namespace Go.Proofs.NatL
set_option linter.unusedSimpArgs false
set_option linter.unusedVariables false
def bnd (z lo hi : Int) : Int := min (max z lo) hi
def enda (z n lo hi : Int) : Int := bnd (if bnd z (-n - 1) n < 0 then bnd z (-n - 1) n + n else bnd z (-n - 1) n) lo hi
end Go.Proofs.NatL

namespace Go.Proofs.Ytneecniebhhhlaa
set_option linter.unusedSimpArgs false
set_option linter.unusedVariables false
open Go.Abs Go.Proofs.NatL

def ismCT : CT := mkCT [nP] true fun l K => match l with
  | [.inr [.b s, .ints .u32 xs]] => (okZ s xs = true ∧ InB 4294967296 xs) ∧ K (.t [.inl (.i .i64 (smV (sv 4294967296 s xs))), .inr [.i .i64 (smC (sv 4294967296 s xs)), .i .i64 (smI (sv 4294967296 s xs))]])
  | _ => False
theorem gI_of {s : Bool} {xs : List Int} (h1 : okZ s xs = true) (h2 : InB 4294967296 xs) : [.b s, .ints .u32 xs] = gI (sv 4294967296 s xs) ∧ (dg 4294967296 (sv 4294967296 s xs).natAbs).length ≤ 128 := by
  obtain ⟨a1, a2, a3⟩ := okZ_eq h1 h2
  exact ⟨by rw [gI, ← a1, ← a2], by rw [← a2]; exact a3⟩
attribute [go_sem] ismCT sv32d okZ_g
def sb1 : Cfg := listT [(54, ismCT), (52, ivalidCT), (94, atCT)] [28]
attribute [go_sem] sb1

def boundedCT : CT := mkCT [nP] true fun l K => match l with
  | [.inr [.b s, .ints .u32 xs], .inl (.i .i64 lo), .inl (.i .i64 hi)] => ((okZ s xs = true ∧ InB 4294967296 xs) ∧ -9223372036854775808 ≤ lo ∧ lo ≤ hi ∧ hi ≤ 9223372036854775807) ∧ K (.c (.i .i64 (bnd (sv 4294967296 s xs) lo hi)))
  | _ => False
attribute [go_sem] boundedCT
def prt (s : Bool) (xs : List Int) (g : Bool) : Bool := okZ s xs && (g || decide (xs.length = 0))
def partCT : CT := mkCT [nP] true fun l K => match l with
  | [.inr [.b s, .ints .u32 xs], .inl (.b g)] => xs.length ≤ 140737488355328 ∧ K (.c (.b (prt s xs g)))
  | _ => False
attribute [go_sem] partCT
def sb2 : Cfg := listT [(95, boundedCT), (97, partCT), (94, atCT)] [28]
attribute [go_sem] sb2
def slF (p0 p1 p2 g2 : Bool) (n : Nat) : Int := if p0 = true ∧ p1 = true ∧ p2 = true then (if g2 = true ∧ n = 0 then 22 else 0) else 6
def slI (p0 p1 p2 g2 : Bool) (n : Nat) : Int := if slF p0 p1 p2 g2 n = 0 then 0 else -1
def chkCT : CT := mkCT [.inr [none, some (.ints .u32 []), none, some (.ints .u32 []), none, some (.ints .u32 []), none, none, none]] true fun l K => match l with
  | [.inr [.b s0, .ints .u32 x0, .b s1, .ints .u32 x1, .b s2, .ints .u32 x2, .b g0, .b g1, .b g2]] => (x0.length ≤ 140737488355328 ∧ x1.length ≤ 140737488355328 ∧ x2.length ≤ 140737488355328) ∧
      K (.g [.i .i64 (slF (prt s0 x0 g0) (prt s1 x1 g1) (prt s2 x2 g2) g2 x2.length), .i .i64 (slI (prt s0 x0 g0) (prt s1 x1 g1) (prt s2 x2 g2) g2 x2.length)])
  | _ => False
attribute [go_sem] chkCT
def sb3 : Cfg := listT [(95, boundedCT), (52, ivalidCT), (94, atCT)] [28]
attribute [go_sem] sb3
def ixZ (a n : Int) : Int := if a < 0 then a + n else a
def indexSCT : CT := mkCT [nP] true fun l K => match l with
  | [.inr [.b s, .ints .u32 xs], .inl (.i .i64 n)] => (xs.length ≤ 140737488355328 ∧ InB 4294967296 xs) ∧ (okZ s xs = false → K (.t [.inl (.i .i64 0), .inr [.i .i64 6, .i .i64 (-1)]])) ∧
      (okZ s xs = true → ((n < 0 ∨ 4000 < n) → K (.t [.inl (.i .i64 0), .inr [.i .i64 4, .i .i64 (-2)]])) ∧
        (0 ≤ n ∧ n ≤ 4000 → (¬ (0 ≤ ixZ (sv 4294967296 s xs) n ∧ ixZ (sv 4294967296 s xs) n < n) → K (.t [.inl (.i .i64 0), .inr [.i .i64 4, .i .i64 (-1)]])) ∧
          (0 ≤ ixZ (sv 4294967296 s xs) n ∧ ixZ (sv 4294967296 s xs) n < n → K (.t [.inl (.i .i64 (ixZ (sv 4294967296 s xs) n)), .inr [.i .i64 0, .i .i64 0]]))))
  | _ => False
attribute [go_sem] indexSCT
def endCT : CT := mkCT [nP] true fun l K => match l with
  | [.inr [.b s, .ints .u32 xs], .inl (.i .i64 n), .inl (.i .i64 lo), .inl (.i .i64 hi)] => ((okZ s xs = true ∧ InB 4294967296 xs) ∧ (0 ≤ n ∧ n ≤ 4000) ∧ -1 ≤ lo ∧ lo ≤ hi ∧ hi ≤ n) ∧ K (.c (.i .i64 (enda (sv 4294967296 s xs) n lo hi)))
  | _ => False
attribute [go_sem] endCT
end Go.Proofs.Ytneecniebhhhlaa
