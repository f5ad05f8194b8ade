import Derived.Test.YtneecniebhhhlaaH23
namespace Go.Proofs.NatL
set_option linter.unusedSimpArgs false
set_option linter.unusedVariables false
def rLen (S T D : Int) : Int := if D < 0 then (if T < S then ((S - T) + (-D - 1)).fdiv (-D) else 0) else (if S < T then ((T - S) + (D - 1)).fdiv D else 0)
def RB (S T D : Int) : Prop := D ≠ 0 ∧ S.natAbs ≤ 100 * W80 ∧ T.natAbs ≤ 100 * W80 ∧ D.natAbs ≤ 100 * W80
theorem fdiv_iff (m d k : Int) (hd : 0 < d) : k < (m + (d - 1)).fdiv d ↔ k * d < m := by
  rw [Int.fdiv_eq_ediv_of_nonneg _ (by omega)]
  have h : k + 1 ≤ (m + (d - 1)) / d ↔ (k + 1) * d ≤ m + (d - 1) := Int.le_ediv_iff_mul_le hd
  rw [Int.add_mul, Int.one_mul] at h
  generalize k * d = p at *
  omega
theorem rLen_iff {S T D : Int} (hD : D ≠ 0) (k : Int) (hk : 0 ≤ k) : k < rLen S T D ↔ (D < 0 ∧ T < S + D * k ∨ 0 < D ∧ S + D * k < T) := by
  unfold rLen
  split
  · rename_i hn
    have hp : 0 ≤ (-D) * k := Int.mul_nonneg (by omega) hk
    rw [Int.neg_mul] at hp
    split
    · rename_i hl
      have := fdiv_iff (S - T) (-D) k (by omega)
      rw [this, Int.mul_neg, Int.mul_comm k D]
      generalize D * k = p at *
      omega
    · generalize D * k = p at *
      omega
  · rename_i hn
    have hp : 0 ≤ D * k := Int.mul_nonneg (by omega) hk
    split
    · rename_i hl
      have := fdiv_iff (T - S) D k (by omega)
      rw [this, Int.mul_comm k D]
      generalize D * k = p at *
      omega
    · generalize D * k = p at *
      omega
theorem rLen_nonneg (S T D : Int) (hD : D ≠ 0) : 0 ≤ rLen S T D := by
  have h := rLen_iff (S := S) (T := T) hD 0 (Int.le_refl _)
  rw [Int.mul_zero, Int.add_zero] at h
  by_cases hp : 0 < rLen S T D
  · omega
  · unfold rLen at hp ⊢
    have h' : ¬ (D < 0 ∧ T < S ∨ 0 < D ∧ S < T) := fun hh => hp (by unfold rLen at h; exact h.2 hh)
    split
    · rw [if_neg (by omega)]; omega
    · rw [if_neg (by omega)]; omega
theorem elem_in {S T D : Int} (hD : D ≠ 0) {k : Int} (hk : 0 ≤ k) (h : k < rLen S T D) : (D * k).natAbs ≤ (T - S).natAbs ∧ k ≤ (D * k).natAbs ∧ (S + D * k).natAbs ≤ S.natAbs + T.natAbs := by
  have h1 := (rLen_iff (S := S) (T := T) hD k hk).1 h
  have h2 : (D * k).natAbs = D.natAbs * k.natAbs := Int.natAbs_mul D k
  have h3 : k.natAbs ≤ D.natAbs * k.natAbs := Nat.le_mul_of_pos_left _ (by omega)
  rcases h1 with ⟨p, h1⟩ | ⟨p, h1⟩
  · have hp : 0 ≤ (-D) * k := Int.mul_nonneg (by omega) hk
    rw [Int.neg_mul] at hp
    generalize D.natAbs * k.natAbs = m at *
    generalize D * k = q at *
    omega
  · have hp : 0 ≤ D * k := Int.mul_nonneg (by omega) hk
    generalize D.natAbs * k.natAbs = m at *
    generalize D * k = q at *
    omega
theorem rLen_le (S T D : Int) (hD : D ≠ 0) : rLen S T D ≤ (T - S).natAbs + 1 := by
  have h0 := rLen_nonneg S T D hD
  by_cases h : rLen S T D = 0
  · omega
  · have := elem_in (S := S) (T := T) hD (k := rLen S T D - 1) (by omega) (by omega)
    omega
def RV (S T D : Int) : Prop := D ≠ 0 ∧ S.natAbs < W40 ∧ T.natAbs < W40 ∧ D.natAbs < W40
theorem RV.rb {S T D : Int} (h : RV S T D) : RB S T D := by
  obtain ⟨h0, h1, h2, h3⟩ := h
  have := W80_ge
  exact ⟨h0, by omega, by omega, by omega⟩
end Go.Proofs.NatL
namespace Go.Proofs.Ytneecniebhhhlaa
set_option linter.unusedSimpArgs false
set_option linter.unusedVariables false
open Go.Abs Go.Proofs.NatL

abbrev nG : Option C ⊕ List (Option C) := .inr [none, some (.ints .u32 []), none, some (.ints .u32 []), none, some (.ints .u32 [])]
abbrev gG (S T D : Int) : List C := [.b (decide (S < 0)), .ints .u32 (dg 4294967296 S.natAbs), .b (decide (T < 0)), .ints .u32 (dg 4294967296 T.natAbs), .b (decide (D < 0)), .ints .u32 (dg 4294967296 D.natAbs)]
theorem gG_nrm {s t d : Bool} {xs ys zs : List Int} (h1 : Nrm s xs) (h2 : Nrm t ys) (h3 : Nrm d zs) : [.b s, .ints .u32 xs, .b t, .ints .u32 ys, .b d, .ints .u32 zs] = gG (sv 4294967296 s xs) (sv 4294967296 t ys) (sv 4294967296 d zs) := by
  obtain ⟨a1, a2⟩ := Nrm_eq h1
  obtain ⟨b1, b2⟩ := Nrm_eq h2
  obtain ⟨c1, c2⟩ := Nrm_eq h3
  rw [gG, ← a1, ← a2, ← b1, ← b2, ← c1, ← c2]
def rgCT (p : Int → Int → Int → Prop) (f : Int → Int → Int → AV) : CT := mkCT [nG] false fun l K => match l with
  | [.inr [.b s, .ints .u32 xs, .b t, .ints .u32 ys, .b d, .ints .u32 zs]] => (Nrm s xs ∧ Nrm t ys ∧ Nrm d zs ∧ p (sv 4294967296 s xs) (sv 4294967296 t ys) (sv 4294967296 d zs)) ∧ K (f (sv 4294967296 s xs) (sv 4294967296 t ys) (sv 4294967296 d zs))
  | _ => False
theorem rg_tr {F : FuncId} {p : Int → Int → Int → Prop} {f : Int → Int → Int → AV} (h : ∀ S T D : Int, p S T D → Ret Try.prog F false [.inr (gG S T D)] (f S T D))
    (l : List (C ⊕ List C)) (K : AV → Prop) (hk : match l with
      | [.inr [.b s, .ints .u32 xs, .b t, .ints .u32 ys, .b d, .ints .u32 zs]] => (Nrm s xs ∧ Nrm t ys ∧ Nrm d zs ∧ p (sv 4294967296 s xs) (sv 4294967296 t ys) (sv 4294967296 d zs)) ∧ K (f (sv 4294967296 s xs) (sv 4294967296 t ys) (sv 4294967296 d zs))
      | _ => False) : ∃ r, Ret Try.prog F false l r ∧ K r := by
  split at hk
  · obtain ⟨⟨h1, h2, h3, h4⟩, hk⟩ := hk
    have := h _ _ _ h4
    rw [← gG_nrm h1 h2 h3] at this
    exact ⟨_, this, hk⟩
  · exact hk.elim
def rgICT (p : Int → Int → Int → Int → Prop) (f : Int → Int → Int → Int → AV) : CT := mkCT [nG, nP] false fun l K => match l with
  | [.inr [.b s, .ints .u32 xs, .b t, .ints .u32 ys, .b d, .ints .u32 zs], .inr [.b u, .ints .u32 us]] => (Nrm s xs ∧ Nrm t ys ∧ Nrm d zs ∧ Nrm u us ∧ p (sv 4294967296 s xs) (sv 4294967296 t ys) (sv 4294967296 d zs) (sv 4294967296 u us)) ∧ K (f (sv 4294967296 s xs) (sv 4294967296 t ys) (sv 4294967296 d zs) (sv 4294967296 u us))
  | _ => False
theorem rgI_tr {F : FuncId} {p : Int → Int → Int → Int → Prop} {f : Int → Int → Int → Int → AV} (h : ∀ S T D u : Int, p S T D u → Ret Try.prog F false [.inr (gG S T D), .inr (gI u)] (f S T D u))
    (l : List (C ⊕ List C)) (K : AV → Prop) (hk : match l with
      | [.inr [.b s, .ints .u32 xs, .b t, .ints .u32 ys, .b d, .ints .u32 zs], .inr [.b u, .ints .u32 us]] => (Nrm s xs ∧ Nrm t ys ∧ Nrm d zs ∧ Nrm u us ∧ p (sv 4294967296 s xs) (sv 4294967296 t ys) (sv 4294967296 d zs) (sv 4294967296 u us)) ∧ K (f (sv 4294967296 s xs) (sv 4294967296 t ys) (sv 4294967296 d zs) (sv 4294967296 u us))
      | _ => False) : ∃ r, Ret Try.prog F false l r ∧ K r := by
  split at hk
  · obtain ⟨⟨h1, h2, h3, h5, h4⟩, hk⟩ := hk
    have := h _ _ _ _ h4
    rw [← gG_nrm h1 h2 h3, ← gI_nrm h5] at this
    exact ⟨_, this, hk⟩
  · exact hk.elim
def rc1 : Cfg := addT 152 atCT ra5
theorem rc1_ok : TblOk Try.prog rc1 := q_I ra5_ok Try.func152 fun l K h => by
  split at h
  · refine ⟨_, Ret.plain ?_ rfl, h⟩
    (refine q_H Try.func152 (fun F => ?_); simp only [q_z,q_y,Try.ntmps152,Try.results152])
    repeat' (first|(with_reducible first|apply q_a|apply q_b|apply q_c|apply q_d|apply q_e|apply q_f|apply q_g|apply q_h|apply q_i|apply q_j|apply q_k|apply q_m|apply q_n|apply q_o|apply q_p|refine q_l ?_)|((with_reducible first|refine q_q ra5_ok fun K hK=>?_|refine q_r ra5_ok fun K hK=>?_);simp (maxSteps:=2000000) only [go_sem,↓reduceIte,reduceCtorEq,Nat.reduceLeDiff,Nat.reduceLT,Nat.reduceBEq,Nat.reduceAdd];(repeat1' with_reducible first|apply And.intro|(intro _;try exact q_v)|(refine hK _ ?_;clear hK K))<;>(try (clear hK K;exact q_u)))|(with_reducible refine q_s ?_;(first|apply q_J|apply q_K|apply q_L|apply q_M|apply q_N|apply q_O)<;>try (intro _;try exact q_v))|with_reducible refine q_t ?_)
    exact q_A rfl
  · exact h.elim
def zeroRCT : CT := mkCT [nP] true fun l K => match l with
  | [.inr [.b s, .ints .u32 xs]] => K (.c (.b (decide ((xs.length : Int) = 0))))
  | _ => False
def rc2 : Cfg := addT 139 zeroRCT rc1
theorem rc2_ok : TblOk Try.prog rc2 := q_I rc1_ok Try.func139 fun l K h => by
  split at h
  · refine ⟨_, Ret.plain ?_ rfl, h⟩
    (refine q_H Try.func139 (fun F => ?_); simp only [q_z,q_y,Try.ntmps139,Try.results139])
    repeat' (first|(with_reducible first|apply q_a|apply q_b|apply q_c|apply q_d|apply q_e|apply q_f|apply q_g|apply q_h|apply q_i|apply q_j|apply q_k|apply q_m|apply q_n|apply q_o|apply q_p|refine q_l ?_)|((with_reducible first|refine q_q ra5_ok fun K hK=>?_|refine q_r ra5_ok fun K hK=>?_);simp (maxSteps:=2000000) only [go_sem,↓reduceIte,reduceCtorEq,Nat.reduceLeDiff,Nat.reduceLT,Nat.reduceBEq,Nat.reduceAdd];(repeat1' with_reducible first|apply And.intro|(intro _;try exact q_v)|(refine hK _ ?_;clear hK K))<;>(try (clear hK K;exact q_u)))|(with_reducible refine q_s ?_;(first|apply q_J|apply q_K|apply q_L|apply q_M|apply q_N|apply q_O)<;>try (intro _;try exact q_v))|with_reducible refine q_t ?_)
    exact q_A rfl
  · exact h.elim
def fit4 (s : Bool) (xs : List Int) : Bool := okZ s xs && decide ((xs.length : Int) ≤ 40)
def fitsRCT : CT := mkCT [nP] true fun l K => match l with
  | [.inr [.b s, .ints .u32 xs]] => xs.length ≤ 140737488355328 ∧ K (.c (.b (fit4 s xs)))
  | _ => False
def rb2 : Cfg := listT [(52, ivalidCT)] [28]
theorem rb2_ok : TblOk Try.prog rb2 := listT_ok (big := ra5) ra5_ok ⟨rfl, trivial⟩
attribute [go_sem] rb2
def rc3 : Cfg := addT 153 fitsRCT rc2
theorem rc3_ok : TblOk Try.prog rc3 := q_I rc2_ok Try.func153 fun l K h => by
  split at h
  · rename_i s xs
    refine ⟨_, Ret.plain ?_ rfl, h.2⟩
    have hl := h.1
    cases ho : okZ s xs
    all_goals
      (refine q_H Try.func153 (fun F => ?_); simp only [q_z,q_y,Try.ntmps153,Try.results153])
      repeat' (first|(with_reducible first|apply q_a|apply q_b|apply q_c|apply q_d|apply q_e|apply q_f|apply q_g|apply q_h|apply q_i|apply q_j|apply q_k|apply q_m|apply q_n|apply q_o|apply q_p|refine q_l ?_)|((with_reducible first|refine q_q rb2_ok fun K hK=>?_|refine q_r rb2_ok fun K hK=>?_);simp (maxSteps:=2000000) only [go_sem,↓reduceIte,reduceCtorEq,Nat.reduceLeDiff,Nat.reduceLT,Nat.reduceBEq,Nat.reduceAdd,ho];(repeat1' with_reducible first|apply And.intro|(intro _;try exact q_v)|(refine hK _ ?_;clear hK K))<;>(try (clear hK K;exact q_u)))|(with_reducible refine q_s ?_;(first|apply q_J|apply q_K|apply q_L|apply q_M|apply q_N|apply q_O)<;>try (intro _;try exact q_v))|with_reducible refine q_t ?_)
      exact q_A (by simp [resAV, q_y, fit4, ho])
  · exact h.elim
attribute [go_sem] zeroRCT fitsRCT
def rb3 : Cfg := listT [(153, fitsRCT)] [28]
theorem rb3_ok : TblOk Try.prog rb3 := listT_ok (big := rc3) rc3_ok ⟨rfl, trivial⟩
attribute [go_sem] rb3
def vR (s t d : Bool) (xs ys zs : List Int) : Bool := fit4 s xs && fit4 t ys && fit4 d zs && decide (0 < (zs.length : Int))
def validRCT : CT := mkCT [nG] true fun l K => match l with
  | [.inr [.b s, .ints .u32 xs, .b t, .ints .u32 ys, .b d, .ints .u32 zs]] => (xs.length ≤ 140737488355328 ∧ ys.length ≤ 140737488355328 ∧ zs.length ≤ 140737488355328) ∧ K (.c (.b (vR s t d xs ys zs)))
  | _ => False
set_option maxHeartbeats 1600000 in
theorem validR_ret (s t d : Bool) (xs ys zs : List Int) (h1 : xs.length ≤ 140737488355328) (h2 : ys.length ≤ 140737488355328) (h3 : zs.length ≤ 140737488355328) : Ret Try.prog 91 false [.inr [.b s, .ints .u32 xs, .b t, .ints .u32 ys, .b d, .ints .u32 zs]] (.c (.b (vR s t d xs ys zs))) := by
  cases e1 : fit4 s xs
  · (refine q_H Try.func91 (fun F => ?_); simp only [q_z,q_y,Try.ntmps91,Try.results91])
    repeat' (first|(with_reducible first|apply q_a|apply q_b|apply q_c|apply q_d|apply q_e|apply q_f|apply q_g|apply q_h|apply q_i|apply q_j|apply q_k|apply q_m|apply q_n|apply q_o|apply q_p|refine q_l ?_)|((with_reducible first|refine q_q rb3_ok fun K hK=>?_|refine q_r rb3_ok fun K hK=>?_);simp (maxSteps:=2000000) only [go_sem,↓reduceIte,reduceCtorEq,Nat.reduceLeDiff,Nat.reduceLT,Nat.reduceBEq,Nat.reduceAdd,e1];(repeat1' with_reducible first|apply And.intro|(intro _;try exact q_v)|(refine hK _ ?_;clear hK K))<;>(try (clear hK K;exact q_u)))|(with_reducible refine q_s ?_;(first|apply q_J|apply q_K|apply q_L|apply q_M|apply q_N|apply q_O)<;>try (intro _;try exact q_v))|with_reducible refine q_t ?_)
    exact q_A (by simp [resAV, q_y, vR, e1])
  cases e2 : fit4 t ys
  · (refine q_H Try.func91 (fun F => ?_); simp only [q_z,q_y,Try.ntmps91,Try.results91])
    repeat' (first|(with_reducible first|apply q_a|apply q_b|apply q_c|apply q_d|apply q_e|apply q_f|apply q_g|apply q_h|apply q_i|apply q_j|apply q_k|apply q_m|apply q_n|apply q_o|apply q_p|refine q_l ?_)|((with_reducible first|refine q_q rb3_ok fun K hK=>?_|refine q_r rb3_ok fun K hK=>?_);simp (maxSteps:=2000000) only [go_sem,↓reduceIte,reduceCtorEq,Nat.reduceLeDiff,Nat.reduceLT,Nat.reduceBEq,Nat.reduceAdd,e1, e2];(repeat1' with_reducible first|apply And.intro|(intro _;try exact q_v)|(refine hK _ ?_;clear hK K))<;>(try (clear hK K;exact q_u)))|(with_reducible refine q_s ?_;(first|apply q_J|apply q_K|apply q_L|apply q_M|apply q_N|apply q_O)<;>try (intro _;try exact q_v))|with_reducible refine q_t ?_)
    exact q_A (by simp [resAV, q_y, vR, e1, e2])
  cases e3 : fit4 d zs
  · (refine q_H Try.func91 (fun F => ?_); simp only [q_z,q_y,Try.ntmps91,Try.results91])
    repeat' (first|(with_reducible first|apply q_a|apply q_b|apply q_c|apply q_d|apply q_e|apply q_f|apply q_g|apply q_h|apply q_i|apply q_j|apply q_k|apply q_m|apply q_n|apply q_o|apply q_p|refine q_l ?_)|((with_reducible first|refine q_q rb3_ok fun K hK=>?_|refine q_r rb3_ok fun K hK=>?_);simp (maxSteps:=2000000) only [go_sem,↓reduceIte,reduceCtorEq,Nat.reduceLeDiff,Nat.reduceLT,Nat.reduceBEq,Nat.reduceAdd,e1, e2, e3];(repeat1' with_reducible first|apply And.intro|(intro _;try exact q_v)|(refine hK _ ?_;clear hK K))<;>(try (clear hK K;exact q_u)))|(with_reducible refine q_s ?_;(first|apply q_J|apply q_K|apply q_L|apply q_M|apply q_N|apply q_O)<;>try (intro _;try exact q_v))|with_reducible refine q_t ?_)
    exact q_A (by simp [resAV, q_y, vR, e1, e2, e3])
  · (refine q_H Try.func91 (fun F => ?_); simp only [q_z,q_y,Try.ntmps91,Try.results91])
    repeat' (first|(with_reducible first|apply q_a|apply q_b|apply q_c|apply q_d|apply q_e|apply q_f|apply q_g|apply q_h|apply q_i|apply q_j|apply q_k|apply q_m|apply q_n|apply q_o|apply q_p|refine q_l ?_)|((with_reducible first|refine q_q rb3_ok fun K hK=>?_|refine q_r rb3_ok fun K hK=>?_);simp (maxSteps:=2000000) only [go_sem,↓reduceIte,reduceCtorEq,Nat.reduceLeDiff,Nat.reduceLT,Nat.reduceBEq,Nat.reduceAdd,e1, e2, e3];(repeat1' with_reducible first|apply And.intro|(intro _;try exact q_v)|(refine hK _ ?_;clear hK K))<;>(try (clear hK K;exact q_u)))|(with_reducible refine q_s ?_;(first|apply q_J|apply q_K|apply q_L|apply q_M|apply q_N|apply q_O)<;>try (intro _;try exact q_v))|with_reducible refine q_t ?_)
    exact q_A (by simp [resAV, q_y, vR, e1, e2, e3])
def rc4 : Cfg := addT 91 validRCT rc3
theorem rc4_ok : TblOk Try.prog rc4 := q_I rc3_ok Try.func91 fun l K h => by
  split at h
  · exact ⟨_, (validR_ret _ _ _ _ _ _ h.1.1 h.1.2.1 h.1.2.2).plain rfl, h.2⟩
  · exact h.elim
attribute [go_sem] validRCT
theorem fit4_ok {s : Bool} {xs : List Int} (h : fit4 s xs = true) (hb : InB 4294967296 xs) : Nrm s xs ∧ (sv 4294967296 s xs).natAbs < W40 ∧ okZ s xs = true ∧ xs.length ≤ 40 := by
  unfold fit4 at h
  simp only [Bool.and_eq_true, decide_eq_true_eq] at h
  obtain ⟨e1, e2, e3⟩ := okZ_eq h.1 hb
  exact ⟨okZ_Nrm h.1 hb, W40_len.1 (by rw [← e2]; omega), h.1, by omega⟩
theorem vR_ok {s t d : Bool} {xs ys zs : List Int} (h : vR s t d xs ys zs = true) (b1 : InB 4294967296 xs) (b2 : InB 4294967296 ys) (b3 : InB 4294967296 zs) :
    Nrm s xs ∧ Nrm t ys ∧ Nrm d zs ∧ RV (sv 4294967296 s xs) (sv 4294967296 t ys) (sv 4294967296 d zs) := by
  unfold vR at h
  simp only [Bool.and_eq_true, decide_eq_true_eq] at h
  obtain ⟨n1, w1, _, _⟩ := fit4_ok h.1.1.1 b1
  obtain ⟨n2, w2, _, _⟩ := fit4_ok h.1.1.2 b2
  obtain ⟨n3, w3, o3, _⟩ := fit4_ok h.1.2 b3
  refine ⟨n1, n2, n3, fun e => ?_, w1, w2, w3⟩
  obtain ⟨e1, e2, e3⟩ := okZ_eq o3 b3
  rw [e] at e2
  rw [e2] at h
  exact absurd h.2 (by decide)
theorem fit4_g (z : Int) : fit4 (decide (z < 0)) (dg 4294967296 z.natAbs) = decide (z.natAbs < W40) := by
  unfold fit4
  rw [okZ_g]
  have := W40_len (z := z)
  by_cases h : z.natAbs < W40
  · have h2 := this.2 h
    rw [decide_eq_true h, decide_eq_true (show (dg 4294967296 z.natAbs).length ≤ 128 by omega), decide_eq_true (show ((dg 4294967296 z.natAbs).length : Int) ≤ 40 by omega)]; rfl
  · have h2 : ¬ (dg 4294967296 z.natAbs).length ≤ 40 := fun h3 => h (this.1 h3)
    rw [decide_eq_false h, decide_eq_false (show ¬ ((dg 4294967296 z.natAbs).length : Int) ≤ 40 by omega), Bool.and_false]
theorem vR_g (S T D : Int) : vR (decide (S < 0)) (decide (T < 0)) (decide (D < 0)) (dg 4294967296 S.natAbs) (dg 4294967296 T.natAbs) (dg 4294967296 D.natAbs) = true ↔ RV S T D := by
  unfold vR
  rw [fit4_g, fit4_g, fit4_g]
  have hp := dg_len_pos 4294967296 D.natAbs (by omega)
  unfold RV
  simp only [Bool.and_eq_true, decide_eq_true_eq]
  omega
def rb4 : Cfg := listT [(28, iOfCT), (145, (rg2CT (fun a b => FB (a + b)) add_R)), (146, (rg2CT (fun a b => FB (a - b)) sub_R)), (147, (rg2CT (fun a b => FB (a * b)) mul_R)), (143, (rg2CT (fun _ _ => True) lessR)), (144, (rg2CT (fun _ b => b ≠ 0) dmR))] [28]
theorem rb4_ok : TblOk Try.prog rb4 := listE_ok (by simp only [List.mem_singleton, forall_eq]; exact flt) ⟨⟨iu1, iu1_ok, rfl⟩, ⟨rc4, rc4_ok, rfl⟩, ⟨rc4, rc4_ok, rfl⟩, ⟨rc4, rc4_ok, rfl⟩, ⟨rc4, rc4_ok, rfl⟩, ⟨rc4, rc4_ok, rfl⟩, trivial⟩
attribute [go_sem] rb4
def sgR (D : Int) : Int := if D < 0 then -1 else 1
set_option maxHeartbeats 1600000 in
theorem signR_ret (S T D : Int) : Ret Try.prog 154 false [.inr (gG S T D)] (.g (gI (sgR D))) := by
  by_cases h : D < 0
  · have e : sgR D = -1 := if_pos h
    rw [e]
    simp only [gG]
    (refine q_H Try.func154 (fun F => ?_); simp only [q_z,q_y,Try.ntmps154,Try.results154])
    repeat' (first|(with_reducible first|apply q_a|apply q_b|apply q_c|apply q_d|apply q_e|apply q_f|apply q_g|apply q_h|apply q_i|apply q_j|apply q_k|apply q_m|apply q_n|apply q_o|apply q_p|refine q_l ?_)|((with_reducible first|refine q_q rb4_ok fun K hK=>?_|refine q_r rb4_ok fun K hK=>?_);simp (maxSteps:=2000000) only [go_sem,↓reduceIte,reduceCtorEq,Nat.reduceLeDiff,Nat.reduceLT,Nat.reduceBEq,Nat.reduceAdd];(repeat1' with_reducible first|apply And.intro|(intro _;try exact q_v)|(refine hK _ ?_;clear hK K))<;>(try (clear hK K;exact q_u)))|(with_reducible refine q_s ?_;(first|apply q_J|apply q_K|apply q_L|apply q_M|apply q_N|apply q_O)<;>try (intro _;try exact q_v))|with_reducible refine q_t ?_)
    all_goals first | contradiction | omega | exact q_A rfl
  · have e : sgR D = 1 := if_neg h
    rw [e]
    simp only [gG]
    (refine q_H Try.func154 (fun F => ?_); simp only [q_z,q_y,Try.ntmps154,Try.results154])
    repeat' (first|(with_reducible first|apply q_a|apply q_b|apply q_c|apply q_d|apply q_e|apply q_f|apply q_g|apply q_h|apply q_i|apply q_j|apply q_k|apply q_m|apply q_n|apply q_o|apply q_p|refine q_l ?_)|((with_reducible first|refine q_q rb4_ok fun K hK=>?_|refine q_r rb4_ok fun K hK=>?_);simp (maxSteps:=2000000) only [go_sem,↓reduceIte,reduceCtorEq,Nat.reduceLeDiff,Nat.reduceLT,Nat.reduceBEq,Nat.reduceAdd];(repeat1' with_reducible first|apply And.intro|(intro _;try exact q_v)|(refine hK _ ?_;clear hK K))<;>(try (clear hK K;exact q_u)))|(with_reducible refine q_s ?_;(first|apply q_J|apply q_K|apply q_L|apply q_M|apply q_N|apply q_O)<;>try (intro _;try exact q_v))|with_reducible refine q_t ?_)
    all_goals first | contradiction | omega | exact q_A rfl
def rc5 : Cfg := addT 154 (rgCT (fun _ _ _ => True) (fun _ _ D => oneI (sgR D))) rc4
theorem rc5_ok : TblOk Try.prog rc5 := q_I rc4_ok Try.func154 fun l K h =>
  rg_tr (p := fun _ _ _ => True) (f := fun _ _ D => oneI (sgR D)) (fun S T D _ => signR_ret S T D) l K h
attribute [go_sem] rgCT rgICT
def rb5 : Cfg := listT [(28, iOfCT), (154, (rgCT (fun _ _ _ => True) (fun _ _ D => oneI (sgR D)))), (145, (rg2CT (fun a b => FB (a + b)) add_R)), (146, (rg2CT (fun a b => FB (a - b)) sub_R)), (147, (rg2CT (fun a b => FB (a * b)) mul_R)), (143, (rg2CT (fun _ _ => True) lessR)), (144, (rg2CT (fun _ b => b ≠ 0) dmR))] [28]
theorem rb5_ok : TblOk Try.prog rb5 := listE_ok (by simp only [List.mem_singleton, forall_eq]; exact flt) ⟨⟨iu1, iu1_ok, rfl⟩, ⟨rc5, rc5_ok, rfl⟩, ⟨rc4, rc4_ok, rfl⟩, ⟨rc4, rc4_ok, rfl⟩, ⟨rc4, rc4_ok, rfl⟩, ⟨rc4, rc4_ok, rfl⟩, ⟨rc4, rc4_ok, rfl⟩, trivial⟩
attribute [go_sem] rb5
set_option maxHeartbeats 3200000 in
theorem lengthR_ret (S T D : Int) (h : RB S T D) : Ret Try.prog 140 false [.inr (gG S T D)] (.g (gI (rLen S T D))) := by
  obtain ⟨h0, h1, h2, h3⟩ := h
  have hw := W80_ge
  have a1 : FB S := FB_w (by omega)
  have a2 : FB T := FB_w (by omega)
  have a3 : FB D := FB_w (by omega)
  have a4 := FB_one
  have a5 := FB_neg_one
  simp only [gG]
  by_cases hn : D < 0
  · have e : sgR D = -1 := if_pos hn
    have e2 : D * -1 = -D := by omega
    have a6 : FB (-D) := FB_w (by omega)
    have a7 : FB (S - T) := FB_w (by omega)
    have a8 : FB (-D - 1) := FB_w (by omega)
    have a9 : FB (S - T + (-D - 1)) := FB_w (by omega)
    by_cases hl : T < S
    · have er : rLen S T D = (S - T + (-D - 1)).fdiv (-D) := by unfold rLen; rw [if_pos hn, if_pos hl]
      rw [er]
      (refine q_H Try.func140 (fun F => ?_); simp only [q_z,q_y,Try.ntmps140,Try.results140])
      repeat' (first|(with_reducible first|apply q_a|apply q_b|apply q_c|apply q_d|apply q_e|apply q_f|apply q_g|apply q_h|apply q_i|apply q_j|apply q_k|apply q_m|apply q_n|apply q_o|apply q_p|refine q_l ?_)|((with_reducible first|refine q_q rb5_ok fun K hK=>?_|refine q_r rb5_ok fun K hK=>?_);simp (maxSteps:=2000000) only [go_sem,↓reduceIte,reduceCtorEq,Nat.reduceLeDiff,Nat.reduceLT,Nat.reduceBEq,Nat.reduceAdd,e, e2];(repeat1' with_reducible first|apply And.intro|(intro _;try exact q_v)|(refine hK _ ?_;clear hK K))<;>(try (clear hK K;exact q_u)))|(with_reducible refine q_s ?_;(first|apply q_J|apply q_K|apply q_L|apply q_M|apply q_N|apply q_O)<;>try (intro _;try exact q_v))|with_reducible refine q_t ?_)
      all_goals first | contradiction | omega | exact q_A rfl
    · have er : rLen S T D = 0 := by unfold rLen; rw [if_pos hn, if_neg hl]
      rw [er]
      (refine q_H Try.func140 (fun F => ?_); simp only [q_z,q_y,Try.ntmps140,Try.results140])
      repeat' (first|(with_reducible first|apply q_a|apply q_b|apply q_c|apply q_d|apply q_e|apply q_f|apply q_g|apply q_h|apply q_i|apply q_j|apply q_k|apply q_m|apply q_n|apply q_o|apply q_p|refine q_l ?_)|((with_reducible first|refine q_q rb5_ok fun K hK=>?_|refine q_r rb5_ok fun K hK=>?_);simp (maxSteps:=2000000) only [go_sem,↓reduceIte,reduceCtorEq,Nat.reduceLeDiff,Nat.reduceLT,Nat.reduceBEq,Nat.reduceAdd,e, e2];(repeat1' with_reducible first|apply And.intro|(intro _;try exact q_v)|(refine hK _ ?_;clear hK K))<;>(try (clear hK K;exact q_u)))|(with_reducible refine q_s ?_;(first|apply q_J|apply q_K|apply q_L|apply q_M|apply q_N|apply q_O)<;>try (intro _;try exact q_v))|with_reducible refine q_t ?_)
      all_goals first | contradiction | omega | exact q_B [nP] rfl rfl
  · have e : sgR D = 1 := if_neg hn
    have a7 : FB (T - S) := FB_w (by omega)
    have a8 : FB (D - 1) := FB_w (by omega)
    have a9 : FB (T - S + (D - 1)) := FB_w (by omega)
    by_cases hl : S < T
    · have er : rLen S T D = (T - S + (D - 1)).fdiv D := by unfold rLen; rw [if_neg hn, if_pos hl]
      rw [er]
      (refine q_H Try.func140 (fun F => ?_); simp only [q_z,q_y,Try.ntmps140,Try.results140])
      repeat' (first|(with_reducible first|apply q_a|apply q_b|apply q_c|apply q_d|apply q_e|apply q_f|apply q_g|apply q_h|apply q_i|apply q_j|apply q_k|apply q_m|apply q_n|apply q_o|apply q_p|refine q_l ?_)|((with_reducible first|refine q_q rb5_ok fun K hK=>?_|refine q_r rb5_ok fun K hK=>?_);simp (maxSteps:=2000000) only [go_sem,↓reduceIte,reduceCtorEq,Nat.reduceLeDiff,Nat.reduceLT,Nat.reduceBEq,Nat.reduceAdd,e, Int.mul_one];(repeat1' with_reducible first|apply And.intro|(intro _;try exact q_v)|(refine hK _ ?_;clear hK K))<;>(try (clear hK K;exact q_u)))|(with_reducible refine q_s ?_;(first|apply q_J|apply q_K|apply q_L|apply q_M|apply q_N|apply q_O)<;>try (intro _;try exact q_v))|with_reducible refine q_t ?_)
      all_goals first | contradiction | omega | exact q_A rfl
    · have er : rLen S T D = 0 := by unfold rLen; rw [if_neg hn, if_neg hl]
      rw [er]
      (refine q_H Try.func140 (fun F => ?_); simp only [q_z,q_y,Try.ntmps140,Try.results140])
      repeat' (first|(with_reducible first|apply q_a|apply q_b|apply q_c|apply q_d|apply q_e|apply q_f|apply q_g|apply q_h|apply q_i|apply q_j|apply q_k|apply q_m|apply q_n|apply q_o|apply q_p|refine q_l ?_)|((with_reducible first|refine q_q rb5_ok fun K hK=>?_|refine q_r rb5_ok fun K hK=>?_);simp (maxSteps:=2000000) only [go_sem,↓reduceIte,reduceCtorEq,Nat.reduceLeDiff,Nat.reduceLT,Nat.reduceBEq,Nat.reduceAdd,e, Int.mul_one];(repeat1' with_reducible first|apply And.intro|(intro _;try exact q_v)|(refine hK _ ?_;clear hK K))<;>(try (clear hK K;exact q_u)))|(with_reducible refine q_s ?_;(first|apply q_J|apply q_K|apply q_L|apply q_M|apply q_N|apply q_O)<;>try (intro _;try exact q_v))|with_reducible refine q_t ?_)
      all_goals first | contradiction | omega | exact q_B [nP] rfl rfl
def rc6 : Cfg := addT 140 (rgCT RB (fun S T D => oneI (rLen S T D))) rc5
theorem rc6_ok : TblOk Try.prog rc6 := q_I rc5_ok Try.func140 fun l K h =>
  rg_tr (p := RB) (f := fun S T D => oneI (rLen S T D)) (fun S T D h => lengthR_ret S T D h) l K h
set_option maxHeartbeats 1600000 in
theorem elementR_ret (S T D u : Int) (h1 : FB S) (h2 : FB D) (h3 : FB u) (h4 : FB (D * u)) (h5 : FB (S + D * u)) : Ret Try.prog 155 false [.inr (gG S T D), .inr (gI u)] (.g (gI (S + D * u))) := by
  simp only [gG, gI]
  (refine q_H Try.func155 (fun F => ?_); simp only [q_z,q_y,Try.ntmps155,Try.results155])
  repeat' (first|(with_reducible first|apply q_a|apply q_b|apply q_c|apply q_d|apply q_e|apply q_f|apply q_g|apply q_h|apply q_i|apply q_j|apply q_k|apply q_m|apply q_n|apply q_o|apply q_p|refine q_l ?_)|((with_reducible first|refine q_q rb5_ok fun K hK=>?_|refine q_r rb5_ok fun K hK=>?_);simp (maxSteps:=2000000) only [go_sem,↓reduceIte,reduceCtorEq,Nat.reduceLeDiff,Nat.reduceLT,Nat.reduceBEq,Nat.reduceAdd];(repeat1' with_reducible first|apply And.intro|(intro _;try exact q_v)|(refine hK _ ?_;clear hK K))<;>(try (clear hK K;exact q_u)))|(with_reducible refine q_s ?_;(first|apply q_J|apply q_K|apply q_L|apply q_M|apply q_N|apply q_O)<;>try (intro _;try exact q_v))|with_reducible refine q_t ?_)
  all_goals first | contradiction | omega | exact q_A rfl
def pElem (S _T D u : Int) : Prop := FB S ∧ FB D ∧ FB u ∧ FB (D * u) ∧ FB (S + D * u)
def rc7 : Cfg := addT 155 (rgICT pElem (fun S _ D u => oneI (S + D * u))) rc6
theorem rc7_ok : TblOk Try.prog rc7 := q_I rc6_ok Try.func155 fun l K h =>
  rgI_tr (p := pElem) (f := fun S _ D u => oneI (S + D * u)) (fun S T D u h => elementR_ret S T D u h.1 h.2.1 h.2.2.1 h.2.2.2.1 h.2.2.2.2) l K h
end Go.Proofs.Ytneecniebhhhlaa
