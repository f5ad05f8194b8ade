import Derived.Test.YtneecniebhhhlaaH29
import Derived.Test.YtneecniebhhhlaaH33
namespace Go.Proofs.NatL
set_option linter.unusedSimpArgs false
set_option linter.unusedVariables false
theorem ceil_len {S T D : Int} (hD : D ≠ 0) : (if 0 ≤ (T - S).fdiv D + (if (T - S).fmod D = 0 then 0 else 1) then (T - S).fdiv D + (if (T - S).fmod D = 0 then 0 else 1) else 0) = rLen S T D := by
  have key : ∀ q r : Int, (T - S).fdiv D = q → (T - S).fmod D = r → (if 0 ≤ q + (if r = 0 then 0 else 1) then q + (if r = 0 then 0 else 1) else 0) = rLen S T D := by
    intro q r hq hr
    have e := Int.fmod_add_mul_fdiv (T - S) D
    rw [hq, hr] at e
    have hn := rLen_nonneg S T D hD
    have hi := fun k hk => rLen_iff (S := S) (T := T) hD k hk
    have hb : (0 < D ∧ 0 ≤ r ∧ r < D) ∨ (D < 0 ∧ D < r ∧ r ≤ 0) := by
      rcases Int.lt_or_gt_of_ne hD with hd | hd
      · have := (Int.fdiv_fmod_unique' (a := T - S) hd).1 ⟨hq, hr⟩
        exact .inr ⟨hd, this.2.1, this.2.2⟩
      · have := (Int.fdiv_fmod_unique (a := T - S) hd).1 ⟨hq, hr⟩
        exact .inl ⟨hd, this.2.1, this.2.2⟩
    generalize hw : q + (if r = 0 then 0 else 1) = w at *
    have hDw : D * w = D * q + (if r = 0 then 0 else D) := by
      rw [← hw, Int.mul_add]; split <;> simp
    have hDw1 : D * (w - 1) = D * w - D := by rw [Int.mul_sub, Int.mul_one]
    by_cases h0 : 0 ≤ w
    · rw [if_pos h0]
      have h1 := hi w h0
      have h2 : 0 < w → (w - 1 < rLen S T D ↔ D < 0 ∧ T < S + D * (w - 1) ∨ 0 < D ∧ S + D * (w - 1) < T) := fun h => hi (w - 1) (by omega)
      rw [hDw1] at h2
      generalize D * w = p at *
      generalize D * q = y at *
      split at hDw <;> omega
    · rw [if_neg h0]
      have h1 := hi 0 (Int.le_refl _)
      rw [Int.mul_zero, Int.add_zero] at h1
      have hneg : q ≤ -1 := by split at hw <;> omega
      have hDq : (0 < D → D * q ≤ -D) ∧ (D < 0 → -D ≤ D * q) := by
        constructor
        · intro hd
          have := Int.mul_le_mul_of_nonneg_left hneg (Int.le_of_lt hd)
          omega
        · intro hd
          have := Int.mul_le_mul_of_nonneg_left hneg (show 0 ≤ -D by omega)
          rw [Int.neg_mul] at this
          omega
      generalize D * q = y at *
      omega
  exact key _ _ rfl rfl
end Go.Proofs.NatL
namespace Go.Proofs.Ytneecniebhhhlaa
set_option linter.unusedSimpArgs false
set_option linter.unusedVariables false
open Go.Abs Go.Proofs.NatL

theorem gRz_ne {z : Int} (h : z ≠ 0) (b c : Bool) : gRz z b = gRz z c := by simp only [gRz, sgz, if_neg h]
theorem iplus_fl (s t : Bool) (m n : Nat) (lm : (dg 65536 m).length ≤ 1048576) (ln : (dg 65536 n).length ≤ 1048576) :
    Ret Try.prog 72 false [.inr [.b s, .ints .i64 (dg 65536 m)], .inr [.b t, .ints .i64 (dg 65536 n)]] (.g (gRz (sg s m + sg t n) s)) := by
  by_cases hst : s = t
  · subst hst
    rw [sg_eq_add, gRz_eq]
    (refine q_H Try.func72 (fun F => ?_); simp only [q_z,q_y,Try.ntmps72,Try.results72])
    repeat' (first|(with_reducible first|apply q_a|apply q_b|apply q_c|apply q_d|apply q_e|apply q_f|apply q_g|apply q_h|apply q_i|apply q_j|apply q_k|apply q_m|apply q_n|apply q_o|apply q_p|refine q_l ?_)|((with_reducible first|refine q_q jb5_ok fun K hK=>?_|refine q_r jb5_ok fun K hK=>?_);simp (maxSteps:=2000000) only [go_sem,↓reduceIte,reduceCtorEq,Nat.reduceLeDiff,Nat.reduceLT,Nat.reduceBEq,Nat.reduceAdd];(repeat1' with_reducible first|apply And.intro|(intro _;try exact q_v)|(refine hK _ ?_;clear hK K))<;>(try (clear hK K;exact q_u)))|(with_reducible refine q_s ?_;(first|apply q_J|apply q_K|apply q_L|apply q_M|apply q_N|apply q_O)<;>try (intro _;try exact q_v))|with_reducible refine q_t ?_)
    all_goals first | omega | exact q_A rfl
  · have hne : (s == t) = false := by simpa using hst
    rcases Nat.lt_or_ge m n with h | h
    · rw [gRz_ne (by cases s <;> cases t <;> simp [sg] at hst ⊢ <;> omega) s t, sg_eq_sub' hst (by omega), gRz_eq]
      have hc := (cmp3_lt m n).2 h
      (refine q_H Try.func72 (fun F => ?_); simp only [q_z,q_y,Try.ntmps72,Try.results72])
      repeat' (first|(with_reducible first|apply q_a|apply q_b|apply q_c|apply q_d|apply q_e|apply q_f|apply q_g|apply q_h|apply q_i|apply q_j|apply q_k|apply q_m|apply q_n|apply q_o|apply q_p|refine q_l ?_)|((with_reducible first|refine q_q jb5_ok fun K hK=>?_|refine q_r jb5_ok fun K hK=>?_);simp (maxSteps:=2000000) only [go_sem,↓reduceIte,reduceCtorEq,Nat.reduceLeDiff,Nat.reduceLT,Nat.reduceBEq,Nat.reduceAdd,hne];(repeat1' with_reducible first|apply And.intro|(intro _;try exact q_v)|(refine hK _ ?_;clear hK K))<;>(try (clear hK K;exact q_u)))|(with_reducible refine q_s ?_;(first|apply q_J|apply q_K|apply q_L|apply q_M|apply q_N|apply q_O)<;>try (intro _;try exact q_v))|with_reducible refine q_t ?_)
      all_goals first | omega | exact q_A rfl
    · rw [sg_eq_sub hst h, gRz_eq]
      have hc : ¬ cmp3 m n < 0 := fun h2 => by have := (cmp3_lt m n).1 h2; omega
      (refine q_H Try.func72 (fun F => ?_); simp only [q_z,q_y,Try.ntmps72,Try.results72])
      repeat' (first|(with_reducible first|apply q_a|apply q_b|apply q_c|apply q_d|apply q_e|apply q_f|apply q_g|apply q_h|apply q_i|apply q_j|apply q_k|apply q_m|apply q_n|apply q_o|apply q_p|refine q_l ?_)|((with_reducible first|refine q_q jb5_ok fun K hK=>?_|refine q_r jb5_ok fun K hK=>?_);simp (maxSteps:=2000000) only [go_sem,↓reduceIte,reduceCtorEq,Nat.reduceLeDiff,Nat.reduceLT,Nat.reduceBEq,Nat.reduceAdd,hne];(repeat1' with_reducible first|apply And.intro|(intro _;try exact q_v)|(refine hK _ ?_;clear hK K))<;>(try (clear hK K;exact q_u)))|(with_reducible refine q_s ?_;(first|apply q_J|apply q_K|apply q_L|apply q_M|apply q_N|apply q_O)<;>try (intro _;try exact q_v))|with_reducible refine q_t ?_)
      all_goals first | omega | exact q_A rfl
def plusDCT : CT := mkCT [nR, nR] false fun l K => match l with
  | [.inr [.b s, .ints .i64 xs], .inr [.b t, .ints .i64 ys]] => (InB 65536 xs ∧ Trd xs ∧ xs.length ≤ 1048576 ∧ InB 65536 ys ∧ Trd ys ∧ ys.length ≤ 1048576) ∧ K (.g (gRz (sv 65536 s xs + sv 65536 t ys) s))
  | _ => False
def rj2 : Cfg := addT 72 plusDCT jt15
theorem rj2_ok : TblOk Try.prog rj2 := q_I jt15_ok Try.func72 fun l K h => by
  split at h
  · rename_i s xs t ys
    obtain ⟨⟨h1, h2, h3, h4, h5, h6⟩, h⟩ := h
    obtain ⟨e1, e2⟩ := sv_ys (s := s) h1 h2
    obtain ⟨e3, e4⟩ := sv_ys (s := t) h4 h5
    rw [e2, e4] at h
    have this := iplus_fl s t (V 65536 xs) (V 65536 ys) (by rw [← e1]; exact h3) (by rw [← e3]; exact h6)
    rw [← e1, ← e3] at this
    exact ⟨_, this, h⟩
  · exact h.elim
def floorDCT : CT := mkCT [nR, nR] false fun l K => match l with
  | [.inr [.b s, .ints .i64 xs], .inr [.b t, .ints .i64 ys]] => (InB 65536 xs ∧ Trd xs ∧ xs.length ≤ 65536 ∧ InB 65536 ys ∧ Trd ys ∧ ys.length ≤ 65536 ∧ sv 65536 t ys ≠ 0) ∧ K (.t [.inr (gRz ((sv 65536 s xs).fdiv (sv 65536 t ys)) (s != t)), .inr (gRz ((sv 65536 s xs).fmod (sv 65536 t ys)) t)])
  | _ => False
def rj3 : Cfg := addT 44 floorDCT rj2
theorem rj3_ok : TblOk Try.prog rj3 := q_I rj2_ok Try.func44 fun l K h => by
  split at h
  · rename_i s xs t ys
    obtain ⟨⟨h1, h2, h3, h4, h5, h6, h7⟩, h⟩ := h
    obtain ⟨e1, e2⟩ := sv_ys (s := s) h1 h2
    obtain ⟨e3, e4⟩ := sv_ys (s := t) h4 h5
    rw [e2, e4] at h
    rw [e4] at h7
    have hn : 0 < V 65536 ys := by
      rcases Nat.eq_zero_or_pos (V 65536 ys) with h0 | h0
      · rw [h0, sg_zero] at h7; exact absurd rfl h7
      · exact h0
    have := ifloor_ret s t (V 65536 xs) (V 65536 ys) hn (by rw [← e1]; exact h3) (by rw [← e3]; exact h6)
    rw [← e1, ← e3] at this
    exact ⟨_, this, h⟩
  · exact h.elim
attribute [go_sem] plusDCT floorDCT
def rq2 : Cfg := listT [(72, plusDCT), (44, floorDCT), (43, intOfCT), (53, numberCT), (60, iminusCT), (66, (rI2CT 1048576 mulF)), (58, (rI2CT 4194304 ordF))] [28]
theorem rq2_ok : TblOk Try.prog rq2 := listE_ok (by simp only [List.mem_singleton, forall_eq]; exact flt) ⟨⟨rj3, rj3_ok, rfl⟩, ⟨rj3, rj3_ok, rfl⟩, ⟨jt12, jt12_ok, rfl⟩, ⟨jt12, jt12_ok, rfl⟩, ⟨jt12, jt12_ok, rfl⟩, ⟨jt12, jt12_ok, rfl⟩, ⟨jt12, jt12_ok, rfl⟩, trivial⟩
attribute [go_sem] rq2
theorem fb_fdiv {S T D : Int} (h : RV S T D) : ((T - S).fdiv D).natAbs ≤ 4 * W80 := by
  have e := Int.fmod_add_mul_fdiv (T - S) D
  obtain ⟨h0, h1, h2, h3⟩ := h
  have hw := W80_ge
  have hm : ((T - S).fmod D).natAbs ≤ D.natAbs := by
    rcases Int.lt_or_gt_of_ne h0 with hd | hd
    · have := (Int.fdiv_fmod_unique' (a := T - S) hd).1 ⟨rfl, rfl⟩
      omega
    · have := (Int.fdiv_fmod_unique (a := T - S) hd).1 ⟨rfl, rfl⟩
      omega
  have e2 : (D * (T - S).fdiv D).natAbs = D.natAbs * ((T - S).fdiv D).natAbs := Int.natAbs_mul _ _
  have e3 : ((T - S).fdiv D).natAbs ≤ D.natAbs * ((T - S).fdiv D).natAbs := Nat.le_mul_of_pos_left _ (by omega)
  generalize D * (T - S).fdiv D = p at *
  generalize D.natAbs * ((T - S).fdiv D).natAbs = m at *
  omega
theorem sv_nil65 : sv 65536 false [] = 0 := rfl
theorem sgz_ge {z : Int} {c : Bool} (h : sgz z c = false) : 0 ≤ z := by
  unfold sgz at h
  split at h
  · omega
  · have := of_decide_eq_false h; omega
theorem sgz_le {z : Int} {c : Bool} (h : sgz z c = true) : z ≤ 0 := by
  unfold sgz at h
  split at h
  · omega
  · have := of_decide_eq_true h; omega
abbrev gG8 (S D n z : Int) (c : Bool) : List C := [.b (decide (S < 0)), .ints .i64 (dg 65536 S.natAbs), .b (decide (D < 0)), .ints .i64 (dg 65536 D.natAbs), .b (decide (n < 0)), .ints .i64 (dg 65536 n.natAbs), .b (sgz z c), .ints .i64 (dg 65536 z.natAbs)]
theorem w65 {z : Int} {k : Nat} (h : z.natAbs ≤ k * W80) (hk : k ≤ 60000) : (dg 65536 z.natAbs).length ≤ 256 := (dg_half' z.natAbs 128).2 (FB_w (Nat.le_trans h (Nat.mul_le_mul_right _ hk)))
set_option maxRecDepth 100000 in
set_option maxHeartbeats 12800000 in
theorem rangeOf_ok (S T D : Int) (h : RV S T D) : Ret Try.prog 81 false [.inr (gG S T D)] (.g (gG8 S D (rLen S T D) (S + D * (rLen S T D - 1)) (decide (S < 0)))) := by
  have hcl := ceil_len (S := S) (T := T) h.1
  have hn := rLen_nonneg S T D h.1
  have hle := rLen_le S T D h.1
  have hel := fun (hp : 0 < rLen S T D) => elem_in (S := S) (T := T) h.1 (k := rLen S T D - 1) (by omega) (by omega)
  have hfd := fb_fdiv h
  obtain ⟨f1, f2, f3⟩ := rv_fb h
  obtain ⟨h0, h1, h2, h3⟩ := h
  have hw := W80_ge
  have l1 := w65 (z := S) (k := 1) (by omega) (by omega)
  have l2 := w65 (z := T) (k := 1) (by omega) (by omega)
  have l3 := w65 (z := D) (k := 1) (by omega) (by omega)
  have m1 := Nat.le_trans (FB_len f1) (show 128 ≤ 1048576 by omega)
  have m2 := Nat.le_trans (FB_len f2) (show 128 ≤ 1048576 by omega)
  have m3 := Nat.le_trans (FB_len f3) (show 128 ≤ 1048576 by omega)
  have eg : T + -S = T - S := by omega
  have l4 := w65 (z := T - S) (k := 4) (by omega) (by omega)
  have l5 := w65 (z := -S) (k := 1) (by omega) (by omega)
  have nm : (-1 : Int) + 0 = -1 := rfl
  have l6 := len_i64 (z := 1) (by omega)
  have l7 := len_i64 (z := -1) (by omega)
  have hrw : ((T - S).fmod D).natAbs ≤ W40 := by
    rcases Int.lt_or_gt_of_ne h0 with hd | hd
    · have := (Int.fdiv_fmod_unique' (a := T - S) hd).1 ⟨rfl, rfl⟩
      omega
    · have := (Int.fdiv_fmod_unique (a := T - S) hd).1 ⟨rfl, rfl⟩
      omega
  have l8 := w65 (z := (T - S).fmod D) (k := 1) (by omega) (by omega)
  have l9 := w65 (z := (T - S).fdiv D) (k := 4) (by omega) (by omega)
  have l10 := w65 (z := rLen S T D) (k := 4) (by omega) (by omega)
  have l11 := w65 (z := rLen S T D + -1) (k := 5) (by omega) (by omega)
  have em : rLen S T D + -1 = rLen S T D - 1 := by omega
  have hpr := dg_len_pos 65536 ((T - S).fmod D).natAbs (by omega)
  have l12 : (dg 65536 (D * (rLen S T D - 1)).natAbs).length ≤ 1000 := by
    rw [Int.natAbs_mul]
    rw [em] at l11
    exact Nat.le_trans (mul_len (by omega) l3 l11) (by omega)
  have l15 := w65 (z := (T - S).fdiv D + 1) (k := 5) (by omega) (by omega)
  have l14 : (dg 65536 (D * -1).natAbs).length ≤ 1000 := by
    rw [Int.natAbs_mul]
    exact Nat.le_trans (mul_len (by omega) l3 l7) (by omega)
  generalize hN : rLen S T D = n at *
  generalize hq : (T - S).fdiv D = q at *
  generalize hr : (T - S).fmod D = r at *
  simp only [gG]
  by_cases hr0 : r = 0
  · have hz : (0 < ((dg 65536 r.natAbs).length : Int)) = False := eq_false (by omega)
    rw [if_pos hr0, Int.add_zero] at hcl
    have caseF : ∀ fl : Bool, sgz (q) fl = false → q = n := fun fl hf => by
      have := sgz_ge hf
      rw [if_pos this] at hcl
      exact hcl
    have caseT : ∀ fl : Bool, sgz (q) fl = true → n = 0 := fun fl hf => by
      have := sgz_le hf
      split at hcl <;> omega
    (refine q_H Try.func81 (fun F => ?_); simp only [q_z,q_y,Try.ntmps81,Try.results81])
    repeat' (first|(with_reducible first|apply q_a|apply q_b|apply q_c|apply q_d|apply q_e|apply q_f|apply q_g|apply q_h|apply q_i|apply q_j|apply q_k|apply q_m|apply q_n|apply q_o|apply q_p|refine q_l ?_)|((with_reducible first|refine q_q rq2_ok fun K hK=>?_|refine q_r rq2_ok fun K hK=>?_);simp (maxSteps:=2000000) only [go_sem,↓reduceIte,reduceCtorEq,Nat.reduceLeDiff,Nat.reduceLT,Nat.reduceBEq,Nat.reduceAdd,eg, hq, hr, hz, hN, sv_nil65, Int.zero_add, decide_false];(repeat1' with_reducible first|apply And.intro|(intro _;try exact q_v)|(refine hK _ ?_;clear hK K))<;>(try (clear hK K;exact q_u)))|(with_reducible refine q_s ?_;(first|apply q_J|apply q_K|apply q_L|apply q_M|apply q_N|apply q_O)<;>try (intro _;try exact q_v))|with_reducible refine q_t ?_)
    all_goals first
      | exact Nat.le_trans l9 (by omega)
      | exact Nat.le_trans l7 (by omega)
      | exact Nat.le_trans l14 (by omega)
      | exact Nat.le_trans l15 (by omega)
      | (rename_i hf; rw [caseF _ hf]; exact Nat.le_trans l10 (by omega))
      | (rename_i hf; rw [caseF _ hf]; exact Nat.le_trans l11 (by omega))
      | (rename_i hf; rw [caseF _ hf, em]; exact Nat.le_trans l12 (by omega))
      | (rename_i hf
         have e := caseF _ hf
         refine q_A ?_
         rw [hf, e, em, show false = decide (n < 0) from (decide_eq_false (by omega)).symm]
         rfl)
      | (rename_i hf
         have e := caseT _ hf
         refine q_B [.inr [none, some (.ints .i64 []), none, some (.ints .i64 []), none, some (.ints .i64 []), none, some (.ints .i64 [])]] rfl ?_
         rw [e]
         rfl)
      | skip
  · have hz : (0 < ((dg 65536 r.natAbs).length : Int)) = True := eq_true (by omega)
    rw [if_neg hr0] at hcl
    have caseF : ∀ fl : Bool, sgz (q + 1) fl = false → q + 1 = n := fun fl hf => by
      have := sgz_ge hf
      rw [if_pos this] at hcl
      exact hcl
    have caseT : ∀ fl : Bool, sgz (q + 1) fl = true → n = 0 := fun fl hf => by
      have := sgz_le hf
      split at hcl <;> omega
    (refine q_H Try.func81 (fun F => ?_); simp only [q_z,q_y,Try.ntmps81,Try.results81])
    repeat' (first|(with_reducible first|apply q_a|apply q_b|apply q_c|apply q_d|apply q_e|apply q_f|apply q_g|apply q_h|apply q_i|apply q_j|apply q_k|apply q_m|apply q_n|apply q_o|apply q_p|refine q_l ?_)|((with_reducible first|refine q_q rq2_ok fun K hK=>?_|refine q_r rq2_ok fun K hK=>?_);simp (maxSteps:=2000000) only [go_sem,↓reduceIte,reduceCtorEq,Nat.reduceLeDiff,Nat.reduceLT,Nat.reduceBEq,Nat.reduceAdd,eg, hq, hr, hz, hN, sv_nil65, Int.zero_add, decide_true];(repeat1' with_reducible first|apply And.intro|(intro _;try exact q_v)|(refine hK _ ?_;clear hK K))<;>(try (clear hK K;exact q_u)))|(with_reducible refine q_s ?_;(first|apply q_J|apply q_K|apply q_L|apply q_M|apply q_N|apply q_O)<;>try (intro _;try exact q_v))|with_reducible refine q_t ?_)
    all_goals first
      | exact Nat.le_trans l9 (by omega)
      | exact Nat.le_trans l7 (by omega)
      | exact Nat.le_trans l14 (by omega)
      | exact Nat.le_trans l15 (by omega)
      | (rename_i hf; rw [caseF _ hf]; exact Nat.le_trans l10 (by omega))
      | (rename_i hf; rw [caseF _ hf]; exact Nat.le_trans l11 (by omega))
      | (rename_i hf; rw [caseF _ hf, em]; exact Nat.le_trans l12 (by omega))
      | (rename_i hf
         have e := caseF _ hf
         refine q_A ?_
         rw [hf, e, em, show false = decide (n < 0) from (decide_eq_false (by omega)).symm]
         rfl)
      | (rename_i hf
         have e := caseT _ hf
         refine q_B [.inr [none, some (.ints .i64 []), none, some (.ints .i64 []), none, some (.ints .i64 []), none, some (.ints .i64 [])]] rfl ?_
         rw [e]
         rfl)
      | skip
def rangeOfCT : CT := mkCT [nG] false fun l K => match l with
  | [.inr [.b s, .ints .u32 xs, .b t, .ints .u32 ys, .b d, .ints .u32 zs]] => (Nrm s xs ∧ Nrm t ys ∧ Nrm d zs ∧ RV (sv 4294967296 s xs) (sv 4294967296 t ys) (sv 4294967296 d zs)) ∧
      K (.g (gG8 (sv 4294967296 s xs) (sv 4294967296 d zs) (rLen (sv 4294967296 s xs) (sv 4294967296 t ys) (sv 4294967296 d zs)) (sv 4294967296 s xs + sv 4294967296 d zs * (rLen (sv 4294967296 s xs) (sv 4294967296 t ys) (sv 4294967296 d zs) - 1)) (decide (sv 4294967296 s xs < 0))))
  | _ => False
def rj4 : Cfg := addT 81 rangeOfCT rj3
theorem rj4_ok : TblOk Try.prog rj4 := q_I rj3_ok Try.func81 fun l K h => by
  split at h
  · obtain ⟨⟨h1, h2, h3, h4⟩, h⟩ := h
    have := rangeOf_ok _ _ _ h4
    rw [← gG_nrm h1 h2 h3] at this
    exact ⟨_, this, h⟩
  · exact h.elim
def n8 : Option C ⊕ List (Option C) := .inr [none, some (.ints .i64 []), none, some (.ints .i64 []), none, some (.ints .i64 []), none, some (.ints .i64 [])]
def elem65CT : CT := mkCT [n8, nR] false fun l K => match l with
  | [.inr [.b s, .ints .i64 xs, .b d, .ints .i64 ds, .b m, .ints .i64 ns, .b z, .ints .i64 zs], .inr [.b u, .ints .i64 us]] => ((InB 65536 xs ∧ Trd xs ∧ InB 65536 ds ∧ Trd ds ∧ InB 65536 us ∧ Trd us) ∧ xs.length ≤ 1000 ∧ ds.length ≤ 1000 ∧ us.length ≤ 1000) ∧
      ∀ c : Bool, K (.g (gRz (sv 65536 s xs + sv 65536 d ds * sv 65536 u us) c))
  | _ => False
set_option maxHeartbeats 1600000 in
theorem elem65_ret (s d m z u : Bool) (xs ds ns zs us : List Int) (b1 : InB 65536 xs) (t1 : Trd xs) (b2 : InB 65536 ds) (t2 : Trd ds) (b3 : InB 65536 us) (t3 : Trd us) (h1 : xs.length ≤ 1000) (h2 : ds.length ≤ 1000) (h3 : us.length ≤ 1000) :
    Ret Try.prog 92 false [.inr [.b s, .ints .i64 xs, .b d, .ints .i64 ds, .b m, .ints .i64 ns, .b z, .ints .i64 zs], .inr [.b u, .ints .i64 us]] (.g (gRz (sv 65536 s xs + sv 65536 d ds * sv 65536 u us) s)) := by
  have l12 : (dg 65536 (sv 65536 d ds * sv 65536 u us).natAbs).length ≤ 2000 := by
    rw [Int.natAbs_mul]
    refine Nat.le_trans (mul_len (by omega) ?_ ?_) (show 1000 + 1000 ≤ 2000 by omega)
    · rw [sv_abs, dg_V 65536 (by omega) _ b2 t2]; exact h2
    · rw [sv_abs, dg_V 65536 (by omega) _ b3 t3]; exact h3
  (refine q_H Try.func92 (fun F => ?_); simp only [q_z,q_y,Try.ntmps92,Try.results92])
  repeat' (first|(with_reducible first|apply q_a|apply q_b|apply q_c|apply q_d|apply q_e|apply q_f|apply q_g|apply q_h|apply q_i|apply q_j|apply q_k|apply q_m|apply q_n|apply q_o|apply q_p|refine q_l ?_)|((with_reducible first|refine q_q rq2_ok fun K hK=>?_|refine q_r rq2_ok fun K hK=>?_);simp (maxSteps:=2000000) only [go_sem,↓reduceIte,reduceCtorEq,Nat.reduceLeDiff,Nat.reduceLT,Nat.reduceBEq,Nat.reduceAdd];(repeat1' with_reducible first|apply And.intro|(intro _;try exact q_v)|(refine hK _ ?_;clear hK K))<;>(try (clear hK K;exact q_u)))|(with_reducible refine q_s ?_;(first|apply q_J|apply q_K|apply q_L|apply q_M|apply q_N|apply q_O)<;>try (intro _;try exact q_v))|with_reducible refine q_t ?_)
  all_goals first | omega | exact q_A rfl
def rj5 : Cfg := addT 92 elem65CT rj4
theorem rj5_ok : TblOk Try.prog rj5 := q_I rj4_ok Try.func92 fun l K h => by
  split at h
  · obtain ⟨⟨⟨b1, t1, b2, t2, b3, t3⟩, h1, h2, h3⟩, h⟩ := h
    exact ⟨_, elem65_ret _ _ _ _ _ _ _ _ _ _ b1 t1 b2 t2 b3 t3 h1 h2 h3, h _⟩
  · exact h.elim
attribute [go_sem] rangeOfCT elem65CT
end Go.Proofs.Ytneecniebhhhlaa

namespace Go.Proofs.Ytneecniebhhhlaa
set_option linter.unusedSimpArgs false
set_option linter.unusedVariables false
open Go.Abs Go.Proofs.NatL

def has8 (S D n v : Int) : Bool := decide ((v - S).fmod D = 0 ∧ 0 ≤ (v - S).fdiv D ∧ (v - S).fdiv D < n)
theorem cz_lt (a b : Int) : cmpZ a b < 0 ↔ a < b := by unfold cmpZ; (repeat' split) <;> omega
set_option maxRecDepth 100000 in
set_option maxHeartbeats 6400000 in
theorem has65_ret (S D n v : Int) (z : Bool) (zs : List Int) (hD : D ≠ 0) (h1 : S.natAbs < W40) (h2 : D.natAbs < W40) (h3 : (dg 65536 n.natAbs).length ≤ 1000) (h4 : FB v) :
    Ret Try.prog 93 false [.inr [.b (decide (S < 0)), .ints .i64 (dg 65536 S.natAbs), .b (decide (D < 0)), .ints .i64 (dg 65536 D.natAbs), .b (decide (n < 0)), .ints .i64 (dg 65536 n.natAbs), .b z, .ints .i64 zs], .inr (gR v)] (.c (.b (has8 S D n v))) := by
  have hw := W80_ge
  have l1 := w65 (z := S) (k := 1) (by omega) (by omega)
  have l2 := w65 (z := D) (k := 1) (by omega) (by omega)
  have l3 := (dg_half' v.natAbs 128).2 h4
  have l4 := w65 (z := -S) (k := 1) (by omega) (by omega)
  have ev : v + -S = v - S := by omega
  have l5 : (dg 65536 (v - S).natAbs).length ≤ 257 := by
    obtain ⟨e, he⟩ : ∃ e, e = 256 := ⟨_, rfl⟩
    have q1 := lt_of_len (B := 65536) (a := v.natAbs) (k := e) (by omega) (by omega)
    have q2 := lt_of_len (B := 65536) (a := S.natAbs) (k := e) (by omega) (by omega)
    have := dg_len_le (B := 65536) (by omega) (v - S).natAbs (e + 1) (by rw [Nat.pow_succ]; omega)
    omega
  have hqr : ((v - S).fdiv D).natAbs ≤ (v - S).natAbs + D.natAbs ∧ ((v - S).fmod D).natAbs ≤ D.natAbs := by
    have e := Int.fmod_add_mul_fdiv (v - S) D
    have hm : ((v - S).fmod D).natAbs ≤ D.natAbs := by
      rcases Int.lt_or_gt_of_ne hD with hd | hd
      · have := (Int.fdiv_fmod_unique' (a := v - S) hd).1 ⟨rfl, rfl⟩
        omega
      · have := (Int.fdiv_fmod_unique (a := v - S) hd).1 ⟨rfl, rfl⟩
        omega
    have e2 : (D * (v - S).fdiv D).natAbs = D.natAbs * ((v - S).fdiv D).natAbs := Int.natAbs_mul _ _
    have e3 : ((v - S).fdiv D).natAbs ≤ D.natAbs * ((v - S).fdiv D).natAbs := Nat.le_mul_of_pos_left _ (by omega)
    generalize D * (v - S).fdiv D = p at *
    generalize D.natAbs * ((v - S).fdiv D).natAbs = m at *
    omega
  have l6 : (dg 65536 ((v - S).fdiv D).natAbs).length ≤ 258 := by
    obtain ⟨e, he⟩ : ∃ e, e = 257 := ⟨_, rfl⟩
    have q1 := lt_of_len (B := 65536) (a := (v - S).natAbs) (k := e) (by omega) (by omega)
    have q2 := lt_of_len (B := 65536) (a := D.natAbs) (k := e) (by omega) (by omega)
    have := dg_len_le (B := 65536) (by omega) ((v - S).fdiv D).natAbs (e + 1) (by rw [Nat.pow_succ]; omega)
    omega
  unfold has8
  generalize hq : (v - S).fdiv D = q at *
  generalize hr : (v - S).fmod D = r at *
  have pr := dg_len_pos 65536 r.natAbs (by omega)
  have pq := dg_len_pos 65536 q.natAbs (by omega)
  have cl := cz_lt q n
  (refine q_H Try.func93 (fun F => ?_); simp only [q_z,q_y,Try.ntmps93,Try.results93])
  repeat' (first|(with_reducible first|apply q_a|apply q_b|apply q_c|apply q_d|apply q_e|apply q_f|apply q_g|apply q_h|apply q_i|apply q_j|apply q_k|apply q_m|apply q_n|apply q_o|apply q_p|refine q_l ?_)|((with_reducible first|refine q_q rq2_ok fun K hK=>?_|refine q_r rq2_ok fun K hK=>?_);simp (maxSteps:=2000000) only [go_sem,↓reduceIte,reduceCtorEq,Nat.reduceLeDiff,Nat.reduceLT,Nat.reduceBEq,Nat.reduceAdd,ev, hq, hr];(repeat1' with_reducible first|apply And.intro|(intro _;try exact q_v)|(refine hK _ ?_;clear hK K))<;>(try (clear hK K;exact q_u)))|(with_reducible refine q_s ?_;(first|apply q_J|apply q_K|apply q_L|apply q_M|apply q_N|apply q_O)<;>try (intro _;try exact q_v))|with_reducible refine q_t ?_)
  all_goals first
    | omega
    | (rename_i k1 k2 k3
       have k4 := sgz_le k2
       refine q_A (congrArg (fun b => AV.c (C.b b)) ?_)
       first
         | (refine decide_eq_decide.2 ?_; omega)
         | (refine (decide_eq_false ?_).symm; omega))
    | (rename_i k1 k2
       have k4 := sgz_ge k2
       refine q_A (congrArg (fun b => AV.c (C.b b)) ?_)
       refine decide_eq_decide.2 ?_; omega)
    | (refine q_A (congrArg (fun b => AV.c (C.b b)) ?_)
       refine (decide_eq_false ?_).symm; omega)
def has65CT : CT := mkCT [n8, nR] false fun l K => match l with
  | [.inr [.b s, .ints .i64 xs, .b d, .ints .i64 ds, .b m, .ints .i64 ns, .b z, .ints .i64 zs], .inr [.b u, .ints .i64 us]] =>
      ((InB 65536 xs ∧ Trd xs ∧ InB 65536 ds ∧ Trd ds ∧ InB 65536 us ∧ Trd us ∧ InB 65536 ns ∧ Trd ns) ∧ (s = decide (sv 65536 s xs < 0) ∧ d = decide (sv 65536 d ds < 0) ∧ m = decide (sv 65536 m ns < 0) ∧ u = decide (sv 65536 u us < 0)) ∧
        sv 65536 d ds ≠ 0 ∧ (sv 65536 s xs).natAbs < W40 ∧ (sv 65536 d ds).natAbs < W40 ∧ ns.length ≤ 1000 ∧ FB (sv 65536 u us)) ∧ K (.c (.b (has8 (sv 65536 s xs) (sv 65536 d ds) (sv 65536 m ns) (sv 65536 u us))))
  | _ => False
def rj6 : Cfg := addT 93 has65CT rj5
theorem rj6_ok : TblOk Try.prog rj6 := q_I rj5_ok Try.func93 fun l K h => by
  split at h
  · rename_i s xs d ds m ns z zs u us
    obtain ⟨⟨⟨b1, t1, b2, t2, b3, t3, b4, t4⟩, ⟨e1, e2, e3, e4⟩, hD, w1, w2, w3, w4⟩, h⟩ := h
    have q1 : xs = dg 65536 (sv 65536 s xs).natAbs := by rw [sv_abs, dg_V 65536 (by omega) _ b1 t1]
    have q2 : ds = dg 65536 (sv 65536 d ds).natAbs := by rw [sv_abs, dg_V 65536 (by omega) _ b2 t2]
    have q3 : us = dg 65536 (sv 65536 u us).natAbs := by rw [sv_abs, dg_V 65536 (by omega) _ b3 t3]
    have q4 : ns = dg 65536 (sv 65536 m ns).natAbs := by rw [sv_abs, dg_V 65536 (by omega) _ b4 t4]
    have := has65_ret (sv 65536 s xs) (sv 65536 d ds) (sv 65536 m ns) (sv 65536 u us) z zs hD w1 w2 (by rw [← q4]; exact w3) w4
    simp only [gR, ← q1, ← q2, ← q3, ← q4, ← e1, ← e2, ← e3, ← e4] at this
    exact ⟨_, this, h⟩
  · exact h.elim
attribute [go_sem] has65CT
end Go.Proofs.Ytneecniebhhhlaa
