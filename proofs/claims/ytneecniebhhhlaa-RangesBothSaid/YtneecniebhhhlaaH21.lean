import Derived.Test.YtneecniebhhhlaaH15
import Derived.Test.YtneecniebhhhlaaH18
import Derived.Test.YtneecniebhhhlaaH19
namespace Go.Proofs.Ytneecniebhhhlaa
set_option linter.unusedSimpArgs false
set_option linter.unusedVariables false
open Go.Abs Go.Proofs.NatL

def Nrm (s : Bool) (xs : List Int) : Prop := InB 4294967296 xs ∧ Trd xs ∧ (xs = [] → s = false)
theorem Nrm_eq {s : Bool} {xs : List Int} (h : Nrm s xs) : s = decide (sv 4294967296 s xs < 0) ∧ xs = dg 4294967296 (sv 4294967296 s xs).natAbs := by
  obtain ⟨bx, ht, h0⟩ := h
  rw [sv_abs]
  have hd := dg_V 4294967296 (by omega) xs bx ht
  refine ⟨?_, hd.symm⟩
  cases s
  · rw [decide_eq_false]; simp [sv]
  · have hne : xs ≠ [] := fun e => by have := h0 e; cases this
    have : 0 < V 4294967296 xs := by
      rcases Nat.eq_zero_or_pos (V 4294967296 xs) with h | h
      · rw [h, dg_zero] at hd; exact absurd hd.symm hne
      · exact h
    rw [decide_eq_true]; simp [sv]; omega
theorem Nrm_g (z : Int) : Nrm (decide (z < 0)) (dg 4294967296 z.natAbs) = True := by
  refine eq_true ⟨InB_dg _ (by omega) _, dg_trd _ (by omega) _, fun h => ?_⟩
  have := dg_len_pos 4294967296 z.natAbs (by omega)
  rw [h] at this
  simp only [List.length_nil, Nat.lt_irrefl, false_iff] at this
  exact decide_eq_false (by omega)
theorem Nrm_0 : Nrm false [] = True := eq_true ⟨InB_nil _, .inl rfl, fun _ => rfl⟩
theorem okZ_Nrm {s : Bool} {xs : List Int} (h : okZ s xs = true) (bx : InB 4294967296 xs) : Nrm s xs :=
  ⟨bx, okZ_trd h, fun e => by subst e; cases s; rfl; simp [okZ] at h⟩
abbrev gR (z : Int) : List C := [.b (decide (z < 0)), .ints .i64 (dg 65536 z.natAbs)]
abbrev gRz (z : Int) (b : Bool) : List C := [.b (sgz z b), .ints .i64 (dg 65536 z.natAbs)]
abbrev nR : Option C ⊕ List (Option C) := .inr [none, some (.ints .i64 [])]

def jt0 : Cfg := addT 23 atCT it5
theorem jt0_ok : TblOk Try.prog jt0 := q_I it5_ok Try.func23 fun l K h => by
  split at h
  · exact ⟨_, (At_ret _ _).plain rfl, h⟩
  · exact h.elim
set_option maxHeartbeats 800000 in
theorem intOk_ret (s : Bool) (xs : List Int) (hx : xs.length ≤ 140737488355328) : Ret Try.prog 24 false [.inr [.b s, .ints .u32 xs]] (.c (.b (okZ s xs))) := by
  (refine q_H Try.func24 (fun F => ?_); simp only [q_z,q_y,Try.ntmps24,Try.results24])
  repeat' (first|(with_reducible first|apply q_a|apply q_b|apply q_c|apply q_d|apply q_e|apply q_f|apply q_g|apply q_h|apply q_i|apply q_j|apply q_k|apply q_m|apply q_n|apply q_o|apply q_p|refine q_l ?_)|((with_reducible first|refine q_q cf0_ok fun K hK=>?_|refine q_r cf0_ok fun K hK=>?_);simp (maxSteps:=2000000) only [go_sem,↓reduceIte,reduceCtorEq,Nat.reduceLeDiff,Nat.reduceLT,Nat.reduceBEq,Nat.reduceAdd];(repeat1' with_reducible first|apply And.intro|intro _|(refine hK _ ?_;clear hK K))<;>(try (clear hK K;exact q_u)))|(with_reducible refine q_s ?_;(first|apply q_J|apply q_K|apply q_L|apply q_M|apply q_N|apply q_O)<;>try intro _)|with_reducible refine q_t ?_)
  all_goals refine q_A ?_
  all_goals simp only [resAV, q_y, AV.c.injEq, C.b.injEq]
  all_goals refine okZ_iff s xs _ ?_
  all_goals first | (simp_all; done) | (simp_all; omega)
def jt1 : Cfg := addT 24 ivalidCT jt0
theorem jt1_ok : TblOk Try.prog jt1 := q_I jt0_ok Try.func24 fun l K h => by
  split at h
  · exact ⟨_, (intOk_ret _ _ h.1).plain rfl, h.2⟩
  · exact h.elim
def jb1 : Cfg := listT [(23, atCT), (24, ivalidCT)] [28]
theorem jb1_ok : TblOk Try.prog jb1 := listT_ok (big := jt1) jt1_ok ⟨rfl, rfl, trivial⟩
attribute [go_sem] jb1

set_option maxHeartbeats 1600000 in
theorem faults_ret (l : List (Bool × List Int)) (hn : l.length ≤ 1000) (hl : allL 140737488355328 l) :
    Ret Try.prog 33 false [.inl (.sl 2 (l.map rowI))] (.g [.i .i64 (fbC l), .i .i64 (fbX 0 l)]) := by
  (refine q_H Try.func33 (fun F => ?_); simp only [q_z,q_y,Try.ntmps33,Try.results33])
  repeat' (first|(with_reducible first|apply q_a|apply q_b|apply q_c|apply q_d|apply q_e|apply q_f|apply q_g|apply q_h|apply q_i|apply q_j|apply q_k|apply q_m|apply q_n|apply q_o|apply q_p|refine q_l ?_)|((with_reducible first|refine q_q jb1_ok fun K hK=>?_|refine q_r jb1_ok fun K hK=>?_);simp (maxSteps:=2000000) only [go_sem,↓reduceIte,reduceCtorEq,Nat.reduceLeDiff,Nat.reduceLT,Nat.reduceBEq,Nat.reduceAdd,List.length_map];(repeat1' with_reducible first|apply And.intro|intro _|(refine hK _ ?_;clear hK K))<;>(try (clear hK K;exact q_u)))|(with_reducible refine q_s ?_;(first|apply q_J|apply q_K|apply q_L|apply q_M|apply q_N|apply q_O)<;>try intro _)|with_reducible refine q_t ?_)
  refine q_G (ι := { i : Nat // i ≤ l.length ∧ fbC (l.drop i) = fbC l ∧ fbX i (l.drop i) = fbX 0 l }) (fun i => ⟨20, [(0, .c (.sl 2 (l.map rowI))), (2, .bx 0 0), (3, .c (.i .i64 (i.1 : Nat)))], ⟨[(0, [.c (.i .i64 0), .c (.i .i64 0)])], [], []⟩, 1⟩) (fun i => l.length - i.1) ⟨0, by simp, rfl, rfl⟩ ?_ ?_
  · exact q_D
  rintro ⟨i, g1, g2, g3⟩
  simp only at g1 g2 g3 ⊢
  have hlen := allL_get (i := i) hl
  rcases Nat.lt_or_ge i l.length with hi | hi
  · have hr := rowI_get l i hi
    rw [drop_getD l i hi, fbC] at g2
    rw [drop_getD l i hi, fbX] at g3
    cases ho : okZ (l.getD i (false, [])).1 (l.getD i (false, [])).2
    · simp only [ho, Bool.false_eq_true, if_false] at g2 g3
      repeat' (first|(with_reducible first|apply q_a|apply q_b|apply q_c|apply q_d|apply q_e|apply q_f|apply q_g|apply q_h|apply q_i|apply q_j|apply q_k|apply q_m|apply q_n|apply q_o|apply q_p|refine q_l ?_)|((with_reducible first|refine q_q jb1_ok fun K hK=>?_|refine q_r jb1_ok fun K hK=>?_);simp (maxSteps:=2000000) only [go_sem,↓reduceIte,reduceCtorEq,Nat.reduceLeDiff,Nat.reduceLT,Nat.reduceBEq,Nat.reduceAdd,hr, ho, List.length_map];(repeat1' with_reducible first|apply And.intro|(intro _;try exact q_v)|(refine hK _ ?_;clear hK K))<;>(try (clear hK K;exact q_u)))|(with_reducible refine q_s ?_;(first|apply q_J|apply q_K|apply q_L|apply q_M|apply q_N|apply q_O)<;>try (intro _;try exact q_v))|with_reducible refine q_t ?_)
      exact q_A (by rw [← g2, ← g3]; rfl)
    · simp only [ho, if_true] at g2 g3
      repeat' (first|(with_reducible first|apply q_a|apply q_b|apply q_c|apply q_d|apply q_e|apply q_f|apply q_g|apply q_h|apply q_i|apply q_j|apply q_k|apply q_m|apply q_n|apply q_o|apply q_p|refine q_l ?_)|((with_reducible first|refine q_q jb1_ok fun K hK=>?_|refine q_r jb1_ok fun K hK=>?_);simp (maxSteps:=2000000) only [go_sem,↓reduceIte,reduceCtorEq,Nat.reduceLeDiff,Nat.reduceLT,Nat.reduceBEq,Nat.reduceAdd,hr, ho, List.length_map];(repeat1' with_reducible first|apply And.intro|(intro _;try exact q_v)|(refine hK _ ?_;clear hK K))<;>(try (clear hK K;exact q_u)))|(with_reducible refine q_s ?_;(first|apply q_J|apply q_K|apply q_L|apply q_M|apply q_N|apply q_O)<;>try (intro _;try exact q_v))|with_reducible refine q_t ?_)
      refine q_F ⟨i + 1, hi, g2, by push_cast; exact g3⟩ ?_ (by simp only; omega)
      exact q_D
  · have hi' : i = l.length := by omega
    subst hi'
    rw [List.drop_length] at g2 g3
    repeat' (first|(with_reducible first|apply q_a|apply q_b|apply q_c|apply q_d|apply q_e|apply q_f|apply q_g|apply q_h|apply q_i|apply q_j|apply q_k|apply q_m|apply q_n|apply q_o|apply q_p|refine q_l ?_)|((with_reducible first|refine q_q jb1_ok fun K hK=>?_|refine q_r jb1_ok fun K hK=>?_);simp (maxSteps:=2000000) only [go_sem,↓reduceIte,reduceCtorEq,Nat.reduceLeDiff,Nat.reduceLT,Nat.reduceBEq,Nat.reduceAdd,List.length_map];(repeat1' with_reducible first|apply And.intro|(intro _;try exact q_v)|(refine hK _ ?_;clear hK K))<;>(try (clear hK K;exact q_u)))|(with_reducible refine q_s ?_;(first|apply q_J|apply q_K|apply q_L|apply q_M|apply q_N|apply q_O)<;>try (intro _;try exact q_v))|with_reducible refine q_t ?_)
    exact q_A (by rw [← g2, ← g3]; rfl)
def jt2 : Cfg := addT 33 icheckCT jt1
theorem jt2_ok : TblOk Try.prog jt2 := q_I jt1_ok Try.func33 fun l K h => by
  split at h
  · split at h
    · rename_i l hl
      rw [unI_some hl]
      exact ⟨_, (faults_ret l h.1.1 h.1.2).plain rfl, h.2⟩
    · exact h.elim
  · exact h.elim
def jb2 : Cfg := listT [(41, ofCT)] [28]
theorem jb2_ok : TblOk Try.prog jb2 := listT_ok (big := jt2) jt2_ok ⟨rfl, trivial⟩
attribute [go_sem] jb2

set_option maxHeartbeats 800000 in
theorem intOf_ret (s : Bool) (xs : List Int) (hx : xs.length ≤ 1048576) (bx : InB 4294967296 xs) : Ret Try.prog 43 false [.inr [.b s, .ints .u32 xs]] (.g [.b s, .ints .i64 (dg 65536 (V 4294967296 xs))]) := by
  (refine q_H Try.func43 (fun F => ?_); simp only [q_z,q_y,Try.ntmps43,Try.results43])
  repeat' (first|(with_reducible first|apply q_a|apply q_b|apply q_c|apply q_d|apply q_e|apply q_f|apply q_g|apply q_h|apply q_i|apply q_j|apply q_k|apply q_m|apply q_n|apply q_o|apply q_p|refine q_l ?_)|((with_reducible first|refine q_q jb2_ok fun K hK=>?_|refine q_r jb2_ok fun K hK=>?_);simp (maxSteps:=2000000) only [go_sem,↓reduceIte,reduceCtorEq,Nat.reduceLeDiff,Nat.reduceLT,Nat.reduceBEq,Nat.reduceAdd];(repeat1' with_reducible first|apply And.intro|intro _|(refine hK _ ?_;clear hK K))<;>(try (clear hK K;exact q_u)))|(with_reducible refine q_s ?_;(first|apply q_J|apply q_K|apply q_L|apply q_M|apply q_N|apply q_O)<;>try intro _)|with_reducible refine q_t ?_)
  all_goals first | omega | exact q_A rfl
def intOfCT : CT := mkCT [nP] false fun l K => match l with
  | [.inr [.b s, .ints .u32 xs]] => (xs.length ≤ 1048576 ∧ InB 4294967296 xs) ∧ K (.g [.b s, .ints .i64 (dg 65536 (V 4294967296 xs))])
  | _ => False
def jt3 : Cfg := addT 43 intOfCT jt2
theorem jt3_ok : TblOk Try.prog jt3 := q_I jt2_ok Try.func43 fun l K h => by
  split at h
  · exact ⟨_, intOf_ret _ _ h.1.1 h.1.2, h.2⟩
  · exact h.elim
attribute [go_sem] intOfCT Nrm_g Nrm_0 gR gRz

def jb3 : Cfg := listT [(65, limbsCT), (110, sameCT)] [28]
theorem jb3_ok : TblOk Try.prog jb3 := listT_ok (big := jt3) jt3_ok ⟨rfl, rfl, trivial⟩
attribute [go_sem] jb3
set_option maxHeartbeats 1600000 in
theorem sameInt_ret (s t : Bool) (xs ys : List Int) (hn : Nrm s xs) (hx : xs.length ≤ 16777216) (by' : InB 65536 ys) (ty : Trd ys) (hy : ys.length ≤ 4194304) :
    Ret Try.prog 39 false [.inr [.b s, .ints .u32 xs], .inr [.b t, .ints .i64 ys]] (.c (.b (decide (sv 4294967296 s xs = sv 65536 t ys)))) := by
  obtain ⟨h1, h2⟩ := Nrm_eq hn
  have hd := dg_V 65536 (by omega) ys by' ty
  have hp := dg_len_pos 65536 (V 65536 ys) (by omega)
  rw [hd] at hp
  have hlim : (dg 4294967296 (V 65536 ys)).length ≤ 16777216 := Nat.le_trans (dg_half_le _ _ (by rw [hd]; exact hy)) (by omega)
  generalize ha : sv 4294967296 s xs = a at *
  have key : decide (s = (t && decide (0 < (ys.length : Int))) ∧ xs = dg 4294967296 (V 65536 ys)) = decide (a = sv 65536 t ys) := by
    congr 1
    refine propext ⟨fun ⟨k1, k2⟩ => ?_, fun k => ?_⟩
    · rw [h2] at k2
      have k3 := congrArg (V 4294967296) k2
      rw [V32, V32] at k3
      rw [h1] at k1
      unfold sv
      rw [← k3]
      rcases Nat.eq_zero_or_pos ys.length with h0 | h0
      · have : a.natAbs = 0 := by
          rw [k3]
          rcases Nat.eq_zero_or_pos (V 65536 ys) with h | h
          · exact h
          · have := hp.2 h; omega
        rw [this]; simp; omega
      · have h0' : (0 : Int) < ys.length := by omega
        simp only [decide_eq_true h0', Bool.and_true] at k1
        subst k1
        by_cases h : a < 0
        · rw [if_pos (by simpa using h)]; omega
        · rw [if_neg (by simpa using h)]; omega
    · subst k
      rw [sv_abs] at h2
      refine ⟨?_, h2⟩
      rw [h1]
      rcases Nat.eq_zero_or_pos ys.length with h0 | h0
      · have h0' : ¬ (0 : Int) < ys.length := by omega
        have : ys = [] := List.eq_nil_of_length_eq_zero h0
        subst this
        rw [sv0]; simp
      · have h0' : (0 : Int) < ys.length := by omega
        have hv := hp.1 h0
        rw [decide_eq_true h0', Bool.and_true]
        cases t
        · rw [svf]; exact decide_eq_false (by omega)
        · rw [svt]; exact decide_eq_true (by omega)
  rw [← key]
  cases t
  all_goals
    (refine q_H Try.func39 (fun F => ?_); simp only [q_z,q_y,Try.ntmps39,Try.results39])
    repeat' (first|(with_reducible first|apply q_a|apply q_b|apply q_c|apply q_d|apply q_e|apply q_f|apply q_g|apply q_h|apply q_i|apply q_j|apply q_k|apply q_m|apply q_n|apply q_o|apply q_p|refine q_l ?_)|((with_reducible first|refine q_q jb3_ok fun K hK=>?_|refine q_r jb3_ok fun K hK=>?_);simp (maxSteps:=2000000) only [go_sem,↓reduceIte,reduceCtorEq,Nat.reduceLeDiff,Nat.reduceLT,Nat.reduceBEq,Nat.reduceAdd,hd];(repeat1' with_reducible first|apply And.intro|(intro _;try exact q_v)|(refine hK _ ?_;clear hK K))<;>(try (clear hK K;exact q_u)))|(with_reducible refine q_s ?_;(first|apply q_J|apply q_K|apply q_L|apply q_M|apply q_N|apply q_O)<;>try (intro _;try exact q_v))|with_reducible refine q_t ?_)
  all_goals (refine q_A ?_; simp only [resAV, q_y, AV.c.injEq, C.b.injEq]; simp_all)

end Go.Proofs.Ytneecniebhhhlaa

namespace Go.Proofs.NatL
set_option linter.unusedSimpArgs false
set_option linter.unusedVariables false

theorem B2_nil : B2 [] = 0 := rfl
theorem B2_cons (b : Bool) (l : List Bool) : B2 (b :: l) = 2 * B2 l + (if b then 1 else 0) := by
  have h := group_step (b :: l) 0 l.length (by simp)
  simpa using h
theorem B2_false (n : Nat) (l : List Bool) : B2 (List.replicate n false ++ l) = B2 l * 2 ^ n := B2_shift n l
theorem set_zeros (k : Nat) (ls : List Bool) (hk : 0 < k) (b : Bool) : (List.replicate k false ++ ls).set (k - 1) b = List.replicate (k - 1) false ++ b :: ls := by
  obtain ⟨j, rfl⟩ : ∃ j, k = j + 1 := ⟨k - 1, by omega⟩
  rw [show j + 1 - 1 = j by omega, List.replicate_succ', List.append_assoc]
  rw [List.set_append_right _ _ (by simp)]
  simp
theorem set_last (k : Nat) (c b : Bool) (ls : List Bool) : (List.replicate k false ++ c :: ls).set k b = List.replicate k false ++ b :: ls := by
  rw [List.set_append_right _ _ (by simp)]
  simp
theorem drop_bit (l : List Bool) (k : Nat) (hk : 0 < k) (hl : k ≤ l.length) : B2 (l.drop (k - 1)) = 2 * B2 (l.drop k) + (if l.getD (k - 1) false then 1 else 0) := by
  rw [List.drop_eq_getElem_cons (i := k - 1) (by omega), B2_cons, show k - 1 + 1 = k by omega]
  simp [List.getD_eq_getElem?_getD, List.getElem?_eq_getElem (show k - 1 < l.length by omega)]
theorem drop_bs (m : Nat) : B2 ((bs m).drop 0) = m := by rw [List.drop_zero, B2_bs]
theorem sgz_sg (s : Bool) (k : Nat) : sgz (sg s k) s = s := by
  unfold sgz
  by_cases h : sg s k = 0
  · rw [if_pos h]
  · rw [if_neg h]
    cases s
    · rw [sgf] at h ⊢; exact decide_eq_false (by omega)
    · rw [sgt] at h ⊢; exact decide_eq_true (by omega)
theorem sg_eq_add (s : Bool) (m n : Nat) : sg s m + sg s n = sg s (m + n) := by cases s <;> simp only [sgt, sgf] <;> omega
theorem sg_eq_sub {s t : Bool} (h : s ≠ t) {m n : Nat} (hn : n ≤ m) : sg s m + sg t n = sg s (m - n) := by
  cases s <;> cases t <;> simp only [sgt, sgf] <;> first | exact absurd rfl h | omega
theorem sg_eq_sub' {s t : Bool} (h : s ≠ t) {m n : Nat} (hn : m ≤ n) : sg s m + sg t n = sg t (n - m) := by
  cases s <;> cases t <;> simp only [sgt, sgf] <;> first | exact absurd rfl h | omega
theorem tdiv2_abs (z : Int) : (z.tdiv 2).natAbs = z.natAbs / 2 := by rw [Int.natAbs_tdiv]; rfl
theorem tmod2_ne (z : Int) : decide (¬ z.tmod 2 = 0) = decide (z.natAbs % 2 = 1) := by
  have h1 : (z.tmod 2).natAbs = z.natAbs % 2 := by rw [Int.natAbs_tmod]; rfl
  congr 1
  exact propext ⟨fun h => by omega, fun h => by omega⟩

end Go.Proofs.NatL

namespace Go.Proofs.NatL
set_option linter.unusedSimpArgs false
set_option linter.unusedVariables false
theorem cmp3_gt (a b : Nat) : 0 < cmp3 a b ↔ b < a := by
  have h1 := cmp3_ge a b
  have h2 := cmp3_lt a b
  unfold cmp3 at *
  split
  · omega
  · split
    · rename_i h; simp_all
    · omega
theorem sg_dec {s : Bool} {m : Nat} (h : 0 < m) : decide (sg s m < 0) = s := by
  cases s
  · exact decide_eq_false (by rw [sgf]; omega)
  · exact decide_eq_true (by rw [sgt]; omega)
theorem sg_zero (s : Bool) : sg s 0 = 0 := by cases s <;> rfl
theorem sg_ne0 {s : Bool} {m : Nat} (h : 0 < m) : sg s m ≠ 0 := by
  intro e
  have := sg_abs s m
  rw [e] at this
  simp at this; omega
theorem floor_sg1 (s t : Bool) (m n : Nat) (hn : 0 < n) (h : s = t ∨ m % n = 0) : sg (s != t) (m / n) = (sg s m).fdiv (sg t n) ∧ sg t (m % n) = (sg s m).fmod (sg t n) := by
  rcases Nat.eq_zero_or_pos m with h0 | h0
  · subst h0
    rw [Nat.zero_div, Nat.zero_mod, sg_zero, sg_zero, sg_zero, Int.zero_fdiv, Int.zero_fmod]
    exact ⟨rfl, rfl⟩
  · have := floor_same (a := sg s m) (b := sg t n) (sg_ne0 hn) (by rw [sg_dec h0, sg_dec hn, sg_abs, sg_abs]; exact h)
    rw [sg_dec h0, sg_dec hn, sg_abs, sg_abs] at this
    exact this
theorem floor_sg2 (s t : Bool) (m n : Nat) (hn : 0 < n) (h : s ≠ t) (hr : m % n ≠ 0) : sg true (m / n + 1) = (sg s m).fdiv (sg t n) ∧ sg t (n - m % n) = (sg s m).fmod (sg t n) := by
  have h0 : 0 < m := by
    rcases Nat.eq_zero_or_pos m with h0 | h0
    · subst h0; simp at hr
    · exact h0
  have := floor_diff (a := sg s m) (b := sg t n) (sg_ne0 hn) (by rw [sg_dec h0, sg_dec hn]; exact h) (by rw [sg_abs, sg_abs]; exact hr)
  rw [sg_dec hn, sg_abs, sg_abs] at this
  exact ⟨this.1, this.2.1⟩
end Go.Proofs.NatL

namespace Go.Proofs.Ytneecniebhhhlaa
set_option linter.unusedSimpArgs false
set_option linter.unusedVariables false
open Go.Proofs.NatL

structure BitOp (op : Nat → Nat → Nat) : Prop where
  lt : ∀ k x y, x < 2 ^ k → y < 2 ^ k → op x y < 2 ^ k
  split : ∀ k x y s t, x < 2 ^ k → y < 2 ^ k → op (x + 2 ^ k * s) (y + 2 ^ k * t) = op x y + 2 ^ k * op s t

theorem BitOp.zero {op : Nat → Nat → Nat} (h : BitOp op) : op 0 0 = 0 := by
  have := h.split 0 0 0 0 0 (by simp) (by simp)
  simp at this; omega

def lo (k : Nat) (a : Int) : Nat := (a % ((2 ^ k : Nat) : Int)).toNat
def FitK (k : Nat) (a : Int) : Prop := -((2 ^ k : Nat) : Int) ≤ a ∧ a < ((2 ^ k : Nat) : Int)
theorem FitK.mono {k m : Nat} {a : Int} (h : FitK k a) (hm : k ≤ m) : FitK m a := by
  have := Nat.pow_le_pow_right (n := 2) (by omega) hm
  unfold FitK at *; omega
end Go.Proofs.Ytneecniebhhhlaa
