import Derived.Test.YtlefdhkjbbdijaaG10
import Derived.Test.YtlefdhkjbbdijaaG11
import Derived.Test.YtlefdhkjbbdijaaG12
import Derived.Test.YtlefdhkjbbdijaaG13
import Derived.Test.YtlefdhkjbbdijaaG14
namespace Go.Proofs.Ytlefdhkjbbdijaa
set_option linter.unusedSimpArgs false
set_option linter.unusedVariables false
open Go.Abs Go.Proofs.NatL

def sameIntCT : CT := mkCT [nP, nR] true fun l K => match l with
  | [.inr [.b s, .ints .u32 xs], .inr [.b t, .ints .i64 ys]] => (Nrm s xs ∧ xs.length ≤ 16777216 ∧ InB 65536 ys ∧ Trd ys ∧ ys.length ≤ 4194304) ∧ K (.c (.b (decide (sv 4294967296 s xs = sv 65536 t ys))))
  | _ => False
def jt4 : Cfg := addT 30 sameIntCT jt3
theorem jt4_ok : TblOk Try.prog jt4 := q_I jt3_ok Try.func30 fun l K h => by
  split at h
  · obtain ⟨⟨h1, h2, h3, h4, h5⟩, h⟩ := h
    exact ⟨_, (sameInt_ret _ _ _ _ h1 h2 h3 h4 h5).plain rfl, h⟩
  · exact h.elim

def sameIntsCT : CT := mkCT [nP, nP] true fun l K => match l with
  | [.inr [.b s, .ints .u32 xs], .inr [.b t, .ints .u32 ys]] => (Nrm s xs ∧ xs.length ≤ 16777216 ∧ Nrm t ys ∧ ys.length ≤ 16777216) ∧ K (.c (.b (decide (sv 4294967296 s xs = sv 4294967296 t ys))))
  | _ => False
def jt5 : Cfg := jt4
theorem jt5_ok : TblOk Try.prog jt5 := jt4_ok
set_option maxHeartbeats 800000 in
theorem noInt_ret (s : Bool) (xs : List Int) (hn : Nrm s xs) (hx : xs.length ≤ 140737488355328) :
    Ret Try.prog 24 false [.inr [.b s, .ints .u32 xs]] (.c (.b (decide (sv 4294967296 s xs = 0)))) := by
  obtain ⟨h1, h2⟩ := Nrm_eq hn
  have hl := dg_len_pos 4294967296 (sv 4294967296 s xs).natAbs (by omega)
  rw [← h2] at hl
  generalize sv 4294967296 s xs = z at *
  have key : decide (¬ s = true ∧ (xs.length : Int) = 0) = decide (z = 0) := by
    congr 1
    refine propext ⟨fun ⟨e1, e2⟩ => by omega, fun h => ?_⟩
    subst h
    exact ⟨by rw [h1]; simp, by omega⟩
  rw [← key]
  clear key h1 h2 hl
  cases s
  all_goals
    (refine q_H Try.func24 (fun F => ?_); simp only [q_z,q_y,Try.ntmps24,Try.results24])
    repeat' (first|(with_reducible first|apply q_a|apply q_b|apply q_c|apply q_d|apply q_e|apply q_f|apply q_g|apply q_h|apply q_i|apply q_j|apply q_k|apply q_m|apply q_n|apply q_o|apply q_p|refine q_l ?_)|((with_reducible first|refine q_q jb3_ok fun K hK=>?_|refine q_r jb3_ok fun K hK=>?_);simp (maxSteps:=2000000) only [go_sem,↓reduceIte,reduceCtorEq,Nat.reduceLeDiff,Nat.reduceLT,Nat.reduceBEq,Nat.reduceAdd];(repeat1' with_reducible first|apply And.intro|(intro _;try exact q_v)|(refine hK _ ?_;clear hK K))<;>(try (clear hK K;exact q_u)))|(with_reducible refine q_s ?_;(first|apply q_J|apply q_K|apply q_L|apply q_M|apply q_N|apply q_O)<;>try (intro _;try exact q_v))|with_reducible refine q_t ?_)
  all_goals (refine q_A ?_; simp [resAV, q_y])
def noIntCT : CT := mkCT [nP] true fun l K => match l with
  | [.inr [.b s, .ints .u32 xs]] => (Nrm s xs ∧ xs.length ≤ 140737488355328) ∧ K (.c (.b (decide (sv 4294967296 s xs = 0))))
  | _ => False
def jt6 : Cfg := addT 24 noIntCT jt5
theorem jt6_ok : TblOk Try.prog jt6 := q_I jt5_ok Try.func24 fun l K h => by
  split at h
  · exact ⟨_, (noInt_ret _ _ h.1.1 h.1.2).plain rfl, h.2⟩
  · exact h.elim
attribute [go_sem] sameIntCT sameIntsCT noIntCT sv32 sv65 svz65
def jb4 : Cfg := listT [(69, binaryCT)] [30]
theorem jb4_ok : TblOk Try.prog jb4 := listT_ok (big := jt6) jt6_ok ⟨rfl, trivial⟩
attribute [go_sem] jb4
set_option maxHeartbeats 1600000 in
theorem number_ret (n : Int) (hn : -9223372036854775808 ≤ n ∧ n ≤ 9223372036854775807) : Ret Try.prog 18 false [.inl (.i .i64 n)] (.g (gR n)) := by
  (refine q_H Try.func18 (fun F => ?_); simp only [q_z,q_y,Try.ntmps18,Try.results18])
  repeat' (first|(with_reducible first|apply q_a|apply q_b|apply q_c|apply q_d|apply q_e|apply q_f|apply q_g|apply q_h|apply q_i|apply q_j|apply q_k|apply q_m|apply q_n|apply q_o|apply q_p|refine q_l ?_)|((with_reducible first|refine q_q jb4_ok fun K hK=>?_|refine q_r jb4_ok fun K hK=>?_);simp (maxSteps:=2000000) only [go_sem,↓reduceIte,reduceCtorEq,Nat.reduceLeDiff,Nat.reduceLT,Nat.reduceBEq,Nat.reduceAdd];(repeat1' with_reducible first|apply And.intro|(intro _;try exact q_v)|(refine hK _ ?_;clear hK K))<;>(try (clear hK K;exact q_u)))|(with_reducible refine q_s ?_;(first|apply q_J|apply q_K|apply q_L|apply q_M|apply q_N|apply q_O)<;>try (intro _;try exact q_v))|with_reducible refine q_t ?_)
  refine q_G (ι := { p : Int × List Bool // p.1.natAbs ≤ n.natAbs ∧ p.2.length ≤ 64 ∧ B2 p.2 + 2 ^ p.2.length * p.1.natAbs = n.natAbs }) (fun p => ⟨21, [(0, .c (.i .i64 p.1.1)), (2, .bx 0 0), (3, .own 1 0), (4, .c (.b (decide (n < 0))))], ⟨[(0, [.c (.b false), .c .nil])], [(1, ⟨0, 4, 1, .bools p.1.2⟩)], []⟩, 2⟩) (fun p => p.1.1.natAbs) ⟨(n, []), Nat.le_refl _, by simp, by simp [B2_nil]⟩ ?_ ?_
  · exact q_D
  rintro ⟨⟨z, l⟩, g1, g2, g3⟩
  simp only at g1 g2 g3 ⊢
  have a1 := tdiv2_abs z
  have a2 := tmod2_ne z
  have b3 := bit_step l l.length z.natAbs n.natAbs rfl g3
  have hlen : z ≠ 0 → l.length + 1 ≤ 64 := fun h => by
    rcases Nat.lt_or_ge l.length 64 with h1 | h1
    · omega
    · have h2 : 2 ^ 64 * 1 ≤ 2 ^ l.length * z.natAbs := Nat.mul_le_mul (Nat.pow_le_pow_right (by omega) h1) (by omega)
      have h3 : (2 : Nat) ^ 64 = 18446744073709551616 := rfl
      omega
  by_cases hz : z = 0
  · subst hz
    have e : B2 l = n.natAbs := by simpa using g3
    repeat' (first|(with_reducible first|apply q_a|apply q_b|apply q_c|apply q_d|apply q_e|apply q_f|apply q_g|apply q_h|apply q_i|apply q_j|apply q_k|apply q_m|apply q_n|apply q_o|apply q_p|refine q_l ?_)|((with_reducible first|refine q_q jb4_ok fun K hK=>?_|refine q_r jb4_ok fun K hK=>?_);simp (maxSteps:=2000000) only [go_sem,↓reduceIte,reduceCtorEq,Nat.reduceLeDiff,Nat.reduceLT,Nat.reduceBEq,Nat.reduceAdd,e];(repeat1' with_reducible first|apply And.intro|(intro _;try exact q_v)|(refine hK _ ?_;clear hK K))<;>(try (clear hK K;exact q_u)))|(with_reducible refine q_s ?_;(first|apply q_J|apply q_K|apply q_L|apply q_M|apply q_N|apply q_O)<;>try (intro _;try exact q_v))|with_reducible refine q_t ?_)
    exact q_A rfl
  · have hl2 := hlen hz
    have hlt : (z.tdiv 2).natAbs < z.natAbs := by rw [a1]; omega
    have hb : -9223372036854775808 ≤ z.tdiv 2 ∧ z.tdiv 2 ≤ 9223372036854775807 := by omega
    have hnn : ¬ z = 0 := hz
    repeat' (first|(with_reducible first|apply q_a|apply q_b|apply q_c|apply q_d|apply q_e|apply q_f|apply q_g|apply q_h|apply q_i|apply q_j|apply q_k|apply q_m|apply q_n|apply q_o|apply q_p|refine q_l ?_)|((with_reducible first|refine q_q jb4_ok fun K hK=>?_|refine q_r jb4_ok fun K hK=>?_);simp (maxSteps:=2000000) only [go_sem,↓reduceIte,reduceCtorEq,Nat.reduceLeDiff,Nat.reduceLT,Nat.reduceBEq,Nat.reduceAdd,a2];(repeat1' with_reducible first|apply And.intro|(intro _;try exact q_v)|(refine hK _ ?_;clear hK K))<;>(try (clear hK K;exact q_u)))|(with_reducible refine q_s ?_;(first|apply q_J|apply q_K|apply q_L|apply q_M|apply q_N|apply q_O)<;>try (intro _;try exact q_v))|with_reducible refine q_t ?_)
    all_goals first | omega | skip
    refine q_F ⟨(z.tdiv 2, l ++ [decide (z.natAbs % 2 = 1)]), by simp only; omega, by simp; omega, ?_⟩ ?_ (by simp only; omega)
    · simp only [List.length_append, List.length_cons, List.length_nil, Nat.zero_add, a1]; exact b3
    · exact q_D
def numberCT : CT := mkCT [] false fun l K => match l with
  | [.inl (.i .i64 n)] => (-9223372036854775808 ≤ n ∧ n ≤ 9223372036854775807) ∧ K (.g (gR n))
  | _ => False
def jt7 : Cfg := addT 18 numberCT jt6
theorem jt7_ok : TblOk Try.prog jt7 := q_I jt6_ok Try.func18 fun l K h => by
  split at h
  · exact ⟨_, number_ret _ h.1, h.2⟩
  · exact h.elim

theorem fits_ret (s : Bool) (ys : List Int) (k : Int) (hk : 0 ≤ k ∧ k ≤ 1000000) : Ret Try.prog 90 false [.inr [.b s, .ints .i64 ys], .inl (.i .i64 k)] (.c (.b (decide ((ys.length : Int) ≤ 2 * k)))) := by
  (refine q_H Try.func90 (fun F => ?_); simp only [q_z,q_y,Try.ntmps90,Try.results90])
  repeat' (first|(with_reducible first|apply q_a|apply q_b|apply q_c|apply q_d|apply q_e|apply q_f|apply q_g|apply q_h|apply q_i|apply q_j|apply q_k|apply q_m|apply q_n|apply q_o|apply q_p|refine q_l ?_)|((with_reducible first|refine q_q jb4_ok fun K hK=>?_|refine q_r jb4_ok fun K hK=>?_);simp (maxSteps:=2000000) only [go_sem,↓reduceIte,reduceCtorEq,Nat.reduceLeDiff,Nat.reduceLT,Nat.reduceBEq,Nat.reduceAdd];(repeat1' with_reducible first|apply And.intro|(intro _;try exact q_v)|(refine hK _ ?_;clear hK K))<;>(try (clear hK K;exact q_u)))|(with_reducible refine q_s ?_;(first|apply q_J|apply q_K|apply q_L|apply q_M|apply q_N|apply q_O)<;>try (intro _;try exact q_v))|with_reducible refine q_t ?_)
  exact q_A rfl
def fitsCT : CT := mkCT [nR] true fun l K => match l with
  | [.inr [.b s, .ints .i64 ys], .inl (.i .i64 k)] => (0 ≤ k ∧ k ≤ 1000000) ∧ K (.c (.b (decide ((ys.length : Int) ≤ 2 * k))))
  | _ => False
def jt8 : Cfg := addT 90 fitsCT jt7
theorem jt8_ok : TblOk Try.prog jt8 := q_I jt7_ok Try.func90 fun l K h => by
  split at h
  · exact ⟨_, (fits_ret _ _ _ h.1).plain rfl, h.2⟩
  · exact h.elim
attribute [go_sem] numberCT fitsCT
def jb5 : Cfg := listT [(61, rcmpCT), (77, (rnumCT (fun _ _ => True) (· + ·))), (86, (rnumCT (fun _ _ => True) (· * ·))), (78, (rnumCT (fun xs ys => V 65536 ys ≤ V 65536 xs) (· - ·)))] [30]
theorem jb5_ok : TblOk Try.prog jb5 := listT_ok (big := jt8) jt8_ok ⟨rfl, rfl, rfl, rfl, trivial⟩
attribute [go_sem] jb5
theorem gRz_eq (s : Bool) (k : Nat) : gRz (sg s k) s = [.b s, .ints .i64 (dg 65536 k)] := by simp only [gRz, sgz_sg, sg_abs]
set_option maxHeartbeats 1600000 in
theorem iminus_ret (s : Bool) (m : Nat) : Ret Try.prog 66 false [.inr [.b s, .ints .i64 (dg 65536 m)]] (.g (gR (-sg s m))) := by
  have hl := dg_len_pos 65536 m (by omega)
  have hs : decide (-sg s m < 0) = (!s && decide (0 < ((dg 65536 m).length : Int))) := by
    cases s
    · simp only [sgf, Bool.not_false, Bool.true_and]; congr 1; exact propext ⟨fun h => by omega, fun h => by omega⟩
    · simp only [sgt, Bool.not_true, Bool.false_and]; exact decide_eq_false (by omega)
  have ha : (-sg s m).natAbs = m := by rw [Int.natAbs_neg, sg_abs]
  simp only [gR, hs, ha]
  cases s
  all_goals
    (refine q_H Try.func66 (fun F => ?_); simp only [q_z,q_y,Try.ntmps66,Try.results66])
    repeat' (first|(with_reducible first|apply q_a|apply q_b|apply q_c|apply q_d|apply q_e|apply q_f|apply q_g|apply q_h|apply q_i|apply q_j|apply q_k|apply q_m|apply q_n|apply q_o|apply q_p|refine q_l ?_)|((with_reducible first|refine q_q jb5_ok fun K hK=>?_|refine q_r jb5_ok fun K hK=>?_);simp (maxSteps:=2000000) only [go_sem,↓reduceIte,reduceCtorEq,Nat.reduceLeDiff,Nat.reduceLT,Nat.reduceBEq,Nat.reduceAdd];(repeat1' with_reducible first|apply And.intro|(intro _;try exact q_v)|(refine hK _ ?_;clear hK K))<;>(try (clear hK K;exact q_u)))|(with_reducible refine q_s ?_;(first|apply q_J|apply q_K|apply q_L|apply q_M|apply q_N|apply q_O)<;>try (intro _;try exact q_v))|with_reducible refine q_t ?_)
    exact q_A rfl
set_option maxHeartbeats 1600000 in
theorem iplus_ex (s t : Bool) (m n : Nat) (lm : (dg 65536 m).length ≤ 1048576) (ln : (dg 65536 n).length ≤ 1048576) :
    ∃ b, Ret Try.prog 29 false [.inr [.b s, .ints .i64 (dg 65536 m)], .inr [.b t, .ints .i64 (dg 65536 n)]] (.g (gRz (sg s m + sg t n) b)) := by
  by_cases hst : s = t
  · subst hst
    refine ⟨s, ?_⟩
    rw [sg_eq_add, gRz_eq]
    (refine q_H Try.func29 (fun F => ?_); simp only [q_z,q_y,Try.ntmps29,Try.results29])
    repeat' (first|(with_reducible first|apply q_a|apply q_b|apply q_c|apply q_d|apply q_e|apply q_f|apply q_g|apply q_h|apply q_i|apply q_j|apply q_k|apply q_m|apply q_n|apply q_o|apply q_p|refine q_l ?_)|((with_reducible first|refine q_q jb5_ok fun K hK=>?_|refine q_r jb5_ok fun K hK=>?_);simp (maxSteps:=2000000) only [go_sem,↓reduceIte,reduceCtorEq,Nat.reduceLeDiff,Nat.reduceLT,Nat.reduceBEq,Nat.reduceAdd];(repeat1' with_reducible first|apply And.intro|(intro _;try exact q_v)|(refine hK _ ?_;clear hK K))<;>(try (clear hK K;exact q_u)))|(with_reducible refine q_s ?_;(first|apply q_J|apply q_K|apply q_L|apply q_M|apply q_N|apply q_O)<;>try (intro _;try exact q_v))|with_reducible refine q_t ?_)
    all_goals first | omega | exact q_A rfl
  · have hne : (s == t) = false := by simpa using hst
    rcases Nat.lt_or_ge m n with h | h
    · refine ⟨t, ?_⟩
      rw [sg_eq_sub' hst (by omega), gRz_eq]
      have hc := (cmp3_lt m n).2 h
      (refine q_H Try.func29 (fun F => ?_); simp only [q_z,q_y,Try.ntmps29,Try.results29])
      repeat' (first|(with_reducible first|apply q_a|apply q_b|apply q_c|apply q_d|apply q_e|apply q_f|apply q_g|apply q_h|apply q_i|apply q_j|apply q_k|apply q_m|apply q_n|apply q_o|apply q_p|refine q_l ?_)|((with_reducible first|refine q_q jb5_ok fun K hK=>?_|refine q_r jb5_ok fun K hK=>?_);simp (maxSteps:=2000000) only [go_sem,↓reduceIte,reduceCtorEq,Nat.reduceLeDiff,Nat.reduceLT,Nat.reduceBEq,Nat.reduceAdd,hne];(repeat1' with_reducible first|apply And.intro|(intro _;try exact q_v)|(refine hK _ ?_;clear hK K))<;>(try (clear hK K;exact q_u)))|(with_reducible refine q_s ?_;(first|apply q_J|apply q_K|apply q_L|apply q_M|apply q_N|apply q_O)<;>try (intro _;try exact q_v))|with_reducible refine q_t ?_)
      all_goals first | omega | exact q_A rfl
    · refine ⟨s, ?_⟩
      rw [sg_eq_sub hst h, gRz_eq]
      have hc : ¬ cmp3 m n < 0 := fun h2 => by have := (cmp3_lt m n).1 h2; omega
      (refine q_H Try.func29 (fun F => ?_); simp only [q_z,q_y,Try.ntmps29,Try.results29])
      repeat' (first|(with_reducible first|apply q_a|apply q_b|apply q_c|apply q_d|apply q_e|apply q_f|apply q_g|apply q_h|apply q_i|apply q_j|apply q_k|apply q_m|apply q_n|apply q_o|apply q_p|refine q_l ?_)|((with_reducible first|refine q_q jb5_ok fun K hK=>?_|refine q_r jb5_ok fun K hK=>?_);simp (maxSteps:=2000000) only [go_sem,↓reduceIte,reduceCtorEq,Nat.reduceLeDiff,Nat.reduceLT,Nat.reduceBEq,Nat.reduceAdd,hne];(repeat1' with_reducible first|apply And.intro|(intro _;try exact q_v)|(refine hK _ ?_;clear hK K))<;>(try (clear hK K;exact q_u)))|(with_reducible refine q_s ?_;(first|apply q_J|apply q_K|apply q_L|apply q_M|apply q_N|apply q_O)<;>try (intro _;try exact q_v))|with_reducible refine q_t ?_)
      all_goals first | omega | exact q_A rfl
set_option maxHeartbeats 1600000 in
theorem itimes_ret (s t : Bool) (m n : Nat) (lm : (dg 65536 m).length ≤ 1048576) (ln : (dg 65536 n).length ≤ 1048576) :
    Ret Try.prog 67 false [.inr [.b s, .ints .i64 (dg 65536 m)], .inr [.b t, .ints .i64 (dg 65536 n)]] (.g (gR (sg s m * sg t n))) := by
  have hl := dg_len_pos 65536 (m * n) (by omega)
  have hz := sg_mul s t m n
  have hs : decide (sg s m * sg t n < 0) = ((s != t) && decide (0 < ((dg 65536 (m * n)).length : Int))) := by
    rw [← hz]
    cases hb : (s != t)
    · simp only [sgf, Bool.false_and]; exact decide_eq_false (by omega)
    · simp only [sgt, Bool.true_and]; congr 1; exact propext ⟨fun h => by omega, fun h => by omega⟩
  have ha : (sg s m * sg t n).natAbs = m * n := by rw [← hz, sg_abs]
  simp only [gR, hs, ha]
  cases hb : (s != t)
  all_goals
    (refine q_H Try.func67 (fun F => ?_); simp only [q_z,q_y,Try.ntmps67,Try.results67])
    repeat' (first|(with_reducible first|apply q_a|apply q_b|apply q_c|apply q_d|apply q_e|apply q_f|apply q_g|apply q_h|apply q_i|apply q_j|apply q_k|apply q_m|apply q_n|apply q_o|apply q_p|refine q_l ?_)|((with_reducible first|refine q_q jb5_ok fun K hK=>?_|refine q_r jb5_ok fun K hK=>?_);simp (maxSteps:=2000000) only [go_sem,↓reduceIte,reduceCtorEq,Nat.reduceLeDiff,Nat.reduceLT,Nat.reduceBEq,Nat.reduceAdd,hb];(repeat1' with_reducible first|apply And.intro|(intro _;try exact q_v)|(refine hK _ ?_;clear hK K))<;>(try (clear hK K;exact q_u)))|(with_reducible refine q_s ?_;(first|apply q_J|apply q_K|apply q_L|apply q_M|apply q_N|apply q_O)<;>try (intro _;try exact q_v))|with_reducible refine q_t ?_)
  all_goals first | omega | exact q_A rfl
set_option maxHeartbeats 1600000 in
theorem iorder_ret (s t : Bool) (m n : Nat) (lm : (dg 65536 m).length ≤ 4194304) (ln : (dg 65536 n).length ≤ 4194304) :
    Ret Try.prog 68 false [.inr [.b s, .ints .i64 (dg 65536 m)], .inr [.b t, .ints .i64 (dg 65536 n)]] (.c (.i .i64 (cmpZ (sg s m) (sg t n)))) := by
  have hl := dg_len_pos 65536 m (by omega)
  have hk := dg_len_pos 65536 n (by omega)
  have c1 := cmp3_Z m n
  have c2 := cmp3_Z n m
  cases s <;> cases t
  all_goals
    (refine q_H Try.func68 (fun F => ?_); simp only [q_z,q_y,Try.ntmps68,Try.results68])
    repeat' (first|(with_reducible first|apply q_a|apply q_b|apply q_c|apply q_d|apply q_e|apply q_f|apply q_g|apply q_h|apply q_i|apply q_j|apply q_k|apply q_m|apply q_n|apply q_o|apply q_p|refine q_l ?_)|((with_reducible first|refine q_q jb5_ok fun K hK=>?_|refine q_r jb5_ok fun K hK=>?_);simp (maxSteps:=2000000) only [go_sem,↓reduceIte,reduceCtorEq,Nat.reduceLeDiff,Nat.reduceLT,Nat.reduceBEq,Nat.reduceAdd,c1, c2];(repeat1' with_reducible first|apply And.intro|(intro _;try exact q_v)|(refine hK _ ?_;clear hK K))<;>(try (clear hK K;exact q_u)))|(with_reducible refine q_s ?_;(first|apply q_J|apply q_K|apply q_L|apply q_M|apply q_N|apply q_O)<;>try (intro _;try exact q_v))|with_reducible refine q_t ?_)
  all_goals (refine q_A ?_; simp only [resAV, q_y, AV.c.injEq, C.i.injEq, true_and, sgt, sgf])
  all_goals (unfold cmpZ; repeat' split)
  all_goals omega

end Go.Proofs.Ytlefdhkjbbdijaa

namespace Go.Proofs.Ytlefdhkjbbdijaa
set_option linter.unusedSimpArgs false
set_option linter.unusedVariables false
open Go.Abs Go.Proofs.NatL

def iminusCT : CT := mkCT [nR] false fun l K => match l with
  | [.inr [.b s, .ints .i64 ys]] => (InB 65536 ys ∧ Trd ys) ∧ K (.g (gR (-sv 65536 s ys)))
  | _ => False
theorem sv_ys {s : Bool} {ys : List Int} (h1 : InB 65536 ys) (h2 : Trd ys) : ys = dg 65536 (V 65536 ys) ∧ sv 65536 s ys = sg s (V 65536 ys) := by
  have e := dg_V 65536 (by omega) ys h1 h2
  exact ⟨e.symm, by rw [← sv_d (B := 65536) (by omega), e]⟩
def jt9 : Cfg := addT 66 iminusCT jt8
theorem jt9_ok : TblOk Try.prog jt9 := q_I jt8_ok Try.func66 fun l K h => by
  split at h
  · rename_i s ys
    obtain ⟨⟨h1, h2⟩, h⟩ := h
    obtain ⟨e1, e2⟩ := sv_ys (s := s) h1 h2
    rw [e2] at h
    have := iminus_ret s (V 65536 ys)
    rw [← e1] at this
    exact ⟨_, this, h⟩
  · exact h.elim
def rI2CT (n : Nat) (f : Int → Int → (AV → Prop) → Prop) : CT := mkCT [nR, nR] false fun l K => match l with
  | [.inr [.b s, .ints .i64 xs], .inr [.b t, .ints .i64 ys]] => (InB 65536 xs ∧ Trd xs ∧ xs.length ≤ n ∧ InB 65536 ys ∧ Trd ys ∧ ys.length ≤ n) ∧ f (sv 65536 s xs) (sv 65536 t ys) K
  | _ => False
def addF (a b : Int) (K : AV → Prop) : Prop := ∀ c : Bool, K (.g (gRz (a + b) c))
def mulF (a b : Int) (K : AV → Prop) : Prop := K (.g (gR (a * b)))
def ordF (a b : Int) (K : AV → Prop) : Prop := K (.c (.i .i64 (cmpZ a b)))
def jt10 : Cfg := addT 29 (rI2CT 1048576 addF) jt9
theorem jt10_ok : TblOk Try.prog jt10 := q_I jt9_ok Try.func29 fun l K h => by
  split at h
  · rename_i s xs t ys
    obtain ⟨⟨h1, h2, h3, h4, h5, h6⟩, h⟩ := h
    obtain ⟨e1, e2⟩ := sv_ys (s := s) h1 h2
    obtain ⟨e3, e4⟩ := sv_ys (s := t) h4 h5
    rw [e2, e4] at h
    obtain ⟨b, this⟩ := iplus_ex s t (V 65536 xs) (V 65536 ys) (by rw [← e1]; exact h3) (by rw [← e3]; exact h6)
    rw [← e1, ← e3] at this
    exact ⟨_, this, h b⟩
  · exact h.elim
def jt11 : Cfg := addT 67 (rI2CT 1048576 mulF) jt10
theorem jt11_ok : TblOk Try.prog jt11 := q_I jt10_ok Try.func67 fun l K h => by
  split at h
  · rename_i s xs t ys
    obtain ⟨⟨h1, h2, h3, h4, h5, h6⟩, h⟩ := h
    obtain ⟨e1, e2⟩ := sv_ys (s := s) h1 h2
    obtain ⟨e3, e4⟩ := sv_ys (s := t) h4 h5
    rw [e2, e4] at h
    have this := itimes_ret s t (V 65536 xs) (V 65536 ys) (by rw [← e1]; exact h3) (by rw [← e3]; exact h6)
    rw [← e1, ← e3] at this
    exact ⟨_, this, h⟩
  · exact h.elim
def jt12 : Cfg := addT 68 (rI2CT 4194304 ordF) jt11
theorem jt12_ok : TblOk Try.prog jt12 := q_I jt11_ok Try.func68 fun l K h => by
  split at h
  · rename_i s xs t ys
    obtain ⟨⟨h1, h2, h3, h4, h5, h6⟩, h⟩ := h
    obtain ⟨e1, e2⟩ := sv_ys (s := s) h1 h2
    obtain ⟨e3, e4⟩ := sv_ys (s := t) h4 h5
    rw [e2, e4] at h
    have this := iorder_ret s t (V 65536 xs) (V 65536 ys) (by rw [← e1]; exact h3) (by rw [← e3]; exact h6)
    rw [← e1, ← e3] at this
    exact ⟨_, this, h⟩
  · exact h.elim
attribute [go_sem] iminusCT rI2CT addF mulF ordF
def jb6 : Cfg := listT [(116, onesCT), (69, binaryCT), (19, doubleCT), (61, rcmpCT), (86, (rnumCT (fun _ _ => True) (· * ·))), (78, (rnumCT (fun xs ys => V 65536 ys ≤ V 65536 xs) (· - ·)))] [30]
theorem jb6_ok : TblOk Try.prog jb6 := listT_ok (big := jt12) jt12_ok ⟨rfl, rfl, rfl, rfl, rfl, rfl, trivial⟩
attribute [go_sem] jb6
set_option maxRecDepth 100000 in
set_option maxHeartbeats 3200000 in
theorem divide_ret' (m n : Nat) (hn : 0 < n) (lm : (dg 65536 m).length ≤ 65536) (ln : (dg 65536 n).length ≤ 65536) :
    Ret Try.prog 89 false [.inl (.ints .i64 (dg 65536 m)), .inl (.ints .i64 (dg 65536 n))] (.t [.inl (.ints .i64 (dg 65536 (m / n))), .inl (.ints .i64 (dg 65536 (m % n)))]) := by
  have hbl : bl m ≤ 1048576 := Nat.le_trans (bl_dg lm) (by omega)
  have hL : (bs m).length ≤ 1048576 := by rw [bs_bl]; exact hbl
  (refine q_H Try.func89 (fun F => ?_); simp only [q_z,q_y,Try.ntmps89,Try.results89])
  repeat' (first|(with_reducible first|apply q_a|apply q_b|apply q_c|apply q_d|apply q_e|apply q_f|apply q_g|apply q_h|apply q_i|apply q_j|apply q_k|apply q_m|apply q_n|apply q_o|apply q_p|refine q_l ?_)|((with_reducible first|refine q_q jb6_ok fun K hK=>?_|refine q_r jb6_ok fun K hK=>?_);simp (maxSteps:=2000000) only [go_sem,↓reduceIte,reduceCtorEq,Nat.reduceLeDiff,Nat.reduceLT,Nat.reduceBEq,Nat.reduceAdd];(repeat1' with_reducible first|apply And.intro|(intro _;try exact q_v)|(refine hK _ ?_;clear hK K))<;>(try (clear hK K;exact q_u)))|(with_reducible refine q_s ?_;(first|apply q_J|apply q_K|apply q_L|apply q_M|apply q_N|apply q_O)<;>try (intro _;try exact q_v))|with_reducible refine q_t ?_)
  all_goals try omega
  refine q_G (ι := { p : Nat × List Bool × Nat // p.1 ≤ (bs m).length ∧ p.2.1.length = (bs m).length - p.1 ∧ p.2.2 < n ∧ B2 p.2.1 * n + p.2.2 = B2 ((bs m).drop p.1) }) (fun p => ⟨41, [(1, .c (.ints .i64 (dg 65536 n))), (6, .c (.bools (bs m))), (7, .own 0 0), (8, .c (.ints .i64 (dg 65536 p.1.2.2))), (9, .c (.i .i64 ((p.1.1 : Int) - 1)))], ⟨[], [(0, ⟨0, 4, 1, .bools (List.replicate p.1.1 false ++ p.1.2.1)⟩)], []⟩, 1⟩) (fun p => p.1.1) ⟨((bs m).length, [], 0), by simp, by simp, hn, by simp [B2_nil]⟩ ?_ ?_
  · ((simp only [go_sem,↓reduceIte,reduceCtorEq,Nat.reduceLeDiff,Nat.reduceLT,Nat.reduceBEq,Nat.reduceAdd])<;>(try (simp;done))<;>(try ((simp only [C.i.injEq,C.b.injEq,C.ints.injEq,C.bools.injEq,List.append_cancel_left_eq,List.cons.injEq,true_and,and_true]);(repeat' with_reducible apply And.intro)<;>(first|rfl|assumption|omega|(simp;omega)|(congr 1;omega)|(congr 2;omega)))))
    all_goals (try simp [dg_zero])
  rintro ⟨⟨k, q, r⟩, g1, g2, g3, g4⟩
  simp only at g1 g2 g3 g4 ⊢
  have lr := dg_len_mono (B := 65536) (by omega) (Nat.le_of_lt g3)
  rcases Nat.eq_zero_or_pos k with hk | hk
  · subst hk
    rw [drop_bs] at g4
    have e1 : B2 q = m / n := by
      rw [← g4, Nat.mul_comm, Nat.mul_add_div hn, Nat.div_eq_of_lt g3]; rfl
    have e2 : r = m % n := by
      rw [← g4, Nat.mul_comm, Nat.mul_add_mod, Nat.mod_eq_of_lt g3]
    have hq : (List.replicate 0 false ++ q).length ≤ 16777216 := by simp; omega
    repeat' (first|(with_reducible first|apply q_a|apply q_b|apply q_c|apply q_d|apply q_e|apply q_f|apply q_g|apply q_h|apply q_i|apply q_j|apply q_k|apply q_m|apply q_n|apply q_o|apply q_p|refine q_l ?_)|((with_reducible first|refine q_q jb6_ok fun K hK=>?_|refine q_r jb6_ok fun K hK=>?_);simp (maxSteps:=2000000) only [go_sem,↓reduceIte,reduceCtorEq,Nat.reduceLeDiff,Nat.reduceLT,Nat.reduceBEq,Nat.reduceAdd];(repeat1' with_reducible first|apply And.intro|(intro _;try exact q_v)|(refine hK _ ?_;clear hK K))<;>(try (clear hK K;exact q_u)))|(with_reducible refine q_s ?_;(first|apply q_J|apply q_K|apply q_L|apply q_M|apply q_N|apply q_O)<;>try (intro _;try exact q_v))|with_reducible refine q_t ?_)
    all_goals first | assumption | omega | skip
    exact q_A (by simp only [resAV, List.replicate_zero, List.nil_append, e1, e2])
  · have hd := drop_bit (bs m) k hk g1
    have ek : ((k : Int) - 1).toNat = k - 1 := by omega
    have hq : (List.replicate k false ++ q).length = (bs m).length := by simp; omega
    have hs := set_zeros k q hk true
    have hx : ∀ b : Bool, (2 * r + b.toNat) < 2 * n := fun b => by cases b <;> simp <;> omega
    have lx : ∀ b : Bool, (dg 65536 (2 * r + b.toNat)).length ≤ 65537 := fun b => by
      refine Nat.le_trans (dg_len_mono (by omega) (Nat.le_of_lt (hx b))) ?_
      rw [Nat.two_mul]; exact add_len (by omega) ln ln
    obtain ⟨c, hc⟩ : ∃ c, (bs m).getD (k - 1) false = c := ⟨_, rfl⟩
    have hx := hx c
    have lx := lx c
    rw [hc] at hd
    have hcn : (if c = true then 1 else 0) = c.toNat := by cases c <;> rfl
    rw [hcn] at hd
    generalize hX : 2 * r + c.toNat = X at *
    by_cases hge : n ≤ X
    · have h3 := (cmp3_ge X n).2 hge
      repeat' (first|(with_reducible first|apply q_a|apply q_b|apply q_c|apply q_d|apply q_e|apply q_f|apply q_g|apply q_h|apply q_i|apply q_j|apply q_k|apply q_m|apply q_n|apply q_o|apply q_p|refine q_l ?_)|((with_reducible first|refine q_q jb6_ok fun K hK=>?_|refine q_r jb6_ok fun K hK=>?_);simp (maxSteps:=2000000) only [go_sem,↓reduceIte,reduceCtorEq,Nat.reduceLeDiff,Nat.reduceLT,Nat.reduceBEq,Nat.reduceAdd,ek, hc, hX, hs, hq];(repeat1' with_reducible first|apply And.intro|(intro _;try exact q_v)|(refine hK _ ?_;clear hK K))<;>(try (clear hK K;exact q_u)))|(with_reducible refine q_s ?_;(first|apply q_J|apply q_K|apply q_L|apply q_M|apply q_N|apply q_O)<;>try (intro _;try exact q_v))|with_reducible refine q_t ?_)
      all_goals first | omega | skip
      refine q_F ⟨(k - 1, true :: q, X - n), by simp only; omega, by simp; omega, by simp only; omega, ?_⟩ ?_ (by simp only; omega)
      · simp only
        rw [hd, ← g4, B2_cons, if_pos rfl, Nat.add_mul, Nat.mul_assoc]; omega
      · exact q_D
    · have h3 : ¬ 0 ≤ cmp3 X n := fun h => hge ((cmp3_ge X n).1 h)
      have hs0 : List.replicate (k - 1) false ++ false :: q = List.replicate k false ++ q := by
        obtain ⟨j, rfl⟩ : ∃ j, k = j + 1 := ⟨k - 1, by omega⟩
        rw [show j + 1 - 1 = j by omega, List.replicate_succ', List.append_assoc]; rfl
      repeat' (first|(with_reducible first|apply q_a|apply q_b|apply q_c|apply q_d|apply q_e|apply q_f|apply q_g|apply q_h|apply q_i|apply q_j|apply q_k|apply q_m|apply q_n|apply q_o|apply q_p|refine q_l ?_)|((with_reducible first|refine q_q jb6_ok fun K hK=>?_|refine q_r jb6_ok fun K hK=>?_);simp (maxSteps:=2000000) only [go_sem,↓reduceIte,reduceCtorEq,Nat.reduceLeDiff,Nat.reduceLT,Nat.reduceBEq,Nat.reduceAdd,ek, hc, hX, hq];(repeat1' with_reducible first|apply And.intro|(intro _;try exact q_v)|(refine hK _ ?_;clear hK K))<;>(try (clear hK K;exact q_u)))|(with_reducible refine q_s ?_;(first|apply q_J|apply q_K|apply q_L|apply q_M|apply q_N|apply q_O)<;>try (intro _;try exact q_v))|with_reducible refine q_t ?_)
      all_goals first | omega | skip
      refine q_F ⟨(k - 1, false :: q, X), by simp only; omega, by simp; omega, by simp only; omega, ?_⟩ ?_ (by simp only; omega)
      · simp only
        rw [hd, ← g4, B2_cons, if_neg (by decide), Nat.add_zero, Nat.mul_assoc]; omega
      · simp only [hs0]
        exact q_D

end Go.Proofs.Ytlefdhkjbbdijaa

namespace Go.Proofs.NatL
set_option linter.unusedSimpArgs false
set_option linter.unusedVariables false
theorem zadd_len {B k : Nat} {a b : Int} (hB : 2 ≤ B) (h : (dg B a.natAbs).length ≤ k) (h2 : (dg B b.natAbs).length ≤ k) : (dg B (a + b).natAbs).length ≤ k + 1 :=
  Nat.le_trans (dg_len_mono hB (Int.natAbs_add_le a b)) (add_len hB h h2)
theorem zmul_len {B k l : Nat} {a b : Int} (hB : 2 ≤ B) (h : (dg B a.natAbs).length ≤ k) (h2 : (dg B b.natAbs).length ≤ l) : (dg B (a * b).natAbs).length ≤ k + l := by
  rw [Int.natAbs_mul]; exact mul_len hB h h2
theorem cmp3_gt (a b : Nat) : 0 < cmp3 a b ↔ b < a := by
  have h1 := cmp3_ge a b
  have h2 := cmp3_lt a b
  unfold cmp3 at *
  split
  · omega
  · split
    · rename_i h; simp_all
    · omega
theorem sg_dec {s : Bool} {m : Nat} (h : 0 < m) : decide (sg s m < 0) = s := by
  cases s
  · exact decide_eq_false (by rw [sgf]; omega)
  · exact decide_eq_true (by rw [sgt]; omega)
theorem sg_zero (s : Bool) : sg s 0 = 0 := by cases s <;> rfl
theorem sg_ne0 {s : Bool} {m : Nat} (h : 0 < m) : sg s m ≠ 0 := by
  intro e
  have := sg_abs s m
  rw [e] at this
  simp at this; omega
theorem floor_sg1 (s t : Bool) (m n : Nat) (hn : 0 < n) (h : s = t ∨ m % n = 0) : sg (s != t) (m / n) = (sg s m).fdiv (sg t n) ∧ sg t (m % n) = (sg s m).fmod (sg t n) := by
  rcases Nat.eq_zero_or_pos m with h0 | h0
  · subst h0
    rw [Nat.zero_div, Nat.zero_mod, sg_zero, sg_zero, sg_zero, Int.zero_fdiv, Int.zero_fmod]
    exact ⟨rfl, rfl⟩
  · have := floor_same (a := sg s m) (b := sg t n) (sg_ne0 hn) (by rw [sg_dec h0, sg_dec hn, sg_abs, sg_abs]; exact h)
    rw [sg_dec h0, sg_dec hn, sg_abs, sg_abs] at this
    exact this
theorem floor_sg2 (s t : Bool) (m n : Nat) (hn : 0 < n) (h : s ≠ t) (hr : m % n ≠ 0) : sg true (m / n + 1) = (sg s m).fdiv (sg t n) ∧ sg t (n - m % n) = (sg s m).fmod (sg t n) := by
  have h0 : 0 < m := by
    rcases Nat.eq_zero_or_pos m with h0 | h0
    · subst h0; simp at hr
    · exact h0
  have := floor_diff (a := sg s m) (b := sg t n) (sg_ne0 hn) (by rw [sg_dec h0, sg_dec hn]; exact h) (by rw [sg_abs, sg_abs]; exact hr)
  rw [sg_dec hn, sg_abs, sg_abs] at this
  exact ⟨this.1, this.2.1⟩
end Go.Proofs.NatL

namespace Go.Proofs.Ytlefdhkjbbdijaa
set_option linter.unusedSimpArgs false
set_option linter.unusedVariables false
open Go.Proofs.NatL

structure BitOp (op : Nat → Nat → Nat) : Prop where
  lt : ∀ k x y, x < 2 ^ k → y < 2 ^ k → op x y < 2 ^ k
  split : ∀ k x y s t, x < 2 ^ k → y < 2 ^ k → op (x + 2 ^ k * s) (y + 2 ^ k * t) = op x y + 2 ^ k * op s t

theorem BitOp.zero {op : Nat → Nat → Nat} (h : BitOp op) : op 0 0 = 0 := by
  have := h.split 0 0 0 0 0 (by simp) (by simp)
  simp at this; omega

def lo (k : Nat) (a : Int) : Nat := (a % ((2 ^ k : Nat) : Int)).toNat
def FitK (k : Nat) (a : Int) : Prop := -((2 ^ k : Nat) : Int) ≤ a ∧ a < ((2 ^ k : Nat) : Int)
theorem FitK.mono {k m : Nat} {a : Int} (h : FitK k a) (hm : k ≤ m) : FitK m a := by
  have := Nat.pow_le_pow_right (n := 2) (by omega) hm
  unfold FitK at *; omega
end Go.Proofs.Ytlefdhkjbbdijaa

namespace Go.Proofs.Ytlefdhkjbbdijaa
set_option linter.unusedSimpArgs false
set_option linter.unusedVariables false
open Go.Proofs.NatL

theorem sg_pow (s : Bool) (m n : Nat) : sg (s && decide (n % 2 = 1)) (m ^ n) = sg s m ^ n := by
  cases s
  · simp only [Bool.false_and, sgf]; exact Int.natCast_pow m n
  · simp only [Bool.true_and, sgt]
    induction n with
    | zero => simp [sgf]
    | succ n ih =>
      rw [Int.pow_succ, ← ih]
      rcases Nat.mod_two_eq_zero_or_one n with h | h
      · rw [decide_eq_false (p := n % 2 = 1) (by omega), decide_eq_true (p := (n + 1) % 2 = 1) (by omega), sgf, sgt, Nat.pow_succ]
        push_cast; rw [Int.mul_neg]
      · rw [decide_eq_true (p := n % 2 = 1) h, decide_eq_false (p := (n + 1) % 2 = 1) (by omega), sgf, sgt, Nat.pow_succ]
        push_cast; rw [Int.neg_mul_neg]
theorem abs_pow (a : Int) (n : Nat) : (a ^ n).natAbs = a.natAbs ^ n := by
  induction n with
  | zero => rw [Int.pow_zero, Nat.pow_zero]; rfl
  | succ n ih => rw [Int.pow_succ, Int.natAbs_mul, ih, Nat.pow_succ]
theorem pow_le_pow' {m k n : Nat} (hm : 0 < m) (h : k ≤ n) : m ^ k ≤ m ^ n := Nat.pow_le_pow_right hm h
theorem pow_stays {m i : Nat} (h : m ^ i * m = m ^ i) : ∀ d, m ^ (i + d) = m ^ i
  | 0 => rfl
  | d + 1 => by rw [← Nat.add_assoc, Nat.pow_succ, pow_stays h d, h]
theorem pow_len {a : Int} {k n : Nat} (hk : k ≤ n) (h0 : a ≠ 0 ∨ k = 0 ∨ 0 < k) (hl : (dg 4294967296 (a ^ n).natAbs).length ≤ 128) : (dg 4294967296 (a ^ k).natAbs).length ≤ 128 := by
  rcases Int.lt_or_le a 0 with h | h
  · refine Nat.le_trans (dg_len_mono (by omega) ?_) hl
    rw [abs_pow, abs_pow]; exact pow_le_pow' (by omega) hk
  · rcases Int.lt_or_eq_of_le h with h | h
    · refine Nat.le_trans (dg_len_mono (by omega) ?_) hl
      rw [abs_pow, abs_pow]; exact pow_le_pow' (by omega) hk
    · subst h
      rw [abs_pow]
      refine Nat.le_trans (dg_len_le (B := 4294967296) (by omega) _ 1 ?_) (by omega)
      rcases Nat.eq_zero_or_pos k with h | h
      · subst h; decide
      · rw [show (0 : Int).natAbs = 0 from rfl, Nat.zero_pow h]; decide

def pm (a : Int) (e : Nat) (m : Int) : Int := (a ^ e) % m
end Go.Proofs.Ytlefdhkjbbdijaa

namespace Go.Abs
set_option linter.unusedSimpArgs false
set_option linter.unusedVariables false
variable {P : Program}
def AllE (P : Program) : List (FuncId × CT) → Prop
  | [] => True
  | p :: l => (∃ big, TblOk P big ∧ big.tbl p.1 = some p.2) ∧ AllE P l
theorem listE_ok {flt : List TypeId} (hf : ∀ t ∈ flt, FltOk P t) {l : List (FuncId × CT)} (h : AllE P l) : TblOk P (listT l flt) := by
  refine ⟨hf, fun f ct hl => ?_⟩
  have key : ∀ {l : List (FuncId × CT)}, AllE P l → look l f = some ct → ∃ big, TblOk P big ∧ big.tbl f = some ct := by
    intro l
    induction l with
    | nil => intro _ h; simp [look] at h
    | cons p l ih =>
      intro ha h
      simp only [look] at h
      split at h
      · rename_i he
        cases h
        rw [← beq_iff_eq.1 he]; exact ha.1
      · exact ih ha.2 h
  obtain ⟨big, h1, h2⟩ := key h hl
  exact h1.2 f ct h2
end Go.Abs
namespace Go.Proofs.Ytlefdhkjbbdijaa
set_option linter.unusedSimpArgs false
set_option linter.unusedVariables false
open Go.Proofs.NatL

def bits (n v : Nat) : List Bool := (List.range n).map fun i => v.testBit i
end Go.Proofs.Ytlefdhkjbbdijaa

namespace Go.Proofs.Ytlefdhkjbbdijaa
set_option linter.unusedSimpArgs false
set_option linter.unusedVariables false
open Go.Abs Go.Proofs.NatL

def iF2CT (p : Int → Int → Prop) (f : Int → Int → AV) : CT := mkCT [nP, nP] false fun l K => match l with
  | [.inr [.b s, .ints .u32 xs], .inr [.b t, .ints .u32 ys]] => (okZ s xs = true ∧ InB 4294967296 xs ∧ okZ t ys = true ∧ InB 4294967296 ys ∧ p (sv 4294967296 s xs) (sv 4294967296 t ys)) ∧ K (f (sv 4294967296 s xs) (sv 4294967296 t ys))
  | _ => False
theorem iF2_ret {F : FuncId} {p : Int → Int → Prop} {f : Int → Int → AV} (h : ∀ a b : Int, p a b → (dg 4294967296 a.natAbs).length ≤ 128 → (dg 4294967296 b.natAbs).length ≤ 128 → Ret Try.prog F false [.inr (gI a), .inr (gI b)] (f a b))
    {s t : Bool} {xs ys : List Int} (hh : okZ s xs = true ∧ InB 4294967296 xs ∧ okZ t ys = true ∧ InB 4294967296 ys ∧ p (sv 4294967296 s xs) (sv 4294967296 t ys)) :
    Ret Try.prog F false [.inr [.b s, .ints .u32 xs], .inr [.b t, .ints .u32 ys]] (f (sv 4294967296 s xs) (sv 4294967296 t ys)) := by
  obtain ⟨h1, h2, h3, h4, h5⟩ := hh
  obtain ⟨a1, a2, a3⟩ := okZ_eq h1 h2
  obtain ⟨b1, b2, b3⟩ := okZ_eq h3 h4
  have := h _ _ h5 (by rw [← a2]; exact a3) (by rw [← b2]; exact b3)
  rw [gI, gI, ← a1, ← a2, ← b1, ← b2] at this
  exact this
theorem iF2_tr {F : FuncId} {p : Int → Int → Prop} {f : Int → Int → AV} (h : ∀ a b : Int, p a b → (dg 4294967296 a.natAbs).length ≤ 128 → (dg 4294967296 b.natAbs).length ≤ 128 → Ret Try.prog F false [.inr (gI a), .inr (gI b)] (f a b))
    (l : List (C ⊕ List C)) (K : AV → Prop) (hk : match l with
      | [.inr [.b s, .ints .u32 xs], .inr [.b t, .ints .u32 ys]] => (okZ s xs = true ∧ InB 4294967296 xs ∧ okZ t ys = true ∧ InB 4294967296 ys ∧ p (sv 4294967296 s xs) (sv 4294967296 t ys)) ∧ K (f (sv 4294967296 s xs) (sv 4294967296 t ys))
      | _ => False) : ∃ r, Ret Try.prog F false l r ∧ K r := by
  split at hk
  · exact ⟨_, iF2_ret h hk.1, hk.2⟩
  · exact hk.elim
def rCl (z : Int) : AV := .t [.inr (gI (cl 128 z)), .inr [.i .i64 (clC 128 z), .i .i64 (clI 128 z)]]
def rDiv (a b : Int) : AV := .t [.inr (gI (a.fdiv b)), .inr (gI (a.fmod b)), .inr [.i .i64 0, .i .i64 0]]
def rGcd (a b : Int) : AV := .t [.inr (gI (Nat.gcd a.natAbs b.natAbs : Nat)), .inr [.i .i64 0, .i .i64 0]]
def rCmp (a b : Int) : AV := .t [.inl (.i .i64 (cmpZ a b)), .inr [.i .i64 0, .i .i64 0]]
def ku1 : Cfg := addT 75 (iF2CT (fun _ _ => True) (fun a b => rCl (a + b))) it6
theorem ku1_ok : TblOk Try.prog ku1 := q_I it6_ok Try.func75 fun l K h =>
  iF2_tr (p := (fun _ _ => True)) (f := (fun a b => rCl (a + b))) (fun a b _ => iAdd_ok a b) l K h
def ku2 : Cfg := addT 101 (iF2CT (fun _ _ => True) (fun a b => rCl (a - b))) ku1
theorem ku2_ok : TblOk Try.prog ku2 := q_I ku1_ok Try.func101 fun l K h =>
  iF2_tr (p := (fun _ _ => True)) (f := (fun a b => rCl (a - b))) (fun a b _ => iSub_ok a b) l K h
def ku3 : Cfg := addT 100 (iF2CT (fun _ _ => True) (fun a b => rCl (a * b))) ku2
theorem ku3_ok : TblOk Try.prog ku3 := q_I ku2_ok Try.func100 fun l K h =>
  iF2_tr (p := (fun _ _ => True)) (f := (fun a b => rCl (a * b))) (fun a b _ => iMul_ok a b) l K h
def ku4 : Cfg := addT 72 (iF2CT (fun _ b => b ≠ 0) rDiv) ku3
theorem ku4_ok : TblOk Try.prog ku4 := q_I ku3_ok Try.func72 fun l K h =>
  iF2_tr (p := (fun _ b => b ≠ 0)) (f := rDiv) (fun a b hb => iDivMod_ok a b hb) l K h
def ku5 : Cfg := ku4
theorem ku5_ok : TblOk Try.prog ku5 := ku4_ok
def ku6 : Cfg := addT 44 (iF2CT (fun _ _ => True) rCmp) ku5
theorem ku6_ok : TblOk Try.prog ku6 := q_I ku5_ok Try.func44 fun l K h =>
  iF2_tr (p := (fun _ _ => True)) (f := rCmp) (fun a b _ => iCmp_ok a b) l K h
attribute [go_sem] iF2CT rCl rDiv rGcd rCmp okZ_g
def iB2CT (ps : List (Option C ⊕ List (Option C))) (R : List (C ⊕ List C)) : CT := mkCT [nP, nP] false fun l K => match l with
  | [.inr [.b s, .ints .u32 xs], .inr [.b t, .ints .u32 ys]] => (xs.length ≤ 140737488355328 ∧ ys.length ≤ 140737488355328 ∧ (okZ s xs = false ∨ okZ s xs = true ∧ okZ t ys = false)) ∧ K (.t (R ++ [.inr [.i .i64 6, .i .i64 (if okZ s xs then -2 else -1)]]))
  | _ => False
attribute [go_sem] iB2CT
def kc : Cfg := listT [(13, iOfCT), (72, (iF2CT (fun _ b => b ≠ 0) rDiv)), (97, iTextCT), (30, sameIntCT), (18, numberCT)] [30]
attribute [go_sem] kc
def countsCT : CT := mkCT [] true fun l K => match l with
  | [] => K (.c (.b true))
  | _ => False
attribute [go_sem] countsCT
def kyt : Cfg := listT [(32, atCT), (24, noIntCT), (30, sameIntCT), (90, fitsCT)] [30]
attribute [go_sem] kyt
def yieldsCT : CT := mkCT [nP, .inr [none, none], nR, .inr [none, none]] true fun l K => match l with
  | [.inr [.b s, .ints .u32 xs], .inr [.i .i64 c, .i .i64 i], .inr [.b t, .ints .i64 ys], .inr [.i .i64 wc, .i .i64 wi]] =>
      ((Nrm s xs ∧ InB 65536 ys ∧ Trd ys ∧ ys.length ≤ 1048576) ∧ wc = 0 ∧ wi = 0 ∧ sv 4294967296 s xs = cl 128 (sv 65536 t ys) ∧ c = clC 128 (sv 65536 t ys) ∧ i = clI 128 (sv 65536 t ys)) ∧ K (.c (.b true))
  | _ => False
attribute [go_sem] yieldsCT
end Go.Proofs.Ytlefdhkjbbdijaa

namespace Go.Proofs.NatL
set_option linter.unusedSimpArgs false
set_option linter.unusedVariables false
def rdN (n : Int) (d : Nat) : Int := n / ((Nat.gcd n.natAbs d : Nat) : Int)
def rdD (n : Int) (d : Nat) : Nat := d / Nat.gcd n.natAbs d
theorem rd_gpos (n : Int) {d : Nat} (hd : 0 < d) : 0 < Nat.gcd n.natAbs d := Nat.gcd_pos_of_pos_right _ hd
theorem rd_n (n : Int) (d : Nat) : n = rdN n d * ((Nat.gcd n.natAbs d : Nat) : Int) := by
  have h : ((Nat.gcd n.natAbs d : Nat) : Int) ∣ n := Int.ofNat_dvd_left.2 (Nat.gcd_dvd_left _ _)
  exact (Int.ediv_mul_cancel h).symm
theorem rd_d (n : Int) (d : Nat) : d = rdD n d * Nat.gcd n.natAbs d := (Nat.div_mul_cancel (Nat.gcd_dvd_right _ _)).symm
theorem rdD_pos (n : Int) {d : Nat} (hd : 0 < d) : 0 < rdD n d := Nat.div_pos (Nat.le_of_dvd hd (Nat.gcd_dvd_right _ _)) (rd_gpos n hd)
theorem rdN_abs (n : Int) {d : Nat} (hd : 0 < d) : (rdN n d).natAbs = n.natAbs / Nat.gcd n.natAbs d := by
  have hg := rd_gpos n hd
  have h := congrArg Int.natAbs (rd_n n d)
  rw [Int.natAbs_mul, Int.natAbs_natCast] at h
  generalize Nat.gcd n.natAbs d = g at *
  rw [h, Nat.mul_div_cancel _ hg]
theorem rdN_neg (n : Int) {d : Nat} (hd : 0 < d) : decide (rdN n d < 0) = decide (n < 0) := by
  have hg := rd_gpos n hd
  have h := rd_n n d
  generalize Nat.gcd n.natAbs d = g at *
  generalize rdN n d = m at *
  have h1 : m < 0 → n < 0 := fun hm => by
    rw [h]; exact Int.mul_neg_of_neg_of_pos hm (by omega)
  have h2 : 0 ≤ m → 0 ≤ n := fun hm => by
    rw [h]; exact Int.mul_nonneg hm (by omega)
  exact decide_eq_decide.2 (by omega)
theorem rd_gcd (n : Int) {d : Nat} (hd : 0 < d) : Nat.gcd (rdN n d).natAbs (rdD n d) = 1 := by
  rw [rdN_abs n hd]
  exact Nat.gcd_div_gcd_div_gcd_of_pos_right hd
theorem rd_self {n : Int} {d : Nat} (h : Nat.gcd n.natAbs d = 1) : rdN n d = n ∧ rdD n d = d := by
  unfold rdN rdD
  rw [h]; simp
theorem rd_unique {m n : Int} {c d : Nat} (hc : 0 < c) (hd : 0 < d) (h1 : Nat.gcd m.natAbs c = 1) (h2 : Nat.gcd n.natAbs d = 1) (h : m * d = n * c) : m = n ∧ c = d := by
  have ha := congrArg Int.natAbs h
  rw [Int.natAbs_mul, Int.natAbs_mul, Int.natAbs_natCast, Int.natAbs_natCast] at ha
  have d1 : c ∣ d := by
    have : c ∣ m.natAbs * d := ⟨n.natAbs, by rw [ha, Nat.mul_comm]⟩
    exact (Nat.Coprime.dvd_of_dvd_mul_left (Nat.Coprime.symm h1) this)
  have d2 : d ∣ c := by
    have : d ∣ n.natAbs * c := ⟨m.natAbs, by rw [← ha, Nat.mul_comm]⟩
    exact (Nat.Coprime.dvd_of_dvd_mul_left (Nat.Coprime.symm h2) this)
  have e : c = d := Nat.dvd_antisymm d1 d2
  subst e
  exact ⟨Int.eq_of_mul_eq_mul_right (by omega) h, rfl⟩
theorem rd_val (n : Int) (d : Nat) : rdN n d * (d : Int) = n * (rdD n d : Int) := by
  have h1 := rd_n n d
  have h2 := rd_d n d
  generalize Nat.gcd n.natAbs d = g at *
  generalize rdN n d = m at *
  generalize rdD n d = c at *
  rw [h1, h2, Int.natCast_mul]
  rw [Int.mul_assoc, Int.mul_comm (g : Int) (c : Int)]
theorem rd_eq {m n : Int} {c d : Nat} (hc : 0 < c) (hd : 0 < d) (h : m * d = n * c) : rdN m c = rdN n d ∧ rdD m c = rdD n d := by
  refine rd_unique (rdD_pos m hc) (rdD_pos n hd) (rd_gcd m hc) (rd_gcd n hd) ?_
  have v1 := rd_val m c
  have v2 := rd_val n d
  -- m' / c' = m / c = n / d = n' / d'
  have hcd : ((c : Int) * d) ≠ 0 := Int.mul_ne_zero (by omega) (by omega)
  refine Int.eq_of_mul_eq_mul_left hcd ?_
  generalize rdN m c = m' at *
  generalize rdN n d = n' at *
  generalize (rdD m c : Int) = c' at *
  generalize (rdD n d : Int) = d' at *
  calc (c : Int) * d * (m' * d') = m' * c * (d * d') := by ac_rfl
    _ = m * c' * (d * d') := by rw [v1]
    _ = m * d * (c' * d') := by ac_rfl
    _ = n * c * (c' * d') := by rw [h]
    _ = n * d' * (c * c') := by ac_rfl
    _ = n' * d * (c * c') := by rw [v2]
    _ = c * d * (n' * c') := by ac_rfl
end Go.Proofs.NatL
