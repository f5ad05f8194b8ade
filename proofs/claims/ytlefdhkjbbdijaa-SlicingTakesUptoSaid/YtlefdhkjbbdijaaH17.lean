import Derived.Test.YtlefdhkjbbdijaaH14
import Derived.Test.YtlefdhkjbbdijaaH16
namespace Go.Proofs.Ytlefdhkjbbdijaa
set_option linter.unusedSimpArgs false
set_option linter.unusedVariables false
open Go.Abs Go.Proofs.NatL

def sameIntCT : CT := mkCT [nP, nR] true fun l K => match l with
  | [.inr [.b s, .ints .u32 xs], .inr [.b t, .ints .i64 ys]] => (Nrm s xs ∧ xs.length ≤ 16777216 ∧ InB 65536 ys ∧ Trd ys ∧ ys.length ≤ 4194304) ∧ K (.c (.b (decide (sv 4294967296 s xs = sv 65536 t ys))))
  | _ => False
def jt4 : Cfg := addT 30 sameIntCT jt3
theorem jt4_ok : TblOk Try.prog jt4 := q_I jt3_ok Try.func30 fun l K h => by
  split at h
  · obtain ⟨⟨h1, h2, h3, h4, h5⟩, h⟩ := h
    exact ⟨_, (sameInt_ret _ _ _ _ h1 h2 h3 h4 h5).plain rfl, h⟩
  · exact h.elim

def sameIntsCT : CT := mkCT [nP, nP] true fun l K => match l with
  | [.inr [.b s, .ints .u32 xs], .inr [.b t, .ints .u32 ys]] => (Nrm s xs ∧ xs.length ≤ 16777216 ∧ Nrm t ys ∧ ys.length ≤ 16777216) ∧ K (.c (.b (decide (sv 4294967296 s xs = sv 4294967296 t ys))))
  | _ => False
def jt5 : Cfg := jt4
theorem jt5_ok : TblOk Try.prog jt5 := jt4_ok
set_option maxHeartbeats 800000 in
theorem noInt_ret (s : Bool) (xs : List Int) (hn : Nrm s xs) (hx : xs.length ≤ 140737488355328) :
    Ret Try.prog 24 false [.inr [.b s, .ints .u32 xs]] (.c (.b (decide (sv 4294967296 s xs = 0)))) := by
  obtain ⟨h1, h2⟩ := Nrm_eq hn
  have hl := dg_len_pos 4294967296 (sv 4294967296 s xs).natAbs (by omega)
  rw [← h2] at hl
  generalize sv 4294967296 s xs = z at *
  have key : decide (¬ s = true ∧ (xs.length : Int) = 0) = decide (z = 0) := by
    congr 1
    refine propext ⟨fun ⟨e1, e2⟩ => by omega, fun h => ?_⟩
    subst h
    exact ⟨by rw [h1]; simp, by omega⟩
  rw [← key]
  clear key h1 h2 hl
  cases s
  all_goals
    (refine q_H Try.func24 (fun F => ?_); simp only [q_z,q_y,Try.ntmps24,Try.results24])
    repeat' (first|(with_reducible first|apply q_a|apply q_b|apply q_c|apply q_d|apply q_e|apply q_f|apply q_g|apply q_h|apply q_i|apply q_j|apply q_k|apply q_m|apply q_n|apply q_o|apply q_p|refine q_l ?_)|((with_reducible first|refine q_q jb3_ok fun K hK=>?_|refine q_r jb3_ok fun K hK=>?_);simp (maxSteps:=2000000) only [go_sem,↓reduceIte,reduceCtorEq,Nat.reduceLeDiff,Nat.reduceLT,Nat.reduceBEq,Nat.reduceAdd];(repeat1' with_reducible first|apply And.intro|(intro _;try exact q_v)|(refine hK _ ?_;clear hK K))<;>(try (clear hK K;exact q_u)))|(with_reducible refine q_s ?_;(first|apply q_J|apply q_K|apply q_L|apply q_M|apply q_N|apply q_O)<;>try (intro _;try exact q_v))|with_reducible refine q_t ?_)
  all_goals (refine q_A ?_; simp [resAV, q_y])
def noIntCT : CT := mkCT [nP] true fun l K => match l with
  | [.inr [.b s, .ints .u32 xs]] => (Nrm s xs ∧ xs.length ≤ 140737488355328) ∧ K (.c (.b (decide (sv 4294967296 s xs = 0))))
  | _ => False
def jt6 : Cfg := addT 24 noIntCT jt5
theorem jt6_ok : TblOk Try.prog jt6 := q_I jt5_ok Try.func24 fun l K h => by
  split at h
  · exact ⟨_, (noInt_ret _ _ h.1.1 h.1.2).plain rfl, h.2⟩
  · exact h.elim
attribute [go_sem] sameIntCT sameIntsCT noIntCT sv32 sv65 svz65
def jb4 : Cfg := listT [(69, binaryCT)] [30]
theorem jb4_ok : TblOk Try.prog jb4 := listT_ok (big := jt6) jt6_ok ⟨rfl, trivial⟩
attribute [go_sem] jb4
set_option maxHeartbeats 1600000 in
theorem number_ret (n : Int) (hn : -9223372036854775808 ≤ n ∧ n ≤ 9223372036854775807) : Ret Try.prog 18 false [.inl (.i .i64 n)] (.g (gR n)) := by
  (refine q_H Try.func18 (fun F => ?_); simp only [q_z,q_y,Try.ntmps18,Try.results18])
  repeat' (first|(with_reducible first|apply q_a|apply q_b|apply q_c|apply q_d|apply q_e|apply q_f|apply q_g|apply q_h|apply q_i|apply q_j|apply q_k|apply q_m|apply q_n|apply q_o|apply q_p|refine q_l ?_)|((with_reducible first|refine q_q jb4_ok fun K hK=>?_|refine q_r jb4_ok fun K hK=>?_);simp (maxSteps:=2000000) only [go_sem,↓reduceIte,reduceCtorEq,Nat.reduceLeDiff,Nat.reduceLT,Nat.reduceBEq,Nat.reduceAdd];(repeat1' with_reducible first|apply And.intro|(intro _;try exact q_v)|(refine hK _ ?_;clear hK K))<;>(try (clear hK K;exact q_u)))|(with_reducible refine q_s ?_;(first|apply q_J|apply q_K|apply q_L|apply q_M|apply q_N|apply q_O)<;>try (intro _;try exact q_v))|with_reducible refine q_t ?_)
  refine q_G (ι := { p : Int × List Bool // p.1.natAbs ≤ n.natAbs ∧ p.2.length ≤ 64 ∧ B2 p.2 + 2 ^ p.2.length * p.1.natAbs = n.natAbs }) (fun p => ⟨21, [(0, .c (.i .i64 p.1.1)), (2, .bx 0 0), (3, .own 1 0), (4, .c (.b (decide (n < 0))))], ⟨[(0, [.c (.b false), .c .nil])], [(1, ⟨0, 4, 1, .bools p.1.2⟩)], []⟩, 2⟩) (fun p => p.1.1.natAbs) ⟨(n, []), Nat.le_refl _, by simp, by simp [B2_nil]⟩ ?_ ?_
  · exact q_D
  rintro ⟨⟨z, l⟩, g1, g2, g3⟩
  simp only at g1 g2 g3 ⊢
  have a1 := tdiv2_abs z
  have a2 := tmod2_ne z
  have b3 := bit_step l l.length z.natAbs n.natAbs rfl g3
  have hlen : z ≠ 0 → l.length + 1 ≤ 64 := fun h => by
    rcases Nat.lt_or_ge l.length 64 with h1 | h1
    · omega
    · have h2 : 2 ^ 64 * 1 ≤ 2 ^ l.length * z.natAbs := Nat.mul_le_mul (Nat.pow_le_pow_right (by omega) h1) (by omega)
      have h3 : (2 : Nat) ^ 64 = 18446744073709551616 := rfl
      omega
  by_cases hz : z = 0
  · subst hz
    have e : B2 l = n.natAbs := by simpa using g3
    repeat' (first|(with_reducible first|apply q_a|apply q_b|apply q_c|apply q_d|apply q_e|apply q_f|apply q_g|apply q_h|apply q_i|apply q_j|apply q_k|apply q_m|apply q_n|apply q_o|apply q_p|refine q_l ?_)|((with_reducible first|refine q_q jb4_ok fun K hK=>?_|refine q_r jb4_ok fun K hK=>?_);simp (maxSteps:=2000000) only [go_sem,↓reduceIte,reduceCtorEq,Nat.reduceLeDiff,Nat.reduceLT,Nat.reduceBEq,Nat.reduceAdd,e];(repeat1' with_reducible first|apply And.intro|(intro _;try exact q_v)|(refine hK _ ?_;clear hK K))<;>(try (clear hK K;exact q_u)))|(with_reducible refine q_s ?_;(first|apply q_J|apply q_K|apply q_L|apply q_M|apply q_N|apply q_O)<;>try (intro _;try exact q_v))|with_reducible refine q_t ?_)
    exact q_A rfl
  · have hl2 := hlen hz
    have hlt : (z.tdiv 2).natAbs < z.natAbs := by rw [a1]; omega
    have hb : -9223372036854775808 ≤ z.tdiv 2 ∧ z.tdiv 2 ≤ 9223372036854775807 := by omega
    have hnn : ¬ z = 0 := hz
    repeat' (first|(with_reducible first|apply q_a|apply q_b|apply q_c|apply q_d|apply q_e|apply q_f|apply q_g|apply q_h|apply q_i|apply q_j|apply q_k|apply q_m|apply q_n|apply q_o|apply q_p|refine q_l ?_)|((with_reducible first|refine q_q jb4_ok fun K hK=>?_|refine q_r jb4_ok fun K hK=>?_);simp (maxSteps:=2000000) only [go_sem,↓reduceIte,reduceCtorEq,Nat.reduceLeDiff,Nat.reduceLT,Nat.reduceBEq,Nat.reduceAdd,a2];(repeat1' with_reducible first|apply And.intro|(intro _;try exact q_v)|(refine hK _ ?_;clear hK K))<;>(try (clear hK K;exact q_u)))|(with_reducible refine q_s ?_;(first|apply q_J|apply q_K|apply q_L|apply q_M|apply q_N|apply q_O)<;>try (intro _;try exact q_v))|with_reducible refine q_t ?_)
    all_goals first | omega | skip
    refine q_F ⟨(z.tdiv 2, l ++ [decide (z.natAbs % 2 = 1)]), by simp only; omega, by simp; omega, ?_⟩ ?_ (by simp only; omega)
    · simp only [List.length_append, List.length_cons, List.length_nil, Nat.zero_add, a1]; exact b3
    · exact q_D
def numberCT : CT := mkCT [] false fun l K => match l with
  | [.inl (.i .i64 n)] => (-9223372036854775808 ≤ n ∧ n ≤ 9223372036854775807) ∧ K (.g (gR n))
  | _ => False
def jt7 : Cfg := addT 18 numberCT jt6
theorem jt7_ok : TblOk Try.prog jt7 := q_I jt6_ok Try.func18 fun l K h => by
  split at h
  · exact ⟨_, number_ret _ h.1, h.2⟩
  · exact h.elim

theorem fits_ret (s : Bool) (ys : List Int) (k : Int) (hk : 0 ≤ k ∧ k ≤ 1000000) : Ret Try.prog 90 false [.inr [.b s, .ints .i64 ys], .inl (.i .i64 k)] (.c (.b (decide ((ys.length : Int) ≤ 2 * k)))) := by
  (refine q_H Try.func90 (fun F => ?_); simp only [q_z,q_y,Try.ntmps90,Try.results90])
  repeat' (first|(with_reducible first|apply q_a|apply q_b|apply q_c|apply q_d|apply q_e|apply q_f|apply q_g|apply q_h|apply q_i|apply q_j|apply q_k|apply q_m|apply q_n|apply q_o|apply q_p|refine q_l ?_)|((with_reducible first|refine q_q jb4_ok fun K hK=>?_|refine q_r jb4_ok fun K hK=>?_);simp (maxSteps:=2000000) only [go_sem,↓reduceIte,reduceCtorEq,Nat.reduceLeDiff,Nat.reduceLT,Nat.reduceBEq,Nat.reduceAdd];(repeat1' with_reducible first|apply And.intro|(intro _;try exact q_v)|(refine hK _ ?_;clear hK K))<;>(try (clear hK K;exact q_u)))|(with_reducible refine q_s ?_;(first|apply q_J|apply q_K|apply q_L|apply q_M|apply q_N|apply q_O)<;>try (intro _;try exact q_v))|with_reducible refine q_t ?_)
  exact q_A rfl
def fitsCT : CT := mkCT [nR] true fun l K => match l with
  | [.inr [.b s, .ints .i64 ys], .inl (.i .i64 k)] => (0 ≤ k ∧ k ≤ 1000000) ∧ K (.c (.b (decide ((ys.length : Int) ≤ 2 * k))))
  | _ => False
def jt8 : Cfg := addT 90 fitsCT jt7
theorem jt8_ok : TblOk Try.prog jt8 := q_I jt7_ok Try.func90 fun l K h => by
  split at h
  · exact ⟨_, (fits_ret _ _ _ h.1).plain rfl, h.2⟩
  · exact h.elim
attribute [go_sem] numberCT fitsCT
def jb5 : Cfg := listT [(61, rcmpCT), (77, (rnumCT (fun _ _ => True) (· + ·))), (86, (rnumCT (fun _ _ => True) (· * ·))), (78, (rnumCT (fun xs ys => V 65536 ys ≤ V 65536 xs) (· - ·)))] [30]
theorem jb5_ok : TblOk Try.prog jb5 := listT_ok (big := jt8) jt8_ok ⟨rfl, rfl, rfl, rfl, trivial⟩
attribute [go_sem] jb5
theorem gRz_eq (s : Bool) (k : Nat) : gRz (sg s k) s = [.b s, .ints .i64 (dg 65536 k)] := by simp only [gRz, sgz_sg, sg_abs]
set_option maxHeartbeats 1600000 in
theorem iminus_ret (s : Bool) (m : Nat) : Ret Try.prog 66 false [.inr [.b s, .ints .i64 (dg 65536 m)]] (.g (gR (-sg s m))) := by
  have hl := dg_len_pos 65536 m (by omega)
  have hs : decide (-sg s m < 0) = (!s && decide (0 < ((dg 65536 m).length : Int))) := by
    cases s
    · simp only [sgf, Bool.not_false, Bool.true_and]; congr 1; exact propext ⟨fun h => by omega, fun h => by omega⟩
    · simp only [sgt, Bool.not_true, Bool.false_and]; exact decide_eq_false (by omega)
  have ha : (-sg s m).natAbs = m := by rw [Int.natAbs_neg, sg_abs]
  simp only [gR, hs, ha]
  cases s
  all_goals
    (refine q_H Try.func66 (fun F => ?_); simp only [q_z,q_y,Try.ntmps66,Try.results66])
    repeat' (first|(with_reducible first|apply q_a|apply q_b|apply q_c|apply q_d|apply q_e|apply q_f|apply q_g|apply q_h|apply q_i|apply q_j|apply q_k|apply q_m|apply q_n|apply q_o|apply q_p|refine q_l ?_)|((with_reducible first|refine q_q jb5_ok fun K hK=>?_|refine q_r jb5_ok fun K hK=>?_);simp (maxSteps:=2000000) only [go_sem,↓reduceIte,reduceCtorEq,Nat.reduceLeDiff,Nat.reduceLT,Nat.reduceBEq,Nat.reduceAdd];(repeat1' with_reducible first|apply And.intro|(intro _;try exact q_v)|(refine hK _ ?_;clear hK K))<;>(try (clear hK K;exact q_u)))|(with_reducible refine q_s ?_;(first|apply q_J|apply q_K|apply q_L|apply q_M|apply q_N|apply q_O)<;>try (intro _;try exact q_v))|with_reducible refine q_t ?_)
    exact q_A rfl
set_option maxHeartbeats 1600000 in
theorem iplus_ex (s t : Bool) (m n : Nat) (lm : (dg 65536 m).length ≤ 1048576) (ln : (dg 65536 n).length ≤ 1048576) :
    ∃ b, Ret Try.prog 29 false [.inr [.b s, .ints .i64 (dg 65536 m)], .inr [.b t, .ints .i64 (dg 65536 n)]] (.g (gRz (sg s m + sg t n) b)) := by
  by_cases hst : s = t
  · subst hst
    refine ⟨s, ?_⟩
    rw [sg_eq_add, gRz_eq]
    (refine q_H Try.func29 (fun F => ?_); simp only [q_z,q_y,Try.ntmps29,Try.results29])
    repeat' (first|(with_reducible first|apply q_a|apply q_b|apply q_c|apply q_d|apply q_e|apply q_f|apply q_g|apply q_h|apply q_i|apply q_j|apply q_k|apply q_m|apply q_n|apply q_o|apply q_p|refine q_l ?_)|((with_reducible first|refine q_q jb5_ok fun K hK=>?_|refine q_r jb5_ok fun K hK=>?_);simp (maxSteps:=2000000) only [go_sem,↓reduceIte,reduceCtorEq,Nat.reduceLeDiff,Nat.reduceLT,Nat.reduceBEq,Nat.reduceAdd];(repeat1' with_reducible first|apply And.intro|(intro _;try exact q_v)|(refine hK _ ?_;clear hK K))<;>(try (clear hK K;exact q_u)))|(with_reducible refine q_s ?_;(first|apply q_J|apply q_K|apply q_L|apply q_M|apply q_N|apply q_O)<;>try (intro _;try exact q_v))|with_reducible refine q_t ?_)
    all_goals first | omega | exact q_A rfl
  · have hne : (s == t) = false := by simpa using hst
    rcases Nat.lt_or_ge m n with h | h
    · refine ⟨t, ?_⟩
      rw [sg_eq_sub' hst (by omega), gRz_eq]
      have hc := (cmp3_lt m n).2 h
      (refine q_H Try.func29 (fun F => ?_); simp only [q_z,q_y,Try.ntmps29,Try.results29])
      repeat' (first|(with_reducible first|apply q_a|apply q_b|apply q_c|apply q_d|apply q_e|apply q_f|apply q_g|apply q_h|apply q_i|apply q_j|apply q_k|apply q_m|apply q_n|apply q_o|apply q_p|refine q_l ?_)|((with_reducible first|refine q_q jb5_ok fun K hK=>?_|refine q_r jb5_ok fun K hK=>?_);simp (maxSteps:=2000000) only [go_sem,↓reduceIte,reduceCtorEq,Nat.reduceLeDiff,Nat.reduceLT,Nat.reduceBEq,Nat.reduceAdd,hne];(repeat1' with_reducible first|apply And.intro|(intro _;try exact q_v)|(refine hK _ ?_;clear hK K))<;>(try (clear hK K;exact q_u)))|(with_reducible refine q_s ?_;(first|apply q_J|apply q_K|apply q_L|apply q_M|apply q_N|apply q_O)<;>try (intro _;try exact q_v))|with_reducible refine q_t ?_)
      all_goals first | omega | exact q_A rfl
    · refine ⟨s, ?_⟩
      rw [sg_eq_sub hst h, gRz_eq]
      have hc : ¬ cmp3 m n < 0 := fun h2 => by have := (cmp3_lt m n).1 h2; omega
      (refine q_H Try.func29 (fun F => ?_); simp only [q_z,q_y,Try.ntmps29,Try.results29])
      repeat' (first|(with_reducible first|apply q_a|apply q_b|apply q_c|apply q_d|apply q_e|apply q_f|apply q_g|apply q_h|apply q_i|apply q_j|apply q_k|apply q_m|apply q_n|apply q_o|apply q_p|refine q_l ?_)|((with_reducible first|refine q_q jb5_ok fun K hK=>?_|refine q_r jb5_ok fun K hK=>?_);simp (maxSteps:=2000000) only [go_sem,↓reduceIte,reduceCtorEq,Nat.reduceLeDiff,Nat.reduceLT,Nat.reduceBEq,Nat.reduceAdd,hne];(repeat1' with_reducible first|apply And.intro|(intro _;try exact q_v)|(refine hK _ ?_;clear hK K))<;>(try (clear hK K;exact q_u)))|(with_reducible refine q_s ?_;(first|apply q_J|apply q_K|apply q_L|apply q_M|apply q_N|apply q_O)<;>try (intro _;try exact q_v))|with_reducible refine q_t ?_)
      all_goals first | omega | exact q_A rfl
set_option maxHeartbeats 1600000 in
theorem itimes_ret (s t : Bool) (m n : Nat) (lm : (dg 65536 m).length ≤ 1048576) (ln : (dg 65536 n).length ≤ 1048576) :
    Ret Try.prog 67 false [.inr [.b s, .ints .i64 (dg 65536 m)], .inr [.b t, .ints .i64 (dg 65536 n)]] (.g (gR (sg s m * sg t n))) := by
  have hl := dg_len_pos 65536 (m * n) (by omega)
  have hz := sg_mul s t m n
  have hs : decide (sg s m * sg t n < 0) = ((s != t) && decide (0 < ((dg 65536 (m * n)).length : Int))) := by
    rw [← hz]
    cases hb : (s != t)
    · simp only [sgf, Bool.false_and]; exact decide_eq_false (by omega)
    · simp only [sgt, Bool.true_and]; congr 1; exact propext ⟨fun h => by omega, fun h => by omega⟩
  have ha : (sg s m * sg t n).natAbs = m * n := by rw [← hz, sg_abs]
  simp only [gR, hs, ha]
  cases hb : (s != t)
  all_goals
    (refine q_H Try.func67 (fun F => ?_); simp only [q_z,q_y,Try.ntmps67,Try.results67])
    repeat' (first|(with_reducible first|apply q_a|apply q_b|apply q_c|apply q_d|apply q_e|apply q_f|apply q_g|apply q_h|apply q_i|apply q_j|apply q_k|apply q_m|apply q_n|apply q_o|apply q_p|refine q_l ?_)|((with_reducible first|refine q_q jb5_ok fun K hK=>?_|refine q_r jb5_ok fun K hK=>?_);simp (maxSteps:=2000000) only [go_sem,↓reduceIte,reduceCtorEq,Nat.reduceLeDiff,Nat.reduceLT,Nat.reduceBEq,Nat.reduceAdd,hb];(repeat1' with_reducible first|apply And.intro|(intro _;try exact q_v)|(refine hK _ ?_;clear hK K))<;>(try (clear hK K;exact q_u)))|(with_reducible refine q_s ?_;(first|apply q_J|apply q_K|apply q_L|apply q_M|apply q_N|apply q_O)<;>try (intro _;try exact q_v))|with_reducible refine q_t ?_)
  all_goals first | omega | exact q_A rfl
set_option maxHeartbeats 1600000 in
theorem iorder_ret (s t : Bool) (m n : Nat) (lm : (dg 65536 m).length ≤ 4194304) (ln : (dg 65536 n).length ≤ 4194304) :
    Ret Try.prog 68 false [.inr [.b s, .ints .i64 (dg 65536 m)], .inr [.b t, .ints .i64 (dg 65536 n)]] (.c (.i .i64 (cmpZ (sg s m) (sg t n)))) := by
  have hl := dg_len_pos 65536 m (by omega)
  have hk := dg_len_pos 65536 n (by omega)
  have c1 := cmp3_Z m n
  have c2 := cmp3_Z n m
  cases s <;> cases t
  all_goals
    (refine q_H Try.func68 (fun F => ?_); simp only [q_z,q_y,Try.ntmps68,Try.results68])
    repeat' (first|(with_reducible first|apply q_a|apply q_b|apply q_c|apply q_d|apply q_e|apply q_f|apply q_g|apply q_h|apply q_i|apply q_j|apply q_k|apply q_m|apply q_n|apply q_o|apply q_p|refine q_l ?_)|((with_reducible first|refine q_q jb5_ok fun K hK=>?_|refine q_r jb5_ok fun K hK=>?_);simp (maxSteps:=2000000) only [go_sem,↓reduceIte,reduceCtorEq,Nat.reduceLeDiff,Nat.reduceLT,Nat.reduceBEq,Nat.reduceAdd,c1, c2];(repeat1' with_reducible first|apply And.intro|(intro _;try exact q_v)|(refine hK _ ?_;clear hK K))<;>(try (clear hK K;exact q_u)))|(with_reducible refine q_s ?_;(first|apply q_J|apply q_K|apply q_L|apply q_M|apply q_N|apply q_O)<;>try (intro _;try exact q_v))|with_reducible refine q_t ?_)
  all_goals (refine q_A ?_; simp only [resAV, q_y, AV.c.injEq, C.i.injEq, true_and, sgt, sgf])
  all_goals (unfold cmpZ; repeat' split)
  all_goals omega

end Go.Proofs.Ytlefdhkjbbdijaa

namespace Go.Proofs.Ytlefdhkjbbdijaa
set_option linter.unusedSimpArgs false
set_option linter.unusedVariables false
open Go.Abs Go.Proofs.NatL

def iminusCT : CT := mkCT [nR] false fun l K => match l with
  | [.inr [.b s, .ints .i64 ys]] => (InB 65536 ys ∧ Trd ys) ∧ K (.g (gR (-sv 65536 s ys)))
  | _ => False
theorem sv_ys {s : Bool} {ys : List Int} (h1 : InB 65536 ys) (h2 : Trd ys) : ys = dg 65536 (V 65536 ys) ∧ sv 65536 s ys = sg s (V 65536 ys) := by
  have e := dg_V 65536 (by omega) ys h1 h2
  exact ⟨e.symm, by rw [← sv_d (B := 65536) (by omega), e]⟩
def jt9 : Cfg := addT 66 iminusCT jt8
theorem jt9_ok : TblOk Try.prog jt9 := q_I jt8_ok Try.func66 fun l K h => by
  split at h
  · rename_i s ys
    obtain ⟨⟨h1, h2⟩, h⟩ := h
    obtain ⟨e1, e2⟩ := sv_ys (s := s) h1 h2
    rw [e2] at h
    have := iminus_ret s (V 65536 ys)
    rw [← e1] at this
    exact ⟨_, this, h⟩
  · exact h.elim
def rI2CT (n : Nat) (f : Int → Int → (AV → Prop) → Prop) : CT := mkCT [nR, nR] false fun l K => match l with
  | [.inr [.b s, .ints .i64 xs], .inr [.b t, .ints .i64 ys]] => (InB 65536 xs ∧ Trd xs ∧ xs.length ≤ n ∧ InB 65536 ys ∧ Trd ys ∧ ys.length ≤ n) ∧ f (sv 65536 s xs) (sv 65536 t ys) K
  | _ => False
def addF (a b : Int) (K : AV → Prop) : Prop := ∀ c : Bool, K (.g (gRz (a + b) c))
def mulF (a b : Int) (K : AV → Prop) : Prop := K (.g (gR (a * b)))
def ordF (a b : Int) (K : AV → Prop) : Prop := K (.c (.i .i64 (cmpZ a b)))
def jt10 : Cfg := addT 29 (rI2CT 1048576 addF) jt9
theorem jt10_ok : TblOk Try.prog jt10 := q_I jt9_ok Try.func29 fun l K h => by
  split at h
  · rename_i s xs t ys
    obtain ⟨⟨h1, h2, h3, h4, h5, h6⟩, h⟩ := h
    obtain ⟨e1, e2⟩ := sv_ys (s := s) h1 h2
    obtain ⟨e3, e4⟩ := sv_ys (s := t) h4 h5
    rw [e2, e4] at h
    obtain ⟨b, this⟩ := iplus_ex s t (V 65536 xs) (V 65536 ys) (by rw [← e1]; exact h3) (by rw [← e3]; exact h6)
    rw [← e1, ← e3] at this
    exact ⟨_, this, h b⟩
  · exact h.elim
def jt11 : Cfg := addT 67 (rI2CT 1048576 mulF) jt10
theorem jt11_ok : TblOk Try.prog jt11 := q_I jt10_ok Try.func67 fun l K h => by
  split at h
  · rename_i s xs t ys
    obtain ⟨⟨h1, h2, h3, h4, h5, h6⟩, h⟩ := h
    obtain ⟨e1, e2⟩ := sv_ys (s := s) h1 h2
    obtain ⟨e3, e4⟩ := sv_ys (s := t) h4 h5
    rw [e2, e4] at h
    have this := itimes_ret s t (V 65536 xs) (V 65536 ys) (by rw [← e1]; exact h3) (by rw [← e3]; exact h6)
    rw [← e1, ← e3] at this
    exact ⟨_, this, h⟩
  · exact h.elim
def jt12 : Cfg := addT 68 (rI2CT 4194304 ordF) jt11
theorem jt12_ok : TblOk Try.prog jt12 := q_I jt11_ok Try.func68 fun l K h => by
  split at h
  · rename_i s xs t ys
    obtain ⟨⟨h1, h2, h3, h4, h5, h6⟩, h⟩ := h
    obtain ⟨e1, e2⟩ := sv_ys (s := s) h1 h2
    obtain ⟨e3, e4⟩ := sv_ys (s := t) h4 h5
    rw [e2, e4] at h
    have this := iorder_ret s t (V 65536 xs) (V 65536 ys) (by rw [← e1]; exact h3) (by rw [← e3]; exact h6)
    rw [← e1, ← e3] at this
    exact ⟨_, this, h⟩
  · exact h.elim
attribute [go_sem] iminusCT rI2CT addF mulF ordF
def jb6 : Cfg := listT [(116, onesCT), (69, binaryCT), (19, doubleCT), (61, rcmpCT), (86, (rnumCT (fun _ _ => True) (· * ·))), (78, (rnumCT (fun xs ys => V 65536 ys ≤ V 65536 xs) (· - ·)))] [30]
attribute [go_sem] jb6
end Go.Proofs.Ytlefdhkjbbdijaa
