import Derived.Test.YtlefdhkjbbdijaaG17
import Derived.Test.YtlefdhkjbbdijaaG19
namespace Go.Proofs.NatL
set_option linter.unusedSimpArgs false
set_option linter.unusedVariables false
theorem cmp3_is1 (m : Nat) : cmp3 m 1 = 0 ↔ m = 1 := by unfold cmp3; (repeat' split) <;> omega
end Go.Proofs.NatL
namespace Go.Proofs.Ytlefdhkjbbdijaa
set_option linter.unusedSimpArgs false
set_option linter.unusedVariables false
open Go.Abs Go.Proofs.NatL

theorem gRz_neq {z : Int} (h : z ≠ 0) (b c : Bool) : gRz z b = gRz z c := by simp only [gRz, sgz, if_neg h]
theorem iplus_flq (s t : Bool) (m n : Nat) (lm : (dg 65536 m).length ≤ 1048576) (ln : (dg 65536 n).length ≤ 1048576) :
    Ret Try.prog 29 false [.inr [.b s, .ints .i64 (dg 65536 m)], .inr [.b t, .ints .i64 (dg 65536 n)]] (.g (gRz (sg s m + sg t n) s)) := by
  by_cases hst : s = t
  · subst hst
    rw [sg_eq_add, gRz_eq]
    (refine q_H Try.func29 (fun F => ?_); simp only [q_z,q_y,Try.ntmps29,Try.results29])
    repeat' (first|(with_reducible first|apply q_a|apply q_b|apply q_c|apply q_d|apply q_e|apply q_f|apply q_g|apply q_h|apply q_i|apply q_j|apply q_k|apply q_m|apply q_n|apply q_o|apply q_p|refine q_l ?_)|((with_reducible first|refine q_q jb5_ok fun K hK=>?_|refine q_r jb5_ok fun K hK=>?_);simp (maxSteps:=2000000) only [go_sem,↓reduceIte,reduceCtorEq,Nat.reduceLeDiff,Nat.reduceLT,Nat.reduceBEq,Nat.reduceAdd];(repeat1' with_reducible first|apply And.intro|(intro _;try exact q_v)|(refine hK _ ?_;clear hK K))<;>(try (clear hK K;exact q_u)))|(with_reducible refine q_s ?_;(first|apply q_J|apply q_K|apply q_L|apply q_M|apply q_N|apply q_O)<;>try (intro _;try exact q_v))|with_reducible refine q_t ?_)
    all_goals first | omega | exact q_A rfl
  · have hne : (s == t) = false := by simpa using hst
    rcases Nat.lt_or_ge m n with h | h
    · rw [gRz_neq (by cases s <;> cases t <;> simp [sg] at hst ⊢ <;> omega) s t, sg_eq_sub' hst (by omega), gRz_eq]
      have hc := (cmp3_lt m n).2 h
      (refine q_H Try.func29 (fun F => ?_); simp only [q_z,q_y,Try.ntmps29,Try.results29])
      repeat' (first|(with_reducible first|apply q_a|apply q_b|apply q_c|apply q_d|apply q_e|apply q_f|apply q_g|apply q_h|apply q_i|apply q_j|apply q_k|apply q_m|apply q_n|apply q_o|apply q_p|refine q_l ?_)|((with_reducible first|refine q_q jb5_ok fun K hK=>?_|refine q_r jb5_ok fun K hK=>?_);simp (maxSteps:=2000000) only [go_sem,↓reduceIte,reduceCtorEq,Nat.reduceLeDiff,Nat.reduceLT,Nat.reduceBEq,Nat.reduceAdd,hne];(repeat1' with_reducible first|apply And.intro|(intro _;try exact q_v)|(refine hK _ ?_;clear hK K))<;>(try (clear hK K;exact q_u)))|(with_reducible refine q_s ?_;(first|apply q_J|apply q_K|apply q_L|apply q_M|apply q_N|apply q_O)<;>try (intro _;try exact q_v))|with_reducible refine q_t ?_)
      all_goals first | omega | exact q_A rfl
    · rw [sg_eq_sub hst h, gRz_eq]
      have hc : ¬ cmp3 m n < 0 := fun h2 => by have := (cmp3_lt m n).1 h2; omega
      (refine q_H Try.func29 (fun F => ?_); simp only [q_z,q_y,Try.ntmps29,Try.results29])
      repeat' (first|(with_reducible first|apply q_a|apply q_b|apply q_c|apply q_d|apply q_e|apply q_f|apply q_g|apply q_h|apply q_i|apply q_j|apply q_k|apply q_m|apply q_n|apply q_o|apply q_p|refine q_l ?_)|((with_reducible first|refine q_q jb5_ok fun K hK=>?_|refine q_r jb5_ok fun K hK=>?_);simp (maxSteps:=2000000) only [go_sem,↓reduceIte,reduceCtorEq,Nat.reduceLeDiff,Nat.reduceLT,Nat.reduceBEq,Nat.reduceAdd,hne];(repeat1' with_reducible first|apply And.intro|(intro _;try exact q_v)|(refine hK _ ?_;clear hK K))<;>(try (clear hK K;exact q_u)))|(with_reducible refine q_s ?_;(first|apply q_J|apply q_K|apply q_L|apply q_M|apply q_N|apply q_O)<;>try (intro _;try exact q_v))|with_reducible refine q_t ?_)
      all_goals first | omega | exact q_A rfl
def plusQCT : CT := mkCT [nR, nR] false fun l K => match l with
  | [.inr [.b s, .ints .i64 xs], .inr [.b t, .ints .i64 ys]] => (InB 65536 xs ∧ Trd xs ∧ xs.length ≤ 1048576 ∧ InB 65536 ys ∧ Trd ys ∧ ys.length ≤ 1048576) ∧ K (.g (gRz (sv 65536 s xs + sv 65536 t ys) s))
  | _ => False
def rqa : Cfg := addT 29 plusQCT jt15
theorem rqa_ok : TblOk Try.prog rqa := q_I jt15_ok Try.func29 fun l K h => by
  split at h
  · rename_i s xs t ys
    obtain ⟨⟨h1, h2, h3, h4, h5, h6⟩, h⟩ := h
    obtain ⟨e1, e2⟩ := sv_ys (s := s) h1 h2
    obtain ⟨e3, e4⟩ := sv_ys (s := t) h4 h5
    rw [e2, e4] at h
    have this := iplus_flq s t (V 65536 xs) (V 65536 ys) (by rw [← e1]; exact h3) (by rw [← e3]; exact h6)
    rw [← e1, ← e3] at this
    exact ⟨_, this, h⟩
  · exact h.elim
def floorQCT : CT := mkCT [nR, nR] false fun l K => match l with
  | [.inr [.b s, .ints .i64 xs], .inr [.b t, .ints .i64 ys]] => (InB 65536 xs ∧ Trd xs ∧ xs.length ≤ 65536 ∧ InB 65536 ys ∧ Trd ys ∧ ys.length ≤ 65536 ∧ sv 65536 t ys ≠ 0) ∧ K (.t [.inr (gRz ((sv 65536 s xs).fdiv (sv 65536 t ys)) (s != t)), .inr (gRz ((sv 65536 s xs).fmod (sv 65536 t ys)) t)])
  | _ => False
def rqb : Cfg := addT 76 floorQCT rqa
theorem rqb_ok : TblOk Try.prog rqb := q_I rqa_ok Try.func76 fun l K h => by
  split at h
  · rename_i s xs t ys
    obtain ⟨⟨h1, h2, h3, h4, h5, h6, h7⟩, h⟩ := h
    obtain ⟨e1, e2⟩ := sv_ys (s := s) h1 h2
    obtain ⟨e3, e4⟩ := sv_ys (s := t) h4 h5
    rw [e2, e4] at h
    rw [e4] at h7
    have hn : 0 < V 65536 ys := by
      rcases Nat.eq_zero_or_pos (V 65536 ys) with h0 | h0
      · rw [h0, sg_zero] at h7; exact absurd rfl h7
      · exact h0
    have := ifloor_ret s t (V 65536 xs) (V 65536 ys) hn (by rw [← e1]; exact h3) (by rw [← e3]; exact h6)
    rw [← e1, ← e3] at this
    exact ⟨_, this, h⟩
  · exact h.elim
attribute [go_sem] plusQCT floorQCT
abbrev nT : Option C ⊕ List (Option C) := .inr [none, some (.ints .i64 []), some (.ints .i64 [])]
abbrev gT (z : Int) (d : Nat) (c : Bool) : List C := [.b (sgz z c), .ints .i64 (dg 65536 z.natAbs), .ints .i64 (dg 65536 d)]
def qr1 : Cfg := listT [(60, ivalidCT), (48, ofCT), (47, intOfCT), (62, commonCT), (28, smallCT), (61, rcmpCT), (89, rdivCT), (67, (rI2CT 1048576 mulF)), (29, plusQCT), (66, iminusCT), (68, (rI2CT 4194304 ordF)), (76, floorQCT), (90, fitsCT), (86, (rnumCT (fun _ _ => True) (· * ·))), (30, sameIntCT), (24, noIntCT)] [30]
theorem qr1_ok : TblOk Try.prog qr1 := listE_ok (by simp only [List.mem_singleton, forall_eq]; exact flt) ⟨⟨jt1, jt1_ok, rfl⟩, ⟨rqb, rqb_ok, rfl⟩, ⟨rqb, rqb_ok, rfl⟩, ⟨rqb, rqb_ok, rfl⟩, ⟨rqb, rqb_ok, rfl⟩, ⟨rqb, rqb_ok, rfl⟩, ⟨rqb, rqb_ok, rfl⟩, ⟨rqb, rqb_ok, rfl⟩, ⟨rqb, rqb_ok, rfl⟩, ⟨rqb, rqb_ok, rfl⟩, ⟨rqb, rqb_ok, rfl⟩, ⟨rqb, rqb_ok, rfl⟩, ⟨rqb, rqb_ok, rfl⟩, ⟨rqb, rqb_ok, rfl⟩, ⟨rqb, rqb_ok, rfl⟩, ⟨rqb, rqb_ok, rfl⟩, trivial⟩
attribute [go_sem] qr1
set_option maxHeartbeats 1600000 in
theorem ratioOk_ret (s t : Bool) (xs ys : List Int) (h1 : xs.length ≤ 140737488355328) (h2 : ys.length ≤ 140737488355328) (b1 : InB 4294967296 xs) (b2 : InB 4294967296 ys) :
    Ret Try.prog 11 false [.inr [.b s, .ints .u32 xs, .b t, .ints .u32 ys]] (.c (.b (okQ s xs t ys))) := by
  cases e1 : okZ s xs
  · (refine q_H Try.func11 (fun F => ?_); simp only [q_z,q_y,Try.ntmps11,Try.results11])
    repeat' (first|(with_reducible first|apply q_a|apply q_b|apply q_c|apply q_d|apply q_e|apply q_f|apply q_g|apply q_h|apply q_i|apply q_j|apply q_k|apply q_m|apply q_n|apply q_o|apply q_p|refine q_l ?_)|((with_reducible first|refine q_q qr1_ok fun K hK=>?_|refine q_r qr1_ok fun K hK=>?_);simp (maxSteps:=2000000) only [go_sem,↓reduceIte,reduceCtorEq,Nat.reduceLeDiff,Nat.reduceLT,Nat.reduceBEq,Nat.reduceAdd,e1];(repeat1' with_reducible first|apply And.intro|(intro _;try exact q_v)|(refine hK _ ?_;clear hK K))<;>(try (clear hK K;exact q_u)))|(with_reducible refine q_s ?_;(first|apply q_J|apply q_K|apply q_L|apply q_M|apply q_N|apply q_O)<;>try (intro _;try exact q_v))|with_reducible refine q_t ?_)
    all_goals exact q_A (by simp [resAV, q_y, okQ, e1])
  cases e2 : okZ t ys
  · (refine q_H Try.func11 (fun F => ?_); simp only [q_z,q_y,Try.ntmps11,Try.results11])
    repeat' (first|(with_reducible first|apply q_a|apply q_b|apply q_c|apply q_d|apply q_e|apply q_f|apply q_g|apply q_h|apply q_i|apply q_j|apply q_k|apply q_m|apply q_n|apply q_o|apply q_p|refine q_l ?_)|((with_reducible first|refine q_q qr1_ok fun K hK=>?_|refine q_r qr1_ok fun K hK=>?_);simp (maxSteps:=2000000) only [go_sem,↓reduceIte,reduceCtorEq,Nat.reduceLeDiff,Nat.reduceLT,Nat.reduceBEq,Nat.reduceAdd,e1, e2];(repeat1' with_reducible first|apply And.intro|(intro _;try exact q_v)|(refine hK _ ?_;clear hK K))<;>(try (clear hK K;exact q_u)))|(with_reducible refine q_s ?_;(first|apply q_J|apply q_K|apply q_L|apply q_M|apply q_N|apply q_O)<;>try (intro _;try exact q_v))|with_reducible refine q_t ?_)
    all_goals exact q_A (by simp [resAV, q_y, okQ, e1, e2])
  have l1 := okZ_len e1
  have l2 := okZ_len e2
  have t2 := okZ_trd e2
  cases t
  · rcases Nat.eq_zero_or_pos ys.length with h0 | h0
    · have e0 : ((ys.length : Int) = 0) = True := eq_true (by omega)
      (refine q_H Try.func11 (fun F => ?_); simp only [q_z,q_y,Try.ntmps11,Try.results11])
      repeat' (first|(with_reducible first|apply q_a|apply q_b|apply q_c|apply q_d|apply q_e|apply q_f|apply q_g|apply q_h|apply q_i|apply q_j|apply q_k|apply q_m|apply q_n|apply q_o|apply q_p|refine q_l ?_)|((with_reducible first|refine q_q qr1_ok fun K hK=>?_|refine q_r qr1_ok fun K hK=>?_);simp (maxSteps:=2000000) only [go_sem,↓reduceIte,reduceCtorEq,Nat.reduceLeDiff,Nat.reduceLT,Nat.reduceBEq,Nat.reduceAdd,e1, e2, e0];(repeat1' with_reducible first|apply And.intro|(intro _;try exact q_v)|(refine hK _ ?_;clear hK K))<;>(try (clear hK K;exact q_u)))|(with_reducible refine q_s ?_;(first|apply q_J|apply q_K|apply q_L|apply q_M|apply q_N|apply q_O)<;>try (intro _;try exact q_v))|with_reducible refine q_t ?_)
      all_goals exact q_A (by simp [resAV, q_y, okQ, h0])
    · have e0 : ((ys.length : Int) = 0) = False := eq_false (by omega)
      have vy : 0 < V 4294967296 ys := by
        have h := h0
        rw [← dg_V 4294967296 (by omega) ys b2 t2] at h
        exact (dg_len_pos _ _ (by omega)).1 h
      have lx : (dg 65536 (V 4294967296 xs)).length ≤ 256 := (dg_half' _ 128).2 (by rw [dg_V 4294967296 (by omega) xs b1 (okZ_trd e1)]; exact l1)
      have ly : (dg 65536 (V 4294967296 ys)).length ≤ 256 := (dg_half' _ 128).2 (by rw [dg_V 4294967296 (by omega) ys b2 t2]; exact l2)
      have hgl : (dg 65536 (Nat.gcd (V 4294967296 xs) (V 4294967296 ys))).length ≤ 256 := Nat.le_trans (dg_len_mono (by omega) (Nat.gcd_le_right _ vy)) ly
      have hok : okQ s xs false ys = decide (cmp3 (Nat.gcd (V 4294967296 xs) (V 4294967296 ys)) 1 = 0) := by
        have hc := cmp3_is1 (Nat.gcd (V 4294967296 xs) (V 4294967296 ys))
        simp [okQ, e1, e2, h0, hc]
      rw [hok]
      generalize hg : Nat.gcd (V 4294967296 xs) (V 4294967296 ys) = g at *
      have d1 : (dg 65536 1).length ≤ 1 := by decide
      (refine q_H Try.func11 (fun F => ?_); simp only [q_z,q_y,Try.ntmps11,Try.results11])
      repeat' (first|(with_reducible first|apply q_a|apply q_b|apply q_c|apply q_d|apply q_e|apply q_f|apply q_g|apply q_h|apply q_i|apply q_j|apply q_k|apply q_m|apply q_n|apply q_o|apply q_p|refine q_l ?_)|((with_reducible first|refine q_q qr1_ok fun K hK=>?_|refine q_r qr1_ok fun K hK=>?_);simp (maxSteps:=2000000) only [go_sem,↓reduceIte,reduceCtorEq,Nat.reduceLeDiff,Nat.reduceLT,Nat.reduceBEq,Nat.reduceAdd,e1, e2, e0, V65, hg];(repeat1' with_reducible first|apply And.intro|(intro _;try exact q_v)|(refine hK _ ?_;clear hK K))<;>(try (clear hK K;exact q_u)))|(with_reducible refine q_s ?_;(first|apply q_J|apply q_K|apply q_L|apply q_M|apply q_N|apply q_O)<;>try (intro _;try exact q_v))|with_reducible refine q_t ?_)
      all_goals first | omega | exact q_A rfl | exact Nat.le_trans d1 (by omega) | skip
  · (refine q_H Try.func11 (fun F => ?_); simp only [q_z,q_y,Try.ntmps11,Try.results11])
    repeat' (first|(with_reducible first|apply q_a|apply q_b|apply q_c|apply q_d|apply q_e|apply q_f|apply q_g|apply q_h|apply q_i|apply q_j|apply q_k|apply q_m|apply q_n|apply q_o|apply q_p|refine q_l ?_)|((with_reducible first|refine q_q qr1_ok fun K hK=>?_|refine q_r qr1_ok fun K hK=>?_);simp (maxSteps:=2000000) only [go_sem,↓reduceIte,reduceCtorEq,Nat.reduceLeDiff,Nat.reduceLT,Nat.reduceBEq,Nat.reduceAdd,e1, e2];(repeat1' with_reducible first|apply And.intro|(intro _;try exact q_v)|(refine hK _ ?_;clear hK K))<;>(try (clear hK K;exact q_u)))|(with_reducible refine q_s ?_;(first|apply q_J|apply q_K|apply q_L|apply q_M|apply q_N|apply q_O)<;>try (intro _;try exact q_v))|with_reducible refine q_t ?_)
    all_goals exact q_A (by simp [resAV, q_y, okQ])
def rq1 : Cfg := addT 11 validQCT rqb
theorem rq1_ok : TblOk Try.prog rq1 := q_I rqb_ok Try.func11 fun l K h => by
  split at h
  · exact ⟨_, (ratioOk_ret _ _ _ _ h.1.1 h.1.2.1 h.1.2.2.1 h.1.2.2.2).plain rfl, h.2⟩
  · exact h.elim
set_option maxHeartbeats 800000 in
theorem ratioOf_ret (s t : Bool) (xs ys : List Int) (h1 : xs.length ≤ 1048576) (h2 : ys.length ≤ 1048576) (b1 : InB 4294967296 xs) (b2 : InB 4294967296 ys) :
    Ret Try.prog 14 false [.inr [.b s, .ints .u32 xs, .b t, .ints .u32 ys]] (.g [.b s, .ints .i64 (dg 65536 (V 4294967296 xs)), .ints .i64 (dg 65536 (V 4294967296 ys))]) := by
  (refine q_H Try.func14 (fun F => ?_); simp only [q_z,q_y,Try.ntmps14,Try.results14])
  repeat' (first|(with_reducible first|apply q_a|apply q_b|apply q_c|apply q_d|apply q_e|apply q_f|apply q_g|apply q_h|apply q_i|apply q_j|apply q_k|apply q_m|apply q_n|apply q_o|apply q_p|refine q_l ?_)|((with_reducible first|refine q_q qr1_ok fun K hK=>?_|refine q_r qr1_ok fun K hK=>?_);simp (maxSteps:=2000000) only [go_sem,↓reduceIte,reduceCtorEq,Nat.reduceLeDiff,Nat.reduceLT,Nat.reduceBEq,Nat.reduceAdd];(repeat1' with_reducible first|apply And.intro|(intro _;try exact q_v)|(refine hK _ ?_;clear hK K))<;>(try (clear hK K;exact q_u)))|(with_reducible refine q_s ?_;(first|apply q_J|apply q_K|apply q_L|apply q_M|apply q_N|apply q_O)<;>try (intro _;try exact q_v))|with_reducible refine q_t ?_)
  all_goals first | omega | exact q_A rfl | skip
def ratioOfCT : CT := mkCT [nQ] false fun l K => match l with
  | [.inr [.b s, .ints .u32 xs, .b t, .ints .u32 ys]] => (xs.length ≤ 1048576 ∧ ys.length ≤ 1048576 ∧ InB 4294967296 xs ∧ InB 4294967296 ys) ∧ K (.g [.b s, .ints .i64 (dg 65536 (V 4294967296 xs)), .ints .i64 (dg 65536 (V 4294967296 ys))])
  | _ => False
def rq2 : Cfg := addT 14 ratioOfCT rq1
theorem rq2_ok : TblOk Try.prog rq2 := q_I rq1_ok Try.func14 fun l K h => by
  split at h
  · exact ⟨_, ratioOf_ret _ _ _ _ h.1.1 h.1.2.1 h.1.2.2.1 h.1.2.2.2, h.2⟩
  · exact h.elim

theorem gT_eq (s : Bool) (k d : Nat) : gT (sg s k) d s = [.b s, .ints .i64 (dg 65536 k), .ints .i64 (dg 65536 d)] := by simp only [gT, sgz_sg, sg_abs]
set_option maxHeartbeats 1600000 in
theorem lowest_ret (s : Bool) (m d : Nat) (lm : (dg 65536 m).length ≤ 60000) (ld : (dg 65536 d).length ≤ 60000) (hd : 0 < d) :
    Ret Try.prog 49 false [.inr [.b s, .ints .i64 (dg 65536 m), .ints .i64 (dg 65536 d)]] (.g (gT (rdN (sg s m) d) (rdD (sg s m) d) s)) := by
  obtain ⟨e1, e2⟩ := rd_sg s m hd
  have hg : 0 < Nat.gcd m d := Nat.gcd_pos_of_pos_right _ hd
  have hgl : (dg 65536 (Nat.gcd m d)).length ≤ 60000 := Nat.le_trans (dg_len_mono (by omega) (Nat.gcd_le_right _ hd)) ld
  rw [e1, e2, gT_eq]
  generalize hG : Nat.gcd m d = g at *
  (refine q_H Try.func49 (fun F => ?_); simp only [q_z,q_y,Try.ntmps49,Try.results49])
  repeat' (first|(with_reducible first|apply q_a|apply q_b|apply q_c|apply q_d|apply q_e|apply q_f|apply q_g|apply q_h|apply q_i|apply q_j|apply q_k|apply q_m|apply q_n|apply q_o|apply q_p|refine q_l ?_)|((with_reducible first|refine q_q qr1_ok fun K hK=>?_|refine q_r qr1_ok fun K hK=>?_);simp (maxSteps:=2000000) only [go_sem,↓reduceIte,reduceCtorEq,Nat.reduceLeDiff,Nat.reduceLT,Nat.reduceBEq,Nat.reduceAdd,V65, hG];(repeat1' with_reducible first|apply And.intro|(intro _;try exact q_v)|(refine hK _ ?_;clear hK K))<;>(try (clear hK K;exact q_u)))|(with_reducible refine q_s ?_;(first|apply q_J|apply q_K|apply q_L|apply q_M|apply q_N|apply q_O)<;>try (intro _;try exact q_v))|with_reducible refine q_t ?_)
  all_goals first | omega | exact q_A rfl | skip
def qT (n : Nat) (p : Int → Nat → Prop) (f : Int → Nat → Bool → (AV → Prop) → Prop) : CT := mkCT [nT] false fun l K => match l with
  | [.inr [.b s, .ints .i64 xs, .ints .i64 zs]] => (InB 65536 xs ∧ Trd xs ∧ xs.length ≤ n ∧ InB 65536 zs ∧ Trd zs ∧ zs.length ≤ n ∧ p (sv 65536 s xs) (V 65536 zs)) ∧ f (sv 65536 s xs) (V 65536 zs) s K
  | _ => False
theorem qT_tr {F : FuncId} {n : Nat} {p : Int → Nat → Prop} {f : Int → Nat → Bool → (AV → Prop) → Prop} (h : ∀ (s : Bool) (m d : Nat), (dg 65536 m).length ≤ n → (dg 65536 d).length ≤ n → p (sg s m) d → ∀ K, f (sg s m) d s K → ∃ r, Ret Try.prog F false [.inr [.b s, .ints .i64 (dg 65536 m), .ints .i64 (dg 65536 d)]] r ∧ K r)
    (l : List (C ⊕ List C)) (K : AV → Prop) (hk : match l with
      | [.inr [.b s, .ints .i64 xs, .ints .i64 zs]] => (InB 65536 xs ∧ Trd xs ∧ xs.length ≤ n ∧ InB 65536 zs ∧ Trd zs ∧ zs.length ≤ n ∧ p (sv 65536 s xs) (V 65536 zs)) ∧ f (sv 65536 s xs) (V 65536 zs) s K
      | _ => False) : ∃ r, Ret Try.prog F false l r ∧ K r := by
  split at hk
  · rename_i s xs zs
    obtain ⟨⟨h1, h2, h3, h4, h5, h6, h7⟩, hk⟩ := hk
    obtain ⟨e1, e2⟩ := sv_ys (s := s) h1 h2
    have e3 := dg_V 65536 (by omega) zs h4 h5
    rw [e2] at h7 hk
    have := h s (V 65536 xs) (V 65536 zs) (by rw [← e1]; exact h3) (by rw [e3]; exact h6) h7 K hk
    rw [← e1, e3] at this
    exact this
  · exact hk.elim
def dpos (_ : Int) (d : Nat) : Prop := 0 < d
theorem dpos_d (z : Int) (d : Nat) : dpos z d = (0 < d) := rfl
def lowF (z : Int) (d : Nat) (s : Bool) (K : AV → Prop) : Prop := K (.g (gT (rdN z d) (rdD z d) s))
def rq3 : Cfg := addT 49 (qT 60000 dpos lowF) rq2
theorem rq3_ok : TblOk Try.prog rq3 := q_I rq2_ok Try.func49 fun l K h =>
  qT_tr (p := dpos) (f := lowF) (fun s m d lm ld hd K h => ⟨_, lowest_ret s m d lm ld hd, h⟩) l K h
attribute [go_sem] ratioOfCT gT qT dpos_d lowF
def qT2 (n : Nat) (p : Int → Nat → Int → Nat → Prop) (f : Int → Nat → Int → Nat → (AV → Prop) → Prop) : CT := mkCT [nT, nT] false fun l K => match l with
  | [.inr [.b s, .ints .i64 xs, .ints .i64 zs], .inr [.b t, .ints .i64 ys, .ints .i64 ws]] =>
      (InB 65536 xs ∧ Trd xs ∧ xs.length ≤ n ∧ InB 65536 zs ∧ Trd zs ∧ zs.length ≤ n ∧ InB 65536 ys ∧ Trd ys ∧ ys.length ≤ n ∧ InB 65536 ws ∧ Trd ws ∧ ws.length ≤ n ∧ p (sv 65536 s xs) (V 65536 zs) (sv 65536 t ys) (V 65536 ws)) ∧ f (sv 65536 s xs) (V 65536 zs) (sv 65536 t ys) (V 65536 ws) K
  | _ => False
theorem qT2_tr {F : FuncId} {n : Nat} {p : Int → Nat → Int → Nat → Prop} {f : Int → Nat → Int → Nat → (AV → Prop) → Prop} (h : ∀ (s t : Bool) (m c k d : Nat), (dg 65536 m).length ≤ n → (dg 65536 c).length ≤ n → (dg 65536 k).length ≤ n → (dg 65536 d).length ≤ n → p (sg s m) c (sg t k) d → ∀ K, f (sg s m) c (sg t k) d K → ∃ r, Ret Try.prog F false [.inr [.b s, .ints .i64 (dg 65536 m), .ints .i64 (dg 65536 c)], .inr [.b t, .ints .i64 (dg 65536 k), .ints .i64 (dg 65536 d)]] r ∧ K r)
    (l : List (C ⊕ List C)) (K : AV → Prop) (hk : match l with
      | [.inr [.b s, .ints .i64 xs, .ints .i64 zs], .inr [.b t, .ints .i64 ys, .ints .i64 ws]] =>
        (InB 65536 xs ∧ Trd xs ∧ xs.length ≤ n ∧ InB 65536 zs ∧ Trd zs ∧ zs.length ≤ n ∧ InB 65536 ys ∧ Trd ys ∧ ys.length ≤ n ∧ InB 65536 ws ∧ Trd ws ∧ ws.length ≤ n ∧ p (sv 65536 s xs) (V 65536 zs) (sv 65536 t ys) (V 65536 ws)) ∧ f (sv 65536 s xs) (V 65536 zs) (sv 65536 t ys) (V 65536 ws) K
      | _ => False) : ∃ r, Ret Try.prog F false l r ∧ K r := by
  split at hk
  · rename_i s xs zs t ys ws
    obtain ⟨⟨h1, h2, h3, h4, h5, h6, h7, h8, h9, h10, h11, h12, h13⟩, hk⟩ := hk
    obtain ⟨e1, e2⟩ := sv_ys (s := s) h1 h2
    obtain ⟨e4, e5⟩ := sv_ys (s := t) h7 h8
    have e3 := dg_V 65536 (by omega) zs h4 h5
    have e6 := dg_V 65536 (by omega) ws h10 h11
    rw [e2, e5] at h13 hk
    have := h s t (V 65536 xs) (V 65536 zs) (V 65536 ys) (V 65536 ws) (by rw [← e1]; exact h3) (by rw [e3]; exact h6) (by rw [← e4]; exact h9) (by rw [e6]; exact h12) h13 K hk
    rw [← e1, e3, ← e4, e6] at this
    exact this
  · exact hk.elim
def dpos2 (_ : Int) (c : Nat) (_ : Int) (d : Nat) : Prop := 0 < c ∧ 0 < d
def dany2 (_ : Int) (_ : Nat) (_ : Int) (_ : Nat) : Prop := True
theorem dpos2_d (x : Int) (c : Nat) (y : Int) (d : Nat) : dpos2 x c y d = (0 < c ∧ 0 < d) := rfl
theorem dany2_d (x : Int) (c : Nat) (y : Int) (d : Nat) : dany2 x c y d = True := rfl
def timT (x : Int) (c : Nat) (y : Int) (d : Nat) (K : AV → Prop) : Prop := ∀ b : Bool, K (.g (gT (rdN (x * y) (c * d)) (rdD (x * y) (c * d)) b))
def pluT (x : Int) (c : Nat) (y : Int) (d : Nat) (K : AV → Prop) : Prop := ∀ b : Bool, K (.g (gT (rdN (x * d + y * c) (c * d)) (rdD (x * d + y * c) (c * d)) b))
def lesT (x : Int) (c : Nat) (y : Int) (d : Nat) (K : AV → Prop) : Prop := ∀ b : Bool, K (.g (gT (rdN (x * d - y * c) (c * d)) (rdD (x * d - y * c) (c * d)) b))
def ordT (x : Int) (c : Nat) (y : Int) (d : Nat) (K : AV → Prop) : Prop := K (.c (.i .i64 (cmpZ (x * d) (y * c))))
def qr2 : Cfg := listT [(49, (qT 60000 dpos lowF)), (67, (rI2CT 1048576 mulF)), (29, plusQCT), (66, iminusCT), (68, (rI2CT 4194304 ordF)), (86, (rnumCT (fun _ _ => True) (· * ·)))] [30]
theorem qr2_ok : TblOk Try.prog qr2 := listE_ok (by simp only [List.mem_singleton, forall_eq]; exact flt) ⟨⟨rq3, rq3_ok, rfl⟩, ⟨jt15, jt15_ok, rfl⟩, ⟨rqb, rqb_ok, rfl⟩, ⟨jt15, jt15_ok, rfl⟩, ⟨jt15, jt15_ok, rfl⟩, ⟨jt15, jt15_ok, rfl⟩, trivial⟩
attribute [go_sem] qr2
set_option maxHeartbeats 1600000 in
theorem qtimes_ret (s t : Bool) (m c k d : Nat) (lm : (dg 65536 m).length ≤ 20000) (lc : (dg 65536 c).length ≤ 20000) (lk : (dg 65536 k).length ≤ 20000) (ld : (dg 65536 d).length ≤ 20000) (hc : 0 < c) (hd : 0 < d) :
    ∃ b, Ret Try.prog 42 false [.inr [.b s, .ints .i64 (dg 65536 m), .ints .i64 (dg 65536 c)], .inr [.b t, .ints .i64 (dg 65536 k), .ints .i64 (dg 65536 d)]] (.g (gT (rdN (sg s m * sg t k) (c * d)) (rdD (sg s m * sg t k) (c * d)) b)) := by
  have a1 : (sg s m * sg t k).natAbs = m * k := by rw [Int.natAbs_mul, sg_abs, sg_abs]
  have l1 : (dg 65536 (sg s m * sg t k).natAbs).length ≤ 40000 := by rw [a1]; exact mul_len (by omega) lm lk
  have l2 := mul_len (B := 65536) (by omega) lc ld
  have hcd := Nat.mul_pos hc hd
  refine ⟨decide (sg s m * sg t k < 0), ?_⟩
  generalize hX : sg s m * sg t k = X at *
  generalize hD : c * d = D at *
  (refine q_H Try.func42 (fun F => ?_); simp only [q_z,q_y,Try.ntmps42,Try.results42])
  repeat' (first|(with_reducible first|apply q_a|apply q_b|apply q_c|apply q_d|apply q_e|apply q_f|apply q_g|apply q_h|apply q_i|apply q_j|apply q_k|apply q_m|apply q_n|apply q_o|apply q_p|refine q_l ?_)|((with_reducible first|refine q_q qr2_ok fun K hK=>?_|refine q_r qr2_ok fun K hK=>?_);simp (maxSteps:=2000000) only [go_sem,↓reduceIte,reduceCtorEq,Nat.reduceLeDiff,Nat.reduceLT,Nat.reduceBEq,Nat.reduceAdd,V65, sv65d, hX, hD, sg_self];(repeat1' with_reducible first|apply And.intro|(intro _;try exact q_v)|(refine hK _ ?_;clear hK K))<;>(try (clear hK K;exact q_u)))|(with_reducible refine q_s ?_;(first|apply q_J|apply q_K|apply q_L|apply q_M|apply q_N|apply q_O)<;>try (intro _;try exact q_v))|with_reducible refine q_t ?_)
  all_goals first | omega | exact q_A rfl | skip
set_option maxHeartbeats 1600000 in
theorem qplusT_ret (s t : Bool) (m c k d : Nat) (lm : (dg 65536 m).length ≤ 20000) (lc : (dg 65536 c).length ≤ 20000) (lk : (dg 65536 k).length ≤ 20000) (ld : (dg 65536 d).length ≤ 20000) (hc : 0 < c) (hd : 0 < d) :
    Ret Try.prog 41 false [.inr [.b s, .ints .i64 (dg 65536 m), .ints .i64 (dg 65536 c)], .inr [.b t, .ints .i64 (dg 65536 k), .ints .i64 (dg 65536 d)]] (.g (gT (rdN (sg s m * d + sg t k * c) (c * d)) (rdD (sg s m * d + sg t k * c) (c * d)) (sgz (sg s m * d + sg t k * c) (decide (sg s m * (d : Int) < 0))))) := by
  have e1 : sg s m * (d : Int) = sg s (m * d) := by have := sg_mul s false m d; rw [sgf, Bool.bne_false] at this; exact this.symm
  have e2 : sg t k * (c : Int) = sg t (k * c) := by have := sg_mul t false k c; rw [sgf, Bool.bne_false] at this; exact this.symm
  have l1 : (dg 65536 (sg s m * (d : Int)).natAbs).length ≤ 40000 := by rw [e1, sg_abs]; exact mul_len (by omega) lm ld
  have l2 : (dg 65536 (sg t k * (c : Int)).natAbs).length ≤ 40000 := by rw [e2, sg_abs]; exact mul_len (by omega) lk lc
  have l3 := zadd_len (by omega) l1 l2
  have l4 := mul_len (B := 65536) (by omega) lc ld
  have hcd := Nat.mul_pos hc hd
  have f1 := sgf d
  have f2 := sgf c
  generalize hX : sg s m * (d : Int) = X at *
  generalize hY : sg t k * (c : Int) = Y at *
  generalize hD : c * d = D at *
  (refine q_H Try.func41 (fun F => ?_); simp only [q_z,q_y,Try.ntmps41,Try.results41])
  repeat' (first|(with_reducible first|apply q_a|apply q_b|apply q_c|apply q_d|apply q_e|apply q_f|apply q_g|apply q_h|apply q_i|apply q_j|apply q_k|apply q_m|apply q_n|apply q_o|apply q_p|refine q_l ?_)|((with_reducible first|refine q_q qr2_ok fun K hK=>?_|refine q_r qr2_ok fun K hK=>?_);simp (maxSteps:=2000000) only [go_sem,↓reduceIte,reduceCtorEq,Nat.reduceLeDiff,Nat.reduceLT,Nat.reduceBEq,Nat.reduceAdd,V65, sv65d, svz65, f1, f2, hX, hY, hD, sg_self];(repeat1' with_reducible first|apply And.intro|(intro _;try exact q_v)|(refine hK _ ?_;clear hK K))<;>(try (clear hK K;exact q_u)))|(with_reducible refine q_s ?_;(first|apply q_J|apply q_K|apply q_L|apply q_M|apply q_N|apply q_O)<;>try (intro _;try exact q_v))|with_reducible refine q_t ?_)
  all_goals first | omega | exact q_A rfl | skip
def rq4 : Cfg := addT 42 (qT2 20000 dpos2 timT) rq3
theorem rq4_ok : TblOk Try.prog rq4 := q_I rq3_ok Try.func42 fun l K h =>
  qT2_tr (p := dpos2) (f := timT) (fun s t m c k d lm lc lk ld hp K h => by
    obtain ⟨b, hb⟩ := qtimes_ret s t m c k d lm lc lk ld hp.1 hp.2
    exact ⟨_, hb, h b⟩) l K h
def pluX (x : Int) (c : Nat) (y : Int) (d : Nat) (K : AV → Prop) : Prop := K (.g (gT (rdN (x * d + y * c) (c * d)) (rdD (x * d + y * c) (c * d)) (sgz (x * d + y * c) (decide (x * (d : Int) < 0)))))
def rq5x : Cfg := addT 41 (qT2 20000 dpos2 pluX) rq4
theorem rq5x_ok : TblOk Try.prog rq5x := q_I rq4_ok Try.func41 fun l K h =>
  qT2_tr (p := dpos2) (f := pluX) (fun s t m c k d lm lc lk ld hp K h => ⟨_, qplusT_ret s t m c k d lm lc lk ld hp.1 hp.2, h⟩) l K h
def rq5 : Cfg := addT 41 (qT2 20000 dpos2 pluT) rq5x
theorem rq5_ok : TblOk Try.prog rq5 := q_I rq5x_ok Try.func41 fun l K h =>
  qT2_tr (p := dpos2) (f := pluT) (fun s t m c k d lm lc lk ld hp K h => ⟨_, qplusT_ret s t m c k d lm lc lk ld hp.1 hp.2, h _⟩) l K h
set_option maxHeartbeats 1600000 in
theorem qorder_ret (s t : Bool) (m c k d : Nat) (lm : (dg 65536 m).length ≤ 20000) (lc : (dg 65536 c).length ≤ 20000) (lk : (dg 65536 k).length ≤ 20000) (ld : (dg 65536 d).length ≤ 20000) :
    Ret Try.prog 17 false [.inr [.b s, .ints .i64 (dg 65536 m), .ints .i64 (dg 65536 c)], .inr [.b t, .ints .i64 (dg 65536 k), .ints .i64 (dg 65536 d)]] (.c (.i .i64 (cmpZ (sg s m * d) (sg t k * c)))) := by
  have e1 : sg s m * (d : Int) = sg s (m * d) := by have := sg_mul s false m d; rw [sgf, Bool.bne_false] at this; exact this.symm
  have e2 : sg t k * (c : Int) = sg t (k * c) := by have := sg_mul t false k c; rw [sgf, Bool.bne_false] at this; exact this.symm
  have l1 : (dg 65536 (sg s m * (d : Int)).natAbs).length ≤ 40000 := by rw [e1, sg_abs]; exact mul_len (by omega) lm ld
  have l2 : (dg 65536 (sg t k * (c : Int)).natAbs).length ≤ 40000 := by rw [e2, sg_abs]; exact mul_len (by omega) lk lc
  have f1 := sgf d
  have f2 := sgf c
  generalize hX : sg s m * (d : Int) = X at *
  generalize hY : sg t k * (c : Int) = Y at *
  (refine q_H Try.func17 (fun F => ?_); simp only [q_z,q_y,Try.ntmps17,Try.results17])
  repeat' (first|(with_reducible first|apply q_a|apply q_b|apply q_c|apply q_d|apply q_e|apply q_f|apply q_g|apply q_h|apply q_i|apply q_j|apply q_k|apply q_m|apply q_n|apply q_o|apply q_p|refine q_l ?_)|((with_reducible first|refine q_q qr2_ok fun K hK=>?_|refine q_r qr2_ok fun K hK=>?_);simp (maxSteps:=2000000) only [go_sem,↓reduceIte,reduceCtorEq,Nat.reduceLeDiff,Nat.reduceLT,Nat.reduceBEq,Nat.reduceAdd,V65, sv65, sv65d, f1, f2, hX, hY];(repeat1' with_reducible first|apply And.intro|(intro _;try exact q_v)|(refine hK _ ?_;clear hK K))<;>(try (clear hK K;exact q_u)))|(with_reducible refine q_s ?_;(first|apply q_J|apply q_K|apply q_L|apply q_M|apply q_N|apply q_O)<;>try (intro _;try exact q_v))|with_reducible refine q_t ?_)
  all_goals first | omega | exact q_A rfl | skip
def rq6 : Cfg := addT 17 (qT2 20000 dany2 ordT) rq5
theorem rq6_ok : TblOk Try.prog rq6 := q_I rq5_ok Try.func17 fun l K h =>
  qT2_tr (p := dany2) (f := ordT) (fun s t m c k d lm lc lk ld _ K h => ⟨_, qorder_ret s t m c k d lm lc lk ld, h⟩) l K h
attribute [go_sem] qT2 dpos2_d dany2_d timT pluT pluX lesT ordT
end Go.Proofs.Ytlefdhkjbbdijaa

namespace Go.Proofs.NatL
set_option linter.unusedSimpArgs false
set_option linter.unusedVariables false
theorem neg_mul_sub (x y : Int) (c d : Nat) : x * (d : Int) + -y * (c : Int) = x * d - y * c := by rw [Int.neg_mul]; omega
theorem sgn_neg_len {t : Bool} {k n : Nat} (h : (dg 65536 k).length ≤ n) : (dg 65536 (-sg t k).natAbs).length ≤ n := by rw [Int.natAbs_neg, sg_abs]; exact h
end Go.Proofs.NatL
namespace Go.Proofs.Ytlefdhkjbbdijaa
set_option linter.unusedSimpArgs false
set_option linter.unusedVariables false
open Go.Abs Go.Proofs.NatL

def qr3 : Cfg := listT [(41, (qT2 20000 dpos2 pluX)), (66, iminusCT), (76, floorQCT), (90, fitsCT), (28, smallCT), (30, sameIntCT), (24, noIntCT)] [30]
theorem qr3_ok : TblOk Try.prog qr3 := listE_ok (by simp only [List.mem_singleton, forall_eq]; exact flt) ⟨⟨rq5x, rq5x_ok, rfl⟩, ⟨jt15, jt15_ok, rfl⟩, ⟨rqb, rqb_ok, rfl⟩, ⟨jt15, jt15_ok, rfl⟩, ⟨jt15, jt15_ok, rfl⟩, ⟨jt15, jt15_ok, rfl⟩, ⟨jt15, jt15_ok, rfl⟩, trivial⟩
attribute [go_sem] qr3
set_option maxHeartbeats 1600000 in
theorem qless_ret (s t : Bool) (m c k d : Nat) (lm : (dg 65536 m).length ≤ 20000) (lc : (dg 65536 c).length ≤ 20000) (lk : (dg 65536 k).length ≤ 20000) (ld : (dg 65536 d).length ≤ 20000) (hc : 0 < c) (hd : 0 < d) :
    Ret Try.prog 15 false [.inr [.b s, .ints .i64 (dg 65536 m), .ints .i64 (dg 65536 c)], .inr [.b t, .ints .i64 (dg 65536 k), .ints .i64 (dg 65536 d)]] (.g (gT (rdN (sg s m * d - sg t k * c) (c * d)) (rdD (sg s m * d - sg t k * c) (c * d)) (sgz (sg s m * d - sg t k * c) (decide (sg s m * (d : Int) < 0))))) := by
  have lk' := sgn_neg_len (t := t) lk
  have e := neg_mul_sub (sg s m) (sg t k) c d
  generalize hY : -sg t k = Y at *
  (refine q_H Try.func15 (fun F => ?_); simp only [q_z,q_y,Try.ntmps15,Try.results15])
  repeat' (first|(with_reducible first|apply q_a|apply q_b|apply q_c|apply q_d|apply q_e|apply q_f|apply q_g|apply q_h|apply q_i|apply q_j|apply q_k|apply q_m|apply q_n|apply q_o|apply q_p|refine q_l ?_)|((with_reducible first|refine q_q qr3_ok fun K hK=>?_|refine q_r qr3_ok fun K hK=>?_);simp (maxSteps:=2000000) only [go_sem,↓reduceIte,reduceCtorEq,Nat.reduceLeDiff,Nat.reduceLT,Nat.reduceBEq,Nat.reduceAdd,V65, sv65, sv65d, hY, e];(repeat1' with_reducible first|apply And.intro|(intro _;try exact q_v)|(refine hK _ ?_;clear hK K))<;>(try (clear hK K;exact q_u)))|(with_reducible refine q_s ?_;(first|apply q_J|apply q_K|apply q_L|apply q_M|apply q_N|apply q_O)<;>try (intro _;try exact q_v))|with_reducible refine q_t ?_)
  all_goals first | omega | exact q_A rfl | skip
def rq7 : Cfg := addT 15 (qT2 20000 dpos2 lesT) rq6
theorem rq7_ok : TblOk Try.prog rq7 := q_I rq6_ok Try.func15 fun l K h =>
  qT2_tr (p := dpos2) (f := lesT) (fun s t m c k d lm lc lk ld hp K h => ⟨_, qless_ret s t m c k d lm lc lk ld hp.1 hp.2, h _⟩) l K h
set_option maxHeartbeats 1600000 in
theorem qfloor_ret (s : Bool) (m d : Nat) (lm : (dg 65536 m).length ≤ 20000) (ld : (dg 65536 d).length ≤ 20000) (hd : 0 < d) :
    ∃ b, Ret Try.prog 26 false [.inr [.b s, .ints .i64 (dg 65536 m), .ints .i64 (dg 65536 d)]] (.g (gRz ((sg s m).fdiv d) b)) := by
  have f1 := sgf d
  have h0 : (d : Int) ≠ 0 := by omega
  refine ⟨(s != false), ?_⟩
  (refine q_H Try.func26 (fun F => ?_); simp only [q_z,q_y,Try.ntmps26,Try.results26])
  repeat' (first|(with_reducible first|apply q_a|apply q_b|apply q_c|apply q_d|apply q_e|apply q_f|apply q_g|apply q_h|apply q_i|apply q_j|apply q_k|apply q_m|apply q_n|apply q_o|apply q_p|refine q_l ?_)|((with_reducible first|refine q_q qr3_ok fun K hK=>?_|refine q_r qr3_ok fun K hK=>?_);simp (maxSteps:=2000000) only [go_sem,↓reduceIte,reduceCtorEq,Nat.reduceLeDiff,Nat.reduceLT,Nat.reduceBEq,Nat.reduceAdd,V65, sv65d, f1];(repeat1' with_reducible first|apply And.intro|(intro _;try exact q_v)|(refine hK _ ?_;clear hK K))<;>(try (clear hK K;exact q_u)))|(with_reducible refine q_s ?_;(first|apply q_J|apply q_K|apply q_L|apply q_M|apply q_N|apply q_O)<;>try (intro _;try exact q_v))|with_reducible refine q_t ?_)
  all_goals first | omega | exact q_A rfl | skip
def floT (z : Int) (d : Nat) (_ : Bool) (K : AV → Prop) : Prop := ∀ b : Bool, K (.g (gRz (z.fdiv d) b))
def rq8 : Cfg := addT 26 (qT 20000 dpos floT) rq7
theorem rq8_ok : TblOk Try.prog rq8 := q_I rq7_ok Try.func26 fun l K h =>
  qT_tr (p := dpos) (f := floT) (fun s m d lm ld hd K h => by
    obtain ⟨b, hb⟩ := qfloor_ret s m d lm ld hd
    exact ⟨_, hb, h b⟩) l K h
set_option maxHeartbeats 800000 in
theorem qTurned_ret (s : Bool) (xs zs : List Int) : Ret Try.prog 33 false [.inr [.b s, .ints .i64 xs, .ints .i64 zs]] (.g [.b s, .ints .i64 zs, .ints .i64 xs]) := by
  (refine q_H Try.func33 (fun F => ?_); simp only [q_z,q_y,Try.ntmps33,Try.results33])
  repeat' (first|(with_reducible first|apply q_a|apply q_b|apply q_c|apply q_d|apply q_e|apply q_f|apply q_g|apply q_h|apply q_i|apply q_j|apply q_k|apply q_m|apply q_n|apply q_o|apply q_p|refine q_l ?_)|((with_reducible first|refine q_q qr3_ok fun K hK=>?_|refine q_r qr3_ok fun K hK=>?_);simp (maxSteps:=2000000) only [go_sem,↓reduceIte,reduceCtorEq,Nat.reduceLeDiff,Nat.reduceLT,Nat.reduceBEq,Nat.reduceAdd];(repeat1' with_reducible first|apply And.intro|(intro _;try exact q_v)|(refine hK _ ?_;clear hK K))<;>(try (clear hK K;exact q_u)))|(with_reducible refine q_s ?_;(first|apply q_J|apply q_K|apply q_L|apply q_M|apply q_N|apply q_O)<;>try (intro _;try exact q_v))|with_reducible refine q_t ?_)
  all_goals first | omega | exact q_A rfl | skip
def tTurnedCT : CT := mkCT [nT] false fun l K => match l with
  | [.inr [.b s, .ints .i64 xs, .ints .i64 zs]] => K (.g [.b s, .ints .i64 zs, .ints .i64 xs])
  | _ => False
set_option maxHeartbeats 800000 in
theorem qAbs_ret (s : Bool) (xs zs : List Int) : Ret Try.prog 16 false [.inr [.b s, .ints .i64 xs, .ints .i64 zs]] (.g [.b false, .ints .i64 xs, .ints .i64 zs]) := by
  (refine q_H Try.func16 (fun F => ?_); simp only [q_z,q_y,Try.ntmps16,Try.results16])
  repeat' (first|(with_reducible first|apply q_a|apply q_b|apply q_c|apply q_d|apply q_e|apply q_f|apply q_g|apply q_h|apply q_i|apply q_j|apply q_k|apply q_m|apply q_n|apply q_o|apply q_p|refine q_l ?_)|((with_reducible first|refine q_q qr3_ok fun K hK=>?_|refine q_r qr3_ok fun K hK=>?_);simp (maxSteps:=2000000) only [go_sem,↓reduceIte,reduceCtorEq,Nat.reduceLeDiff,Nat.reduceLT,Nat.reduceBEq,Nat.reduceAdd];(repeat1' with_reducible first|apply And.intro|(intro _;try exact q_v)|(refine hK _ ?_;clear hK K))<;>(try (clear hK K;exact q_u)))|(with_reducible refine q_s ?_;(first|apply q_J|apply q_K|apply q_L|apply q_M|apply q_N|apply q_O)<;>try (intro _;try exact q_v))|with_reducible refine q_t ?_)
  all_goals first | omega | exact q_A rfl | skip
def tAbsCT : CT := mkCT [nT] false fun l K => match l with
  | [.inr [.b s, .ints .i64 xs, .ints .i64 zs]] => K (.g [.b false, .ints .i64 xs, .ints .i64 zs])
  | _ => False
def rq9 : Cfg := addT 33 tTurnedCT rq8
theorem rq9_ok : TblOk Try.prog rq9 := q_I rq8_ok Try.func33 fun l K h => by
  split at h
  · exact ⟨_, qTurned_ret _ _ _, h⟩
  · exact h.elim
def rq10 : Cfg := addT 16 tAbsCT rq9
theorem rq10_ok : TblOk Try.prog rq10 := q_I rq9_ok Try.func16 fun l K h => by
  split at h
  · exact ⟨_, qAbs_ret _ _ _, h⟩
  · exact h.elim
set_option maxHeartbeats 800000 in
theorem qWhole_ret (s : Bool) (xs : List Int) : Ret Try.prog 27 false [.inr [.b s, .ints .i64 xs]] (.g [.b s, .ints .i64 xs, .ints .i64 (dg 65536 1)]) := by
  (refine q_H Try.func27 (fun F => ?_); simp only [q_z,q_y,Try.ntmps27,Try.results27])
  repeat' (first|(with_reducible first|apply q_a|apply q_b|apply q_c|apply q_d|apply q_e|apply q_f|apply q_g|apply q_h|apply q_i|apply q_j|apply q_k|apply q_m|apply q_n|apply q_o|apply q_p|refine q_l ?_)|((with_reducible first|refine q_q qr3_ok fun K hK=>?_|refine q_r qr3_ok fun K hK=>?_);simp (maxSteps:=2000000) only [go_sem,↓reduceIte,reduceCtorEq,Nat.reduceLeDiff,Nat.reduceLT,Nat.reduceBEq,Nat.reduceAdd];(repeat1' with_reducible first|apply And.intro|(intro _;try exact q_v)|(refine hK _ ?_;clear hK K))<;>(try (clear hK K;exact q_u)))|(with_reducible refine q_s ?_;(first|apply q_J|apply q_K|apply q_L|apply q_M|apply q_N|apply q_O)<;>try (intro _;try exact q_v))|with_reducible refine q_t ?_)
  all_goals first | omega | exact q_A rfl | skip
def wholeCT : CT := mkCT [nR] false fun l K => match l with
  | [.inr [.b s, .ints .i64 xs]] => K (.g [.b s, .ints .i64 xs, .ints .i64 (dg 65536 1)])
  | _ => False
def rq11 : Cfg := addT 27 wholeCT rq10
theorem rq11_ok : TblOk Try.prog rq11 := q_I rq10_ok Try.func27 fun l K h => by
  split at h
  · exact ⟨_, qWhole_ret _ _, h⟩
  · exact h.elim
attribute [go_sem] floT tTurnedCT tAbsCT wholeCT
set_option maxHeartbeats 1600000 in
theorem sameRatio_ret (s t r : Bool) (xs ys zs ws : List Int) (n1 : Nrm s xs) (n2 : Nrm t ys) (l1 : xs.length ≤ 16777216) (l2 : ys.length ≤ 16777216) (b3 : InB 65536 zs) (t3 : Trd zs) (l3 : zs.length ≤ 4194304) (b4 : InB 65536 ws) (t4 : Trd ws) (l4 : ws.length ≤ 4194304) :
    Ret Try.prog 31 false [.inr [.b s, .ints .u32 xs, .b t, .ints .u32 ys], .inr [.b r, .ints .i64 zs, .ints .i64 ws]] (.c (.b (decide (sv 4294967296 s xs = sv 65536 r zs) && decide (sv 4294967296 t ys = (V 65536 ws : Int))))) := by
  have e : sv 65536 false ws = (V 65536 ws : Int) := rfl
  cases h1 : decide (sv 4294967296 s xs = sv 65536 r zs)
  all_goals
    (refine q_H Try.func31 (fun F => ?_); simp only [q_z,q_y,Try.ntmps31,Try.results31])
    repeat' (first|(with_reducible first|apply q_a|apply q_b|apply q_c|apply q_d|apply q_e|apply q_f|apply q_g|apply q_h|apply q_i|apply q_j|apply q_k|apply q_m|apply q_n|apply q_o|apply q_p|refine q_l ?_)|((with_reducible first|refine q_q qr3_ok fun K hK=>?_|refine q_r qr3_ok fun K hK=>?_);simp (maxSteps:=2000000) only [go_sem,↓reduceIte,reduceCtorEq,Nat.reduceLeDiff,Nat.reduceLT,Nat.reduceBEq,Nat.reduceAdd,h1, e];(repeat1' with_reducible first|apply And.intro|(intro _;try exact q_v)|(refine hK _ ?_;clear hK K))<;>(try (clear hK K;exact q_u)))|(with_reducible refine q_s ?_;(first|apply q_J|apply q_K|apply q_L|apply q_M|apply q_N|apply q_O)<;>try (intro _;try exact q_v))|with_reducible refine q_t ?_)
    all_goals first | omega | exact q_A rfl | exact q_A (by simp [resAV, q_y]) | skip
def sameRatioCT : CT := mkCT [nQ, nT] true fun l K => match l with
  | [.inr [.b s, .ints .u32 xs, .b t, .ints .u32 ys], .inr [.b r, .ints .i64 zs, .ints .i64 ws]] =>
      (Nrm s xs ∧ Nrm t ys ∧ xs.length ≤ 16777216 ∧ ys.length ≤ 16777216 ∧ InB 65536 zs ∧ Trd zs ∧ zs.length ≤ 4194304 ∧ InB 65536 ws ∧ Trd ws ∧ ws.length ≤ 4194304) ∧ K (.c (.b (decide (sv 4294967296 s xs = sv 65536 r zs) && decide (sv 4294967296 t ys = (V 65536 ws : Int)))))
  | _ => False
def rq12 : Cfg := addT 31 sameRatioCT rq11
theorem rq12_ok : TblOk Try.prog rq12 := q_I rq11_ok Try.func31 fun l K h => by
  split at h
  · obtain ⟨⟨h1, h2, h3, h4, h5, h6, h7, h8, h9, h10⟩, h⟩ := h
    exact ⟨_, (sameRatio_ret _ _ _ _ _ _ _ h1 h2 h3 h4 h5 h6 h7 h8 h9 h10).plain rfl, h⟩
  · exact h.elim
set_option maxHeartbeats 1600000 in
theorem noRatio_ret (s t : Bool) (xs ys : List Int) (n1 : Nrm s xs) (n2 : Nrm t ys) (l1 : xs.length ≤ 140737488355328) (l2 : ys.length ≤ 140737488355328) :
    Ret Try.prog 25 false [.inr [.b s, .ints .u32 xs, .b t, .ints .u32 ys]] (.c (.b (decide (sv 4294967296 s xs = 0) && decide (sv 4294967296 t ys = 0)))) := by
  cases h1 : decide (sv 4294967296 s xs = 0)
  all_goals
    (refine q_H Try.func25 (fun F => ?_); simp only [q_z,q_y,Try.ntmps25,Try.results25])
    repeat' (first|(with_reducible first|apply q_a|apply q_b|apply q_c|apply q_d|apply q_e|apply q_f|apply q_g|apply q_h|apply q_i|apply q_j|apply q_k|apply q_m|apply q_n|apply q_o|apply q_p|refine q_l ?_)|((with_reducible first|refine q_q qr3_ok fun K hK=>?_|refine q_r qr3_ok fun K hK=>?_);simp (maxSteps:=2000000) only [go_sem,↓reduceIte,reduceCtorEq,Nat.reduceLeDiff,Nat.reduceLT,Nat.reduceBEq,Nat.reduceAdd,h1];(repeat1' with_reducible first|apply And.intro|(intro _;try exact q_v)|(refine hK _ ?_;clear hK K))<;>(try (clear hK K;exact q_u)))|(with_reducible refine q_s ?_;(first|apply q_J|apply q_K|apply q_L|apply q_M|apply q_N|apply q_O)<;>try (intro _;try exact q_v))|with_reducible refine q_t ?_)
    all_goals first | omega | exact q_A rfl | exact q_A (by simp [resAV, q_y]) | skip
def noRatioCT : CT := mkCT [nQ] true fun l K => match l with
  | [.inr [.b s, .ints .u32 xs, .b t, .ints .u32 ys]] => (Nrm s xs ∧ Nrm t ys ∧ xs.length ≤ 140737488355328 ∧ ys.length ≤ 140737488355328) ∧ K (.c (.b (decide (sv 4294967296 s xs = 0) && decide (sv 4294967296 t ys = 0))))
  | _ => False
def rq13 : Cfg := addT 25 noRatioCT rq12
theorem rq13_ok : TblOk Try.prog rq13 := q_I rq12_ok Try.func25 fun l K h => by
  split at h
  · obtain ⟨⟨h1, h2, h3, h4⟩, h⟩ := h
    exact ⟨_, (noRatio_ret _ _ _ _ h1 h2 h3 h4).plain rfl, h⟩
  · exact h.elim
set_option maxHeartbeats 1600000 in
theorem qfits_ret (s : Bool) (xs zs : List Int) :
    Ret Try.prog 85 false [.inr [.b s, .ints .i64 xs, .ints .i64 zs]] (.c (.b (decide ((xs.length : Int) ≤ 256) && decide ((zs.length : Int) ≤ 256)))) := by
  by_cases h0 : (xs.length : Int) ≤ 256
  · have h1 := decide_eq_true h0
    (refine q_H Try.func85 (fun F => ?_); simp only [q_z,q_y,Try.ntmps85,Try.results85])
    repeat' (first|(with_reducible first|apply q_a|apply q_b|apply q_c|apply q_d|apply q_e|apply q_f|apply q_g|apply q_h|apply q_i|apply q_j|apply q_k|apply q_m|apply q_n|apply q_o|apply q_p|refine q_l ?_)|((with_reducible first|refine q_q qr3_ok fun K hK=>?_|refine q_r qr3_ok fun K hK=>?_);simp (maxSteps:=2000000) only [go_sem,↓reduceIte,reduceCtorEq,Nat.reduceLeDiff,Nat.reduceLT,Nat.reduceBEq,Nat.reduceAdd,h1];(repeat1' with_reducible first|apply And.intro|(intro _;try exact q_v)|(refine hK _ ?_;clear hK K))<;>(try (clear hK K;exact q_u)))|(with_reducible refine q_s ?_;(first|apply q_J|apply q_K|apply q_L|apply q_M|apply q_N|apply q_O)<;>try (intro _;try exact q_v))|with_reducible refine q_t ?_)
    all_goals first | omega | exact q_A rfl | exact q_A (by simp [resAV, q_y]; intros; omega) | skip
  · have h1 := decide_eq_false h0
    (refine q_H Try.func85 (fun F => ?_); simp only [q_z,q_y,Try.ntmps85,Try.results85])
    repeat' (first|(with_reducible first|apply q_a|apply q_b|apply q_c|apply q_d|apply q_e|apply q_f|apply q_g|apply q_h|apply q_i|apply q_j|apply q_k|apply q_m|apply q_n|apply q_o|apply q_p|refine q_l ?_)|((with_reducible first|refine q_q qr3_ok fun K hK=>?_|refine q_r qr3_ok fun K hK=>?_);simp (maxSteps:=2000000) only [go_sem,↓reduceIte,reduceCtorEq,Nat.reduceLeDiff,Nat.reduceLT,Nat.reduceBEq,Nat.reduceAdd,h1];(repeat1' with_reducible first|apply And.intro|(intro _;try exact q_v)|(refine hK _ ?_;clear hK K))<;>(try (clear hK K;exact q_u)))|(with_reducible refine q_s ?_;(first|apply q_J|apply q_K|apply q_L|apply q_M|apply q_N|apply q_O)<;>try (intro _;try exact q_v))|with_reducible refine q_t ?_)
    all_goals first | omega | exact q_A rfl | exact q_A (by simp [resAV, q_y]; intros; omega) | skip
def qfitsCT : CT := mkCT [nT] true fun l K => match l with
  | [.inr [.b s, .ints .i64 xs, .ints .i64 zs]] => K (.c (.b (decide ((xs.length : Int) ≤ 256) && decide ((zs.length : Int) ≤ 256))))
  | _ => False
def rq14 : Cfg := addT 85 qfitsCT rq13
theorem rq14_ok : TblOk Try.prog rq14 := q_I rq13_ok Try.func85 fun l K h => by
  split at h
  · exact ⟨_, (qfits_ret _ _ _).plain rfl, h⟩
  · exact h.elim
attribute [go_sem] sameRatioCT noRatioCT qfitsCT
end Go.Proofs.Ytlefdhkjbbdijaa
