import Derived.Test.YtgogdabniebplaaS4
import Derived.Test.YtgogdabniebplaaS3
import Derived.Test.YtgogdabniebplaaP6
namespace Go.Proofs.Ytgogdabniebplaa
set_option linter.unusedSimpArgs false
set_option linter.unusedVariables false
open Go.Abs Go.Proofs.NatL

def sr3 : Cfg := listT [(41, numberCT), (43, (rI2CT 4194304 ordF)), (39, (rI2CT 1048576 addF)), (54, intOfCT), (98, nearCT)] [28]
theorem sr3_ok : TblOk Try.prog sr3 := listE_ok (by simp only [List.mem_singleton, forall_eq]; exact flt) ⟨⟨jt12, jt12_ok, rfl⟩, ⟨jt12, jt12_ok, rfl⟩, ⟨jt12, jt12_ok, rfl⟩, ⟨jt12, jt12_ok, rfl⟩, ⟨sj2, sj2_ok, rfl⟩, trivial⟩
attribute [go_sem] sr3
theorem ix_len {a n : Int} (la : (dg 65536 a.natAbs).length ≤ 256) (h0 : 0 ≤ n) (h1 : n ≤ 4000) : (dg 65536 (a + n).natAbs).length ≤ 257 := by
  obtain ⟨e, he⟩ : ∃ e, e = 256 := ⟨_, rfl⟩
  have h := lt_of_len (B := 65536) (a := a.natAbs) (k := e) (by omega) (by omega)
  have h4 : (4000 : Nat) < 65536 ^ e := Nat.lt_of_lt_of_le (show 4000 < 65536 ^ 1 by omega) (Nat.pow_le_pow_right (by omega) (by omega))
  have := dg_len_le (B := 65536) (by omega) (a + n).natAbs (e + 1) (by rw [Nat.pow_succ]; omega)
  omega
theorem sgz_pos {z : Int} {c : Bool} (h : sgz z c = true) (hp : 0 < (dg 65536 z.natAbs).length) : z < 0 := by
  have hz := (dg_len_pos 65536 z.natAbs (by omega)).1 hp
  unfold sgz at h
  rw [if_neg (by omega)] at h
  exact of_decide_eq_true h
theorem sgz_neg {z : Int} {c : Bool} (h : sgz z c = false) : 0 ≤ z := by
  unfold sgz at h
  split at h
  · omega
  · have := of_decide_eq_false h; omega
theorem len_pos' {z : Int} : 0 < (dg 65536 z.natAbs).length ↔ z ≠ 0 := by
  have := dg_len_pos 65536 z.natAbs (by omega); omega
set_option maxRecDepth 100000 in
set_option maxHeartbeats 3200000 in
theorem endAt_ret (a n lo hi : Int) (la : (dg 4294967296 a.natAbs).length ≤ 128) (h0 : 0 ≤ n) (h1 : n ≤ 4000) (h2 : -1 ≤ lo) (h3 : lo ≤ hi) (h4 : hi ≤ n) :
    Ret Try.prog 99 false [.inr (gI a), .inl (.i .i64 n), .inl (.i .i64 lo), .inl (.i .i64 hi)] (.c (.i .i64 (enda a n lo hi))) := by
  have l65 := (dg_half' a.natAbs 128).2 la
  have l66 := ix_len l65 h0 h1
  have nn := len_i64 (z := n) (by omega)
  have l32 := Nat.le_trans la (show 128 ≤ 1048576 by omega)
  rw [enda_eq h0 h2 h3 h4]
  simp only [gI]
  (refine q_H Try.func99 (fun F => ?_); simp only [q_z,q_y,Try.ntmps99,Try.results99])
  repeat' (first|(with_reducible first|apply q_a|apply q_b|apply q_c|apply q_d|apply q_e|apply q_f|apply q_g|apply q_h|apply q_i|apply q_j|apply q_k|apply q_m|apply q_n|apply q_o|apply q_p|refine q_l ?_)|((with_reducible first|refine q_q sr3_ok fun K hK=>?_|refine q_r sr3_ok fun K hK=>?_);simp (maxSteps:=2000000) only [go_sem,↓reduceIte,reduceCtorEq,Nat.reduceLeDiff,Nat.reduceLT,Nat.reduceBEq,Nat.reduceAdd,sg_self];(repeat1' with_reducible first|apply And.intro|(intro _;try exact q_v)|(refine hK _ ?_;clear hK K))<;>(try (clear hK K;exact q_u)))|(with_reducible refine q_s ?_;(first|apply q_J|apply q_K|apply q_L|apply q_M|apply q_N|apply q_O)<;>try (intro _;try exact q_v))|with_reducible refine q_t ?_)
  all_goals first
    | omega
    | (rename_i q; rw [if_pos q]; exact q_A rfl)
    | (rename_i q; rw [if_neg q]; exact q_A rfl)
    | (rename_i q _; rw [if_pos q]; exact q_A rfl)
def endAtCT : CT := mkCT [nP] true fun l K => match l with
  | [.inr [.b s, .ints .u32 xs], .inl (.i .i64 n), .inl (.i .i64 lo), .inl (.i .i64 hi)] => ((okZ s xs = true ∧ InB 4294967296 xs) ∧ (0 ≤ n ∧ n ≤ 4000) ∧ -1 ≤ lo ∧ lo ≤ hi ∧ hi ≤ n) ∧ K (.c (.i .i64 (enda (sv 4294967296 s xs) n lo hi)))
  | _ => False
def sj3 : Cfg := addT 99 endAtCT sj2
theorem sj3_ok : TblOk Try.prog sj3 := q_I sj2_ok Try.func99 fun l K h => by
  split at h
  · obtain ⟨⟨⟨h1, h2⟩, ⟨h3, h4⟩, h5, h6, h7⟩, h⟩ := h
    obtain ⟨e, la⟩ := gI_of h1 h2
    have := endAt_ret _ _ _ _ la h3 h4 h5 h6 h7
    rw [← e] at this
    exact ⟨_, this.plain rfl, h⟩
  · exact h.elim
attribute [go_sem] endAtCT
set_option maxRecDepth 100000 in
set_option maxHeartbeats 3200000 in
theorem indexed_ret (a n : Int) (la : (dg 4294967296 a.natAbs).length ≤ 128) (h0 : 0 ≤ n) (h1 : n ≤ 4000) :
    Ret Try.prog 25 false [.inr (gI a), .inl (.i .i64 n)] (if 0 ≤ ixZ a n ∧ ixZ a n < n then .t [.inl (.i .i64 (ixZ a n)), .inl (.b true)] else .t [.inl (.i .i64 0), .inl (.b false)]) := by
  have l65 := (dg_half' a.natAbs 128).2 la
  have l66 := ix_len l65 h0 h1
  have nn := len_i64 (z := n) (by omega)
  have l32 := Nat.le_trans la (show 128 ≤ 1048576 by omega)
  have c1 := cz_ge (a + n) n
  have c2 := cz_ge a n
  have p1 := len_pos' (z := a + n)
  have p2 := len_pos' (z := a)
  have s1 := @sgz_pos (a + n)
  have s2 := @sgz_neg (a + n)
  simp only [gI]
  by_cases hn : a < 0
  · have e : ixZ a n = a + n := if_pos hn
    rw [e]
    by_cases hi : 0 ≤ a + n ∧ a + n < n
    · have e2 : bnd (a + n) 0 n = a + n := by unfold bnd; omega
      rw [if_pos hi]
      (refine q_H Try.func25 (fun F => ?_); simp only [q_z,q_y,Try.ntmps25,Try.results25])
      repeat' (first|(with_reducible first|apply q_a|apply q_b|apply q_c|apply q_d|apply q_e|apply q_f|apply q_g|apply q_h|apply q_i|apply q_j|apply q_k|apply q_m|apply q_n|apply q_o|apply q_p|refine q_l ?_)|((with_reducible first|refine q_q sr3_ok fun K hK=>?_|refine q_r sr3_ok fun K hK=>?_);simp (maxSteps:=2000000) only [go_sem,↓reduceIte,reduceCtorEq,Nat.reduceLeDiff,Nat.reduceLT,Nat.reduceBEq,Nat.reduceAdd,sg_self, e2];(repeat1' with_reducible first|apply And.intro|(intro _;try exact q_v)|(refine hK _ ?_;clear hK K))<;>(try (clear hK K;exact q_u)))|(with_reducible refine q_s ?_;(first|apply q_J|apply q_K|apply q_L|apply q_M|apply q_N|apply q_O)<;>try (intro _;try exact q_v))|with_reducible refine q_t ?_)
      all_goals first | contradiction | omega | exact q_A rfl | (rename_i q1 q2; exfalso; have := s1 q1 (by omega); omega) | (rename_i c q1 q2; exfalso; have := s1 q1 (by omega); omega)
    · rw [if_neg hi]
      (refine q_H Try.func25 (fun F => ?_); simp only [q_z,q_y,Try.ntmps25,Try.results25])
      repeat' (first|(with_reducible first|apply q_a|apply q_b|apply q_c|apply q_d|apply q_e|apply q_f|apply q_g|apply q_h|apply q_i|apply q_j|apply q_k|apply q_m|apply q_n|apply q_o|apply q_p|refine q_l ?_)|((with_reducible first|refine q_q sr3_ok fun K hK=>?_|refine q_r sr3_ok fun K hK=>?_);simp (maxSteps:=2000000) only [go_sem,↓reduceIte,reduceCtorEq,Nat.reduceLeDiff,Nat.reduceLT,Nat.reduceBEq,Nat.reduceAdd,sg_self];(repeat1' with_reducible first|apply And.intro|(intro _;try exact q_v)|(refine hK _ ?_;clear hK K))<;>(try (clear hK K;exact q_u)))|(with_reducible refine q_s ?_;(first|apply q_J|apply q_K|apply q_L|apply q_M|apply q_N|apply q_O)<;>try (intro _;try exact q_v))|with_reducible refine q_t ?_)
      all_goals first | contradiction | omega | exact q_A rfl | (rename_i q1; exfalso; have := s2 q1; omega) | (rename_i q1 q2; exfalso; have := s2 q1; omega)
  · have e : ixZ a n = a := if_neg hn
    rw [e]
    by_cases hi : 0 ≤ a ∧ a < n
    · have e2 : bnd a 0 n = a := by unfold bnd; omega
      rw [if_pos hi]
      (refine q_H Try.func25 (fun F => ?_); simp only [q_z,q_y,Try.ntmps25,Try.results25])
      repeat' (first|(with_reducible first|apply q_a|apply q_b|apply q_c|apply q_d|apply q_e|apply q_f|apply q_g|apply q_h|apply q_i|apply q_j|apply q_k|apply q_m|apply q_n|apply q_o|apply q_p|refine q_l ?_)|((with_reducible first|refine q_q sr3_ok fun K hK=>?_|refine q_r sr3_ok fun K hK=>?_);simp (maxSteps:=2000000) only [go_sem,↓reduceIte,reduceCtorEq,Nat.reduceLeDiff,Nat.reduceLT,Nat.reduceBEq,Nat.reduceAdd,sg_self, e2];(repeat1' with_reducible first|apply And.intro|(intro _;try exact q_v)|(refine hK _ ?_;clear hK K))<;>(try (clear hK K;exact q_u)))|(with_reducible refine q_s ?_;(first|apply q_J|apply q_K|apply q_L|apply q_M|apply q_N|apply q_O)<;>try (intro _;try exact q_v))|with_reducible refine q_t ?_)
      all_goals first | contradiction | omega | exact q_A rfl
    · rw [if_neg hi]
      (refine q_H Try.func25 (fun F => ?_); simp only [q_z,q_y,Try.ntmps25,Try.results25])
      repeat' (first|(with_reducible first|apply q_a|apply q_b|apply q_c|apply q_d|apply q_e|apply q_f|apply q_g|apply q_h|apply q_i|apply q_j|apply q_k|apply q_m|apply q_n|apply q_o|apply q_p|refine q_l ?_)|((with_reducible first|refine q_q sr3_ok fun K hK=>?_|refine q_r sr3_ok fun K hK=>?_);simp (maxSteps:=2000000) only [go_sem,↓reduceIte,reduceCtorEq,Nat.reduceLeDiff,Nat.reduceLT,Nat.reduceBEq,Nat.reduceAdd,sg_self];(repeat1' with_reducible first|apply And.intro|(intro _;try exact q_v)|(refine hK _ ?_;clear hK K))<;>(try (clear hK K;exact q_u)))|(with_reducible refine q_s ?_;(first|apply q_J|apply q_K|apply q_L|apply q_M|apply q_N|apply q_O)<;>try (intro _;try exact q_v))|with_reducible refine q_t ?_)
      all_goals first | contradiction | omega | exact q_A rfl
def indexedCT : CT := mkCT [nP] true fun l K => match l with
  | [.inr [.b s, .ints .u32 xs], .inl (.i .i64 n)] => ((okZ s xs = true ∧ InB 4294967296 xs) ∧ 0 ≤ n ∧ n ≤ 4000) ∧ (¬ (0 ≤ ixZ (sv 4294967296 s xs) n ∧ ixZ (sv 4294967296 s xs) n < n) → K (.t [.inl (.i .i64 0), .inl (.b false)])) ∧
      (0 ≤ ixZ (sv 4294967296 s xs) n ∧ ixZ (sv 4294967296 s xs) n < n → K (.t [.inl (.i .i64 (ixZ (sv 4294967296 s xs) n)), .inl (.b true)]))
  | _ => False
def sj4 : Cfg := addT 25 indexedCT sj3
theorem sj4_ok : TblOk Try.prog sj4 := q_I sj3_ok Try.func25 fun l K h => by
  split at h
  · rename_i s xs n
    obtain ⟨⟨⟨h1, h2⟩, h3, h4⟩, hbad, hok⟩ := h
    obtain ⟨e, la⟩ := gI_of h1 h2
    have := indexed_ret _ n la h3 h4
    rw [← e] at this
    by_cases hi : 0 ≤ ixZ (sv 4294967296 s xs) n ∧ ixZ (sv 4294967296 s xs) n < n
    · rw [if_pos hi] at this
      exact ⟨_, this.plain rfl, hok hi⟩
    · rw [if_neg hi] at this
      exact ⟨_, this.plain rfl, hbad hi⟩
  · exact h.elim
attribute [go_sem] indexedCT
end Go.Proofs.Ytgogdabniebplaa
