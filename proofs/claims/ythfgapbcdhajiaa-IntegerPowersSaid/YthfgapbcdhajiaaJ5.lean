import Derived.Test.YthfgapbcdhajiaaJ4
import Derived.Test.YthfgapbcdhajiaaP3
namespace Go.Proofs.Ythfgapbcdhajiaa
set_option linter.unusedSimpArgs false
set_option linter.unusedVariables false
open Go.Abs Go.Proofs.NatL

theorem sv65d (s : Bool) (m : Nat) : sv 65536 s (dg 65536 m) = sg s m := sv_d (by omega) s m
theorem sg_sgz (z : Int) (c : Bool) : sg (sgz z c) z.natAbs = z := by rw [← sv65d, svz65]
attribute [go_sem] sv65d sg_self sg_sgz
def rdivCT : CT := mkCT [.inl (some (.ints .i64 [])), .inl (some (.ints .i64 []))] false fun l K => match l with
  | [.inl (.ints .i64 xs), .inl (.ints .i64 ys)] => (InB 65536 xs ∧ Trd xs ∧ xs.length ≤ 65536 ∧ InB 65536 ys ∧ Trd ys ∧ ys.length ≤ 65536 ∧ 0 < V 65536 ys) ∧ K (.t [.inl (.ints .i64 (dg 65536 (V 65536 xs / V 65536 ys))), .inl (.ints .i64 (dg 65536 (V 65536 xs % V 65536 ys)))])
  | _ => False
def jt13 : Cfg := addT 79 rdivCT jt12
theorem jt13_ok : TblOk Try.prog jt13 := q_I jt12_ok Try.func79 fun l K h => by
  split at h
  · rename_i xs ys
    obtain ⟨⟨h1, h2, h3, h4, h5, h6, h7⟩, h⟩ := h
    have e1 := dg_V 65536 (by omega) xs h1 h2
    have e2 := dg_V 65536 (by omega) ys h4 h5
    have := divide_ret' (V 65536 xs) (V 65536 ys) h7 (by rw [e1]; exact h3) (by rw [e2]; exact h6)
    rw [e1, e2] at this
    exact ⟨_, this, h⟩
  · exact h.elim
def rootCT : CT := mkCT [.inl (some (.ints .i64 []))] false fun l K => match l with
  | [.inl (.ints .i64 xs)] => (InB 65536 xs ∧ Trd xs ∧ xs.length ≤ 65536) ∧ K (.c (.ints .i64 (dg 65536 (rt (V 65536 xs)))))
  | _ => False
def jt14 : Cfg := addT 25 rootCT jt13
theorem jt14_ok : TblOk Try.prog jt14 := q_I jt13_ok Try.func25 fun l K h => by
  split at h
  · rename_i xs
    obtain ⟨⟨h1, h2, h3⟩, h⟩ := h
    have e1 := dg_V 65536 (by omega) xs h1 h2
    have := root_ret (V 65536 xs) (by rw [e1]; exact h3)
    rw [e1] at this
    exact ⟨_, this, h⟩
  · exact h.elim
attribute [go_sem] rdivCT rootCT
def jb8 : Cfg := listT [(79, rdivCT), (80, smallCT), (77, (rnumCT (fun _ _ => True) (· + ·))), (76, (rnumCT (fun xs ys => V 65536 ys ≤ V 65536 xs) (· - ·)))] [27]
theorem jb8_ok : TblOk Try.prog jb8 := listT_ok (big := jt14) jt14_ok ⟨rfl, rfl, rfl, rfl, trivial⟩
attribute [go_sem] jb8
set_option maxHeartbeats 3200000 in
theorem ifloor_ret (s t : Bool) (m n : Nat) (hn : 0 < n) (lm : (dg 65536 m).length ≤ 65536) (ln : (dg 65536 n).length ≤ 65536) :
    Ret Try.prog 29 false [.inr [.b s, .ints .i64 (dg 65536 m)], .inr [.b t, .ints .i64 (dg 65536 n)]] (.t [.inr (gRz ((sg s m).fdiv (sg t n)) (s != t)), .inr (gRz ((sg s m).fmod (sg t n)) t)]) := by
  have hr0 := Nat.mod_lt m hn
  have hpos := dg_len_pos 65536 (m % n) (by omega)
  have lq := Nat.le_trans (dg_len_mono (B := 65536) (by omega) (Nat.div_le_self m n)) lm
  have lr := Nat.le_trans (dg_len_mono (B := 65536) (by omega) (Nat.le_of_lt hr0)) ln
  have hle := Nat.le_of_lt hr0
  by_cases hs : s = t ∨ m % n = 0
  · obtain ⟨z1, z2⟩ := floor_sg1 s t m n hn hs
    rw [← z1, ← z2, gRz_eq, gRz_eq]
    by_cases hst : s = t
    · have hq : (s != t) = false := by rw [hst]; exact bne_self_eq_false _
      (refine q_H Try.func29 (fun F => ?_); simp only [q_z,q_y,Try.ntmps29,Try.results29])
      repeat' (first|(with_reducible first|apply q_a|apply q_b|apply q_c|apply q_d|apply q_e|apply q_f|apply q_g|apply q_h|apply q_i|apply q_j|apply q_k|apply q_m|apply q_n|apply q_o|apply q_p|refine q_l ?_)|((with_reducible first|refine q_q jb8_ok fun K hK=>?_|refine q_r jb8_ok fun K hK=>?_);simp (maxSteps:=2000000) only [go_sem,↓reduceIte,reduceCtorEq,Nat.reduceLeDiff,Nat.reduceLT,Nat.reduceBEq,Nat.reduceAdd,hq];(repeat1' with_reducible first|apply And.intro|(intro _;try exact q_v)|(refine hK _ ?_;clear hK K))<;>(try (clear hK K;exact q_u)))|(with_reducible refine q_s ?_;(first|apply q_J|apply q_K|apply q_L|apply q_M|apply q_N|apply q_O)<;>try (intro _;try exact q_v))|with_reducible refine q_t ?_)
      all_goals first | omega | exact q_A (by simp only [resAV, hq]) | skip
    · have hq : (s != t) = true := by simpa [bne] using hst
      have hr : m % n = 0 := by rcases hs with h | h; exact absurd h hst; exact h
      have hr' : ¬ 0 < (dg 65536 (m % n)).length := fun h => by have := hpos.1 h; omega
      (refine q_H Try.func29 (fun F => ?_); simp only [q_z,q_y,Try.ntmps29,Try.results29])
      repeat' (first|(with_reducible first|apply q_a|apply q_b|apply q_c|apply q_d|apply q_e|apply q_f|apply q_g|apply q_h|apply q_i|apply q_j|apply q_k|apply q_m|apply q_n|apply q_o|apply q_p|refine q_l ?_)|((with_reducible first|refine q_q jb8_ok fun K hK=>?_|refine q_r jb8_ok fun K hK=>?_);simp (maxSteps:=2000000) only [go_sem,↓reduceIte,reduceCtorEq,Nat.reduceLeDiff,Nat.reduceLT,Nat.reduceBEq,Nat.reduceAdd,hq];(repeat1' with_reducible first|apply And.intro|(intro _;try exact q_v)|(refine hK _ ?_;clear hK K))<;>(try (clear hK K;exact q_u)))|(with_reducible refine q_s ?_;(first|apply q_J|apply q_K|apply q_L|apply q_M|apply q_N|apply q_O)<;>try (intro _;try exact q_v))|with_reducible refine q_t ?_)
      all_goals first | omega | exact q_A (by simp only [resAV, hq]) | skip
  · have hst : s ≠ t := fun h => hs (.inl h)
    have hr : m % n ≠ 0 := fun h => hs (.inr h)
    obtain ⟨z1, z2⟩ := floor_sg2 s t m n hn hst hr
    have hq : (s != t) = true := by simpa [bne] using hst
    have hr' : 0 < (dg 65536 (m % n)).length := hpos.2 (by omega)
    have l1 : (dg 65536 (Int.toNat 1)).length ≤ 4194304 := Nat.le_trans (dg_len_le (B := 65536) (by omega) _ 1 (by decide)) (by omega)
    rw [← z1, ← z2, hq, gRz_eq, gRz_eq]
    (refine q_H Try.func29 (fun F => ?_); simp only [q_z,q_y,Try.ntmps29,Try.results29])
    repeat' (first|(with_reducible first|apply q_a|apply q_b|apply q_c|apply q_d|apply q_e|apply q_f|apply q_g|apply q_h|apply q_i|apply q_j|apply q_k|apply q_m|apply q_n|apply q_o|apply q_p|refine q_l ?_)|((with_reducible first|refine q_q jb8_ok fun K hK=>?_|refine q_r jb8_ok fun K hK=>?_);simp (maxSteps:=2000000) only [go_sem,↓reduceIte,reduceCtorEq,Nat.reduceLeDiff,Nat.reduceLT,Nat.reduceBEq,Nat.reduceAdd,hq];(repeat1' with_reducible first|apply And.intro|(intro _;try exact q_v)|(refine hK _ ?_;clear hK K))<;>(try (clear hK K;exact q_u)))|(with_reducible refine q_s ?_;(first|apply q_J|apply q_K|apply q_L|apply q_M|apply q_N|apply q_O)<;>try (intro _;try exact q_v))|with_reducible refine q_t ?_)
    all_goals first | omega | exact q_A (by simp only [resAV, hq]; rfl) | skip
def ifloorCT : CT := mkCT [nR, nR] false fun l K => match l with
  | [.inr [.b s, .ints .i64 xs], .inr [.b t, .ints .i64 ys]] => (InB 65536 xs ∧ Trd xs ∧ xs.length ≤ 65536 ∧ InB 65536 ys ∧ Trd ys ∧ ys.length ≤ 65536 ∧ sv 65536 t ys ≠ 0) ∧ ∀ c d : Bool, K (.t [.inr (gRz ((sv 65536 s xs).fdiv (sv 65536 t ys)) c), .inr (gRz ((sv 65536 s xs).fmod (sv 65536 t ys)) d)])
  | _ => False
def jt15 : Cfg := addT 29 ifloorCT jt14
theorem jt15_ok : TblOk Try.prog jt15 := q_I jt14_ok Try.func29 fun l K h => by
  split at h
  · rename_i s xs t ys
    obtain ⟨⟨h1, h2, h3, h4, h5, h6, h7⟩, h⟩ := h
    obtain ⟨e1, e2⟩ := sv_ys (s := s) h1 h2
    obtain ⟨e3, e4⟩ := sv_ys (s := t) h4 h5
    rw [e2, e4] at h
    rw [e4] at h7
    have hn : 0 < V 65536 ys := by
      rcases Nat.eq_zero_or_pos (V 65536 ys) with h0 | h0
      · rw [h0, sg_zero] at h7; exact absurd rfl h7
      · exact h0
    have := ifloor_ret s t (V 65536 xs) (V 65536 ys) hn (by rw [← e1]; exact h3) (by rw [← e3]; exact h6)
    rw [← e1, ← e3] at this
    exact ⟨_, this, h _ _⟩
  · exact h.elim
attribute [go_sem] ifloorCT

end Go.Proofs.Ythfgapbcdhajiaa
