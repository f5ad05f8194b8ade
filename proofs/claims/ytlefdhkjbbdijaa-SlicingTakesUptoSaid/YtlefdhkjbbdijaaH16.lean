import Derived.Test.YtlefdhkjbbdijaaH12
import Derived.Test.YtlefdhkjbbdijaaH14
import Derived.Test.YtlefdhkjbbdijaaH15
namespace Go.Proofs.Ytlefdhkjbbdijaa
set_option linter.unusedSimpArgs false
set_option linter.unusedVariables false
open Go.Abs Go.Proofs.NatL

def takeL (xs : List Int) (st sp : Int) (c : Nat) : List Int := (slPos st sp c).map fun p => xs.getD p.toNat 0
theorem takeL_succ (xs : List Int) (st sp : Int) (c : Nat) : takeL xs st sp (c + 1) = takeL xs st sp c ++ [xs.getD (st + (c : Int) * sp).toNat 0] := by simp [takeL, slPos_succ]
theorem takeL_len (xs : List Int) (st sp : Int) (c : Nat) : (takeL xs st sp c).length = c := by simp [takeL, slPos_len]
def putL (xs : List Int) (st sp : Int) (w : List Int) : Nat → List Int
  | 0 => xs
  | c + 1 => (putL xs st sp w c).set (st + (c : Int) * sp).toNat (w.getD c 0)
theorem putL_len (xs : List Int) (st sp : Int) (w : List Int) (c : Nat) : (putL xs st sp w c).length = xs.length := by
  induction c with
  | zero => rfl
  | succ c ih => rw [putL, List.length_set, ih]
def dropL (xs : List Int) (ps : List Int) : Nat → List Int
  | 0 => []
  | i + 1 => if (i : Int) ∈ ps then dropL xs ps i else dropL xs ps i ++ [xs.getD i 0]
theorem dropL_le (xs ps : List Int) (i : Nat) : (dropL xs ps i).length ≤ i := by
  induction i with
  | zero => simp [dropL]
  | succ i ih => rw [dropL]; split
                 · omega
                 · rw [List.length_append]; simp; omega
def sbt : Cfg := listT [(91, resCT), (92, atCT), (93, concatCT), (94, cloneICT)] [30]
theorem sbt_ok : TblOk Try.prog sbt := listE_ok (by simp only [List.mem_singleton, forall_eq]; exact flt) ⟨⟨su8, su8_ok, rfl⟩, ⟨su2, su2_ok, rfl⟩, ⟨so3, so3_ok, rfl⟩, ⟨so3, so3_ok, rfl⟩, trivial⟩
attribute [go_sem] sbt
set_option maxRecDepth 100000 in
set_option maxHeartbeats 3200000 in
theorem take_bad (xs : List Int) (s0 s1 s2 g0 g1 g2 : Bool) (x0 x1 x2 : List Int) (l0 : x0.length ≤ 140737488355328) (l1 : x1.length ≤ 140737488355328) (l2 : x2.length ≤ 140737488355328) (b0 : InB 4294967296 x0) (b1 : InB 4294967296 x1) (b2 : InB 4294967296 x2)
    (hF : slF (prt s0 x0 g0) (prt s1 x1 g1) (prt s2 x2 g2) g2 x2.length ≠ 0) :
    Ret Try.prog 51 false [.inl (.ints .i64 xs), .inr [.b s0, .ints .u32 x0, .b s1, .ints .u32 x1, .b s2, .ints .u32 x2, .b g0, .b g1, .b g2]]
      (.t [.inl (.ints .i64 []), .inr [.i .i64 (slF (prt s0 x0 g0) (prt s1 x1 g1) (prt s2 x2 g2) g2 x2.length), .i .i64 (-1)]]) := by
  (refine q_H Try.func51 (fun F => ?_); simp only [q_z,q_y,Try.ntmps51,Try.results51])
  repeat' (first|(with_reducible first|apply q_a|apply q_b|apply q_c|apply q_d|apply q_e|apply q_f|apply q_g|apply q_h|apply q_i|apply q_j|apply q_k|apply q_m|apply q_n|apply q_o|apply q_p|refine q_l ?_)|((with_reducible first|refine q_q sbt_ok fun K hK=>?_|refine q_r sbt_ok fun K hK=>?_);simp (maxSteps:=2000000) only [go_sem,↓reduceIte,reduceCtorEq,Nat.reduceLeDiff,Nat.reduceLT,Nat.reduceBEq,Nat.reduceAdd,hF];(repeat1' with_reducible first|apply And.intro|(intro _;try exact q_v)|(refine hK _ ?_;clear hK K))<;>(try (clear hK K;exact q_u)))|(with_reducible refine q_s ?_;(first|apply q_J|apply q_K|apply q_L|apply q_M|apply q_N|apply q_O)<;>try (intro _;try exact q_v))|with_reducible refine q_t ?_)
  all_goals first | contradiction | exact q_B [.inl (some (.ints .i64 [])), .inr [none, none]] rfl rfl
set_option maxRecDepth 100000 in
set_option maxHeartbeats 3200000 in
theorem take_ok (xs : List Int) (s0 s1 s2 g0 g1 g2 : Bool) (x0 x1 x2 : List Int) (l0 : x0.length ≤ 140737488355328) (l1 : x1.length ≤ 140737488355328) (l2 : x2.length ≤ 140737488355328) (b0 : InB 4294967296 x0) (b1 : InB 4294967296 x1) (b2 : InB 4294967296 x2)
    (hF : slF (prt s0 x0 g0) (prt s1 x1 g1) (prt s2 x2 g2) g2 x2.length = 0) (hl : xs.length ≤ 4000) (st sp : Int) (c : Nat) (hst : rSt s0 x0 g0 xs.length (rSp s2 x2 g2) = st) (hsp : rSp s2 x2 g2 = sp)
    (hc : slCnt (rSt s0 x0 g0 xs.length (rSp s2 x2 g2)) (rSo s1 x1 g1 xs.length (rSp s2 x2 g2)) (rSp s2 x2 g2) = c) :
    Ret Try.prog 51 false [.inl (.ints .i64 xs), .inr [.b s0, .ints .u32 x0, .b s1, .ints .u32 x1, .b s2, .ints .u32 x2, .b g0, .b g1, .b g2]]
      (.t [.inl (.ints .i64 (takeL xs st sp c)), .inr [.i .i64 0, .i .i64 0]]) := by
  obtain ⟨r1, r2, r3, r4, r5, r6, r7⟩ := r_facts (s0 := s0) (s1 := s1) (g0 := g0) (g1 := g1) (x0 := x0) (x1 := x1) b2 hF (n := xs.length) (by omega)
  have r6 := r6 _ rfl
  rw [hc] at r5 r6
  rw [hst, hsp] at r5
  rw [hst] at r3 r7
  rw [hsp] at r1 r2 r7
  have hc' := hc
  rw [hsp] at hst hc'
  rw [hst] at hc'
  (refine q_H Try.func51 (fun F => ?_); simp only [q_z,q_y,Try.ntmps51,Try.results51])
  repeat' (first|(with_reducible first|apply q_a|apply q_b|apply q_c|apply q_d|apply q_e|apply q_f|apply q_g|apply q_h|apply q_i|apply q_j|apply q_k|apply q_m|apply q_n|apply q_o|apply q_p|refine q_l ?_)|((with_reducible first|refine q_q sbt_ok fun K hK=>?_|refine q_r sbt_ok fun K hK=>?_);simp (maxSteps:=2000000) only [go_sem,↓reduceIte,reduceCtorEq,Nat.reduceLeDiff,Nat.reduceLT,Nat.reduceBEq,Nat.reduceAdd,hF, hsp, hst, hc'];(repeat1' with_reducible first|apply And.intro|(intro _;try exact q_v)|(refine hK _ ?_;clear hK K))<;>(try (clear hK K;exact q_u)))|(with_reducible refine q_s ?_;(first|apply q_J|apply q_K|apply q_L|apply q_M|apply q_N|apply q_O)<;>try (intro _;try exact q_v))|with_reducible refine q_t ?_)
  all_goals try omega
  refine q_G (ι := { k : Nat // k ≤ c }) (fun k => ⟨43, [(0, .c (.ints .i64 xs)), (5, .bx 1 0), (6, .c (.i .i64 st)), (7, .c (.i .i64 sp)), (10, .own 3 0), (25, .c (.i .i64 c)), (26, .c (.i .i64 (k.1 : Nat)))], ⟨[(1, [.c (.i .i64 0), .c (.i .i64 0)])], [(3, ⟨0, 3, 1, .ints .i64 (takeL xs st sp k.1)⟩)], []⟩, 4⟩) (fun k => c - k.1) ⟨0, by omega⟩ ?_ ?_
  · exact q_D
  rintro ⟨k, k1⟩
  simp only at k1 ⊢
  have tl := takeL_len xs st sp k
  rcases Nat.lt_or_ge k c with hk | hk
  · have hr := r5 k hk
    have ts := takeL_succ xs st sp k
    repeat' (first|(with_reducible first|apply q_a|apply q_b|apply q_c|apply q_d|apply q_e|apply q_f|apply q_g|apply q_h|apply q_i|apply q_j|apply q_k|apply q_m|apply q_n|apply q_o|apply q_p|refine q_l ?_)|((with_reducible first|refine q_q sbt_ok fun K hK=>?_|refine q_r sbt_ok fun K hK=>?_);simp (maxSteps:=2000000) only [go_sem,↓reduceIte,reduceCtorEq,Nat.reduceLeDiff,Nat.reduceLT,Nat.reduceBEq,Nat.reduceAdd,tl];(repeat1' with_reducible first|apply And.intro|(intro _;try exact q_v)|(refine hK _ ?_;clear hK K))<;>(try (clear hK K;exact q_u)))|(with_reducible refine q_s ?_;(first|apply q_J|apply q_K|apply q_L|apply q_M|apply q_N|apply q_O)<;>try (intro _;try exact q_v))|with_reducible refine q_t ?_)
    all_goals try omega
    refine q_F ⟨k + 1, hk⟩ ?_ (by simp only; omega)
    simp only [ts]
    exact q_D
  · have hk' : k = c := by omega
    subst hk'
    repeat' (first|(with_reducible first|apply q_a|apply q_b|apply q_c|apply q_d|apply q_e|apply q_f|apply q_g|apply q_h|apply q_i|apply q_j|apply q_k|apply q_m|apply q_n|apply q_o|apply q_p|refine q_l ?_)|((with_reducible first|refine q_q sbt_ok fun K hK=>?_|refine q_r sbt_ok fun K hK=>?_);simp (maxSteps:=2000000) only [go_sem,↓reduceIte,reduceCtorEq,Nat.reduceLeDiff,Nat.reduceLT,Nat.reduceBEq,Nat.reduceAdd,tl];(repeat1' with_reducible first|apply And.intro|(intro _;try exact q_v)|(refine hK _ ?_;clear hK K))<;>(try (clear hK K;exact q_u)))|(with_reducible refine q_s ?_;(first|apply q_J|apply q_K|apply q_L|apply q_M|apply q_N|apply q_O)<;>try (intro _;try exact q_v))|with_reducible refine q_t ?_)
    all_goals first | omega | exact q_B [.inl (some (.ints .i64 [])), .inr [none, none]] rfl rfl | exact q_A rfl
def takeCT : CT := mkCT [.inl (some (.ints .i64 [])), .inr [none, some (.ints .u32 []), none, some (.ints .u32 []), none, some (.ints .u32 []), none, none, none]] false fun l K => match l with
  | [.inl (.ints .i64 xs), .inr [.b s0, .ints .u32 x0, .b s1, .ints .u32 x1, .b s2, .ints .u32 x2, .b g0, .b g1, .b g2]] => (xs.length ≤ 4000 ∧ (x0.length ≤ 140737488355328 ∧ x1.length ≤ 140737488355328 ∧ x2.length ≤ 140737488355328) ∧ InB 4294967296 x0 ∧ InB 4294967296 x1 ∧ InB 4294967296 x2) ∧
      (slF (prt s0 x0 g0) (prt s1 x1 g1) (prt s2 x2 g2) g2 x2.length ≠ 0 → K (.t [.inl (.ints .i64 []), .inr [.i .i64 (slF (prt s0 x0 g0) (prt s1 x1 g1) (prt s2 x2 g2) g2 x2.length), .i .i64 (-1)]])) ∧
      (slF (prt s0 x0 g0) (prt s1 x1 g1) (prt s2 x2 g2) g2 x2.length = 0 → K (.t [.inl (.ints .i64 (takeL xs (rSt s0 x0 g0 xs.length (rSp s2 x2 g2)) (rSp s2 x2 g2) (slCnt (rSt s0 x0 g0 xs.length (rSp s2 x2 g2)) (rSo s1 x1 g1 xs.length (rSp s2 x2 g2)) (rSp s2 x2 g2)))), .inr [.i .i64 0, .i .i64 0]]))
  | _ => False
def sv1 : Cfg := addT 51 takeCT so3
theorem sv1_ok : TblOk Try.prog sv1 := q_I so3_ok Try.func51 fun l K h => by
  split at h
  · rename_i xs s0 x0 s1 x1 s2 x2 g0 g1 g2
    obtain ⟨⟨hl, ⟨l0, l1, l2⟩, b0, b1, b2⟩, hbad, hok⟩ := h
    by_cases hF : slF (prt s0 x0 g0) (prt s1 x1 g1) (prt s2 x2 g2) g2 x2.length = 0
    · exact ⟨_, take_ok xs s0 s1 s2 g0 g1 g2 x0 x1 x2 l0 l1 l2 b0 b1 b2 hF hl _ _ _ rfl rfl rfl, hok hF⟩
    · exact ⟨_, take_bad xs s0 s1 s2 g0 g1 g2 x0 x1 x2 l0 l1 l2 b0 b1 b2 hF, hbad hF⟩
  · exact h.elim
attribute [go_sem] takeCT
end Go.Proofs.Ytlefdhkjbbdijaa

namespace Go.Proofs.Ytlefdhkjbbdijaa
set_option linter.unusedSimpArgs false
set_option linter.unusedVariables false
open Go.Abs Go.Proofs.NatL

set_option maxRecDepth 100000 in
set_option maxHeartbeats 3200000 in
theorem put_bad (xs w : List Int) (most : Int) (s0 s1 s2 g0 g1 g2 : Bool) (x0 x1 x2 : List Int) (l0 : x0.length ≤ 140737488355328) (l1 : x1.length ≤ 140737488355328) (l2 : x2.length ≤ 140737488355328) (b0 : InB 4294967296 x0) (b1 : InB 4294967296 x1) (b2 : InB 4294967296 x2) (hF : slF (prt s0 x0 g0) (prt s1 x1 g1) (prt s2 x2 g2) g2 x2.length ≠ 0) :
    Ret Try.prog 52 false [.inl (.ints .i64 xs), .inr [.b s0, .ints .u32 x0, .b s1, .ints .u32 x1, .b s2, .ints .u32 x2, .b g0, .b g1, .b g2], .inl (.ints .i64 w), .inl (.i .i64 most)] (.t [.inl (.ints .i64 []), .inr [.i .i64 (slF (prt s0 x0 g0) (prt s1 x1 g1) (prt s2 x2 g2) g2 x2.length), .i .i64 (-1)]]) := by
  (refine q_H Try.func52 (fun F => ?_); simp only [q_z,q_y,Try.ntmps52,Try.results52])
  repeat' (first|(with_reducible first|apply q_a|apply q_b|apply q_c|apply q_d|apply q_e|apply q_f|apply q_g|apply q_h|apply q_i|apply q_j|apply q_k|apply q_m|apply q_n|apply q_o|apply q_p|refine q_l ?_)|((with_reducible first|refine q_q sbt_ok fun K hK=>?_|refine q_r sbt_ok fun K hK=>?_);simp (maxSteps:=2000000) only [go_sem,↓reduceIte,reduceCtorEq,Nat.reduceLeDiff,Nat.reduceLT,Nat.reduceBEq,Nat.reduceAdd,hF];(repeat1' with_reducible first|apply And.intro|(intro _;try exact q_v)|(refine hK _ ?_;clear hK K))<;>(try (clear hK K;exact q_u)))|(with_reducible refine q_s ?_;(first|apply q_J|apply q_K|apply q_L|apply q_M|apply q_N|apply q_O)<;>try (intro _;try exact q_v))|with_reducible refine q_t ?_)
  all_goals first | contradiction | exact q_B [.inl (some (.ints .i64 [])), .inr [none, none]] rfl rfl
theorem take_drop3 (xs w : List Int) (a b : Nat) : [xs.take a, w, xs.drop b].flatten = xs.take a ++ (w ++ xs.drop b) := by simp
def putO (xs w : List Int) (most st sp : Int) (c : Nat) : List (C ⊕ List C) :=
  if sp ≠ 1 ∧ w.length ≠ c then [.inl (.ints .i64 []), .inr [.i .i64 9, .i .i64 (-3)]]
  else if most < (xs.length : Int) - c + w.length then [.inl (.ints .i64 []), .inr [.i .i64 14, .i .i64 (-1)]]
  else if sp = 1 then [.inl (.ints .i64 (xs.take st.toNat ++ (w ++ xs.drop (st.toNat + c)))), .inr [.i .i64 0, .i .i64 0]]
  else [.inl (.ints .i64 (putL xs st sp w w.length)), .inr [.i .i64 0, .i .i64 0]]
set_option maxRecDepth 100000 in
set_option maxHeartbeats 6400000 in
theorem put_ok (xs w : List Int) (most : Int) (s0 s1 s2 g0 g1 g2 : Bool) (x0 x1 x2 : List Int) (l0 : x0.length ≤ 140737488355328) (l1 : x1.length ≤ 140737488355328) (l2 : x2.length ≤ 140737488355328) (b0 : InB 4294967296 x0) (b1 : InB 4294967296 x1) (b2 : InB 4294967296 x2)
    (hF : slF (prt s0 x0 g0) (prt s1 x1 g1) (prt s2 x2 g2) g2 x2.length = 0) (hl : xs.length ≤ 4000) (hw : w.length ≤ 2097152) (st sp : Int) (c : Nat) (hst : rSt s0 x0 g0 xs.length (rSp s2 x2 g2) = st) (hsp : rSp s2 x2 g2 = sp)
    (hc : slCnt (rSt s0 x0 g0 xs.length (rSp s2 x2 g2)) (rSo s1 x1 g1 xs.length (rSp s2 x2 g2)) (rSp s2 x2 g2) = c) :
    Ret Try.prog 52 false [.inl (.ints .i64 xs), .inr [.b s0, .ints .u32 x0, .b s1, .ints .u32 x1, .b s2, .ints .u32 x2, .b g0, .b g1, .b g2], .inl (.ints .i64 w), .inl (.i .i64 most)] (.t (putO xs w most st sp c)) := by
  obtain ⟨r1, r2, r3, r4, r5, r6, r7⟩ := r_facts (s0 := s0) (s1 := s1) (g0 := g0) (g1 := g1) (x0 := x0) (x1 := x1) b2 hF (n := xs.length) (by omega)
  have r6 := r6 _ rfl
  rw [hc] at r5 r6
  rw [hst, hsp] at r5
  rw [hst] at r3 r7
  rw [hsp] at r1 r2 r7
  have hc' := hc
  rw [hsp] at hst hc'
  rw [hst] at hc'
  unfold putO
  by_cases h1 : sp ≠ 1 ∧ w.length ≠ c
  · rw [if_pos h1]
    obtain ⟨h1a, h1b⟩ := h1
    (refine q_H Try.func52 (fun F => ?_); simp only [q_z,q_y,Try.ntmps52,Try.results52])
    repeat' (first|(with_reducible first|apply q_a|apply q_b|apply q_c|apply q_d|apply q_e|apply q_f|apply q_g|apply q_h|apply q_i|apply q_j|apply q_k|apply q_m|apply q_n|apply q_o|apply q_p|refine q_l ?_)|((with_reducible first|refine q_q sbt_ok fun K hK=>?_|refine q_r sbt_ok fun K hK=>?_);simp (maxSteps:=2000000) only [go_sem,↓reduceIte,reduceCtorEq,Nat.reduceLeDiff,Nat.reduceLT,Nat.reduceBEq,Nat.reduceAdd,hF, hsp, hst, hc'];(repeat1' with_reducible first|apply And.intro|(intro _;try exact q_v)|(refine hK _ ?_;clear hK K))<;>(try (clear hK K;exact q_u)))|(with_reducible refine q_s ?_;(first|apply q_J|apply q_K|apply q_L|apply q_M|apply q_N|apply q_O)<;>try (intro _;try exact q_v))|with_reducible refine q_t ?_)
    all_goals first | omega | exact q_B [.inl (some (.ints .i64 [])), .inr [none, none]] rfl rfl
  rw [if_neg h1]
  by_cases h2 : most < (xs.length : Int) - c + w.length
  · rw [if_pos h2]
    (refine q_H Try.func52 (fun F => ?_); simp only [q_z,q_y,Try.ntmps52,Try.results52])
    repeat' (first|(with_reducible first|apply q_a|apply q_b|apply q_c|apply q_d|apply q_e|apply q_f|apply q_g|apply q_h|apply q_i|apply q_j|apply q_k|apply q_m|apply q_n|apply q_o|apply q_p|refine q_l ?_)|((with_reducible first|refine q_q sbt_ok fun K hK=>?_|refine q_r sbt_ok fun K hK=>?_);simp (maxSteps:=2000000) only [go_sem,↓reduceIte,reduceCtorEq,Nat.reduceLeDiff,Nat.reduceLT,Nat.reduceBEq,Nat.reduceAdd,hF, hsp, hst, hc'];(repeat1' with_reducible first|apply And.intro|(intro _;try exact q_v)|(refine hK _ ?_;clear hK K))<;>(try (clear hK K;exact q_u)))|(with_reducible refine q_s ?_;(first|apply q_J|apply q_K|apply q_L|apply q_M|apply q_N|apply q_O)<;>try (intro _;try exact q_v))|with_reducible refine q_t ?_)
    all_goals first | omega | exact q_B [.inl (some (.ints .i64 [])), .inr [none, none]] rfl rfl
  rw [if_neg h2]
  by_cases h3 : sp = 1
  · rw [if_pos h3]
    subst h3
    have r7 := r7 rfl
    have r8 : st + c ≤ xs.length := by
      rcases Nat.eq_zero_or_pos c with h | h
      · omega
      · have := r5 (c - 1) (by omega)
        omega
    obtain ⟨a, ha⟩ : ∃ a : Nat, st = a := ⟨st.toNat, by omega⟩
    subst ha
    have e1 : ((a : Int) + (c : Int)).toNat = a + c := by omega
    have lt : (xs.take a).length ≤ 4000 := by rw [List.length_take]; omega
    have ld : (xs.drop (a + c)).length ≤ 4000 := by rw [List.length_drop]; omega
    have lf : [xs.take a, w, xs.drop (a + c)].flatten.length ≤ 4194304 := by rw [take_drop3, List.length_append, List.length_append]; omega
    have e2 := take_drop3 xs w a (a + c)
    (refine q_H Try.func52 (fun F => ?_); simp only [q_z,q_y,Try.ntmps52,Try.results52])
    repeat' (first|(with_reducible first|apply q_a|apply q_b|apply q_c|apply q_d|apply q_e|apply q_f|apply q_g|apply q_h|apply q_i|apply q_j|apply q_k|apply q_m|apply q_n|apply q_o|apply q_p|refine q_l ?_)|((with_reducible first|refine q_q sbt_ok fun K hK=>?_|refine q_r sbt_ok fun K hK=>?_);simp (maxSteps:=2000000) only [go_sem,↓reduceIte,reduceCtorEq,Nat.reduceLeDiff,Nat.reduceLT,Nat.reduceBEq,Nat.reduceAdd,hF, hsp, hst, hc', e1, List.take_length, List.drop_zero, unL];(repeat1' with_reducible first|apply And.intro|(intro _;try exact q_v)|(refine hK _ ?_;clear hK K))<;>(try (clear hK K;exact q_u)))|(with_reducible refine q_s ?_;(first|apply q_J|apply q_K|apply q_L|apply q_M|apply q_N|apply q_O)<;>try (intro _;try exact q_v))|with_reducible refine q_t ?_)
    all_goals first | omega | exact q_B [.inl (some (.ints .i64 [])), .inr [none, none]] rfl (by rw [e2]; rfl) | exact q_A (by rw [e2]; rfl)
  · rw [if_neg h3]
    have hwc : w.length = c := by omega
    (refine q_H Try.func52 (fun F => ?_); simp only [q_z,q_y,Try.ntmps52,Try.results52])
    repeat' (first|(with_reducible first|apply q_a|apply q_b|apply q_c|apply q_d|apply q_e|apply q_f|apply q_g|apply q_h|apply q_i|apply q_j|apply q_k|apply q_m|apply q_n|apply q_o|apply q_p|refine q_l ?_)|((with_reducible first|refine q_q sbt_ok fun K hK=>?_|refine q_r sbt_ok fun K hK=>?_);simp (maxSteps:=2000000) only [go_sem,↓reduceIte,reduceCtorEq,Nat.reduceLeDiff,Nat.reduceLT,Nat.reduceBEq,Nat.reduceAdd,hF, hsp, hst, hc'];(repeat1' with_reducible first|apply And.intro|(intro _;try exact q_v)|(refine hK _ ?_;clear hK K))<;>(try (clear hK K;exact q_u)))|(with_reducible refine q_s ?_;(first|apply q_J|apply q_K|apply q_L|apply q_M|apply q_N|apply q_O)<;>try (intro _;try exact q_v))|with_reducible refine q_t ?_)
    all_goals try omega
    refine q_G (ι := { k : Nat // k ≤ c }) (fun k => ⟨87, [(9, .bx 1 0), (10, .c (.i .i64 st)), (11, .c (.i .i64 sp)), (14, .own 3 0), (69, .c (.ints .i64 w)), (70, .c (.i .i64 c)), (71, .c (.i .i64 (k.1 : Nat)))], ⟨[(1, [.c (.i .i64 0), .c (.i .i64 0)])], [(3, ⟨0, 3, 1, .ints .i64 (putL xs st sp w k.1)⟩)], []⟩, 4⟩) (fun k => c - k.1) ⟨0, by omega⟩ ?_ ?_
    · rw [hwc]
      exact q_D
    rintro ⟨k, k1⟩
    simp only at k1 ⊢
    have tl := putL_len xs st sp w k
    rcases Nat.lt_or_ge k c with hk | hk
    · have hr := r5 k hk
      repeat' (first|(with_reducible first|apply q_a|apply q_b|apply q_c|apply q_d|apply q_e|apply q_f|apply q_g|apply q_h|apply q_i|apply q_j|apply q_k|apply q_m|apply q_n|apply q_o|apply q_p|refine q_l ?_)|((with_reducible first|refine q_q sbt_ok fun K hK=>?_|refine q_r sbt_ok fun K hK=>?_);simp (maxSteps:=2000000) only [go_sem,↓reduceIte,reduceCtorEq,Nat.reduceLeDiff,Nat.reduceLT,Nat.reduceBEq,Nat.reduceAdd,tl];(repeat1' with_reducible first|apply And.intro|(intro _;try exact q_v)|(refine hK _ ?_;clear hK K))<;>(try (clear hK K;exact q_u)))|(with_reducible refine q_s ?_;(first|apply q_J|apply q_K|apply q_L|apply q_M|apply q_N|apply q_O)<;>try (intro _;try exact q_v))|with_reducible refine q_t ?_)
      all_goals try omega
      refine q_F ⟨k + 1, hk⟩ ?_ (by simp only; omega)
      simp only [putL]
      exact q_D
    · have hk' : k = c := by omega
      subst hk'
      repeat' (first|(with_reducible first|apply q_a|apply q_b|apply q_c|apply q_d|apply q_e|apply q_f|apply q_g|apply q_h|apply q_i|apply q_j|apply q_k|apply q_m|apply q_n|apply q_o|apply q_p|refine q_l ?_)|((with_reducible first|refine q_q sbt_ok fun K hK=>?_|refine q_r sbt_ok fun K hK=>?_);simp (maxSteps:=2000000) only [go_sem,↓reduceIte,reduceCtorEq,Nat.reduceLeDiff,Nat.reduceLT,Nat.reduceBEq,Nat.reduceAdd,tl];(repeat1' with_reducible first|apply And.intro|(intro _;try exact q_v)|(refine hK _ ?_;clear hK K))<;>(try (clear hK K;exact q_u)))|(with_reducible refine q_s ?_;(first|apply q_J|apply q_K|apply q_L|apply q_M|apply q_N|apply q_O)<;>try (intro _;try exact q_v))|with_reducible refine q_t ?_)
      all_goals first | omega | exact q_B [.inl (some (.ints .i64 [])), .inr [none, none]] rfl (by rw [hwc]; rfl) | exact q_A (by rw [hwc]; rfl)
def putCT : CT := mkCT [.inl (some (.ints .i64 [])), .inr [none, some (.ints .u32 []), none, some (.ints .u32 []), none, some (.ints .u32 []), none, none, none], .inl (some (.ints .i64 []))] false fun l K => match l with
  | [.inl (.ints .i64 xs), .inr [.b s0, .ints .u32 x0, .b s1, .ints .u32 x1, .b s2, .ints .u32 x2, .b g0, .b g1, .b g2], .inl (.ints .i64 w), .inl (.i .i64 most)] => ((xs.length ≤ 4000 ∧ w.length ≤ 2097152) ∧ (x0.length ≤ 140737488355328 ∧ x1.length ≤ 140737488355328 ∧ x2.length ≤ 140737488355328) ∧ InB 4294967296 x0 ∧ InB 4294967296 x1 ∧ InB 4294967296 x2) ∧
      (slF (prt s0 x0 g0) (prt s1 x1 g1) (prt s2 x2 g2) g2 x2.length ≠ 0 → K (.t [.inl (.ints .i64 []), .inr [.i .i64 (slF (prt s0 x0 g0) (prt s1 x1 g1) (prt s2 x2 g2) g2 x2.length), .i .i64 (-1)]])) ∧
      (slF (prt s0 x0 g0) (prt s1 x1 g1) (prt s2 x2 g2) g2 x2.length = 0 → K (.t (putO xs w most (rSt s0 x0 g0 xs.length (rSp s2 x2 g2)) (rSp s2 x2 g2) (slCnt (rSt s0 x0 g0 xs.length (rSp s2 x2 g2)) (rSo s1 x1 g1 xs.length (rSp s2 x2 g2)) (rSp s2 x2 g2)))))
  | _ => False
def sv2 : Cfg := addT 52 putCT sv1
theorem sv2_ok : TblOk Try.prog sv2 := q_I sv1_ok Try.func52 fun l K h => by
  split at h
  · rename_i xs s0 x0 s1 x1 s2 x2 g0 g1 g2 w most
    obtain ⟨⟨⟨hl, hw⟩, ⟨l0, l1, l2⟩, b0, b1, b2⟩, hbad, hok⟩ := h
    by_cases hF : slF (prt s0 x0 g0) (prt s1 x1 g1) (prt s2 x2 g2) g2 x2.length = 0
    · exact ⟨_, put_ok xs w most s0 s1 s2 g0 g1 g2 x0 x1 x2 l0 l1 l2 b0 b1 b2 hF hl hw _ _ _ rfl rfl rfl, hok hF⟩
    · exact ⟨_, put_bad xs w most s0 s1 s2 g0 g1 g2 x0 x1 x2 l0 l1 l2 b0 b1 b2 hF, hbad hF⟩
  · exact h.elim
attribute [go_sem] putCT
end Go.Proofs.Ytlefdhkjbbdijaa

namespace Go.Proofs.Ytlefdhkjbbdijaa
set_option linter.unusedSimpArgs false
set_option linter.unusedVariables false
open Go.Abs Go.Proofs.NatL

def Nrm (s : Bool) (xs : List Int) : Prop := InB 4294967296 xs ∧ Trd xs ∧ (xs = [] → s = false)
theorem Nrm_eq {s : Bool} {xs : List Int} (h : Nrm s xs) : s = decide (sv 4294967296 s xs < 0) ∧ xs = dg 4294967296 (sv 4294967296 s xs).natAbs := by
  obtain ⟨bx, ht, h0⟩ := h
  rw [sv_abs]
  have hd := dg_V 4294967296 (by omega) xs bx ht
  refine ⟨?_, hd.symm⟩
  cases s
  · rw [decide_eq_false]; simp [sv]
  · have hne : xs ≠ [] := fun e => by have := h0 e; cases this
    have : 0 < V 4294967296 xs := by
      rcases Nat.eq_zero_or_pos (V 4294967296 xs) with h | h
      · rw [h, dg_zero] at hd; exact absurd hd.symm hne
      · exact h
    rw [decide_eq_true]; simp [sv]; omega
theorem Nrm_g (z : Int) : Nrm (decide (z < 0)) (dg 4294967296 z.natAbs) = True := by
  refine eq_true ⟨InB_dg _ (by omega) _, dg_trd _ (by omega) _, fun h => ?_⟩
  have := dg_len_pos 4294967296 z.natAbs (by omega)
  rw [h] at this
  simp only [List.length_nil, Nat.lt_irrefl, false_iff] at this
  exact decide_eq_false (by omega)
theorem Nrm_0 : Nrm false [] = True := eq_true ⟨InB_nil _, .inl rfl, fun _ => rfl⟩
theorem okZ_Nrm {s : Bool} {xs : List Int} (h : okZ s xs = true) (bx : InB 4294967296 xs) : Nrm s xs :=
  ⟨bx, okZ_trd h, fun e => by subst e; cases s; rfl; simp [okZ] at h⟩
abbrev gR (z : Int) : List C := [.b (decide (z < 0)), .ints .i64 (dg 65536 z.natAbs)]
abbrev gRz (z : Int) (b : Bool) : List C := [.b (sgz z b), .ints .i64 (dg 65536 z.natAbs)]
abbrev nR : Option C ⊕ List (Option C) := .inr [none, some (.ints .i64 [])]

def jt0 : Cfg := addT 32 atCT it5
theorem jt0_ok : TblOk Try.prog jt0 := q_I it5_ok Try.func32 fun l K h => by
  split at h
  · exact ⟨_, (At_ret _ _).plain rfl, h⟩
  · exact h.elim
set_option maxHeartbeats 800000 in
theorem intOk_ret (s : Bool) (xs : List Int) (hx : xs.length ≤ 140737488355328) : Ret Try.prog 60 false [.inr [.b s, .ints .u32 xs]] (.c (.b (okZ s xs))) := by
  (refine q_H Try.func60 (fun F => ?_); simp only [q_z,q_y,Try.ntmps60,Try.results60])
  repeat' (first|(with_reducible first|apply q_a|apply q_b|apply q_c|apply q_d|apply q_e|apply q_f|apply q_g|apply q_h|apply q_i|apply q_j|apply q_k|apply q_m|apply q_n|apply q_o|apply q_p|refine q_l ?_)|((with_reducible first|refine q_q cf0_ok fun K hK=>?_|refine q_r cf0_ok fun K hK=>?_);simp (maxSteps:=2000000) only [go_sem,↓reduceIte,reduceCtorEq,Nat.reduceLeDiff,Nat.reduceLT,Nat.reduceBEq,Nat.reduceAdd];(repeat1' with_reducible first|apply And.intro|intro _|(refine hK _ ?_;clear hK K))<;>(try (clear hK K;exact q_u)))|(with_reducible refine q_s ?_;(first|apply q_J|apply q_K|apply q_L|apply q_M|apply q_N|apply q_O)<;>try intro _)|with_reducible refine q_t ?_)
  all_goals refine q_A ?_
  all_goals simp only [resAV, q_y, AV.c.injEq, C.b.injEq]
  all_goals refine okZ_iff s xs _ ?_
  all_goals first | (simp_all; done) | (simp_all; omega)
def jt1 : Cfg := addT 60 ivalidCT jt0
theorem jt1_ok : TblOk Try.prog jt1 := q_I jt0_ok Try.func60 fun l K h => by
  split at h
  · exact ⟨_, (intOk_ret _ _ h.1).plain rfl, h.2⟩
  · exact h.elim
def jb1 : Cfg := listT [(32, atCT), (60, ivalidCT)] [30]
theorem jb1_ok : TblOk Try.prog jb1 := listT_ok (big := jt1) jt1_ok ⟨rfl, rfl, trivial⟩
attribute [go_sem] jb1
set_option maxHeartbeats 1600000 in
theorem faults_ret (l : List (Bool × List Int)) (hn : l.length ≤ 1000) (hl : allL 140737488355328 l) :
    Ret Try.prog 46 false [.inl (.sl 2 (l.map rowI))] (.g [.i .i64 (fbC l), .i .i64 (fbX 0 l)]) := by
  (refine q_H Try.func46 (fun F => ?_); simp only [q_z,q_y,Try.ntmps46,Try.results46])
  repeat' (first|(with_reducible first|apply q_a|apply q_b|apply q_c|apply q_d|apply q_e|apply q_f|apply q_g|apply q_h|apply q_i|apply q_j|apply q_k|apply q_m|apply q_n|apply q_o|apply q_p|refine q_l ?_)|((with_reducible first|refine q_q jb1_ok fun K hK=>?_|refine q_r jb1_ok fun K hK=>?_);simp (maxSteps:=2000000) only [go_sem,↓reduceIte,reduceCtorEq,Nat.reduceLeDiff,Nat.reduceLT,Nat.reduceBEq,Nat.reduceAdd,List.length_map];(repeat1' with_reducible first|apply And.intro|intro _|(refine hK _ ?_;clear hK K))<;>(try (clear hK K;exact q_u)))|(with_reducible refine q_s ?_;(first|apply q_J|apply q_K|apply q_L|apply q_M|apply q_N|apply q_O)<;>try intro _)|with_reducible refine q_t ?_)
  refine q_G (ι := { i : Nat // i ≤ l.length ∧ fbC (l.drop i) = fbC l ∧ fbX i (l.drop i) = fbX 0 l }) (fun i => ⟨20, [(0, .c (.sl 2 (l.map rowI))), (2, .bx 0 0), (3, .c (.i .i64 (i.1 : Nat)))], ⟨[(0, [.c (.i .i64 0), .c (.i .i64 0)])], [], []⟩, 1⟩) (fun i => l.length - i.1) ⟨0, by simp, rfl, rfl⟩ ?_ ?_
  · exact q_D
  rintro ⟨i, g1, g2, g3⟩
  simp only at g1 g2 g3 ⊢
  have hlen := allL_get (i := i) hl
  rcases Nat.lt_or_ge i l.length with hi | hi
  · have hr := rowI_get l i hi
    rw [drop_getD l i hi, fbC] at g2
    rw [drop_getD l i hi, fbX] at g3
    cases ho : okZ (l.getD i (false, [])).1 (l.getD i (false, [])).2
    · simp only [ho, Bool.false_eq_true, if_false] at g2 g3
      repeat' (first|(with_reducible first|apply q_a|apply q_b|apply q_c|apply q_d|apply q_e|apply q_f|apply q_g|apply q_h|apply q_i|apply q_j|apply q_k|apply q_m|apply q_n|apply q_o|apply q_p|refine q_l ?_)|((with_reducible first|refine q_q jb1_ok fun K hK=>?_|refine q_r jb1_ok fun K hK=>?_);simp (maxSteps:=2000000) only [go_sem,↓reduceIte,reduceCtorEq,Nat.reduceLeDiff,Nat.reduceLT,Nat.reduceBEq,Nat.reduceAdd,hr, ho, List.length_map];(repeat1' with_reducible first|apply And.intro|(intro _;try exact q_v)|(refine hK _ ?_;clear hK K))<;>(try (clear hK K;exact q_u)))|(with_reducible refine q_s ?_;(first|apply q_J|apply q_K|apply q_L|apply q_M|apply q_N|apply q_O)<;>try (intro _;try exact q_v))|with_reducible refine q_t ?_)
      exact q_A (by rw [← g2, ← g3]; rfl)
    · simp only [ho, if_true] at g2 g3
      repeat' (first|(with_reducible first|apply q_a|apply q_b|apply q_c|apply q_d|apply q_e|apply q_f|apply q_g|apply q_h|apply q_i|apply q_j|apply q_k|apply q_m|apply q_n|apply q_o|apply q_p|refine q_l ?_)|((with_reducible first|refine q_q jb1_ok fun K hK=>?_|refine q_r jb1_ok fun K hK=>?_);simp (maxSteps:=2000000) only [go_sem,↓reduceIte,reduceCtorEq,Nat.reduceLeDiff,Nat.reduceLT,Nat.reduceBEq,Nat.reduceAdd,hr, ho, List.length_map];(repeat1' with_reducible first|apply And.intro|(intro _;try exact q_v)|(refine hK _ ?_;clear hK K))<;>(try (clear hK K;exact q_u)))|(with_reducible refine q_s ?_;(first|apply q_J|apply q_K|apply q_L|apply q_M|apply q_N|apply q_O)<;>try (intro _;try exact q_v))|with_reducible refine q_t ?_)
      refine q_F ⟨i + 1, hi, g2, by push_cast; exact g3⟩ ?_ (by simp only; omega)
      exact q_D
  · have hi' : i = l.length := by omega
    subst hi'
    rw [List.drop_length] at g2 g3
    repeat' (first|(with_reducible first|apply q_a|apply q_b|apply q_c|apply q_d|apply q_e|apply q_f|apply q_g|apply q_h|apply q_i|apply q_j|apply q_k|apply q_m|apply q_n|apply q_o|apply q_p|refine q_l ?_)|((with_reducible first|refine q_q jb1_ok fun K hK=>?_|refine q_r jb1_ok fun K hK=>?_);simp (maxSteps:=2000000) only [go_sem,↓reduceIte,reduceCtorEq,Nat.reduceLeDiff,Nat.reduceLT,Nat.reduceBEq,Nat.reduceAdd,List.length_map];(repeat1' with_reducible first|apply And.intro|(intro _;try exact q_v)|(refine hK _ ?_;clear hK K))<;>(try (clear hK K;exact q_u)))|(with_reducible refine q_s ?_;(first|apply q_J|apply q_K|apply q_L|apply q_M|apply q_N|apply q_O)<;>try (intro _;try exact q_v))|with_reducible refine q_t ?_)
    exact q_A (by rw [← g2, ← g3]; rfl)
def jt2 : Cfg := addT 46 icheckCT jt1
theorem jt2_ok : TblOk Try.prog jt2 := q_I jt1_ok Try.func46 fun l K h => by
  split at h
  · split at h
    · rename_i l hl
      rw [unI_some hl]
      exact ⟨_, (faults_ret l h.1.1 h.1.2).plain rfl, h.2⟩
    · exact h.elim
  · exact h.elim
def jb2 : Cfg := listT [(48, ofCT)] [30]
theorem jb2_ok : TblOk Try.prog jb2 := listT_ok (big := jt2) jt2_ok ⟨rfl, trivial⟩
attribute [go_sem] jb2
set_option maxHeartbeats 800000 in
theorem intOf_ret (s : Bool) (xs : List Int) (hx : xs.length ≤ 1048576) (bx : InB 4294967296 xs) : Ret Try.prog 47 false [.inr [.b s, .ints .u32 xs]] (.g [.b s, .ints .i64 (dg 65536 (V 4294967296 xs))]) := by
  (refine q_H Try.func47 (fun F => ?_); simp only [q_z,q_y,Try.ntmps47,Try.results47])
  repeat' (first|(with_reducible first|apply q_a|apply q_b|apply q_c|apply q_d|apply q_e|apply q_f|apply q_g|apply q_h|apply q_i|apply q_j|apply q_k|apply q_m|apply q_n|apply q_o|apply q_p|refine q_l ?_)|((with_reducible first|refine q_q jb2_ok fun K hK=>?_|refine q_r jb2_ok fun K hK=>?_);simp (maxSteps:=2000000) only [go_sem,↓reduceIte,reduceCtorEq,Nat.reduceLeDiff,Nat.reduceLT,Nat.reduceBEq,Nat.reduceAdd];(repeat1' with_reducible first|apply And.intro|intro _|(refine hK _ ?_;clear hK K))<;>(try (clear hK K;exact q_u)))|(with_reducible refine q_s ?_;(first|apply q_J|apply q_K|apply q_L|apply q_M|apply q_N|apply q_O)<;>try intro _)|with_reducible refine q_t ?_)
  all_goals first | omega | exact q_A rfl
def intOfCT : CT := mkCT [nP] false fun l K => match l with
  | [.inr [.b s, .ints .u32 xs]] => (xs.length ≤ 1048576 ∧ InB 4294967296 xs) ∧ K (.g [.b s, .ints .i64 (dg 65536 (V 4294967296 xs))])
  | _ => False
def jt3 : Cfg := addT 47 intOfCT jt2
theorem jt3_ok : TblOk Try.prog jt3 := q_I jt2_ok Try.func47 fun l K h => by
  split at h
  · exact ⟨_, intOf_ret _ _ h.1.1 h.1.2, h.2⟩
  · exact h.elim
attribute [go_sem] intOfCT Nrm_g Nrm_0 gR gRz
def jb3 : Cfg := listT [(80, limbsCT), (79, sameCT)] [30]
theorem jb3_ok : TblOk Try.prog jb3 := listT_ok (big := jt3) jt3_ok ⟨rfl, rfl, trivial⟩
attribute [go_sem] jb3
set_option maxHeartbeats 1600000 in
theorem sameInt_ret (s t : Bool) (xs ys : List Int) (hn : Nrm s xs) (hx : xs.length ≤ 16777216) (by' : InB 65536 ys) (ty : Trd ys) (hy : ys.length ≤ 4194304) :
    Ret Try.prog 30 false [.inr [.b s, .ints .u32 xs], .inr [.b t, .ints .i64 ys]] (.c (.b (decide (sv 4294967296 s xs = sv 65536 t ys)))) := by
  obtain ⟨h1, h2⟩ := Nrm_eq hn
  have hd := dg_V 65536 (by omega) ys by' ty
  have hp := dg_len_pos 65536 (V 65536 ys) (by omega)
  rw [hd] at hp
  have hlim : (dg 4294967296 (V 65536 ys)).length ≤ 16777216 := Nat.le_trans (dg_half_le _ _ (by rw [hd]; exact hy)) (by omega)
  generalize ha : sv 4294967296 s xs = a at *
  have key : decide (s = (t && decide (0 < (ys.length : Int))) ∧ xs = dg 4294967296 (V 65536 ys)) = decide (a = sv 65536 t ys) := by
    congr 1
    refine propext ⟨fun ⟨k1, k2⟩ => ?_, fun k => ?_⟩
    · rw [h2] at k2
      have k3 := congrArg (V 4294967296) k2
      rw [V32, V32] at k3
      rw [h1] at k1
      unfold sv
      rw [← k3]
      rcases Nat.eq_zero_or_pos ys.length with h0 | h0
      · have : a.natAbs = 0 := by
          rw [k3]
          rcases Nat.eq_zero_or_pos (V 65536 ys) with h | h
          · exact h
          · have := hp.2 h; omega
        rw [this]; simp; omega
      · have h0' : (0 : Int) < ys.length := by omega
        simp only [decide_eq_true h0', Bool.and_true] at k1
        subst k1
        by_cases h : a < 0
        · rw [if_pos (by simpa using h)]; omega
        · rw [if_neg (by simpa using h)]; omega
    · subst k
      rw [sv_abs] at h2
      refine ⟨?_, h2⟩
      rw [h1]
      rcases Nat.eq_zero_or_pos ys.length with h0 | h0
      · have h0' : ¬ (0 : Int) < ys.length := by omega
        have : ys = [] := List.eq_nil_of_length_eq_zero h0
        subst this
        rw [sv0]; simp
      · have h0' : (0 : Int) < ys.length := by omega
        have hv := hp.1 h0
        rw [decide_eq_true h0', Bool.and_true]
        cases t
        · rw [svf]; exact decide_eq_false (by omega)
        · rw [svt]; exact decide_eq_true (by omega)
  rw [← key]
  cases t
  all_goals
    (refine q_H Try.func30 (fun F => ?_); simp only [q_z,q_y,Try.ntmps30,Try.results30])
    repeat' (first|(with_reducible first|apply q_a|apply q_b|apply q_c|apply q_d|apply q_e|apply q_f|apply q_g|apply q_h|apply q_i|apply q_j|apply q_k|apply q_m|apply q_n|apply q_o|apply q_p|refine q_l ?_)|((with_reducible first|refine q_q jb3_ok fun K hK=>?_|refine q_r jb3_ok fun K hK=>?_);simp (maxSteps:=2000000) only [go_sem,↓reduceIte,reduceCtorEq,Nat.reduceLeDiff,Nat.reduceLT,Nat.reduceBEq,Nat.reduceAdd,hd];(repeat1' with_reducible first|apply And.intro|(intro _;try exact q_v)|(refine hK _ ?_;clear hK K))<;>(try (clear hK K;exact q_u)))|(with_reducible refine q_s ?_;(first|apply q_J|apply q_K|apply q_L|apply q_M|apply q_N|apply q_O)<;>try (intro _;try exact q_v))|with_reducible refine q_t ?_)
  all_goals (refine q_A ?_; simp only [resAV, q_y, AV.c.injEq, C.b.injEq]; simp_all)

end Go.Proofs.Ytlefdhkjbbdijaa
