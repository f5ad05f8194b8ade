import Derived.Test.YtgogdabniebplaaS3
import Derived.Test.YtgogdabniebplaaS5
import Derived.Test.YtgogdabniebplaaP6
namespace Go.Proofs.Ytgogdabniebplaa
set_option linter.unusedSimpArgs false
set_option linter.unusedVariables false
open Go.Abs Go.Proofs.NatL

def takeL (xs : List Int) (st sp : Int) (c : Nat) : List Int := (slPos st sp c).map fun p => xs.getD p.toNat 0
theorem takeL_succ (xs : List Int) (st sp : Int) (c : Nat) : takeL xs st sp (c + 1) = takeL xs st sp c ++ [xs.getD (st + (c : Int) * sp).toNat 0] := by simp [takeL, slPos_succ]
theorem takeL_len (xs : List Int) (st sp : Int) (c : Nat) : (takeL xs st sp c).length = c := by simp [takeL, slPos_len]
def putL (xs : List Int) (st sp : Int) (w : List Int) : Nat → List Int
  | 0 => xs
  | c + 1 => (putL xs st sp w c).set (st + (c : Int) * sp).toNat (w.getD c 0)
theorem putL_len (xs : List Int) (st sp : Int) (w : List Int) (c : Nat) : (putL xs st sp w c).length = xs.length := by
  induction c with
  | zero => rfl
  | succ c ih => rw [putL, List.length_set, ih]
def dropL (xs : List Int) (ps : List Int) : Nat → List Int
  | 0 => []
  | i + 1 => if (i : Int) ∈ ps then dropL xs ps i else dropL xs ps i ++ [xs.getD i 0]
theorem dropL_le (xs ps : List Int) (i : Nat) : (dropL xs ps i).length ≤ i := by
  induction i with
  | zero => simp [dropL]
  | succ i ih => rw [dropL]; split
                 · omega
                 · rw [List.length_append]; simp; omega
def sbt : Cfg := listT [(19, resCT), (94, atCT), (100, concatCT), (101, cloneICT)] [28]
theorem sbt_ok : TblOk Try.prog sbt := listE_ok (by simp only [List.mem_singleton, forall_eq]; exact flt) ⟨⟨su8, su8_ok, rfl⟩, ⟨su2, su2_ok, rfl⟩, ⟨so3, so3_ok, rfl⟩, ⟨so3, so3_ok, rfl⟩, trivial⟩
attribute [go_sem] sbt
def sF9 (s0 s1 s2 g0 g1 g2 : Bool) (x0 x1 x2 : List Int) : Int := slF (prt s0 x0 g0) (prt s1 x1 g1) (prt s2 x2 g2) g2 x2.length
def sC9 (s0 s1 s2 g0 g1 g2 : Bool) (x0 x1 x2 : List Int) (n : Int) : Nat := slCnt (rSt s0 x0 g0 n (rSp s2 x2 g2)) (rSo s1 x1 g1 n (rSp s2 x2 g2)) (rSp s2 x2 g2)
set_option maxRecDepth 100000 in
set_option maxHeartbeats 3200000 in
theorem take_bad (xs : List Int) (s0 s1 s2 g0 g1 g2 : Bool) (x0 x1 x2 : List Int) (l0 : x0.length ≤ 140737488355328) (l1 : x1.length ≤ 140737488355328) (l2 : x2.length ≤ 140737488355328) (b0 : InB 4294967296 x0) (b1 : InB 4294967296 x1) (b2 : InB 4294967296 x2)
    (hF : slF (prt s0 x0 g0) (prt s1 x1 g1) (prt s2 x2 g2) g2 x2.length ≠ 0) :
    Ret Try.prog 27 false [.inl (.ints .i64 xs), .inr [.b s0, .ints .u32 x0, .b s1, .ints .u32 x1, .b s2, .ints .u32 x2, .b g0, .b g1, .b g2]]
      (.t [.inl (.ints .i64 []), .inr [.i .i64 (slF (prt s0 x0 g0) (prt s1 x1 g1) (prt s2 x2 g2) g2 x2.length), .i .i64 (-1)]]) := by
  (refine q_H Try.func27 (fun F => ?_); simp only [q_z,q_y,Try.ntmps27,Try.results27])
  repeat' (first|(with_reducible first|apply q_a|apply q_b|apply q_c|apply q_d|apply q_e|apply q_f|apply q_g|apply q_h|apply q_i|apply q_j|apply q_k|apply q_m|apply q_n|apply q_o|apply q_p|refine q_l ?_)|((with_reducible first|refine q_q sbt_ok fun K hK=>?_|refine q_r sbt_ok fun K hK=>?_);simp (maxSteps:=2000000) only [go_sem,↓reduceIte,reduceCtorEq,Nat.reduceLeDiff,Nat.reduceLT,Nat.reduceBEq,Nat.reduceAdd,hF];(repeat1' with_reducible first|apply And.intro|(intro _;try exact q_v)|(refine hK _ ?_;clear hK K))<;>(try (clear hK K;exact q_u)))|(with_reducible refine q_s ?_;(first|apply q_J|apply q_K|apply q_L|apply q_M|apply q_N|apply q_O)<;>try (intro _;try exact q_v))|with_reducible refine q_t ?_)
  all_goals first | contradiction | exact q_B [.inl (some (.ints .i64 [])), .inr [none, none]] rfl rfl
set_option maxRecDepth 100000 in
set_option maxHeartbeats 3200000 in
theorem take_ok (xs : List Int) (s0 s1 s2 g0 g1 g2 : Bool) (x0 x1 x2 : List Int) (l0 : x0.length ≤ 140737488355328) (l1 : x1.length ≤ 140737488355328) (l2 : x2.length ≤ 140737488355328) (b0 : InB 4294967296 x0) (b1 : InB 4294967296 x1) (b2 : InB 4294967296 x2)
    (hF : slF (prt s0 x0 g0) (prt s1 x1 g1) (prt s2 x2 g2) g2 x2.length = 0) (hl : xs.length ≤ 4000) (st sp : Int) (c : Nat) (hst : rSt s0 x0 g0 xs.length (rSp s2 x2 g2) = st) (hsp : rSp s2 x2 g2 = sp)
    (hc : slCnt (rSt s0 x0 g0 xs.length (rSp s2 x2 g2)) (rSo s1 x1 g1 xs.length (rSp s2 x2 g2)) (rSp s2 x2 g2) = c) :
    Ret Try.prog 27 false [.inl (.ints .i64 xs), .inr [.b s0, .ints .u32 x0, .b s1, .ints .u32 x1, .b s2, .ints .u32 x2, .b g0, .b g1, .b g2]]
      (.t [.inl (.ints .i64 (takeL xs st sp c)), .inr [.i .i64 0, .i .i64 0]]) := by
  obtain ⟨r1, r2, r3, r4, r5, r6, r7⟩ := r_facts (s0 := s0) (s1 := s1) (g0 := g0) (g1 := g1) (x0 := x0) (x1 := x1) b2 hF (n := xs.length) (by omega)
  have r6 := r6 _ rfl
  rw [hc] at r5 r6
  rw [hst, hsp] at r5
  rw [hst] at r3 r7
  rw [hsp] at r1 r2 r7
  have hc' := hc
  rw [hsp] at hst hc'
  rw [hst] at hc'
  (refine q_H Try.func27 (fun F => ?_); simp only [q_z,q_y,Try.ntmps27,Try.results27])
  repeat' (first|(with_reducible first|apply q_a|apply q_b|apply q_c|apply q_d|apply q_e|apply q_f|apply q_g|apply q_h|apply q_i|apply q_j|apply q_k|apply q_m|apply q_n|apply q_o|apply q_p|refine q_l ?_)|((with_reducible first|refine q_q sbt_ok fun K hK=>?_|refine q_r sbt_ok fun K hK=>?_);simp (maxSteps:=2000000) only [go_sem,↓reduceIte,reduceCtorEq,Nat.reduceLeDiff,Nat.reduceLT,Nat.reduceBEq,Nat.reduceAdd,hF, hsp, hst, hc'];(repeat1' with_reducible first|apply And.intro|(intro _;try exact q_v)|(refine hK _ ?_;clear hK K))<;>(try (clear hK K;exact q_u)))|(with_reducible refine q_s ?_;(first|apply q_J|apply q_K|apply q_L|apply q_M|apply q_N|apply q_O)<;>try (intro _;try exact q_v))|with_reducible refine q_t ?_)
  all_goals try omega
  refine q_G (ι := { k : Nat // k ≤ c }) (fun k => ⟨43, [(0, .c (.ints .i64 xs)), (5, .bx 1 0), (6, .c (.i .i64 st)), (7, .c (.i .i64 sp)), (10, .own 3 0), (25, .c (.i .i64 c)), (26, .c (.i .i64 (k.1 : Nat)))], ⟨[(1, [.c (.i .i64 0), .c (.i .i64 0)])], [(3, ⟨0, 3, 1, .ints .i64 (takeL xs st sp k.1)⟩)], []⟩, 4⟩) (fun k => c - k.1) ⟨0, by omega⟩ ?_ ?_
  · exact q_D
  rintro ⟨k, k1⟩
  simp only at k1 ⊢
  have tl := takeL_len xs st sp k
  rcases Nat.lt_or_ge k c with hk | hk
  · have hr := r5 k hk
    have ts := takeL_succ xs st sp k
    repeat' (first|(with_reducible first|apply q_a|apply q_b|apply q_c|apply q_d|apply q_e|apply q_f|apply q_g|apply q_h|apply q_i|apply q_j|apply q_k|apply q_m|apply q_n|apply q_o|apply q_p|refine q_l ?_)|((with_reducible first|refine q_q sbt_ok fun K hK=>?_|refine q_r sbt_ok fun K hK=>?_);simp (maxSteps:=2000000) only [go_sem,↓reduceIte,reduceCtorEq,Nat.reduceLeDiff,Nat.reduceLT,Nat.reduceBEq,Nat.reduceAdd,tl];(repeat1' with_reducible first|apply And.intro|(intro _;try exact q_v)|(refine hK _ ?_;clear hK K))<;>(try (clear hK K;exact q_u)))|(with_reducible refine q_s ?_;(first|apply q_J|apply q_K|apply q_L|apply q_M|apply q_N|apply q_O)<;>try (intro _;try exact q_v))|with_reducible refine q_t ?_)
    all_goals try omega
    refine q_F ⟨k + 1, hk⟩ ?_ (by simp only; omega)
    simp only [ts]
    exact q_D
  · have hk' : k = c := by omega
    subst hk'
    repeat' (first|(with_reducible first|apply q_a|apply q_b|apply q_c|apply q_d|apply q_e|apply q_f|apply q_g|apply q_h|apply q_i|apply q_j|apply q_k|apply q_m|apply q_n|apply q_o|apply q_p|refine q_l ?_)|((with_reducible first|refine q_q sbt_ok fun K hK=>?_|refine q_r sbt_ok fun K hK=>?_);simp (maxSteps:=2000000) only [go_sem,↓reduceIte,reduceCtorEq,Nat.reduceLeDiff,Nat.reduceLT,Nat.reduceBEq,Nat.reduceAdd,tl];(repeat1' with_reducible first|apply And.intro|(intro _;try exact q_v)|(refine hK _ ?_;clear hK K))<;>(try (clear hK K;exact q_u)))|(with_reducible refine q_s ?_;(first|apply q_J|apply q_K|apply q_L|apply q_M|apply q_N|apply q_O)<;>try (intro _;try exact q_v))|with_reducible refine q_t ?_)
    all_goals first | omega | exact q_B [.inl (some (.ints .i64 [])), .inr [none, none]] rfl rfl | exact q_A rfl
def takeCT : CT := mkCT [.inl (some (.ints .i64 [])), .inr [none, some (.ints .u32 []), none, some (.ints .u32 []), none, some (.ints .u32 []), none, none, none]] false fun l K => match l with
  | [.inl (.ints .i64 xs), .inr [.b s0, .ints .u32 x0, .b s1, .ints .u32 x1, .b s2, .ints .u32 x2, .b g0, .b g1, .b g2]] => (xs.length ≤ 4000 ∧ (x0.length ≤ 140737488355328 ∧ x1.length ≤ 140737488355328 ∧ x2.length ≤ 140737488355328) ∧ InB 4294967296 x0 ∧ InB 4294967296 x1 ∧ InB 4294967296 x2) ∧
      (slF (prt s0 x0 g0) (prt s1 x1 g1) (prt s2 x2 g2) g2 x2.length ≠ 0 → K (.t [.inl (.ints .i64 []), .inr [.i .i64 (slF (prt s0 x0 g0) (prt s1 x1 g1) (prt s2 x2 g2) g2 x2.length), .i .i64 (-1)]])) ∧
      (slF (prt s0 x0 g0) (prt s1 x1 g1) (prt s2 x2 g2) g2 x2.length = 0 → K (.t [.inl (.ints .i64 (takeL xs (rSt s0 x0 g0 xs.length (rSp s2 x2 g2)) (rSp s2 x2 g2) (slCnt (rSt s0 x0 g0 xs.length (rSp s2 x2 g2)) (rSo s1 x1 g1 xs.length (rSp s2 x2 g2)) (rSp s2 x2 g2)))), .inr [.i .i64 0, .i .i64 0]]))
  | _ => False
def sv1 : Cfg := addT 27 takeCT so3
theorem sv1_ok : TblOk Try.prog sv1 := q_I so3_ok Try.func27 fun l K h => by
  split at h
  · rename_i xs s0 x0 s1 x1 s2 x2 g0 g1 g2
    obtain ⟨⟨hl, ⟨l0, l1, l2⟩, b0, b1, b2⟩, hbad, hok⟩ := h
    by_cases hF : slF (prt s0 x0 g0) (prt s1 x1 g1) (prt s2 x2 g2) g2 x2.length = 0
    · exact ⟨_, take_ok xs s0 s1 s2 g0 g1 g2 x0 x1 x2 l0 l1 l2 b0 b1 b2 hF hl _ _ _ rfl rfl rfl, hok hF⟩
    · exact ⟨_, take_bad xs s0 s1 s2 g0 g1 g2 x0 x1 x2 l0 l1 l2 b0 b1 b2 hF, hbad hF⟩
  · exact h.elim
attribute [go_sem] takeCT
end Go.Proofs.Ytgogdabniebplaa
