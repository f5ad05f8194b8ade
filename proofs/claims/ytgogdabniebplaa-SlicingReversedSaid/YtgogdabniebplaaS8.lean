import Derived.Test.YtgogdabniebplaaS6
namespace Go.Proofs.Ytgogdabniebplaa
set_option linter.unusedSimpArgs false
set_option linter.unusedVariables false
open Go.Abs Go.Proofs.NatL

section
variable {cf : Cfg} {st : St}
theorem fz_lookup {t : TypeId} {x i : Operand} {ok : Bool} : fzFor cf st (.lookup t x i ok) = st := rfl
theorem fz_mapUpdate {t : TypeId} {x i y : Operand} : fzFor cf st (.mapUpdate t x i y) = st := rfl
theorem fz_makeMap {t : TypeId} {r : Option Operand} : fzFor cf st (.makeMap t r) = st := rfl
end
attribute [go_sem] fz_lookup fz_mapUpdate fz_makeMap
set_option maxRecDepth 100000 in
set_option maxHeartbeats 3200000 in
theorem drop_bad (xs : List Int) (s0 s1 s2 g0 g1 g2 : Bool) (x0 x1 x2 : List Int) (l0 : x0.length ≤ 140737488355328) (l1 : x1.length ≤ 140737488355328) (l2 : x2.length ≤ 140737488355328) (b0 : InB 4294967296 x0) (b1 : InB 4294967296 x1) (b2 : InB 4294967296 x2)
    (hF : slF (prt s0 x0 g0) (prt s1 x1 g1) (prt s2 x2 g2) g2 x2.length ≠ 0) :
    Ret Try.prog 30 false [.inl (.ints .i64 xs), .inr [.b s0, .ints .u32 x0, .b s1, .ints .u32 x1, .b s2, .ints .u32 x2, .b g0, .b g1, .b g2]]
      (.t [.inl (.ints .i64 []), .inr [.i .i64 (slF (prt s0 x0 g0) (prt s1 x1 g1) (prt s2 x2 g2) g2 x2.length), .i .i64 (-1)]]) := by
  (refine q_H Try.func30 (fun F => ?_); simp only [q_z,q_y,Try.ntmps30,Try.results30])
  repeat' (first|(with_reducible first|apply q_a|apply q_b|apply q_c|apply q_d|apply q_e|apply q_f|apply q_g|apply q_h|apply q_i|apply q_j|apply q_k|apply q_m|apply q_n|apply q_o|apply q_p|refine q_l ?_)|((with_reducible first|refine q_q sbt_ok fun K hK=>?_|refine q_r sbt_ok fun K hK=>?_);simp (maxSteps:=2000000) only [go_sem,↓reduceIte,reduceCtorEq,Nat.reduceLeDiff,Nat.reduceLT,Nat.reduceBEq,Nat.reduceAdd,hF];(repeat1' with_reducible first|apply And.intro|(intro _;try exact q_v)|(refine hK _ ?_;clear hK K))<;>(try (clear hK K;exact q_u)))|(with_reducible refine q_s ?_;(first|apply q_J|apply q_K|apply q_L|apply q_M|apply q_N|apply q_O)<;>try (intro _;try exact q_v))|with_reducible refine q_t ?_)
  all_goals first | contradiction | exact q_B [.inl (some (.ints .i64 [])), .inr [none, none]] rfl rfl
def goneF (ps : List Int) : Int → Option C := fun x => if x ∈ ps then some (.b true) else none
theorem mem_pos {st sp : Int} {c : Nat} {x : Int} : x ∈ slPos st sp c ↔ ∃ k : Nat, k < c ∧ x = st + (k : Int) * sp := by
  unfold slPos
  constructor
  · intro h
    obtain ⟨k, hk, e⟩ := List.mem_map.1 h
    exact ⟨k, List.mem_range.1 hk, e.symm⟩
  · rintro ⟨k, hk, e⟩
    exact List.mem_map.2 ⟨k, List.mem_range.2 hk, e.symm⟩
theorem pos_new {st sp : Int} (h : sp ≠ 0) (k : Nat) : st + (k : Int) * sp ∉ slPos st sp k := fun hm => by
  obtain ⟨j, hj, e⟩ := mem_pos.1 hm
  have e2 : (k : Int) * sp = (j : Int) * sp := by omega
  have := Int.eq_of_mul_eq_mul_right h e2
  omega
theorem gone_step (st sp : Int) (k : Nat) (y : Int) : (if y = st + (k : Int) * sp then some (C.b true) else goneF (slPos st sp k) y) = goneF (slPos st sp (k + 1)) y := by
  unfold goneF
  rw [slPos_succ]
  by_cases h : y = st + (k : Int) * sp
  · subst h; rw [if_pos rfl, if_pos (by simp)]
  · rw [if_neg h]
    by_cases h2 : y ∈ slPos st sp k
    · rw [if_pos h2, if_pos (by simp [h2])]
    · rw [if_neg h2, if_neg (by simp [h2, h])]
set_option maxRecDepth 100000 in
set_option maxHeartbeats 6400000 in
theorem drop_ok (xs : List Int) (s0 s1 s2 g0 g1 g2 : Bool) (x0 x1 x2 : List Int) (l0 : x0.length ≤ 140737488355328) (l1 : x1.length ≤ 140737488355328) (l2 : x2.length ≤ 140737488355328) (b0 : InB 4294967296 x0) (b1 : InB 4294967296 x1) (b2 : InB 4294967296 x2)
    (hF : slF (prt s0 x0 g0) (prt s1 x1 g1) (prt s2 x2 g2) g2 x2.length = 0) (hl : xs.length ≤ 4000) (st sp : Int) (c : Nat) (hst : rSt s0 x0 g0 xs.length (rSp s2 x2 g2) = st) (hsp : rSp s2 x2 g2 = sp)
    (hc : slCnt (rSt s0 x0 g0 xs.length (rSp s2 x2 g2)) (rSo s1 x1 g1 xs.length (rSp s2 x2 g2)) (rSp s2 x2 g2) = c) :
    Ret Try.prog 30 false [.inl (.ints .i64 xs), .inr [.b s0, .ints .u32 x0, .b s1, .ints .u32 x1, .b s2, .ints .u32 x2, .b g0, .b g1, .b g2]]
      (.t [.inl (.ints .i64 (dropL xs (slPos st sp c) xs.length)), .inr [.i .i64 0, .i .i64 0]]) := by
  obtain ⟨r1, r2, r3, r4, r5, r6, r7⟩ := r_facts (s0 := s0) (s1 := s1) (g0 := g0) (g1 := g1) (x0 := x0) (x1 := x1) b2 hF (n := xs.length) (by omega)
  have r6 := r6 _ rfl
  rw [hc] at r5 r6
  rw [hst, hsp] at r5
  rw [hst] at r3 r7
  rw [hsp] at r1 r2 r7
  have hc' := hc
  rw [hsp] at hst hc'
  rw [hst] at hc'
  (refine q_H Try.func30 (fun F => ?_); simp only [q_z,q_y,Try.ntmps30,Try.results30])
  repeat' (first|(with_reducible first|apply q_a|apply q_b|apply q_c|apply q_d|apply q_e|apply q_f|apply q_g|apply q_h|apply q_i|apply q_j|apply q_k|apply q_m|apply q_n|apply q_o|apply q_p|refine q_l ?_)|((with_reducible first|refine q_q sbt_ok fun K hK=>?_|refine q_r sbt_ok fun K hK=>?_);simp (maxSteps:=2000000) only [go_sem,↓reduceIte,reduceCtorEq,Nat.reduceLeDiff,Nat.reduceLT,Nat.reduceBEq,Nat.reduceAdd,hF, hsp, hst, hc'];(repeat1' with_reducible first|apply And.intro|(intro _;try exact q_v)|(refine hK _ ?_;clear hK K))<;>(try (clear hK K;exact q_u)))|(with_reducible refine q_s ?_;(first|apply q_J|apply q_K|apply q_L|apply q_M|apply q_N|apply q_O)<;>try (intro _;try exact q_v))|with_reducible refine q_t ?_)
  all_goals try omega
  refine q_G (ι := { k : Nat // k ≤ c }) (fun k => ⟨58, [(0, .c (.ints .i64 xs)), (5, .bx 1 0), (6, .c (.i .i64 st)), (7, .c (.i .i64 sp)), (10, .mp 3), (29, .c (.i .i64 c)), (30, .c (.i .i64 (k.1 : Nat)))], ⟨[(3, [.mc (.i .i64 (goneF (slPos st sp k.1)) k.1)]), (1, [.c (.i .i64 0), .c (.i .i64 0)])], [], []⟩, 4⟩) (fun k => c - k.1) ⟨0, by omega⟩ ?_ ?_
  · ((simp only [go_sem,↓reduceIte,reduceCtorEq,Nat.reduceLeDiff,Nat.reduceLT,Nat.reduceBEq,Nat.reduceAdd])<;>(try (simp;done))<;>(try ((simp only [C.i.injEq,C.b.injEq,C.ints.injEq,C.bools.injEq,List.append_cancel_left_eq,List.cons.injEq,true_and,and_true]);(repeat' with_reducible apply And.intro)<;>(first|rfl|assumption|omega|(simp;omega)|(congr 1;omega)|(congr 2;omega)))))
    exact ⟨rfl, fun x => by simp [goneF, slPos]⟩
  rintro ⟨k, k1⟩
  simp only at k1 ⊢
  rcases Nat.lt_or_ge k c with hk | hk
  · have hr := r5 k hk
    have hnew : goneF (slPos st sp k) (st + (k : Int) * sp) = none := if_neg (pos_new r1 k)
    repeat' (first|(with_reducible first|apply q_a|apply q_b|apply q_c|apply q_d|apply q_e|apply q_f|apply q_g|apply q_h|apply q_i|apply q_j|apply q_k|apply q_m|apply q_n|apply q_o|apply q_p|refine q_l ?_)|((with_reducible first|refine q_q sbt_ok fun K hK=>?_|refine q_r sbt_ok fun K hK=>?_);simp (maxSteps:=2000000) only [go_sem,↓reduceIte,reduceCtorEq,Nat.reduceLeDiff,Nat.reduceLT,Nat.reduceBEq,Nat.reduceAdd,hnew];(repeat1' with_reducible first|apply And.intro|(intro _;try exact q_v)|(refine hK _ ?_;clear hK K))<;>(try (clear hK K;exact q_u)))|(with_reducible refine q_s ?_;(first|apply q_J|apply q_K|apply q_L|apply q_M|apply q_N|apply q_O)<;>try (intro _;try exact q_v))|with_reducible refine q_t ?_)
    all_goals try omega
    refine q_F ⟨k + 1, hk⟩ ?_ (by simp only; omega)
    ((simp only [go_sem,↓reduceIte,reduceCtorEq,Nat.reduceLeDiff,Nat.reduceLT,Nat.reduceBEq,Nat.reduceAdd])<;>(try (simp;done))<;>(try ((simp only [C.i.injEq,C.b.injEq,C.ints.injEq,C.bools.injEq,List.append_cancel_left_eq,List.cons.injEq,true_and,and_true]);(repeat' with_reducible apply And.intro)<;>(first|rfl|assumption|omega|(simp;omega)|(congr 1;omega)|(congr 2;omega)))))
    exact ⟨by simp, fun x => gone_step st sp k x⟩
  · have hk' : k = c := by omega
    subst hk'
    generalize slPos st sp k = ps
    have zq := zv4
    try simp only [zvO, oneCell, Value.oneCell'] at zq
    repeat' (first|(with_reducible first|apply q_a|apply q_b|apply q_c|apply q_d|apply q_e|apply q_f|apply q_g|apply q_h|apply q_i|apply q_j|apply q_k|apply q_m|apply q_n|apply q_o|apply q_p|refine q_l ?_)|((with_reducible first|refine q_q sbt_ok fun K hK=>?_|refine q_r sbt_ok fun K hK=>?_);simp (maxSteps:=2000000) only [go_sem,↓reduceIte,reduceCtorEq,Nat.reduceLeDiff,Nat.reduceLT,Nat.reduceBEq,Nat.reduceAdd];(repeat1' with_reducible first|apply And.intro|(intro _;try exact q_v)|(refine hK _ ?_;clear hK K))<;>(try (clear hK K;exact q_u)))|(with_reducible refine q_s ?_;(first|apply q_J|apply q_K|apply q_L|apply q_M|apply q_N|apply q_O)<;>try (intro _;try exact q_v))|with_reducible refine q_t ?_)
    all_goals try omega
    refine q_G (ι := { i : Nat // i ≤ xs.length }) (fun i => ⟨58, [(5, .bx 1 0), (10, .mp 3), (12, .own 4 0), (40, .c (.ints .i64 xs)), (41, .c (.i .i64 xs.length)), (42, .c (.i .i64 (i.1 : Nat)))], ⟨[(3, [.mc (.i .i64 (goneF ps) k)]), (1, [.c (.i .i64 0), .c (.i .i64 0)])], [(4, ⟨0, 3, 1, .ints .i64 (dropL xs ps i.1)⟩)], []⟩, 5⟩) (fun i => xs.length - i.1) ⟨0, by omega⟩ ?_ ?_
    · ((simp only [go_sem,↓reduceIte,reduceCtorEq,Nat.reduceLeDiff,Nat.reduceLT,Nat.reduceBEq,Nat.reduceAdd])<;>(try (simp;done))<;>(try ((simp only [C.i.injEq,C.b.injEq,C.ints.injEq,C.bools.injEq,List.append_cancel_left_eq,List.cons.injEq,true_and,and_true]);(repeat' with_reducible apply And.intro)<;>(first|rfl|assumption|omega|(simp;omega)|(congr 1;omega)|(congr 2;omega)))))
      all_goals (try (intro x; rfl))
    rintro ⟨i, i1⟩
    simp only at i1 ⊢
    have dl := dropL_le xs ps i
    rcases Nat.lt_or_ge i xs.length with hi | hi
    · by_cases hm : (i : Int) ∈ ps
      · have hg : goneF ps (i : Int) = some (.b true) := if_pos hm
        have hd : dropL xs ps (i + 1) = dropL xs ps i := if_pos hm
        repeat' (first|(with_reducible first|apply q_a|apply q_b|apply q_c|apply q_d|apply q_e|apply q_f|apply q_g|apply q_h|apply q_i|apply q_j|apply q_k|apply q_m|apply q_n|apply q_o|apply q_p|refine q_l ?_)|((with_reducible first|refine q_q sbt_ok fun K hK=>?_|refine q_r sbt_ok fun K hK=>?_);simp (maxSteps:=2000000) only [go_sem,↓reduceIte,reduceCtorEq,Nat.reduceLeDiff,Nat.reduceLT,Nat.reduceBEq,Nat.reduceAdd,hg, zq];(repeat1' with_reducible first|apply And.intro|(intro _;try exact q_v)|(refine hK _ ?_;clear hK K))<;>(try (clear hK K;exact q_u)))|(with_reducible refine q_s ?_;(first|apply q_J|apply q_K|apply q_L|apply q_M|apply q_N|apply q_O)<;>try (intro _;try exact q_v))|with_reducible refine q_t ?_)
        all_goals try omega
        refine q_F ⟨i + 1, hi⟩ ?_ (by simp only; omega)
        simp only [hd]
        ((simp only [go_sem,↓reduceIte,reduceCtorEq,Nat.reduceLeDiff,Nat.reduceLT,Nat.reduceBEq,Nat.reduceAdd])<;>(try (simp;done))<;>(try ((simp only [C.i.injEq,C.b.injEq,C.ints.injEq,C.bools.injEq,List.append_cancel_left_eq,List.cons.injEq,true_and,and_true]);(repeat' with_reducible apply And.intro)<;>(first|rfl|assumption|omega|(simp;omega)|(congr 1;omega)|(congr 2;omega)))))
        all_goals (try (intro x; rfl))
      · have hg : goneF ps (i : Int) = none := if_neg hm
        have hd : dropL xs ps (i + 1) = dropL xs ps i ++ [xs.getD i 0] := if_neg hm
        repeat' (first|(with_reducible first|apply q_a|apply q_b|apply q_c|apply q_d|apply q_e|apply q_f|apply q_g|apply q_h|apply q_i|apply q_j|apply q_k|apply q_m|apply q_n|apply q_o|apply q_p|refine q_l ?_)|((with_reducible first|refine q_q sbt_ok fun K hK=>?_|refine q_r sbt_ok fun K hK=>?_);simp (maxSteps:=2000000) only [go_sem,↓reduceIte,reduceCtorEq,Nat.reduceLeDiff,Nat.reduceLT,Nat.reduceBEq,Nat.reduceAdd,hg, zq];(repeat1' with_reducible first|apply And.intro|(intro _;try exact q_v)|(refine hK _ ?_;clear hK K))<;>(try (clear hK K;exact q_u)))|(with_reducible refine q_s ?_;(first|apply q_J|apply q_K|apply q_L|apply q_M|apply q_N|apply q_O)<;>try (intro _;try exact q_v))|with_reducible refine q_t ?_)
        all_goals try omega
        refine q_F ⟨i + 1, hi⟩ ?_ (by simp only; omega)
        simp only [hd]
        ((simp only [go_sem,↓reduceIte,reduceCtorEq,Nat.reduceLeDiff,Nat.reduceLT,Nat.reduceBEq,Nat.reduceAdd])<;>(try (simp;done))<;>(try ((simp only [C.i.injEq,C.b.injEq,C.ints.injEq,C.bools.injEq,List.append_cancel_left_eq,List.cons.injEq,true_and,and_true]);(repeat' with_reducible apply And.intro)<;>(first|rfl|assumption|omega|(simp;omega)|(congr 1;omega)|(congr 2;omega)))))
        all_goals (try (intro x; rfl))
    · have hi' : i = xs.length := by omega
      subst hi'
      repeat' (first|(with_reducible first|apply q_a|apply q_b|apply q_c|apply q_d|apply q_e|apply q_f|apply q_g|apply q_h|apply q_i|apply q_j|apply q_k|apply q_m|apply q_n|apply q_o|apply q_p|refine q_l ?_)|((with_reducible first|refine q_q sbt_ok fun K hK=>?_|refine q_r sbt_ok fun K hK=>?_);simp (maxSteps:=2000000) only [go_sem,↓reduceIte,reduceCtorEq,Nat.reduceLeDiff,Nat.reduceLT,Nat.reduceBEq,Nat.reduceAdd];(repeat1' with_reducible first|apply And.intro|(intro _;try exact q_v)|(refine hK _ ?_;clear hK K))<;>(try (clear hK K;exact q_u)))|(with_reducible refine q_s ?_;(first|apply q_J|apply q_K|apply q_L|apply q_M|apply q_N|apply q_O)<;>try (intro _;try exact q_v))|with_reducible refine q_t ?_)
      all_goals first | omega | exact q_B [.inl (some (.ints .i64 [])), .inr [none, none]] rfl rfl | exact q_A rfl
def dropCT : CT := mkCT [.inl (some (.ints .i64 [])), .inr [none, some (.ints .u32 []), none, some (.ints .u32 []), none, some (.ints .u32 []), none, none, none]] false fun l K => match l with
  | [.inl (.ints .i64 xs), .inr [.b s0, .ints .u32 x0, .b s1, .ints .u32 x1, .b s2, .ints .u32 x2, .b g0, .b g1, .b g2]] => (xs.length ≤ 4000 ∧ (x0.length ≤ 140737488355328 ∧ x1.length ≤ 140737488355328 ∧ x2.length ≤ 140737488355328) ∧ InB 4294967296 x0 ∧ InB 4294967296 x1 ∧ InB 4294967296 x2) ∧
      (slF (prt s0 x0 g0) (prt s1 x1 g1) (prt s2 x2 g2) g2 x2.length ≠ 0 → K (.t [.inl (.ints .i64 []), .inr [.i .i64 (slF (prt s0 x0 g0) (prt s1 x1 g1) (prt s2 x2 g2) g2 x2.length), .i .i64 (-1)]])) ∧
      (slF (prt s0 x0 g0) (prt s1 x1 g1) (prt s2 x2 g2) g2 x2.length = 0 → K (.t [.inl (.ints .i64 (dropL xs (slPos (rSt s0 x0 g0 xs.length (rSp s2 x2 g2)) (rSp s2 x2 g2) (slCnt (rSt s0 x0 g0 xs.length (rSp s2 x2 g2)) (rSo s1 x1 g1 xs.length (rSp s2 x2 g2)) (rSp s2 x2 g2))) xs.length)), .inr [.i .i64 0, .i .i64 0]]))
  | _ => False
def sv3 : Cfg := addT 30 dropCT sv1
theorem sv3_ok : TblOk Try.prog sv3 := q_I sv1_ok Try.func30 fun l K h => by
  split at h
  · rename_i xs s0 x0 s1 x1 s2 x2 g0 g1 g2
    obtain ⟨⟨hl, ⟨l0, l1, l2⟩, b0, b1, b2⟩, hbad, hok⟩ := h
    by_cases hF : slF (prt s0 x0 g0) (prt s1 x1 g1) (prt s2 x2 g2) g2 x2.length = 0
    · exact ⟨_, drop_ok xs s0 s1 s2 g0 g1 g2 x0 x1 x2 l0 l1 l2 b0 b1 b2 hF hl _ _ _ rfl rfl rfl, hok hF⟩
    · exact ⟨_, drop_bad xs s0 s1 s2 g0 g1 g2 x0 x1 x2 l0 l1 l2 b0 b1 b2 hF, hbad hF⟩
  · exact h.elim
attribute [go_sem] dropCT
end Go.Proofs.Ytgogdabniebplaa
