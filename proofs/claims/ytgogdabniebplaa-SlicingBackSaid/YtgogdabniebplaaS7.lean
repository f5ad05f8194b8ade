import Derived.Test.YtgogdabniebplaaS6
namespace Go.Proofs.Ytgogdabniebplaa
set_option linter.unusedSimpArgs false
set_option linter.unusedVariables false
open Go.Abs Go.Proofs.NatL

set_option maxRecDepth 100000 in
set_option maxHeartbeats 3200000 in
theorem put_bad (xs w : List Int) (most : Int) (s0 s1 s2 g0 g1 g2 : Bool) (x0 x1 x2 : List Int) (l0 : x0.length ≤ 140737488355328) (l1 : x1.length ≤ 140737488355328) (l2 : x2.length ≤ 140737488355328) (b0 : InB 4294967296 x0) (b1 : InB 4294967296 x1) (b2 : InB 4294967296 x2) (hF : slF (prt s0 x0 g0) (prt s1 x1 g1) (prt s2 x2 g2) g2 x2.length ≠ 0) :
    Ret Try.prog 29 false [.inl (.ints .i64 xs), .inr [.b s0, .ints .u32 x0, .b s1, .ints .u32 x1, .b s2, .ints .u32 x2, .b g0, .b g1, .b g2], .inl (.ints .i64 w), .inl (.i .i64 most)] (.t [.inl (.ints .i64 []), .inr [.i .i64 (slF (prt s0 x0 g0) (prt s1 x1 g1) (prt s2 x2 g2) g2 x2.length), .i .i64 (-1)]]) := by
  (refine q_H Try.func29 (fun F => ?_); simp only [q_z,q_y,Try.ntmps29,Try.results29])
  repeat' (first|(with_reducible first|apply q_a|apply q_b|apply q_c|apply q_d|apply q_e|apply q_f|apply q_g|apply q_h|apply q_i|apply q_j|apply q_k|apply q_m|apply q_n|apply q_o|apply q_p|refine q_l ?_)|((with_reducible first|refine q_q sbt_ok fun K hK=>?_|refine q_r sbt_ok fun K hK=>?_);simp (maxSteps:=2000000) only [go_sem,↓reduceIte,reduceCtorEq,Nat.reduceLeDiff,Nat.reduceLT,Nat.reduceBEq,Nat.reduceAdd,hF];(repeat1' with_reducible first|apply And.intro|(intro _;try exact q_v)|(refine hK _ ?_;clear hK K))<;>(try (clear hK K;exact q_u)))|(with_reducible refine q_s ?_;(first|apply q_J|apply q_K|apply q_L|apply q_M|apply q_N|apply q_O)<;>try (intro _;try exact q_v))|with_reducible refine q_t ?_)
  all_goals first | contradiction | exact q_B [.inl (some (.ints .i64 [])), .inr [none, none]] rfl rfl
theorem take_drop3 (xs w : List Int) (a b : Nat) : [xs.take a, w, xs.drop b].flatten = xs.take a ++ (w ++ xs.drop b) := by simp
def putO (xs w : List Int) (most st sp : Int) (c : Nat) : List (C ⊕ List C) :=
  if sp ≠ 1 ∧ w.length ≠ c then [.inl (.ints .i64 []), .inr [.i .i64 9, .i .i64 (-3)]]
  else if most < (xs.length : Int) - c + w.length then [.inl (.ints .i64 []), .inr [.i .i64 14, .i .i64 (-1)]]
  else if sp = 1 then [.inl (.ints .i64 (xs.take st.toNat ++ (w ++ xs.drop (st.toNat + c)))), .inr [.i .i64 0, .i .i64 0]]
  else [.inl (.ints .i64 (putL xs st sp w w.length)), .inr [.i .i64 0, .i .i64 0]]
set_option maxRecDepth 100000 in
set_option maxHeartbeats 6400000 in
theorem put_ok (xs w : List Int) (most : Int) (s0 s1 s2 g0 g1 g2 : Bool) (x0 x1 x2 : List Int) (l0 : x0.length ≤ 140737488355328) (l1 : x1.length ≤ 140737488355328) (l2 : x2.length ≤ 140737488355328) (b0 : InB 4294967296 x0) (b1 : InB 4294967296 x1) (b2 : InB 4294967296 x2)
    (hF : slF (prt s0 x0 g0) (prt s1 x1 g1) (prt s2 x2 g2) g2 x2.length = 0) (hl : xs.length ≤ 4000) (hw : w.length ≤ 2097152) (st sp : Int) (c : Nat) (hst : rSt s0 x0 g0 xs.length (rSp s2 x2 g2) = st) (hsp : rSp s2 x2 g2 = sp)
    (hc : slCnt (rSt s0 x0 g0 xs.length (rSp s2 x2 g2)) (rSo s1 x1 g1 xs.length (rSp s2 x2 g2)) (rSp s2 x2 g2) = c) :
    Ret Try.prog 29 false [.inl (.ints .i64 xs), .inr [.b s0, .ints .u32 x0, .b s1, .ints .u32 x1, .b s2, .ints .u32 x2, .b g0, .b g1, .b g2], .inl (.ints .i64 w), .inl (.i .i64 most)] (.t (putO xs w most st sp c)) := by
  obtain ⟨r1, r2, r3, r4, r5, r6, r7⟩ := r_facts (s0 := s0) (s1 := s1) (g0 := g0) (g1 := g1) (x0 := x0) (x1 := x1) b2 hF (n := xs.length) (by omega)
  have r6 := r6 _ rfl
  rw [hc] at r5 r6
  rw [hst, hsp] at r5
  rw [hst] at r3 r7
  rw [hsp] at r1 r2 r7
  have hc' := hc
  rw [hsp] at hst hc'
  rw [hst] at hc'
  unfold putO
  by_cases h1 : sp ≠ 1 ∧ w.length ≠ c
  · rw [if_pos h1]
    obtain ⟨h1a, h1b⟩ := h1
    (refine q_H Try.func29 (fun F => ?_); simp only [q_z,q_y,Try.ntmps29,Try.results29])
    repeat' (first|(with_reducible first|apply q_a|apply q_b|apply q_c|apply q_d|apply q_e|apply q_f|apply q_g|apply q_h|apply q_i|apply q_j|apply q_k|apply q_m|apply q_n|apply q_o|apply q_p|refine q_l ?_)|((with_reducible first|refine q_q sbt_ok fun K hK=>?_|refine q_r sbt_ok fun K hK=>?_);simp (maxSteps:=2000000) only [go_sem,↓reduceIte,reduceCtorEq,Nat.reduceLeDiff,Nat.reduceLT,Nat.reduceBEq,Nat.reduceAdd,hF, hsp, hst, hc'];(repeat1' with_reducible first|apply And.intro|(intro _;try exact q_v)|(refine hK _ ?_;clear hK K))<;>(try (clear hK K;exact q_u)))|(with_reducible refine q_s ?_;(first|apply q_J|apply q_K|apply q_L|apply q_M|apply q_N|apply q_O)<;>try (intro _;try exact q_v))|with_reducible refine q_t ?_)
    all_goals first | omega | exact q_B [.inl (some (.ints .i64 [])), .inr [none, none]] rfl rfl
  rw [if_neg h1]
  by_cases h2 : most < (xs.length : Int) - c + w.length
  · rw [if_pos h2]
    (refine q_H Try.func29 (fun F => ?_); simp only [q_z,q_y,Try.ntmps29,Try.results29])
    repeat' (first|(with_reducible first|apply q_a|apply q_b|apply q_c|apply q_d|apply q_e|apply q_f|apply q_g|apply q_h|apply q_i|apply q_j|apply q_k|apply q_m|apply q_n|apply q_o|apply q_p|refine q_l ?_)|((with_reducible first|refine q_q sbt_ok fun K hK=>?_|refine q_r sbt_ok fun K hK=>?_);simp (maxSteps:=2000000) only [go_sem,↓reduceIte,reduceCtorEq,Nat.reduceLeDiff,Nat.reduceLT,Nat.reduceBEq,Nat.reduceAdd,hF, hsp, hst, hc'];(repeat1' with_reducible first|apply And.intro|(intro _;try exact q_v)|(refine hK _ ?_;clear hK K))<;>(try (clear hK K;exact q_u)))|(with_reducible refine q_s ?_;(first|apply q_J|apply q_K|apply q_L|apply q_M|apply q_N|apply q_O)<;>try (intro _;try exact q_v))|with_reducible refine q_t ?_)
    all_goals first | omega | exact q_B [.inl (some (.ints .i64 [])), .inr [none, none]] rfl rfl
  rw [if_neg h2]
  by_cases h3 : sp = 1
  · rw [if_pos h3]
    subst h3
    have r7 := r7 rfl
    have r8 : st + c ≤ xs.length := by
      rcases Nat.eq_zero_or_pos c with h | h
      · omega
      · have := r5 (c - 1) (by omega)
        omega
    obtain ⟨a, ha⟩ : ∃ a : Nat, st = a := ⟨st.toNat, by omega⟩
    subst ha
    have e1 : ((a : Int) + (c : Int)).toNat = a + c := by omega
    have lt : (xs.take a).length ≤ 4000 := by rw [List.length_take]; omega
    have ld : (xs.drop (a + c)).length ≤ 4000 := by rw [List.length_drop]; omega
    have lf : [xs.take a, w, xs.drop (a + c)].flatten.length ≤ 4194304 := by rw [take_drop3, List.length_append, List.length_append]; omega
    have e2 := take_drop3 xs w a (a + c)
    (refine q_H Try.func29 (fun F => ?_); simp only [q_z,q_y,Try.ntmps29,Try.results29])
    repeat' (first|(with_reducible first|apply q_a|apply q_b|apply q_c|apply q_d|apply q_e|apply q_f|apply q_g|apply q_h|apply q_i|apply q_j|apply q_k|apply q_m|apply q_n|apply q_o|apply q_p|refine q_l ?_)|((with_reducible first|refine q_q sbt_ok fun K hK=>?_|refine q_r sbt_ok fun K hK=>?_);simp (maxSteps:=2000000) only [go_sem,↓reduceIte,reduceCtorEq,Nat.reduceLeDiff,Nat.reduceLT,Nat.reduceBEq,Nat.reduceAdd,hF, hsp, hst, hc', e1, List.take_length, List.drop_zero, unL];(repeat1' with_reducible first|apply And.intro|(intro _;try exact q_v)|(refine hK _ ?_;clear hK K))<;>(try (clear hK K;exact q_u)))|(with_reducible refine q_s ?_;(first|apply q_J|apply q_K|apply q_L|apply q_M|apply q_N|apply q_O)<;>try (intro _;try exact q_v))|with_reducible refine q_t ?_)
    all_goals first | omega | exact q_B [.inl (some (.ints .i64 [])), .inr [none, none]] rfl (by rw [e2]; rfl) | exact q_A (by rw [e2]; rfl)
  · rw [if_neg h3]
    have hwc : w.length = c := by omega
    (refine q_H Try.func29 (fun F => ?_); simp only [q_z,q_y,Try.ntmps29,Try.results29])
    repeat' (first|(with_reducible first|apply q_a|apply q_b|apply q_c|apply q_d|apply q_e|apply q_f|apply q_g|apply q_h|apply q_i|apply q_j|apply q_k|apply q_m|apply q_n|apply q_o|apply q_p|refine q_l ?_)|((with_reducible first|refine q_q sbt_ok fun K hK=>?_|refine q_r sbt_ok fun K hK=>?_);simp (maxSteps:=2000000) only [go_sem,↓reduceIte,reduceCtorEq,Nat.reduceLeDiff,Nat.reduceLT,Nat.reduceBEq,Nat.reduceAdd,hF, hsp, hst, hc'];(repeat1' with_reducible first|apply And.intro|(intro _;try exact q_v)|(refine hK _ ?_;clear hK K))<;>(try (clear hK K;exact q_u)))|(with_reducible refine q_s ?_;(first|apply q_J|apply q_K|apply q_L|apply q_M|apply q_N|apply q_O)<;>try (intro _;try exact q_v))|with_reducible refine q_t ?_)
    all_goals try omega
    refine q_G (ι := { k : Nat // k ≤ c }) (fun k => ⟨87, [(9, .bx 1 0), (10, .c (.i .i64 st)), (11, .c (.i .i64 sp)), (14, .own 3 0), (69, .c (.ints .i64 w)), (70, .c (.i .i64 c)), (71, .c (.i .i64 (k.1 : Nat)))], ⟨[(1, [.c (.i .i64 0), .c (.i .i64 0)])], [(3, ⟨0, 3, 1, .ints .i64 (putL xs st sp w k.1)⟩)], []⟩, 4⟩) (fun k => c - k.1) ⟨0, by omega⟩ ?_ ?_
    · rw [hwc]
      exact q_D
    rintro ⟨k, k1⟩
    simp only at k1 ⊢
    have tl := putL_len xs st sp w k
    rcases Nat.lt_or_ge k c with hk | hk
    · have hr := r5 k hk
      repeat' (first|(with_reducible first|apply q_a|apply q_b|apply q_c|apply q_d|apply q_e|apply q_f|apply q_g|apply q_h|apply q_i|apply q_j|apply q_k|apply q_m|apply q_n|apply q_o|apply q_p|refine q_l ?_)|((with_reducible first|refine q_q sbt_ok fun K hK=>?_|refine q_r sbt_ok fun K hK=>?_);simp (maxSteps:=2000000) only [go_sem,↓reduceIte,reduceCtorEq,Nat.reduceLeDiff,Nat.reduceLT,Nat.reduceBEq,Nat.reduceAdd,tl];(repeat1' with_reducible first|apply And.intro|(intro _;try exact q_v)|(refine hK _ ?_;clear hK K))<;>(try (clear hK K;exact q_u)))|(with_reducible refine q_s ?_;(first|apply q_J|apply q_K|apply q_L|apply q_M|apply q_N|apply q_O)<;>try (intro _;try exact q_v))|with_reducible refine q_t ?_)
      all_goals try omega
      refine q_F ⟨k + 1, hk⟩ ?_ (by simp only; omega)
      simp only [putL]
      exact q_D
    · have hk' : k = c := by omega
      subst hk'
      repeat' (first|(with_reducible first|apply q_a|apply q_b|apply q_c|apply q_d|apply q_e|apply q_f|apply q_g|apply q_h|apply q_i|apply q_j|apply q_k|apply q_m|apply q_n|apply q_o|apply q_p|refine q_l ?_)|((with_reducible first|refine q_q sbt_ok fun K hK=>?_|refine q_r sbt_ok fun K hK=>?_);simp (maxSteps:=2000000) only [go_sem,↓reduceIte,reduceCtorEq,Nat.reduceLeDiff,Nat.reduceLT,Nat.reduceBEq,Nat.reduceAdd,tl];(repeat1' with_reducible first|apply And.intro|(intro _;try exact q_v)|(refine hK _ ?_;clear hK K))<;>(try (clear hK K;exact q_u)))|(with_reducible refine q_s ?_;(first|apply q_J|apply q_K|apply q_L|apply q_M|apply q_N|apply q_O)<;>try (intro _;try exact q_v))|with_reducible refine q_t ?_)
      all_goals first | omega | exact q_B [.inl (some (.ints .i64 [])), .inr [none, none]] rfl (by rw [hwc]; rfl) | exact q_A (by rw [hwc]; rfl)
def putCT : CT := mkCT [.inl (some (.ints .i64 [])), .inr [none, some (.ints .u32 []), none, some (.ints .u32 []), none, some (.ints .u32 []), none, none, none], .inl (some (.ints .i64 []))] false fun l K => match l with
  | [.inl (.ints .i64 xs), .inr [.b s0, .ints .u32 x0, .b s1, .ints .u32 x1, .b s2, .ints .u32 x2, .b g0, .b g1, .b g2], .inl (.ints .i64 w), .inl (.i .i64 most)] => ((xs.length ≤ 4000 ∧ w.length ≤ 2097152) ∧ (x0.length ≤ 140737488355328 ∧ x1.length ≤ 140737488355328 ∧ x2.length ≤ 140737488355328) ∧ InB 4294967296 x0 ∧ InB 4294967296 x1 ∧ InB 4294967296 x2) ∧
      (slF (prt s0 x0 g0) (prt s1 x1 g1) (prt s2 x2 g2) g2 x2.length ≠ 0 → K (.t [.inl (.ints .i64 []), .inr [.i .i64 (slF (prt s0 x0 g0) (prt s1 x1 g1) (prt s2 x2 g2) g2 x2.length), .i .i64 (-1)]])) ∧
      (slF (prt s0 x0 g0) (prt s1 x1 g1) (prt s2 x2 g2) g2 x2.length = 0 → K (.t (putO xs w most (rSt s0 x0 g0 xs.length (rSp s2 x2 g2)) (rSp s2 x2 g2) (slCnt (rSt s0 x0 g0 xs.length (rSp s2 x2 g2)) (rSo s1 x1 g1 xs.length (rSp s2 x2 g2)) (rSp s2 x2 g2)))))
  | _ => False
def sv2 : Cfg := addT 29 putCT sv1
theorem sv2_ok : TblOk Try.prog sv2 := q_I sv1_ok Try.func29 fun l K h => by
  split at h
  · rename_i xs s0 x0 s1 x1 s2 x2 g0 g1 g2 w most
    obtain ⟨⟨⟨hl, hw⟩, ⟨l0, l1, l2⟩, b0, b1, b2⟩, hbad, hok⟩ := h
    by_cases hF : slF (prt s0 x0 g0) (prt s1 x1 g1) (prt s2 x2 g2) g2 x2.length = 0
    · exact ⟨_, put_ok xs w most s0 s1 s2 g0 g1 g2 x0 x1 x2 l0 l1 l2 b0 b1 b2 hF hl hw _ _ _ rfl rfl rfl, hok hF⟩
    · exact ⟨_, put_bad xs w most s0 s1 s2 g0 g1 g2 x0 x1 x2 l0 l1 l2 b0 b1 b2 hF, hbad hF⟩
  · exact h.elim
attribute [go_sem] putCT
end Go.Proofs.Ytgogdabniebplaa
