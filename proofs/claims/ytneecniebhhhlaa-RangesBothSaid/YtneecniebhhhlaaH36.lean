import Derived.Test.YtneecniebhhhlaaH29
import Derived.Test.YtneecniebhhhlaaH30
import Derived.Test.YtneecniebhhhlaaH35
namespace Go.Proofs.Ytneecniebhhhlaa
set_option linter.unusedSimpArgs false
set_option linter.unusedVariables false
open Go.Abs Go.Proofs.NatL

def rbo : Cfg := listT [(78, spansCT), (76, meetCT), (84, (rTotI gdIndex)), (24, ivalidCT), (79, noRangeCT), (48, sameIntsCT)] [28]
theorem rbo_ok : TblOk Try.prog rbo := listE_ok (by simp only [List.mem_singleton, forall_eq]; exact flt) ⟨⟨rz8, rz8_ok, rfl⟩, ⟨rz7, rz7_ok, rfl⟩, ⟨re3, re3_ok, rfl⟩, ⟨jt12, jt12_ok, rfl⟩, ⟨rj7, rj7_ok, rfl⟩, ⟨jt12, jt12_ok, rfl⟩, trivial⟩
attribute [go_sem] rbo
set_option maxRecDepth 100000 in
set_option maxHeartbeats 6400000 in
theorem both_bad (s t d s' t' d' w : Bool) (xs ys zs xs' ys' zs' ws : List Int) (h1 : xs.length ≤ 140737488355328) (h2 : ys.length ≤ 140737488355328) (h3 : zs.length ≤ 140737488355328) (h4 : xs'.length ≤ 140737488355328) (h5 : ys'.length ≤ 140737488355328) (h6 : zs'.length ≤ 140737488355328) (b1 : InB 4294967296 xs) (b2 : InB 4294967296 ys) (b3 : InB 4294967296 zs) (b4 : InB 4294967296 xs') (b5 : InB 4294967296 ys') (b6 : InB 4294967296 zs') (h7 : ws.length ≤ 140737488355328) (b7 : InB 4294967296 ws) (hv : vR s t d xs ys zs = false ∨ vR s t d xs ys zs = true ∧ vR s' t' d' xs' ys' zs' = false) :
    Ret Try.prog 14 false [.inr [.b s, .ints .u32 xs, .b t, .ints .u32 ys, .b d, .ints .u32 zs], .inr [.b s', .ints .u32 xs', .b t', .ints .u32 ys', .b d', .ints .u32 zs'], .inr [.b w, .ints .u32 ws]] (.c (.b true)) := by
  rcases hv with hv | ⟨hv, hw⟩
  · cases hw : vR s' t' d' xs' ys' zs'
    · (refine q_H Try.func14 (fun F => ?_); simp only [q_z,q_y,Try.ntmps14,Try.results14])
      repeat' (first|(with_reducible first|apply q_a|apply q_b|apply q_c|apply q_d|apply q_e|apply q_f|apply q_g|apply q_h|apply q_i|apply q_j|apply q_k|apply q_m|apply q_n|apply q_o|apply q_p|refine q_l ?_)|((with_reducible first|refine q_q rbo_ok fun K hK=>?_|refine q_r rbo_ok fun K hK=>?_);simp (maxSteps:=2000000) only [go_sem,↓reduceIte,reduceCtorEq,Nat.reduceLeDiff,Nat.reduceLT,Nat.reduceBEq,Nat.reduceAdd,hv, hw, sv_nil];(repeat1' with_reducible first|apply And.intro|(intro _;try exact q_v)|(refine hK _ ?_;clear hK K))<;>(try (clear hK K;exact q_u)))|(with_reducible refine q_s ?_;(first|apply q_J|apply q_K|apply q_L|apply q_M|apply q_N|apply q_O)<;>try (intro _;try exact q_v))|with_reducible refine q_t ?_)
      all_goals first | contradiction | omega | exact q_A rfl | exact q_A (by simp [resAV, q_y]) | skip
    · (refine q_H Try.func14 (fun F => ?_); simp only [q_z,q_y,Try.ntmps14,Try.results14])
      repeat' (first|(with_reducible first|apply q_a|apply q_b|apply q_c|apply q_d|apply q_e|apply q_f|apply q_g|apply q_h|apply q_i|apply q_j|apply q_k|apply q_m|apply q_n|apply q_o|apply q_p|refine q_l ?_)|((with_reducible first|refine q_q rbo_ok fun K hK=>?_|refine q_r rbo_ok fun K hK=>?_);simp (maxSteps:=2000000) only [go_sem,↓reduceIte,reduceCtorEq,Nat.reduceLeDiff,Nat.reduceLT,Nat.reduceBEq,Nat.reduceAdd,hv, hw, sv_nil];(repeat1' with_reducible first|apply And.intro|(intro _;try exact q_v)|(refine hK _ ?_;clear hK K))<;>(try (clear hK K;exact q_u)))|(with_reducible refine q_s ?_;(first|apply q_J|apply q_K|apply q_L|apply q_M|apply q_N|apply q_O)<;>try (intro _;try exact q_v))|with_reducible refine q_t ?_)
      all_goals first | contradiction | omega | exact q_A rfl | exact q_A (by simp [resAV, q_y]) | skip
  · (refine q_H Try.func14 (fun F => ?_); simp only [q_z,q_y,Try.ntmps14,Try.results14])
    repeat' (first|(with_reducible first|apply q_a|apply q_b|apply q_c|apply q_d|apply q_e|apply q_f|apply q_g|apply q_h|apply q_i|apply q_j|apply q_k|apply q_m|apply q_n|apply q_o|apply q_p|refine q_l ?_)|((with_reducible first|refine q_q rbo_ok fun K hK=>?_|refine q_r rbo_ok fun K hK=>?_);simp (maxSteps:=2000000) only [go_sem,↓reduceIte,reduceCtorEq,Nat.reduceLeDiff,Nat.reduceLT,Nat.reduceBEq,Nat.reduceAdd,hv, hw, sv_nil];(repeat1' with_reducible first|apply And.intro|(intro _;try exact q_v)|(refine hK _ ?_;clear hK K))<;>(try (clear hK K;exact q_u)))|(with_reducible refine q_s ?_;(first|apply q_J|apply q_K|apply q_L|apply q_M|apply q_N|apply q_O)<;>try (intro _;try exact q_v))|with_reducible refine q_t ?_)
    all_goals first | contradiction | omega | exact q_A rfl | exact q_A (by simp [resAV, q_y]) | skip
theorem fmod_swap {p q g : Int} (h : (q - p).fmod g = 0) : (p - q).fmod g = 0 := by
  have e := Int.fmod_add_mul_fdiv (q - p) g
  rw [h] at e
  have : p - q = g * (-(q - p).fdiv g) := by rw [Int.mul_neg]; omega
  rw [this]
  exact Int.mul_fmod_right _ _
theorem none_swap {S T D S' T' D' : Int} (hn : rLen S T D = 0 ∨ rLen S' T' D' = 0 ∨ 0 < rLen S T D ∧ 0 < rLen S' T' D' ∧ (upF S' T' D' - upF S T D).fmod (gOf (upS D) (upS D')) ≠ 0) :
    rLen S' T' D' = 0 ∨ rLen S T D = 0 ∨ 0 < rLen S' T' D' ∧ 0 < rLen S T D ∧ (upF S T D - upF S' T' D').fmod (gOf (upS D') (upS D)) ≠ 0 := by
  rcases hn with h | h | ⟨h1, h2, h3⟩
  · exact .inr (.inl h)
  · exact .inl h
  · exact .inr (.inr ⟨h2, h1, fun h => h3 (by rw [gOf_comm]; exact fmod_swap h)⟩)
theorem none_has {S T D S' T' D' v : Int} (h : RV S T D) (h' : RV S' T' D') (hn : rLen S T D = 0 ∨ rLen S' T' D' = 0 ∨ 0 < rLen S T D ∧ 0 < rLen S' T' D' ∧ (upF S' T' D' - upF S T D).fmod (gOf (upS D) (upS D')) ≠ 0)
    (h1 : hasR S T D v) (h2 : hasR S' T' D' v) : False := by
  have a1 := (has_up h.1).1 h1
  have a2 := (has_up h'.1).1 h2
  rcases hn with e | e | ⟨e1, e2, e3⟩
  · omega
  · omega
  · have pc := pc_of h h' e1 e2
    exact meets_none pc.1.1 pc.1.2 e3 a1.2.2.2 a2.2.2.2
theorem RV001 : RV 0 0 1 := RV_of (by kernel_rfl)
set_option maxRecDepth 100000 in
set_option maxHeartbeats 12800000 in
theorem both_none (S T D S' T' D' : Int) (w : Bool) (ws : List Int) (h : RV S T D) (h' : RV S' T' D') (h7 : ws.length ≤ 140737488355328) (b7 : InB 4294967296 ws)
    (hn : rLen S T D = 0 ∨ rLen S' T' D' = 0 ∨ 0 < rLen S T D ∧ 0 < rLen S' T' D' ∧ (upF S' T' D' - upF S T D).fmod (gOf (upS D) (upS D')) ≠ 0) :
    Ret Try.prog 14 false [.inr (gG S T D), .inr (gG S' T' D'), .inr [.b w, .ints .u32 ws]] (.c (.b true)) := by
  have hv := (vR_g S T D).2 h
  have hv' := (vR_g S' T' D').2 h'
  have hv0 := (vR_g 0 0 1).2 RV001
  have hns := none_swap hn
  have hno := none_has (v := sv 4294967296 w ws) h h' hn
  obtain ⟨f1, f2, f3⟩ := rv_fb h
  have l1 := lb_of f1
  have l2 := lb_of f2
  have l3 := lb_of f3
  obtain ⟨f1', f2', f3'⟩ := rv_fb h'
  have l1' := lb_of f1'
  have l2' := lb_of f2'
  have l3' := lb_of f3'
  have l0 := lb_of FB_zero
  have l4 := lb_of FB_one
  have m0 := ls_of FB_zero
  have m1 := ls_of FB_one
  have q0 := has_none (sv 4294967296 w ws)
  simp only [gG]
  cases ho : okZ w ws
  · (refine q_H Try.func14 (fun F => ?_); simp only [q_z,q_y,Try.ntmps14,Try.results14])
    repeat' (first|(with_reducible first|apply q_a|apply q_b|apply q_c|apply q_d|apply q_e|apply q_f|apply q_g|apply q_h|apply q_i|apply q_j|apply q_k|apply q_m|apply q_n|apply q_o|apply q_p|refine q_l ?_)|((with_reducible first|refine q_q rbo_ok fun K hK=>?_|refine q_r rbo_ok fun K hK=>?_);simp (maxSteps:=2000000) only [go_sem,↓reduceIte,reduceCtorEq,Nat.reduceLeDiff,Nat.reduceLT,Nat.reduceBEq,Nat.reduceAdd,hv, hv', hn, hns, ho];(repeat1' with_reducible first|apply And.intro|(intro _;try exact q_v)|(refine hK _ ?_;clear hK K))<;>(try (clear hK K;exact q_u)))|(with_reducible refine q_s ?_;(first|apply q_J|apply q_K|apply q_L|apply q_M|apply q_N|apply q_O)<;>try (intro _;try exact q_v))|with_reducible refine q_t ?_)
    all_goals first | contradiction | omega | exact q_A rfl | skip
  · by_cases q1 : hasR S T D (sv 4294967296 w ws)
    · have q2 := fun h => hno q1 h
      (refine q_H Try.func14 (fun F => ?_); simp only [q_z,q_y,Try.ntmps14,Try.results14])
      repeat' (first|(with_reducible first|apply q_a|apply q_b|apply q_c|apply q_d|apply q_e|apply q_f|apply q_g|apply q_h|apply q_i|apply q_j|apply q_k|apply q_m|apply q_n|apply q_o|apply q_p|refine q_l ?_)|((with_reducible first|refine q_q rbo_ok fun K hK=>?_|refine q_r rbo_ok fun K hK=>?_);simp (maxSteps:=2000000) only [go_sem,↓reduceIte,reduceCtorEq,Nat.reduceLeDiff,Nat.reduceLT,Nat.reduceBEq,Nat.reduceAdd,hv, hv', hv0, hn, hns, ho, q0, q1, q2];(repeat1' with_reducible first|apply And.intro|(intro _;try exact q_v)|(refine hK _ ?_;clear hK K))<;>(try (clear hK K;exact q_u)))|(with_reducible refine q_s ?_;(first|apply q_J|apply q_K|apply q_L|apply q_M|apply q_N|apply q_O)<;>try (intro _;try exact q_v))|with_reducible refine q_t ?_)
      all_goals first | contradiction | omega | exact q_A rfl | skip
    · by_cases q2 : hasR S' T' D' (sv 4294967296 w ws)
      · (refine q_H Try.func14 (fun F => ?_); simp only [q_z,q_y,Try.ntmps14,Try.results14])
        repeat' (first|(with_reducible first|apply q_a|apply q_b|apply q_c|apply q_d|apply q_e|apply q_f|apply q_g|apply q_h|apply q_i|apply q_j|apply q_k|apply q_m|apply q_n|apply q_o|apply q_p|refine q_l ?_)|((with_reducible first|refine q_q rbo_ok fun K hK=>?_|refine q_r rbo_ok fun K hK=>?_);simp (maxSteps:=2000000) only [go_sem,↓reduceIte,reduceCtorEq,Nat.reduceLeDiff,Nat.reduceLT,Nat.reduceBEq,Nat.reduceAdd,hv, hv', hv0, hn, hns, ho, q0, q1, q2];(repeat1' with_reducible first|apply And.intro|(intro _;try exact q_v)|(refine hK _ ?_;clear hK K))<;>(try (clear hK K;exact q_u)))|(with_reducible refine q_s ?_;(first|apply q_J|apply q_K|apply q_L|apply q_M|apply q_N|apply q_O)<;>try (intro _;try exact q_v))|with_reducible refine q_t ?_)
        all_goals first | contradiction | omega | exact q_A rfl | skip
      · (refine q_H Try.func14 (fun F => ?_); simp only [q_z,q_y,Try.ntmps14,Try.results14])
        repeat' (first|(with_reducible first|apply q_a|apply q_b|apply q_c|apply q_d|apply q_e|apply q_f|apply q_g|apply q_h|apply q_i|apply q_j|apply q_k|apply q_m|apply q_n|apply q_o|apply q_p|refine q_l ?_)|((with_reducible first|refine q_q rbo_ok fun K hK=>?_|refine q_r rbo_ok fun K hK=>?_);simp (maxSteps:=2000000) only [go_sem,↓reduceIte,reduceCtorEq,Nat.reduceLeDiff,Nat.reduceLT,Nat.reduceBEq,Nat.reduceAdd,hv, hv', hv0, hn, hns, ho, q0, q1, q2];(repeat1' with_reducible first|apply And.intro|(intro _;try exact q_v)|(refine hK _ ?_;clear hK K))<;>(try (clear hK K;exact q_u)))|(with_reducible refine q_s ?_;(first|apply q_J|apply q_K|apply q_L|apply q_M|apply q_N|apply q_O)<;>try (intro _;try exact q_v))|with_reducible refine q_t ?_)
        all_goals first | contradiction | omega | exact q_A rfl | skip
theorem meet_swap {S T D S' T' D' : Int} {i j : Nat} (h : RV S T D) (h' : RV S' T' D') (hp : 0 < rLen S T D) (hp' : 0 < rLen S' T' D') (hr : (upF S' T' D' - upF S T D).fmod (gOf (upS D) (upS D')) = 0) (hi : isInv (upS D) (upS D') i) (hj : isInv (upS D') (upS D) j) :
    meetF S' T' D' S T D j = meetF S T D S' T' D' i ∧ meetE S' T' D' S T D = meetE S T D S' T' D' ∧ meetS D' D = meetS D D' := by
  have pc := pc_of h h' hp hp'
  have pc' := pc_of h' h hp' hp
  have hr' : (upF S T D - upF S' T' D').fmod (gOf (upS D') (upS D)) = 0 := by rw [gOf_comm]; exact fmod_swap hr
  have m := meets pc hr hi
  have m' := (meets pc' hr' hj).swap
  refine ⟨?_, ?_, ?_⟩
  · exact m'.unique m (com_w pc' hj).2.2.1 (com_w pc hi).2.2.1
  · unfold meetE
    rw [mtL_comm]
  · exact comS_comm pc.1.2 pc.1.1
set_option maxRecDepth 100000 in
set_option maxHeartbeats 12800000 in
theorem both_some (S T D S' T' D' A1 A2 A3 f e st : Int) (i j : Nat) (w : Bool) (ws : List Int) (h : RV S T D) (h' : RV S' T' D') (h7 : ws.length ≤ 140737488355328) (b7 : InB 4294967296 ws)
    (hp : 0 < rLen S T D) (hp' : 0 < rLen S' T' D') (hr : (upF S' T' D' - upF S T D).fmod (gOf (upS D) (upS D')) = 0) (hi : isInv (upS D) (upS D') i) (hj : isInv (upS D') (upS D) j)
    (hf : meetF S T D S' T' D' i = f) (he : meetE S T D S' T' D' = e) (hst : meetS D D' = st) (hA1 : plS f e st = A1) (hA2 : plT f e st = A2) (hA3 : plD f e st = A3) :
    Ret Try.prog 14 false [.inr (gG S T D), .inr (gG S' T' D'), .inr [.b w, .ints .u32 ws]] (.c (.b true)) := by
  obtain ⟨hf', he', hst'⟩ := meet_swap h h' hp hp' hr hi hj
  rw [hf] at hf'
  rw [he] at he'
  rw [hst] at hst'
  have hr' : (upF S T D - upF S' T' D').fmod (gOf (upS D') (upS D)) = 0 := by rw [gOf_comm]; exact fmod_swap hr
  have hmh := meet_has (v := sv 4294967296 w ws) h h' hp hp' hr hi
  rw [hf, he, hst] at hmh
  have hs0 : 0 < st := by rw [← hst]; exact (com_w (pc_of h h' hp hp') hi).2.2.1
  rw [← pl_has (by omega) hs0, hA1, hA2, hA3] at hmh
  have hall : ∀ P : Nat → Prop, (∀ k, isInv (upS D) (upS D') k → P k) = P i := fun P => propext ⟨fun hh => hh i hi, fun hh k hk => (isInv_unique (up_w h hp).2.2.2.1 (up_w h' hp').2.2.2.1 hi hk) ▸ hh⟩
  have hall' : ∀ P : Nat → Prop, (∀ k, isInv (upS D') (upS D) k → P k) = P j := fun P => propext ⟨fun hh => hh j hj, fun hh k hk => (isInv_unique (up_w h' hp').2.2.2.1 (up_w h hp).2.2.2.1 hj hk) ▸ hh⟩
  have hv := (vR_g S T D).2 h
  have hv' := (vR_g S' T' D').2 h'
  have hvA := vR_g A1 A2 A3
  obtain ⟨f1, f2, f3⟩ := rv_fb h
  have l1 := lb_of f1
  have l2 := lb_of f2
  have l3 := lb_of f3
  obtain ⟨f1', f2', f3'⟩ := rv_fb h'
  have l1' := lb_of f1'
  have l2' := lb_of f2'
  have l3' := lb_of f3'
  have n1 : ¬ rLen S T D = 0 := by omega
  have n2 : ¬ rLen S' T' D' = 0 := by omega
  simp only [gG]
  by_cases hR : RV A1 A2 A3
  · have hvA := hvA.2 hR
    obtain ⟨f1'', f2'', f3''⟩ := rv_fb hR
    have l4 := lb_of f1''
    have l5 := lb_of f2''
    have l6 := lb_of f3''
    have m4 := ls_of f1''
    have m5 := ls_of f2''
    have m6 := ls_of f3''
    cases ho : okZ w ws
    · (refine q_H Try.func14 (fun F => ?_); simp only [q_z,q_y,Try.ntmps14,Try.results14])
      repeat' (first|(with_reducible first|apply q_a|apply q_b|apply q_c|apply q_d|apply q_e|apply q_f|apply q_g|apply q_h|apply q_i|apply q_j|apply q_k|apply q_m|apply q_n|apply q_o|apply q_p|refine q_l ?_)|((with_reducible first|refine q_q rbo_ok fun K hK=>?_|refine q_r rbo_ok fun K hK=>?_);simp (maxSteps:=2000000) only [go_sem,↓reduceIte,reduceCtorEq,Nat.reduceLeDiff,Nat.reduceLT,Nat.reduceBEq,Nat.reduceAdd,hv, hv', n1, n2, hr, hr', hall, hall', hf, hf', he, he', hst, hst', hA1, hA2, hA3, hR, hvA, hp, hp', ho];(repeat1' with_reducible first|apply And.intro|(intro _;try exact q_v)|(refine hK _ ?_;clear hK K))<;>(try (clear hK K;exact q_u)))|(with_reducible refine q_s ?_;(first|apply q_J|apply q_K|apply q_L|apply q_M|apply q_N|apply q_O)<;>try (intro _;try exact q_v))|with_reducible refine q_t ?_)
      all_goals first | contradiction | omega | exact q_A rfl | skip
    · by_cases q1 : hasR S T D (sv 4294967296 w ws)
      · by_cases q2 : hasR S' T' D' (sv 4294967296 w ws)
        · have q3 := hmh.2 ⟨q1, q2⟩
          (refine q_H Try.func14 (fun F => ?_); simp only [q_z,q_y,Try.ntmps14,Try.results14])
          repeat' (first|(with_reducible first|apply q_a|apply q_b|apply q_c|apply q_d|apply q_e|apply q_f|apply q_g|apply q_h|apply q_i|apply q_j|apply q_k|apply q_m|apply q_n|apply q_o|apply q_p|refine q_l ?_)|((with_reducible first|refine q_q rbo_ok fun K hK=>?_|refine q_r rbo_ok fun K hK=>?_);simp (maxSteps:=2000000) only [go_sem,↓reduceIte,reduceCtorEq,Nat.reduceLeDiff,Nat.reduceLT,Nat.reduceBEq,Nat.reduceAdd,hv, hv', n1, n2, hr, hr', hall, hall', hf, hf', he, he', hst, hst', hA1, hA2, hA3, hR, hvA, hp, hp', ho, q1, q2, q3];(repeat1' with_reducible first|apply And.intro|(intro _;try exact q_v)|(refine hK _ ?_;clear hK K))<;>(try (clear hK K;exact q_u)))|(with_reducible refine q_s ?_;(first|apply q_J|apply q_K|apply q_L|apply q_M|apply q_N|apply q_O)<;>try (intro _;try exact q_v))|with_reducible refine q_t ?_)
          all_goals first | contradiction | omega | exact q_A rfl | skip
        · have q3 := fun hh => q2 (hmh.1 hh).2
          (refine q_H Try.func14 (fun F => ?_); simp only [q_z,q_y,Try.ntmps14,Try.results14])
          repeat' (first|(with_reducible first|apply q_a|apply q_b|apply q_c|apply q_d|apply q_e|apply q_f|apply q_g|apply q_h|apply q_i|apply q_j|apply q_k|apply q_m|apply q_n|apply q_o|apply q_p|refine q_l ?_)|((with_reducible first|refine q_q rbo_ok fun K hK=>?_|refine q_r rbo_ok fun K hK=>?_);simp (maxSteps:=2000000) only [go_sem,↓reduceIte,reduceCtorEq,Nat.reduceLeDiff,Nat.reduceLT,Nat.reduceBEq,Nat.reduceAdd,hv, hv', n1, n2, hr, hr', hall, hall', hf, hf', he, he', hst, hst', hA1, hA2, hA3, hR, hvA, hp, hp', ho, q1, q2, q3];(repeat1' with_reducible first|apply And.intro|(intro _;try exact q_v)|(refine hK _ ?_;clear hK K))<;>(try (clear hK K;exact q_u)))|(with_reducible refine q_s ?_;(first|apply q_J|apply q_K|apply q_L|apply q_M|apply q_N|apply q_O)<;>try (intro _;try exact q_v))|with_reducible refine q_t ?_)
          all_goals first | contradiction | omega | exact q_A rfl | skip
      · have q3 := fun hh => q1 (hmh.1 hh).1
        by_cases q2 : hasR S' T' D' (sv 4294967296 w ws)
        · (refine q_H Try.func14 (fun F => ?_); simp only [q_z,q_y,Try.ntmps14,Try.results14])
          repeat' (first|(with_reducible first|apply q_a|apply q_b|apply q_c|apply q_d|apply q_e|apply q_f|apply q_g|apply q_h|apply q_i|apply q_j|apply q_k|apply q_m|apply q_n|apply q_o|apply q_p|refine q_l ?_)|((with_reducible first|refine q_q rbo_ok fun K hK=>?_|refine q_r rbo_ok fun K hK=>?_);simp (maxSteps:=2000000) only [go_sem,↓reduceIte,reduceCtorEq,Nat.reduceLeDiff,Nat.reduceLT,Nat.reduceBEq,Nat.reduceAdd,hv, hv', n1, n2, hr, hr', hall, hall', hf, hf', he, he', hst, hst', hA1, hA2, hA3, hR, hvA, hp, hp', ho, q1, q2, q3];(repeat1' with_reducible first|apply And.intro|(intro _;try exact q_v)|(refine hK _ ?_;clear hK K))<;>(try (clear hK K;exact q_u)))|(with_reducible refine q_s ?_;(first|apply q_J|apply q_K|apply q_L|apply q_M|apply q_N|apply q_O)<;>try (intro _;try exact q_v))|with_reducible refine q_t ?_)
          all_goals first | contradiction | omega | exact q_A rfl | skip
        · (refine q_H Try.func14 (fun F => ?_); simp only [q_z,q_y,Try.ntmps14,Try.results14])
          repeat' (first|(with_reducible first|apply q_a|apply q_b|apply q_c|apply q_d|apply q_e|apply q_f|apply q_g|apply q_h|apply q_i|apply q_j|apply q_k|apply q_m|apply q_n|apply q_o|apply q_p|refine q_l ?_)|((with_reducible first|refine q_q rbo_ok fun K hK=>?_|refine q_r rbo_ok fun K hK=>?_);simp (maxSteps:=2000000) only [go_sem,↓reduceIte,reduceCtorEq,Nat.reduceLeDiff,Nat.reduceLT,Nat.reduceBEq,Nat.reduceAdd,hv, hv', n1, n2, hr, hr', hall, hall', hf, hf', he, he', hst, hst', hA1, hA2, hA3, hR, hvA, hp, hp', ho, q1, q2, q3];(repeat1' with_reducible first|apply And.intro|(intro _;try exact q_v)|(refine hK _ ?_;clear hK K))<;>(try (clear hK K;exact q_u)))|(with_reducible refine q_s ?_;(first|apply q_J|apply q_K|apply q_L|apply q_M|apply q_N|apply q_O)<;>try (intro _;try exact q_v))|with_reducible refine q_t ?_)
          all_goals first | contradiction | omega | exact q_A rfl | skip
  · (refine q_H Try.func14 (fun F => ?_); simp only [q_z,q_y,Try.ntmps14,Try.results14])
    repeat' (first|(with_reducible first|apply q_a|apply q_b|apply q_c|apply q_d|apply q_e|apply q_f|apply q_g|apply q_h|apply q_i|apply q_j|apply q_k|apply q_m|apply q_n|apply q_o|apply q_p|refine q_l ?_)|((with_reducible first|refine q_q rbo_ok fun K hK=>?_|refine q_r rbo_ok fun K hK=>?_);simp (maxSteps:=2000000) only [go_sem,↓reduceIte,reduceCtorEq,Nat.reduceLeDiff,Nat.reduceLT,Nat.reduceBEq,Nat.reduceAdd,hv, hv', n1, n2, hr, hr', hall, hall', hf, hf', he, he', hst, hst', hA1, hA2, hA3, hR, hp, hp', sv_nil];(repeat1' with_reducible first|apply And.intro|(intro _;try exact q_v)|(refine hK _ ?_;clear hK K))<;>(try (clear hK K;exact q_u)))|(with_reducible refine q_s ?_;(first|apply q_J|apply q_K|apply q_L|apply q_M|apply q_N|apply q_O)<;>try (intro _;try exact q_v))|with_reducible refine q_t ?_)
    all_goals first | contradiction | omega | exact q_A rfl | skip
theorem both_ok (S T D S' T' D' : Int) (w : Bool) (ws : List Int) (h : RV S T D) (h' : RV S' T' D') (h7 : ws.length ≤ 140737488355328) (b7 : InB 4294967296 ws) :
    Ret Try.prog 14 false [.inr (gG S T D), .inr (gG S' T' D'), .inr [.b w, .ints .u32 ws]] (.c (.b true)) := by
  by_cases hn : rLen S T D = 0 ∨ rLen S' T' D' = 0 ∨ 0 < rLen S T D ∧ 0 < rLen S' T' D' ∧ (upF S' T' D' - upF S T D).fmod (gOf (upS D) (upS D')) ≠ 0
  · exact both_none _ _ _ _ _ _ w ws h h' h7 b7 hn
  · have p1 := rLen_nonneg S T D h.1
    have p2 := rLen_nonneg S' T' D' h'.1
    have q1 : 0 < rLen S T D := by omega
    have q2 : 0 < rLen S' T' D' := by omega
    have hr : (upF S' T' D' - upF S T D).fmod (gOf (upS D) (upS D')) = 0 := by
      by_cases e : (upF S' T' D' - upF S T D).fmod (gOf (upS D) (upS D')) = 0
      · exact e
      · exact absurd (.inr (.inr ⟨q1, q2, e⟩)) hn
    obtain ⟨i, hi⟩ := isInv_ex (up_w h q1).2.2.2.1 (up_w h' q2).2.2.2.1
    obtain ⟨j, hj⟩ := isInv_ex (up_w h' q2).2.2.2.1 (up_w h q1).2.2.2.1
    exact both_some _ _ _ _ _ _ _ _ _ _ _ _ i j w ws h h' h7 b7 q1 q2 hr hi hj rfl rfl rfl rfl rfl rfl
end Go.Proofs.Ytneecniebhhhlaa
