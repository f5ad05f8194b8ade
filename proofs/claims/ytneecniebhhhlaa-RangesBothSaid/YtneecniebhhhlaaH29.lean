import Derived.Test.YtneecniebhhhlaaH26
namespace Go.Proofs.Ytneecniebhhhlaa
set_option linter.unusedSimpArgs false
set_option linter.unusedVariables false
open Go.Abs Go.Proofs.NatL

theorem zero_len (z : Int) : decide (((dg 4294967296 z.natAbs).length : Int) = 0) = decide (z = 0) := by
  have := dg_len_pos 4294967296 z.natAbs (by omega)
  congr 1; apply propext; omega
theorem ix_fb {i n : Int} (h1 : FB i) (h2 : FB n) (h3 : 0 ≤ n) : i < 0 → FB (i + n) := fun h => by
  by_cases h4 : i + n < 0
  · exact FB_mono h1 (by omega)
  · exact FB_mono h2 (by omega)
set_option maxHeartbeats 3200000 in
theorem At_ok (S T D u : Int) (h : RV S T D) (hu : FB u) : Ret Try.prog 89 false [.inr (gG S T D), .inr (gI u)]
    (if 0 ≤ ixZ u (rLen S T D) ∧ ixZ u (rLen S T D) < rLen S T D then .t [.inr (gI (S + D * ixZ u (rLen S T D))), .inr [.i .i64 0, .i .i64 0]] else .t [.inr [.b false, .ints .u32 []], .inr [.i .i64 4, .i .i64 (-2)]]) := by
  have hv := (vR_g S T D).2 h
  have hb := h.rb
  obtain ⟨f1, f2, f3⟩ := rv_fb h
  have l1 := lb_of f1
  have l2 := lb_of f2
  have l3 := lb_of f3
  have l4 := lb_of hu
  obtain ⟨n1, n2⟩ := len_fb h
  have hx := ix_fb hu n1 n2
  have ou := (okZ_g u).trans (decide_eq_true (FB_len hu))
  have he := elem_fb (k := ixZ u (rLen S T D)) h
  generalize hN : rLen S T D = n at *
  simp only [gG, gI]
  by_cases hn : u < 0
  · have e : ixZ u n = u + n := if_pos hn
    have hx := hx hn
    rw [e] at he ⊢
    by_cases hi : 0 ≤ u + n ∧ u + n < n
    · obtain ⟨g1, g2, g3⟩ := he hi.1 hi.2
      rw [if_pos hi]
      (refine q_H Try.func89 (fun F => ?_); simp only [q_z,q_y,Try.ntmps89,Try.results89])
      repeat' (first|(with_reducible first|apply q_a|apply q_b|apply q_c|apply q_d|apply q_e|apply q_f|apply q_g|apply q_h|apply q_i|apply q_j|apply q_k|apply q_m|apply q_n|apply q_o|apply q_p|refine q_l ?_)|((with_reducible first|refine q_q rb7_ok fun K hK=>?_|refine q_r rb7_ok fun K hK=>?_);simp (maxSteps:=2000000) only [go_sem,↓reduceIte,reduceCtorEq,Nat.reduceLeDiff,Nat.reduceLT,Nat.reduceBEq,Nat.reduceAdd,hv, ou, hN];(repeat1' with_reducible first|apply And.intro|(intro _;try exact q_v)|(refine hK _ ?_;clear hK K))<;>(try (clear hK K;exact q_u)))|(with_reducible refine q_s ?_;(first|apply q_J|apply q_K|apply q_L|apply q_M|apply q_N|apply q_O)<;>try (intro _;try exact q_v))|with_reducible refine q_t ?_)
      all_goals first | contradiction | omega | exact q_A rfl | exact ⟨f1, f3, g1, g2, g3⟩
    · rw [if_neg hi]
      (refine q_H Try.func89 (fun F => ?_); simp only [q_z,q_y,Try.ntmps89,Try.results89])
      repeat' (first|(with_reducible first|apply q_a|apply q_b|apply q_c|apply q_d|apply q_e|apply q_f|apply q_g|apply q_h|apply q_i|apply q_j|apply q_k|apply q_m|apply q_n|apply q_o|apply q_p|refine q_l ?_)|((with_reducible first|refine q_q rb7_ok fun K hK=>?_|refine q_r rb7_ok fun K hK=>?_);simp (maxSteps:=2000000) only [go_sem,↓reduceIte,reduceCtorEq,Nat.reduceLeDiff,Nat.reduceLT,Nat.reduceBEq,Nat.reduceAdd,hv, ou, hN];(repeat1' with_reducible first|apply And.intro|(intro _;try exact q_v)|(refine hK _ ?_;clear hK K))<;>(try (clear hK K;exact q_u)))|(with_reducible refine q_s ?_;(first|apply q_J|apply q_K|apply q_L|apply q_M|apply q_N|apply q_O)<;>try (intro _;try exact q_v))|with_reducible refine q_t ?_)
      all_goals first | contradiction | omega | exact q_B [nP, .inr [none, none]] rfl rfl
  · have e : ixZ u n = u := if_neg hn
    rw [e] at he ⊢
    by_cases hi : 0 ≤ u ∧ u < n
    · obtain ⟨g1, g2, g3⟩ := he hi.1 hi.2
      rw [if_pos hi]
      (refine q_H Try.func89 (fun F => ?_); simp only [q_z,q_y,Try.ntmps89,Try.results89])
      repeat' (first|(with_reducible first|apply q_a|apply q_b|apply q_c|apply q_d|apply q_e|apply q_f|apply q_g|apply q_h|apply q_i|apply q_j|apply q_k|apply q_m|apply q_n|apply q_o|apply q_p|refine q_l ?_)|((with_reducible first|refine q_q rb7_ok fun K hK=>?_|refine q_r rb7_ok fun K hK=>?_);simp (maxSteps:=2000000) only [go_sem,↓reduceIte,reduceCtorEq,Nat.reduceLeDiff,Nat.reduceLT,Nat.reduceBEq,Nat.reduceAdd,hv, ou, hN];(repeat1' with_reducible first|apply And.intro|(intro _;try exact q_v)|(refine hK _ ?_;clear hK K))<;>(try (clear hK K;exact q_u)))|(with_reducible refine q_s ?_;(first|apply q_J|apply q_K|apply q_L|apply q_M|apply q_N|apply q_O)<;>try (intro _;try exact q_v))|with_reducible refine q_t ?_)
      all_goals first | contradiction | omega | exact q_A rfl | exact ⟨f1, f3, g1, g2, g3⟩
    · rw [if_neg hi]
      (refine q_H Try.func89 (fun F => ?_); simp only [q_z,q_y,Try.ntmps89,Try.results89])
      repeat' (first|(with_reducible first|apply q_a|apply q_b|apply q_c|apply q_d|apply q_e|apply q_f|apply q_g|apply q_h|apply q_i|apply q_j|apply q_k|apply q_m|apply q_n|apply q_o|apply q_p|refine q_l ?_)|((with_reducible first|refine q_q rb7_ok fun K hK=>?_|refine q_r rb7_ok fun K hK=>?_);simp (maxSteps:=2000000) only [go_sem,↓reduceIte,reduceCtorEq,Nat.reduceLeDiff,Nat.reduceLT,Nat.reduceBEq,Nat.reduceAdd,hv, ou, hN];(repeat1' with_reducible first|apply And.intro|(intro _;try exact q_v)|(refine hK _ ?_;clear hK K))<;>(try (clear hK K;exact q_u)))|(with_reducible refine q_s ?_;(first|apply q_J|apply q_K|apply q_L|apply q_M|apply q_N|apply q_O)<;>try (intro _;try exact q_v))|with_reducible refine q_t ?_)
      all_goals first | contradiction | omega | exact q_B [nP, .inr [none, none]] rfl rfl
set_option maxHeartbeats 1600000 in
theorem At_bad1 (s t d u : Bool) (xs ys zs us : List Int) (h1 : xs.length ≤ 140737488355328) (h2 : ys.length ≤ 140737488355328) (h3 : zs.length ≤ 140737488355328) (hv : vR s t d xs ys zs = false) :
    Ret Try.prog 89 false [.inr [.b s, .ints .u32 xs, .b t, .ints .u32 ys, .b d, .ints .u32 zs], .inr [.b u, .ints .u32 us]] (.t [.inr [.b false, .ints .u32 []], .inr [.i .i64 6, .i .i64 (-1)]]) := by
  (refine q_H Try.func89 (fun F => ?_); simp only [q_z,q_y,Try.ntmps89,Try.results89])
  repeat' (first|(with_reducible first|apply q_a|apply q_b|apply q_c|apply q_d|apply q_e|apply q_f|apply q_g|apply q_h|apply q_i|apply q_j|apply q_k|apply q_m|apply q_n|apply q_o|apply q_p|refine q_l ?_)|((with_reducible first|refine q_q rb7_ok fun K hK=>?_|refine q_r rb7_ok fun K hK=>?_);simp (maxSteps:=2000000) only [go_sem,↓reduceIte,reduceCtorEq,Nat.reduceLeDiff,Nat.reduceLT,Nat.reduceBEq,Nat.reduceAdd,hv];(repeat1' with_reducible first|apply And.intro|(intro _;try exact q_v)|(refine hK _ ?_;clear hK K))<;>(try (clear hK K;exact q_u)))|(with_reducible refine q_s ?_;(first|apply q_J|apply q_K|apply q_L|apply q_M|apply q_N|apply q_O)<;>try (intro _;try exact q_v))|with_reducible refine q_t ?_)
  all_goals first | contradiction | omega | exact q_B [nP, .inr [none, none]] rfl rfl
set_option maxHeartbeats 1600000 in
theorem At_bad2 (s t d u : Bool) (xs ys zs us : List Int) (h1 : xs.length ≤ 140737488355328) (h2 : ys.length ≤ 140737488355328) (h3 : zs.length ≤ 140737488355328) (h4 : us.length ≤ 140737488355328) (hv : vR s t d xs ys zs = true) (ho : okZ u us = false) :
    Ret Try.prog 89 false [.inr [.b s, .ints .u32 xs, .b t, .ints .u32 ys, .b d, .ints .u32 zs], .inr [.b u, .ints .u32 us]] (.t [.inr [.b false, .ints .u32 []], .inr [.i .i64 6, .i .i64 (-2)]]) := by
  (refine q_H Try.func89 (fun F => ?_); simp only [q_z,q_y,Try.ntmps89,Try.results89])
  repeat' (first|(with_reducible first|apply q_a|apply q_b|apply q_c|apply q_d|apply q_e|apply q_f|apply q_g|apply q_h|apply q_i|apply q_j|apply q_k|apply q_m|apply q_n|apply q_o|apply q_p|refine q_l ?_)|((with_reducible first|refine q_q rb7_ok fun K hK=>?_|refine q_r rb7_ok fun K hK=>?_);simp (maxSteps:=2000000) only [go_sem,↓reduceIte,reduceCtorEq,Nat.reduceLeDiff,Nat.reduceLT,Nat.reduceBEq,Nat.reduceAdd,hv, ho];(repeat1' with_reducible first|apply And.intro|(intro _;try exact q_v)|(refine hK _ ?_;clear hK K))<;>(try (clear hK K;exact q_u)))|(with_reducible refine q_s ?_;(first|apply q_J|apply q_K|apply q_L|apply q_M|apply q_N|apply q_O)<;>try (intro _;try exact q_v))|with_reducible refine q_t ?_)
  all_goals first | contradiction | omega | exact q_B [nP, .inr [none, none]] rfl rfl
set_option maxHeartbeats 1600000 in
theorem Index_bad1 (s t d u : Bool) (xs ys zs us : List Int) (h1 : xs.length ≤ 140737488355328) (h2 : ys.length ≤ 140737488355328) (h3 : zs.length ≤ 140737488355328) (hv : vR s t d xs ys zs = false) :
    Ret Try.prog 84 false [.inr [.b s, .ints .u32 xs, .b t, .ints .u32 ys, .b d, .ints .u32 zs], .inr [.b u, .ints .u32 us]] (.t [.inr [.b false, .ints .u32 []], .inr [.i .i64 6, .i .i64 (-1)]]) := by
  (refine q_H Try.func84 (fun F => ?_); simp only [q_z,q_y,Try.ntmps84,Try.results84])
  repeat' (first|(with_reducible first|apply q_a|apply q_b|apply q_c|apply q_d|apply q_e|apply q_f|apply q_g|apply q_h|apply q_i|apply q_j|apply q_k|apply q_m|apply q_n|apply q_o|apply q_p|refine q_l ?_)|((with_reducible first|refine q_q rb7_ok fun K hK=>?_|refine q_r rb7_ok fun K hK=>?_);simp (maxSteps:=2000000) only [go_sem,↓reduceIte,reduceCtorEq,Nat.reduceLeDiff,Nat.reduceLT,Nat.reduceBEq,Nat.reduceAdd,hv];(repeat1' with_reducible first|apply And.intro|(intro _;try exact q_v)|(refine hK _ ?_;clear hK K))<;>(try (clear hK K;exact q_u)))|(with_reducible refine q_s ?_;(first|apply q_J|apply q_K|apply q_L|apply q_M|apply q_N|apply q_O)<;>try (intro _;try exact q_v))|with_reducible refine q_t ?_)
  all_goals first | contradiction | omega | exact q_B [nP, .inr [none, none]] rfl rfl
set_option maxHeartbeats 1600000 in
theorem Index_bad2 (s t d u : Bool) (xs ys zs us : List Int) (h1 : xs.length ≤ 140737488355328) (h2 : ys.length ≤ 140737488355328) (h3 : zs.length ≤ 140737488355328) (h4 : us.length ≤ 140737488355328) (hv : vR s t d xs ys zs = true) (ho : okZ u us = false) :
    Ret Try.prog 84 false [.inr [.b s, .ints .u32 xs, .b t, .ints .u32 ys, .b d, .ints .u32 zs], .inr [.b u, .ints .u32 us]] (.t [.inr [.b false, .ints .u32 []], .inr [.i .i64 6, .i .i64 (-2)]]) := by
  (refine q_H Try.func84 (fun F => ?_); simp only [q_z,q_y,Try.ntmps84,Try.results84])
  repeat' (first|(with_reducible first|apply q_a|apply q_b|apply q_c|apply q_d|apply q_e|apply q_f|apply q_g|apply q_h|apply q_i|apply q_j|apply q_k|apply q_m|apply q_n|apply q_o|apply q_p|refine q_l ?_)|((with_reducible first|refine q_q rb7_ok fun K hK=>?_|refine q_r rb7_ok fun K hK=>?_);simp (maxSteps:=2000000) only [go_sem,↓reduceIte,reduceCtorEq,Nat.reduceLeDiff,Nat.reduceLT,Nat.reduceBEq,Nat.reduceAdd,hv, ho];(repeat1' with_reducible first|apply And.intro|(intro _;try exact q_v)|(refine hK _ ?_;clear hK K))<;>(try (clear hK K;exact q_u)))|(with_reducible refine q_s ?_;(first|apply q_J|apply q_K|apply q_L|apply q_M|apply q_N|apply q_O)<;>try (intro _;try exact q_v))|with_reducible refine q_t ?_)
  all_goals first | contradiction | omega | exact q_B [nP, .inr [none, none]] rfl rfl
def rTotI (good : Int → Int → Int → Int → (AV → Prop) → Prop) : CT := mkCT [nG, nP] false fun l K => match l with
  | [.inr [.b s, .ints .u32 xs, .b t, .ints .u32 ys, .b d, .ints .u32 zs], .inr [.b u, .ints .u32 us]] => ((xs.length ≤ 140737488355328 ∧ ys.length ≤ 140737488355328 ∧ zs.length ≤ 140737488355328 ∧ us.length ≤ 140737488355328) ∧ InB 4294967296 xs ∧ InB 4294967296 ys ∧ InB 4294967296 zs ∧ InB 4294967296 us) ∧
      (vR s t d xs ys zs = true → (okZ u us = true → good (sv 4294967296 s xs) (sv 4294967296 t ys) (sv 4294967296 d zs) (sv 4294967296 u us) K) ∧ (okZ u us = false → K (.t [.inr [.b false, .ints .u32 []], .inr [.i .i64 6, .i .i64 (-2)]]))) ∧
      (vR s t d xs ys zs = false → K (.t [.inr [.b false, .ints .u32 []], .inr [.i .i64 6, .i .i64 (-1)]]))
  | _ => False
theorem rTotI_tr {F : FuncId} {good : Int → Int → Int → Int → (AV → Prop) → Prop} (hg : ∀ S T D u : Int, RV S T D → FB u → ∀ K, good S T D u K → ∃ r, Ret Try.prog F false [.inr (gG S T D), .inr (gI u)] r ∧ K r)
    (hb1 : ∀ (s t d u : Bool) (xs ys zs us : List Int), xs.length ≤ 140737488355328 → ys.length ≤ 140737488355328 → zs.length ≤ 140737488355328 → vR s t d xs ys zs = false → Ret Try.prog F false [.inr [.b s, .ints .u32 xs, .b t, .ints .u32 ys, .b d, .ints .u32 zs], .inr [.b u, .ints .u32 us]] (.t [.inr [.b false, .ints .u32 []], .inr [.i .i64 6, .i .i64 (-1)]]))
    (hb2 : ∀ (s t d u : Bool) (xs ys zs us : List Int), xs.length ≤ 140737488355328 → ys.length ≤ 140737488355328 → zs.length ≤ 140737488355328 → us.length ≤ 140737488355328 → vR s t d xs ys zs = true → okZ u us = false → Ret Try.prog F false [.inr [.b s, .ints .u32 xs, .b t, .ints .u32 ys, .b d, .ints .u32 zs], .inr [.b u, .ints .u32 us]] (.t [.inr [.b false, .ints .u32 []], .inr [.i .i64 6, .i .i64 (-2)]]))
    (l : List (C ⊕ List C)) (K : AV → Prop) (hk : match l with
      | [.inr [.b s, .ints .u32 xs, .b t, .ints .u32 ys, .b d, .ints .u32 zs], .inr [.b u, .ints .u32 us]] => ((xs.length ≤ 140737488355328 ∧ ys.length ≤ 140737488355328 ∧ zs.length ≤ 140737488355328 ∧ us.length ≤ 140737488355328) ∧ InB 4294967296 xs ∧ InB 4294967296 ys ∧ InB 4294967296 zs ∧ InB 4294967296 us) ∧
          (vR s t d xs ys zs = true → (okZ u us = true → good (sv 4294967296 s xs) (sv 4294967296 t ys) (sv 4294967296 d zs) (sv 4294967296 u us) K) ∧ (okZ u us = false → K (.t [.inr [.b false, .ints .u32 []], .inr [.i .i64 6, .i .i64 (-2)]]))) ∧
          (vR s t d xs ys zs = false → K (.t [.inr [.b false, .ints .u32 []], .inr [.i .i64 6, .i .i64 (-1)]]))
      | _ => False) : ∃ r, Ret Try.prog F false l r ∧ K r := by
  split at hk
  · rename_i s xs t ys d zs u us
    obtain ⟨⟨⟨h1, h2, h3, h4⟩, b1, b2, b3, b4⟩, hgood, hbad⟩ := hk
    cases hv : vR s t d xs ys zs
    · exact ⟨_, hb1 s t d u xs ys zs us h1 h2 h3 hv, hbad hv⟩
    · cases ho : okZ u us
      · exact ⟨_, hb2 s t d u xs ys zs us h1 h2 h3 h4 hv ho, (hgood hv).2 ho⟩
      · obtain ⟨n1, n2, n3, h⟩ := vR_ok hv b1 b2 b3
        obtain ⟨e, la⟩ := gI_of ho b4
        rw [gG_nrm n1 n2 n3, e]
        exact hg _ _ _ _ h la K ((hgood hv).1 ho)
  · exact hk.elim
def gdAt (S T D u : Int) (K : AV → Prop) : Prop := (0 ≤ ixZ u (rLen S T D) ∧ ixZ u (rLen S T D) < rLen S T D → K (.t [.inr (gI (S + D * ixZ u (rLen S T D))), .inr [.i .i64 0, .i .i64 0]])) ∧
  (¬ (0 ≤ ixZ u (rLen S T D) ∧ ixZ u (rLen S T D) < rLen S T D) → K (.t [.inr [.b false, .ints .u32 []], .inr [.i .i64 4, .i .i64 (-2)]]))
def re2 : Cfg := addT 89 (rTotI gdAt) re1
theorem re2_ok : TblOk Try.prog re2 := q_I re1_ok Try.func89 fun l K h =>
  rTotI_tr (good := gdAt) (fun S T D u hv hu K h => by
    have := At_ok S T D u hv hu
    by_cases hi : 0 ≤ ixZ u (rLen S T D) ∧ ixZ u (rLen S T D) < rLen S T D
    · rw [if_pos hi] at this; exact ⟨_, this, h.1 hi⟩
    · rw [if_neg hi] at this; exact ⟨_, this, h.2 hi⟩) At_bad1 At_bad2 l K h
def hasR (S T D v : Int) : Prop := (v - S).fmod D = 0 ∧ 0 ≤ (v - S).fdiv D ∧ (v - S).fdiv D < rLen S T D
theorem has_fit {S T D v : Int} (h : RV S T D) (hh : hasR S T D v) : v.natAbs < W40 := by
  obtain ⟨h0, h1, h2, h3⟩ := h
  obtain ⟨g1, g2, g3⟩ := hh
  have e := Int.fmod_add_mul_fdiv (v - S) D
  rw [g1] at e
  have := (rLen_iff h0 _ g2).1 g3
  have hp : 0 < D → 0 ≤ D * (v - S).fdiv D := fun hd => Int.mul_nonneg (by omega) g2
  have hq : D < 0 → D * (v - S).fdiv D ≤ 0 := fun hd => Int.mul_nonpos_of_nonpos_of_nonneg (by omega) g2
  generalize D * (v - S).fdiv D = p at *
  omega
set_option maxHeartbeats 3200000 in
theorem Index_in (S T D v : Int) (h : RV S T D) (hu : v.natAbs < W40) (hh : hasR S T D v) : Ret Try.prog 84 false [.inr (gG S T D), .inr (gI v)] (.t [.inr (gI ((v - S).fdiv D)), .inr [.i .i64 0, .i .i64 0]]) := by
  have hv := (vR_g S T D).2 h
  have hb := h.rb
  obtain ⟨f1, f2, f3⟩ := rv_fb h
  have l1 := lb_of f1
  have l2 := lb_of f2
  have l3 := lb_of f3
  have hw := W80_ge
  have f4 : FB v := FB_w (by omega)
  have l4 := lb_of f4
  obtain ⟨n1, n2⟩ := len_fb h
  have ou := (okZ_g v).trans (decide_eq_true (FB_len f4))
  have fu := (fit4_g v).trans (decide_eq_true hu)
  obtain ⟨h0, w1, w2, w3⟩ := h
  have f5 : FB (v - S) := FB_w (by omega)
  obtain ⟨g1, g2, g3⟩ := hh
  have f6 : FB ((v - S).fdiv D) := FB_mono n1 (by omega)
  have g0 : ((dg 4294967296 ((v - S).fmod D).natAbs).length : Int) = 0 := by rw [g1]; rfl
  generalize hN : rLen S T D = n at *
  generalize hq : (v - S).fdiv D = q at *
  generalize hr : (v - S).fmod D = r at *
  simp only [gG, gI]
  (refine q_H Try.func84 (fun F => ?_); simp only [q_z,q_y,Try.ntmps84,Try.results84])
  repeat' (first|(with_reducible first|apply q_a|apply q_b|apply q_c|apply q_d|apply q_e|apply q_f|apply q_g|apply q_h|apply q_i|apply q_j|apply q_k|apply q_m|apply q_n|apply q_o|apply q_p|refine q_l ?_)|((with_reducible first|refine q_q rb7_ok fun K hK=>?_|refine q_r rb7_ok fun K hK=>?_);simp (maxSteps:=2000000) only [go_sem,↓reduceIte,reduceCtorEq,Nat.reduceLeDiff,Nat.reduceLT,Nat.reduceBEq,Nat.reduceAdd,hv, ou, fu, hN, hq, hr, g0, decide_true];(repeat1' with_reducible first|apply And.intro|(intro _;try exact q_v)|(refine hK _ ?_;clear hK K))<;>(try (clear hK K;exact q_u)))|(with_reducible refine q_s ?_;(first|apply q_J|apply q_K|apply q_L|apply q_M|apply q_N|apply q_O)<;>try (intro _;try exact q_v))|with_reducible refine q_t ?_)
  all_goals first | contradiction | omega | exact q_A rfl
set_option maxHeartbeats 3200000 in
theorem Index_out (S T D v : Int) (h : RV S T D) (hu : FB v) (hh : ¬ hasR S T D v) : Ret Try.prog 84 false [.inr (gG S T D), .inr (gI v)] (.t [.inr [.b false, .ints .u32 []], .inr [.i .i64 12, .i .i64 (-2)]]) := by
  have hv := (vR_g S T D).2 h
  have hb := h.rb
  obtain ⟨f1, f2, f3⟩ := rv_fb h
  have l1 := lb_of f1
  have l2 := lb_of f2
  have l3 := lb_of f3
  have hw := W80_ge
  have l4 := lb_of hu
  obtain ⟨n1, n2⟩ := len_fb h
  have ou := (okZ_g v).trans (decide_eq_true (FB_len hu))
  by_cases hf : v.natAbs < W40
  · have fu := (fit4_g v).trans (decide_eq_true hf)
    obtain ⟨h0, w1, w2, w3⟩ := h
    have f5 : FB (v - S) := FB_w (by omega)
    have hq1 : FB ((v - S).fdiv D) := by
      have e := Int.fmod_add_mul_fdiv (v - S) D
      have hm : ((v - S).fmod D).natAbs ≤ D.natAbs := by
        rcases Int.lt_or_gt_of_ne h0 with hd | hd
        · have := (Int.fdiv_fmod_unique' (a := v - S) hd).1 ⟨rfl, rfl⟩
          omega
        · have := (Int.fdiv_fmod_unique (a := v - S) hd).1 ⟨rfl, rfl⟩
          omega
      have e2 : (D * (v - S).fdiv D).natAbs = D.natAbs * ((v - S).fdiv D).natAbs := Int.natAbs_mul _ _
      have e3 : ((v - S).fdiv D).natAbs ≤ D.natAbs * ((v - S).fdiv D).natAbs := Nat.le_mul_of_pos_left _ (by omega)
      generalize D * (v - S).fdiv D = p at *
      generalize D.natAbs * ((v - S).fdiv D).natAbs = m at *
      exact FB_w (by omega)
    have zl := zero_len ((v - S).fmod D)
    unfold hasR at hh
    generalize hN : rLen S T D = n at *
    generalize hq : (v - S).fdiv D = q at *
    generalize hr : (v - S).fmod D = r at *
    simp only [gG, gI]
    (refine q_H Try.func84 (fun F => ?_); simp only [q_z,q_y,Try.ntmps84,Try.results84])
    repeat' (first|(with_reducible first|apply q_a|apply q_b|apply q_c|apply q_d|apply q_e|apply q_f|apply q_g|apply q_h|apply q_i|apply q_j|apply q_k|apply q_m|apply q_n|apply q_o|apply q_p|refine q_l ?_)|((with_reducible first|refine q_q rb7_ok fun K hK=>?_|refine q_r rb7_ok fun K hK=>?_);simp (maxSteps:=2000000) only [go_sem,↓reduceIte,reduceCtorEq,Nat.reduceLeDiff,Nat.reduceLT,Nat.reduceBEq,Nat.reduceAdd,hv, ou, fu, hN, hq, hr, zl];(repeat1' with_reducible first|apply And.intro|(intro _;try exact q_v)|(refine hK _ ?_;clear hK K))<;>(try (clear hK K;exact q_u)))|(with_reducible refine q_s ?_;(first|apply q_J|apply q_K|apply q_L|apply q_M|apply q_N|apply q_O)<;>try (intro _;try exact q_v))|with_reducible refine q_t ?_)
    all_goals first | contradiction | omega | exact q_B [nP, .inr [none, none]] rfl rfl
  · have fu := (fit4_g v).trans (decide_eq_false hf)
    simp only [gG, gI]
    (refine q_H Try.func84 (fun F => ?_); simp only [q_z,q_y,Try.ntmps84,Try.results84])
    repeat' (first|(with_reducible first|apply q_a|apply q_b|apply q_c|apply q_d|apply q_e|apply q_f|apply q_g|apply q_h|apply q_i|apply q_j|apply q_k|apply q_m|apply q_n|apply q_o|apply q_p|refine q_l ?_)|((with_reducible first|refine q_q rb7_ok fun K hK=>?_|refine q_r rb7_ok fun K hK=>?_);simp (maxSteps:=2000000) only [go_sem,↓reduceIte,reduceCtorEq,Nat.reduceLeDiff,Nat.reduceLT,Nat.reduceBEq,Nat.reduceAdd,hv, ou, fu];(repeat1' with_reducible first|apply And.intro|(intro _;try exact q_v)|(refine hK _ ?_;clear hK K))<;>(try (clear hK K;exact q_u)))|(with_reducible refine q_s ?_;(first|apply q_J|apply q_K|apply q_L|apply q_M|apply q_N|apply q_O)<;>try (intro _;try exact q_v))|with_reducible refine q_t ?_)
    all_goals first | contradiction | omega | exact q_B [nP, .inr [none, none]] rfl rfl
def gdIndex (S T D v : Int) (K : AV → Prop) : Prop := (hasR S T D v → K (.t [.inr (gI ((v - S).fdiv D)), .inr [.i .i64 0, .i .i64 0]])) ∧ (¬ hasR S T D v → K (.t [.inr [.b false, .ints .u32 []], .inr [.i .i64 12, .i .i64 (-2)]]))
def re3 : Cfg := addT 84 (rTotI gdIndex) re2
theorem re3_ok : TblOk Try.prog re3 := q_I re2_ok Try.func84 fun l K h =>
  rTotI_tr (good := gdIndex) (fun S T D v hv hu K h => by
    by_cases hi : hasR S T D v
    · exact ⟨_, Index_in S T D v hv (has_fit hv hi) hi, h.1 hi⟩
    · exact ⟨_, Index_out S T D v hv hu hi, h.2 hi⟩) Index_bad1 Index_bad2 l K h
attribute [go_sem] rTotI gdAt gdIndex
end Go.Proofs.Ytneecniebhhhlaa

namespace Go.Proofs.Ytneecniebhhhlaa
set_option linter.unusedSimpArgs false
set_option linter.unusedVariables false
open Go.Abs Go.Proofs.NatL

def elL (S D : Int) (m : Nat) : List (List C) := (List.range m).map fun k : Nat => gI (S + D * (k : Int))
def atM (n most : Int) : Nat := (min n most).toNat
def rb8 : Cfg := listT [(138, check1CT), (140, (rgCT RB (fun S T D => oneI (rLen S T D)))), (155, (rgICT pElem (fun S _ D u => oneI (S + D * u)))), (152, atCT), (28, iOfCT), (54, ismCT)] [28]
attribute [go_sem] rb8
def valuesCT : CT := mkCT [nG] false fun l K => match l with
  | [.inr [.b s, .ints .u32 xs, .b t, .ints .u32 ys, .b d, .ints .u32 zs], .inl (.i .i64 m)] => ((xs.length ≤ 140737488355328 ∧ ys.length ≤ 140737488355328 ∧ zs.length ≤ 140737488355328) ∧ InB 4294967296 xs ∧ InB 4294967296 ys ∧ InB 4294967296 zs) ∧
      (vR s t d xs ys zs = true → (0 ≤ m ∧ m ≤ 4000 → K (.t [.inl (.sl 2 (elL (sv 4294967296 s xs) (sv 4294967296 d zs) (atM (rLen (sv 4294967296 s xs) (sv 4294967296 t ys) (sv 4294967296 d zs)) m))), .inr [.i .i64 0, .i .i64 0]])) ∧
        ((m < 0 ∨ 4000 < m) → K (.t [.inl (.sl 2 []), .inr [.i .i64 4, .i .i64 (-2)]]))) ∧
      (vR s t d xs ys zs = false → K (.t [.inl (.sl 2 []), .inr [.i .i64 6, .i .i64 (-1)]]))
  | _ => False
attribute [go_sem] valuesCT
end Go.Proofs.Ytneecniebhhhlaa
