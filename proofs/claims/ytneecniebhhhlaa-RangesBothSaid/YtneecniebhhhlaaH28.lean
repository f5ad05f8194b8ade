import Derived.Test.YtneecniebhhhlaaH27
namespace Go.Proofs.Ytneecniebhhhlaa
set_option linter.unusedSimpArgs false
set_option linter.unusedVariables false
open Go.Abs Go.Proofs.NatL

def ry1 : Cfg := listT [(138, check2CT), (140, (rgCT RB (fun S T D => oneI (rLen S T D)))), (139, zeroRCT), (141, (rgCT pUp (fun S T D => .g (gG (upF S T D) (upL S T D) (upS D))))), (142, rcommonCT), (143, (rg2CT (fun _ _ => True) lessR)), (145, (rg2CT (fun a b => FB (a + b)) add_R)), (146, (rg2CT (fun a b => FB (a - b)) sub_R)), (147, (rg2CT (fun a b => FB (a * b)) mul_R)), (144, (rg2CT (fun _ b => b ≠ 0) dmR)), (149, (rgCT RB (fun S T D => .g (gG (plS S T D) (plT S T D) (plD S T D))))), (148, wholeCT), (28, iOfCT)] [28]
theorem ry1_ok : TblOk Try.prog ry1 := listE_ok (by simp only [List.mem_singleton, forall_eq]; exact flt) ⟨⟨rz5, rz5_ok, rfl⟩, ⟨rc7, rc7_ok, rfl⟩, ⟨rc7, rc7_ok, rfl⟩, ⟨rz2, rz2_ok, rfl⟩, ⟨rz3, rz3_ok, rfl⟩, ⟨rc7, rc7_ok, rfl⟩, ⟨rc7, rc7_ok, rfl⟩, ⟨rc7, rc7_ok, rfl⟩, ⟨rc7, rc7_ok, rfl⟩, ⟨rc7, rc7_ok, rfl⟩, ⟨rz4, rz4_ok, rfl⟩, ⟨rz6, rz6_ok, rfl⟩, ⟨iu1, iu1_ok, rfl⟩, trivial⟩
attribute [go_sem] ry1
theorem up_w {S T D : Int} (h : RV S T D) (hp : 0 < rLen S T D) : (upF S T D).natAbs < W40 ∧ (upL S T D).natAbs < W40 ∧ (upS D).natAbs < W40 ∧ 0 < upS D ∧ upF S T D ≤ upL S T D := by
  have hi := (rLen_iff (S := S) (T := T) h.1 (rLen S T D - 1) (by omega)).1 (by omega)
  have hn0 : 0 ≤ rLen S T D - 1 := by omega
  obtain ⟨h0, h1, h2, h3⟩ := h
  have hp1 : 0 < D → 0 ≤ D * (rLen S T D - 1) := fun hd => Int.mul_nonneg (by omega) hn0
  have hp2 : D < 0 → D * (rLen S T D - 1) ≤ 0 := fun hd => Int.mul_nonpos_of_nonpos_of_nonneg (by omega) hn0
  unfold upF upL upS
  generalize D * (rLen S T D - 1) = p at *
  split <;> omega
theorem pc_of {S T D S' T' D' : Int} (h : RV S T D) (h' : RV S' T' D') (hp : 0 < rLen S T D) (hp' : 0 < rLen S' T' D') : pCom (upF S T D) (upS D) (upF S' T' D') (upS D') := by
  obtain ⟨w1, w2, w3, w4, _⟩ := up_w h hp
  obtain ⟨v1, v2, v3, v4, _⟩ := up_w h' hp'
  exact ⟨⟨w4, v4⟩, w3, v3, w1, v1⟩
def mtF (f q st : Int) : Int := if f < q then f + st * ((q - f + (st - 1)).fdiv st) else f
def mtL (l l' : Int) : Int := if l' < l then l' else l
theorem mtF_w {f q st : Int} (hs : 0 < st) (ws : st.natAbs ≤ W80) (wf : f.natAbs ≤ 2 * W80) (wq : q.natAbs ≤ W80) (h : f < q) :
    FB ((q - f + (st - 1)).fdiv st) ∧ FB (st * ((q - f + (st - 1)).fdiv st)) ∧ q ≤ f + st * ((q - f + (st - 1)).fdiv st) ∧ f + st * ((q - f + (st - 1)).fdiv st) < q + st := by
  obtain ⟨e1, e2, e3⟩ := (Int.fdiv_fmod_unique (a := q - f + (st - 1)) hs).1 ⟨rfl, rfl⟩
  have e4 : (st * (q - f + (st - 1)).fdiv st).natAbs = st.natAbs * ((q - f + (st - 1)).fdiv st).natAbs := Int.natAbs_mul _ _
  have e5 : ((q - f + (st - 1)).fdiv st).natAbs ≤ st.natAbs * ((q - f + (st - 1)).fdiv st).natAbs := Nat.le_mul_of_pos_left _ (by omega)
  have hw := W80_ge
  generalize st.natAbs * ((q - f + (st - 1)).fdiv st).natAbs = m at *
  generalize st * (q - f + (st - 1)).fdiv st = y at *
  generalize (q - f + (st - 1)).fmod st = r at *
  exact ⟨FB_w (by omega), FB_w (by omega), by omega, by omega⟩
theorem com_w {p s q t : Int} {i : Nat} (h : pCom p s q t) (hi : isInv s t i) : (comF p s q t i).natAbs ≤ 2 * W80 ∧ (comS s t).natAbs ≤ W80 ∧ 0 < comS s t ∧ p ≤ comF p s q t i ∧ comF p s q t i < p + comS s t := by
  obtain ⟨⟨hs, ht⟩, w1, w2, w3, w4⟩ := h
  obtain ⟨⟨g0, g1⟩, ⟨o0, ol⟩, ⟨u0, ul⟩, hco, _, _⟩ := gcd_facts hs ht (g := gOf s t) rfl rfl rfl
  unfold comF comS
  have f2 := (Int.fdiv_fmod_unique (a := ((q - p).fdiv (gOf s t)).fmod (t.fdiv (gOf s t)) * (i : Int)) u0).1 ⟨rfl, rfl⟩
  generalize t.fdiv (gOf s t) = u at *
  generalize (((q - p).fdiv (gOf s t)).fmod u * (i : Int)).fmod u = x at *
  have b2 : (s * x).natAbs ≤ W80 := mul_w (by omega) (by omega)
  have b3 : (s * u).natAbs ≤ W80 := mul_w (by omega) (by omega)
  have b4 : 0 ≤ s * x := Int.mul_nonneg (by omega) (by omega)
  have b5 : 0 < s * u := Int.mul_pos hs u0
  have b6 : s * x < s * u := Int.mul_lt_mul_of_pos_left (by omega) hs
  have := W80_ge
  generalize s * x = y at *
  generalize s * u = z at *
  omega
set_option maxRecDepth 100000 in
set_option maxHeartbeats 6400000 in
theorem Meet_bad (s t d s' t' d' : Bool) (xs ys zs xs' ys' zs' : List Int) (h1 : xs.length ≤ 140737488355328) (h2 : ys.length ≤ 140737488355328) (h3 : zs.length ≤ 140737488355328) (h1' : xs'.length ≤ 140737488355328) (h2' : ys'.length ≤ 140737488355328) (h3' : zs'.length ≤ 140737488355328) (hv : vR s t d xs ys zs = false) :
    Ret Try.prog 76 false [.inr [.b s, .ints .u32 xs, .b t, .ints .u32 ys, .b d, .ints .u32 zs], .inr [.b s', .ints .u32 xs', .b t', .ints .u32 ys', .b d', .ints .u32 zs']]
      (.t [.inr [.b false, .ints .u32 [], .b false, .ints .u32 [], .b false, .ints .u32 []], .inr [.i .i64 6, .i .i64 (-1)]]) := by
  (refine q_H Try.func76 (fun F => ?_); simp only [q_z,q_y,Try.ntmps76,Try.results76])
  repeat' (first|(with_reducible first|apply q_a|apply q_b|apply q_c|apply q_d|apply q_e|apply q_f|apply q_g|apply q_h|apply q_i|apply q_j|apply q_k|apply q_m|apply q_n|apply q_o|apply q_p|refine q_l ?_)|((with_reducible first|refine q_q ry1_ok fun K hK=>?_|refine q_r ry1_ok fun K hK=>?_);simp (maxSteps:=2000000) only [go_sem,↓reduceIte,reduceCtorEq,Nat.reduceLeDiff,Nat.reduceLT,Nat.reduceBEq,Nat.reduceAdd,hv];(repeat1' with_reducible first|apply And.intro|(intro _;try exact q_v)|(refine hK _ ?_;clear hK K))<;>(try (clear hK K;exact q_u)))|(with_reducible refine q_s ?_;(first|apply q_J|apply q_K|apply q_L|apply q_M|apply q_N|apply q_O)<;>try (intro _;try exact q_v))|with_reducible refine q_t ?_)
  all_goals first | contradiction | exact q_B [nG, .inr [none, none]] rfl rfl
set_option maxRecDepth 100000 in
set_option maxHeartbeats 6400000 in
theorem Meet_bad2 (s t d s' t' d' : Bool) (xs ys zs xs' ys' zs' : List Int) (h1 : xs.length ≤ 140737488355328) (h2 : ys.length ≤ 140737488355328) (h3 : zs.length ≤ 140737488355328) (h1' : xs'.length ≤ 140737488355328) (h2' : ys'.length ≤ 140737488355328) (h3' : zs'.length ≤ 140737488355328) (hv : vR s t d xs ys zs = true) (hw : vR s' t' d' xs' ys' zs' = false) :
    Ret Try.prog 76 false [.inr [.b s, .ints .u32 xs, .b t, .ints .u32 ys, .b d, .ints .u32 zs], .inr [.b s', .ints .u32 xs', .b t', .ints .u32 ys', .b d', .ints .u32 zs']]
      (.t [.inr [.b false, .ints .u32 [], .b false, .ints .u32 [], .b false, .ints .u32 []], .inr [.i .i64 6, .i .i64 (-2)]]) := by
  (refine q_H Try.func76 (fun F => ?_); simp only [q_z,q_y,Try.ntmps76,Try.results76])
  repeat' (first|(with_reducible first|apply q_a|apply q_b|apply q_c|apply q_d|apply q_e|apply q_f|apply q_g|apply q_h|apply q_i|apply q_j|apply q_k|apply q_m|apply q_n|apply q_o|apply q_p|refine q_l ?_)|((with_reducible first|refine q_q ry1_ok fun K hK=>?_|refine q_r ry1_ok fun K hK=>?_);simp (maxSteps:=2000000) only [go_sem,↓reduceIte,reduceCtorEq,Nat.reduceLeDiff,Nat.reduceLT,Nat.reduceBEq,Nat.reduceAdd,hv, hw];(repeat1' with_reducible first|apply And.intro|(intro _;try exact q_v)|(refine hK _ ?_;clear hK K))<;>(try (clear hK K;exact q_u)))|(with_reducible refine q_s ?_;(first|apply q_J|apply q_K|apply q_L|apply q_M|apply q_N|apply q_O)<;>try (intro _;try exact q_v))|with_reducible refine q_t ?_)
  all_goals first | contradiction | exact q_B [nG, .inr [none, none]] rfl rfl
abbrev noneR : AV := .t [.inr (gG 0 0 1), .inr [.i .i64 0, .i .i64 0]]
set_option maxRecDepth 100000 in
set_option maxHeartbeats 6400000 in
theorem Meet_none (S T D S' T' D' : Int) (h : RV S T D) (h' : RV S' T' D')
    (hn : rLen S T D = 0 ∨ rLen S' T' D' = 0 ∨ 0 < rLen S T D ∧ 0 < rLen S' T' D' ∧ (upF S' T' D' - upF S T D).fmod (gOf (upS D) (upS D')) ≠ 0) :
    Ret Try.prog 76 false [.inr (gG S T D), .inr (gG S' T' D')] noneR := by
  have hv := (vR_g S T D).2 h
  have hv' := (vR_g S' T' D').2 h'
  have hb := h.rb
  have hb' := h'.rb
  obtain ⟨f1, f2, f3⟩ := rv_fb h
  have l1 := lb_of f1
  have l2 := lb_of f2
  have l3 := lb_of f3
  obtain ⟨f1', f2', f3'⟩ := rv_fb h'
  have l1' := lb_of f1'
  have l2' := lb_of f2'
  have l3' := lb_of f3'
  have z1 := zero_len' (rLen S T D)
  have z2 := zero_len' (rLen S' T' D')
  have hu : 0 < rLen S T D → pUp S T D := fun hp => ⟨hb, hp⟩
  have hu' : 0 < rLen S' T' D' → pUp S' T' D' := fun hp => ⟨hb', hp⟩
  have w1 := fun hp => up_w h hp
  have w2 := fun hp => up_w h' hp
  have n1 := (len_fb h).2
  have n2 := (len_fb h').2
  simp only [gG, noneR]
  (refine q_H Try.func76 (fun F => ?_); simp only [q_z,q_y,Try.ntmps76,Try.results76])
  repeat' (first|(with_reducible first|apply q_a|apply q_b|apply q_c|apply q_d|apply q_e|apply q_f|apply q_g|apply q_h|apply q_i|apply q_j|apply q_k|apply q_m|apply q_n|apply q_o|apply q_p|refine q_l ?_)|((with_reducible first|refine q_q ry1_ok fun K hK=>?_|refine q_r ry1_ok fun K hK=>?_);simp (maxSteps:=2000000) only [go_sem,↓reduceIte,reduceCtorEq,Nat.reduceLeDiff,Nat.reduceLT,Nat.reduceBEq,Nat.reduceAdd,hv, hv', z1, z2];(repeat1' with_reducible first|apply And.intro|(intro _;try exact q_v)|(refine hK _ ?_;clear hK K))<;>(try (clear hK K;exact q_u)))|(with_reducible refine q_s ?_;(first|apply q_J|apply q_K|apply q_L|apply q_M|apply q_N|apply q_O)<;>try (intro _;try exact q_v))|with_reducible refine q_t ?_)
  all_goals first
    | contradiction
    | omega
    | exact q_B [nG, .inr [none, none]] rfl rfl
    | exact hu (by omega)
    | exact hu' (by omega)
    | exact pc_of h h' (by omega) (by omega)
theorem isInv_unique {s t : Int} {i j : Nat} (hs : 0 < s) (ht : 0 < t) (hi : isInv s t i) (hj : isInv s t j) : j = i := by
  obtain ⟨⟨g0, g1⟩, ⟨o0, ol⟩, ⟨u0, ul⟩, hco, _, _⟩ := gcd_facts hs ht (g := gOf s t) rfl rfl rfl
  obtain ⟨h1, k1⟩ := hi
  obtain ⟨h2, k2⟩ := hj
  generalize s.fdiv (gOf s t) = o at *
  generalize t.fdiv (gOf s t) = u at *
  obtain ⟨a, rfl⟩ : ∃ a : Nat, o = a := ⟨o.toNat, by omega⟩
  obtain ⟨b, rfl⟩ : ∃ b : Nat, u = b := ⟨u.toNat, by omega⟩
  exact inv_unique (by omega) (by omega) k2 k1
theorem isInv_ex {s t : Int} (hs : 0 < s) (ht : 0 < t) : ∃ i : Nat, isInv s t i := by
  obtain ⟨⟨g0, g1⟩, ⟨o0, ol⟩, ⟨u0, ul⟩, hco, _, _⟩ := gcd_facts hs ht (g := gOf s t) rfl rfl rfl
  obtain ⟨i, hi, hk⟩ := inv_ex (s.fdiv (gOf s t)).toNat (t.fdiv (gOf s t)).toNat (by omega) (by
    rw [show (s.fdiv (gOf s t)).toNat = (s.fdiv (gOf s t)).natAbs by omega, show (t.fdiv (gOf s t)).toNat = (t.fdiv (gOf s t)).natAbs by omega]; exact hco)
  rw [Int.toNat_of_nonneg (by omega), Int.toNat_of_nonneg (by omega)] at hk
  exact ⟨i, by omega, hk⟩
theorem pl_fb {S T D : Int} (h : RB S T D) : FB (plS S T D) ∧ FB (plT S T D) ∧ FB (plD S T D) := by
  have he := fun (k : Int) => rb_elem (k := k) h
  have hn := rLen_nonneg S T D h.1
  obtain ⟨h0, h1, h2, h3⟩ := h
  have := W80_ge
  have hs := sgR_cases D
  unfold plS plT plD
  by_cases hz : rLen S T D = 0
  · rw [if_pos hz, if_pos hz, if_pos hz]; exact ⟨FB_zero, FB_zero, FB_one⟩
  · rw [if_neg hz, if_neg hz, if_neg hz]
    obtain ⟨g1, g2, g3, g4⟩ := he (rLen S T D - 1) (by omega) (by omega)
    refine ⟨FB_w (by omega), FB_w (by omega), ?_⟩
    split
    · exact FB_w (by omega)
    · exact FB_w (by omega)
def meetF (S T D S' T' D' : Int) (i : Nat) : Int := mtF (comF (upF S T D) (upS D) (upF S' T' D') (upS D') i) (upF S' T' D') (comS (upS D) (upS D'))
def meetE (S T D S' T' D' : Int) : Int := mtL (upL S T D) (upL S' T' D') + 1
def meetS (D D' : Int) : Int := comS (upS D) (upS D')
def gdMeet (S T D S' T' D' : Int) (K : AV → Prop) : Prop :=
  (rLen S T D = 0 ∨ rLen S' T' D' = 0 ∨ 0 < rLen S T D ∧ 0 < rLen S' T' D' ∧ (upF S' T' D' - upF S T D).fmod (gOf (upS D) (upS D')) ≠ 0 → K noneR) ∧
  (0 < rLen S T D → 0 < rLen S' T' D' → (upF S' T' D' - upF S T D).fmod (gOf (upS D) (upS D')) = 0 → ∀ i : Nat, isInv (upS D) (upS D') i →
    (RV (plS (meetF S T D S' T' D' i) (meetE S T D S' T' D') (meetS D D')) (plT (meetF S T D S' T' D' i) (meetE S T D S' T' D') (meetS D D')) (plD (meetF S T D S' T' D' i) (meetE S T D S' T' D') (meetS D D')) →
      K (.t [.inr (gG (plS (meetF S T D S' T' D' i) (meetE S T D S' T' D') (meetS D D')) (plT (meetF S T D S' T' D' i) (meetE S T D S' T' D') (meetS D D')) (plD (meetF S T D S' T' D' i) (meetE S T D S' T' D') (meetS D D'))), .inr [.i .i64 0, .i .i64 0]])) ∧
    (¬ RV (plS (meetF S T D S' T' D' i) (meetE S T D S' T' D') (meetS D D')) (plT (meetF S T D S' T' D' i) (meetE S T D S' T' D') (meetS D D')) (plD (meetF S T D S' T' D' i) (meetE S T D S' T' D') (meetS D D')) →
      K (.t [.inr [.b false, .ints .u32 [], .b false, .ints .u32 [], .b false, .ints .u32 []], .inr [.i .i64 14, .i .i64 (-1)]])))
set_option maxRecDepth 100000 in
set_option maxHeartbeats 12800000 in
theorem Meet_some (S T D S' T' D' : Int) (i : Nat) (f e st : Int) (h : RV S T D) (h' : RV S' T' D') (hp : 0 < rLen S T D) (hp' : 0 < rLen S' T' D')
    (hr : (upF S' T' D' - upF S T D).fmod (gOf (upS D) (upS D')) = 0) (hi : isInv (upS D) (upS D') i) (hf : meetF S T D S' T' D' i = f) (he : meetE S T D S' T' D' = e) (hst : meetS D D' = st) (R : AV)
    (hR : (RV (plS f e st) (plT f e st) (plD f e st) → R = .t [.inr (gG (plS f e st) (plT f e st) (plD f e st)), .inr [.i .i64 0, .i .i64 0]]) ∧
      (¬ RV (plS f e st) (plT f e st) (plD f e st) → R = .t [.inr [.b false, .ints .u32 [], .b false, .ints .u32 [], .b false, .ints .u32 []], .inr [.i .i64 14, .i .i64 (-1)]])) :
    Ret Try.prog 76 false [.inr (gG S T D), .inr (gG S' T' D')] R := by
  have hv := (vR_g S T D).2 h
  have hv' := (vR_g S' T' D').2 h'
  have hb := h.rb
  have hb' := h'.rb
  obtain ⟨f1, f2, f3⟩ := rv_fb h
  have l1 := lb_of f1
  have l2 := lb_of f2
  have l3 := lb_of f3
  obtain ⟨f1', f2', f3'⟩ := rv_fb h'
  have l1' := lb_of f1'
  have l2' := lb_of f2'
  have l3' := lb_of f3'
  have z1 := zero_len' (rLen S T D)
  have z2 := zero_len' (rLen S' T' D')
  have pu : pUp S T D := ⟨hb, hp⟩
  have pu' : pUp S' T' D' := ⟨hb', hp'⟩
  have pc := pc_of h h' hp hp'
  obtain ⟨w1, w2, w3, w4, w5⟩ := up_w h hp
  obtain ⟨w1', w2', w3', w4', w5'⟩ := up_w h' hp'
  obtain ⟨c1, c2, c3, c4, c5⟩ := com_w pc hi
  have hw := W80_ge
  have q1 : ¬ rLen S T D = 0 := by omega
  have q2 : ¬ rLen S' T' D' = 0 := by omega
  have hun := fun j hj => isInv_unique (i := i) (j := j) w4 w4' hi hj
  unfold meetF at hf
  unfold meetE at he
  unfold meetS at hst
  rw [hst] at hf c2 c3 c5
  generalize hP : upF S T D = p at *
  generalize hL : upL S T D = l at *
  generalize hQ : upF S' T' D' = q at *
  generalize hL' : upL S' T' D' = l' at *
  generalize hS : upS D = s at *
  generalize hT : upS D' = t at *
  generalize hc : comF p s q t i = cf at *
  have hall : ∀ P : Nat → Prop, (∀ j, isInv s t j → P j) = P i := fun P => propext ⟨fun h => h i hi, fun h j hj => (hun j hj) ▸ h⟩
  have a1 : FB cf := FB_w (by omega)
  have a2 : FB q := FB_w (by omega)
  have a3 : FB l := FB_w (by omega)
  have a4 : FB l' := FB_w (by omega)
  have a5 : FB st := FB_w (by omega)
  have a6 := FB_one
  have a7 : FB (q - cf) := FB_w (by omega)
  have a8 : FB (st - 1) := FB_w (by omega)
  have a9 : FB (q - cf + (st - 1)) := FB_w (by omega)
  have fin : ∀ f0 e0 : Int, f0 = f → e0 = e → f0.natAbs ≤ 4 * W80 → e0.natAbs ≤ 2 * W80 → RB f e st ∧ FB f ∧ FB e := fun f0 e0 hf0 he0 x1 x2 => by
    subst hf0; subst he0
    exact ⟨⟨by omega, by omega, by omega, by omega⟩, FB_w (by omega), FB_w (by omega)⟩
  by_cases k1 : cf < q
  · obtain ⟨m1, m2, m3, m4⟩ := mtF_w c3 c2 c1 (by omega) k1
    rw [mtF, if_pos k1] at hf
    by_cases k2 : l' < l
    · rw [mtL, if_pos k2] at he
      obtain ⟨rb, ff, fe⟩ := fin _ _ hf he (by omega) (by omega)
      obtain ⟨y1, y2, y3⟩ := pl_fb rb
      have y1' := lb_of y1
      have y2' := lb_of y2
      have y3' := lb_of y3
      have vg := vR_g (plS f e st) (plT f e st) (plD f e st)
      by_cases hrv : RV (plS f e st) (plT f e st) (plD f e st)
      · have vg := vg.2 hrv
        rw [hR.1 hrv]
        simp only [gG]
        (refine q_H Try.func76 (fun F => ?_); simp only [q_z,q_y,Try.ntmps76,Try.results76])
        repeat' (first|(with_reducible first|apply q_a|apply q_b|apply q_c|apply q_d|apply q_e|apply q_f|apply q_g|apply q_h|apply q_i|apply q_j|apply q_k|apply q_m|apply q_n|apply q_o|apply q_p|refine q_l ?_)|((with_reducible first|refine q_q ry1_ok fun K hK=>?_|refine q_r ry1_ok fun K hK=>?_);simp (maxSteps:=2000000) only [go_sem,↓reduceIte,reduceCtorEq,Nat.reduceLeDiff,Nat.reduceLT,Nat.reduceBEq,Nat.reduceAdd,hv, hv', z1, z2, q1, q2, decide_false, hP, hL, hQ, hL', hS, hT, hr, hall, hc, hst, hf, he, vg];(repeat1' with_reducible first|apply And.intro|(intro _;try exact q_v)|(refine hK _ ?_;clear hK K))<;>(try (clear hK K;exact q_u)))|(with_reducible refine q_s ?_;(first|apply q_J|apply q_K|apply q_L|apply q_M|apply q_N|apply q_O)<;>try (intro _;try exact q_v))|with_reducible refine q_t ?_)
        all_goals first | contradiction | omega | exact q_A rfl
      · have vg := Bool.eq_false_iff.2 (fun hh => hrv (vg.1 hh))
        rw [hR.2 hrv]
        simp only [gG]
        (refine q_H Try.func76 (fun F => ?_); simp only [q_z,q_y,Try.ntmps76,Try.results76])
        repeat' (first|(with_reducible first|apply q_a|apply q_b|apply q_c|apply q_d|apply q_e|apply q_f|apply q_g|apply q_h|apply q_i|apply q_j|apply q_k|apply q_m|apply q_n|apply q_o|apply q_p|refine q_l ?_)|((with_reducible first|refine q_q ry1_ok fun K hK=>?_|refine q_r ry1_ok fun K hK=>?_);simp (maxSteps:=2000000) only [go_sem,↓reduceIte,reduceCtorEq,Nat.reduceLeDiff,Nat.reduceLT,Nat.reduceBEq,Nat.reduceAdd,hv, hv', z1, z2, q1, q2, decide_false, hP, hL, hQ, hL', hS, hT, hr, hall, hc, hst, hf, he, vg];(repeat1' with_reducible first|apply And.intro|(intro _;try exact q_v)|(refine hK _ ?_;clear hK K))<;>(try (clear hK K;exact q_u)))|(with_reducible refine q_s ?_;(first|apply q_J|apply q_K|apply q_L|apply q_M|apply q_N|apply q_O)<;>try (intro _;try exact q_v))|with_reducible refine q_t ?_)
        all_goals first | contradiction | omega | exact q_B [nG, .inr [none, none]] rfl rfl
    · rw [mtL, if_neg k2] at he
      obtain ⟨rb, ff, fe⟩ := fin _ _ hf he (by omega) (by omega)
      obtain ⟨y1, y2, y3⟩ := pl_fb rb
      have y1' := lb_of y1
      have y2' := lb_of y2
      have y3' := lb_of y3
      have vg := vR_g (plS f e st) (plT f e st) (plD f e st)
      by_cases hrv : RV (plS f e st) (plT f e st) (plD f e st)
      · have vg := vg.2 hrv
        rw [hR.1 hrv]
        simp only [gG]
        (refine q_H Try.func76 (fun F => ?_); simp only [q_z,q_y,Try.ntmps76,Try.results76])
        repeat' (first|(with_reducible first|apply q_a|apply q_b|apply q_c|apply q_d|apply q_e|apply q_f|apply q_g|apply q_h|apply q_i|apply q_j|apply q_k|apply q_m|apply q_n|apply q_o|apply q_p|refine q_l ?_)|((with_reducible first|refine q_q ry1_ok fun K hK=>?_|refine q_r ry1_ok fun K hK=>?_);simp (maxSteps:=2000000) only [go_sem,↓reduceIte,reduceCtorEq,Nat.reduceLeDiff,Nat.reduceLT,Nat.reduceBEq,Nat.reduceAdd,hv, hv', z1, z2, q1, q2, decide_false, hP, hL, hQ, hL', hS, hT, hr, hall, hc, hst, hf, he, vg];(repeat1' with_reducible first|apply And.intro|(intro _;try exact q_v)|(refine hK _ ?_;clear hK K))<;>(try (clear hK K;exact q_u)))|(with_reducible refine q_s ?_;(first|apply q_J|apply q_K|apply q_L|apply q_M|apply q_N|apply q_O)<;>try (intro _;try exact q_v))|with_reducible refine q_t ?_)
        all_goals first | contradiction | omega | exact q_A rfl
      · have vg := Bool.eq_false_iff.2 (fun hh => hrv (vg.1 hh))
        rw [hR.2 hrv]
        simp only [gG]
        (refine q_H Try.func76 (fun F => ?_); simp only [q_z,q_y,Try.ntmps76,Try.results76])
        repeat' (first|(with_reducible first|apply q_a|apply q_b|apply q_c|apply q_d|apply q_e|apply q_f|apply q_g|apply q_h|apply q_i|apply q_j|apply q_k|apply q_m|apply q_n|apply q_o|apply q_p|refine q_l ?_)|((with_reducible first|refine q_q ry1_ok fun K hK=>?_|refine q_r ry1_ok fun K hK=>?_);simp (maxSteps:=2000000) only [go_sem,↓reduceIte,reduceCtorEq,Nat.reduceLeDiff,Nat.reduceLT,Nat.reduceBEq,Nat.reduceAdd,hv, hv', z1, z2, q1, q2, decide_false, hP, hL, hQ, hL', hS, hT, hr, hall, hc, hst, hf, he, vg];(repeat1' with_reducible first|apply And.intro|(intro _;try exact q_v)|(refine hK _ ?_;clear hK K))<;>(try (clear hK K;exact q_u)))|(with_reducible refine q_s ?_;(first|apply q_J|apply q_K|apply q_L|apply q_M|apply q_N|apply q_O)<;>try (intro _;try exact q_v))|with_reducible refine q_t ?_)
        all_goals first | contradiction | omega | exact q_B [nG, .inr [none, none]] rfl rfl
  · rw [mtF, if_neg k1] at hf
    rw [hf] at hc c1 c4 c5 a1
    by_cases k2 : l' < l
    · rw [mtL, if_pos k2] at he
      obtain ⟨rb, ff, fe⟩ := fin f _ rfl he (by omega) (by omega)
      obtain ⟨y1, y2, y3⟩ := pl_fb rb
      have y1' := lb_of y1
      have y2' := lb_of y2
      have y3' := lb_of y3
      have vg := vR_g (plS f e st) (plT f e st) (plD f e st)
      by_cases hrv : RV (plS f e st) (plT f e st) (plD f e st)
      · have vg := vg.2 hrv
        rw [hR.1 hrv]
        simp only [gG]
        (refine q_H Try.func76 (fun F => ?_); simp only [q_z,q_y,Try.ntmps76,Try.results76])
        repeat' (first|(with_reducible first|apply q_a|apply q_b|apply q_c|apply q_d|apply q_e|apply q_f|apply q_g|apply q_h|apply q_i|apply q_j|apply q_k|apply q_m|apply q_n|apply q_o|apply q_p|refine q_l ?_)|((with_reducible first|refine q_q ry1_ok fun K hK=>?_|refine q_r ry1_ok fun K hK=>?_);simp (maxSteps:=2000000) only [go_sem,↓reduceIte,reduceCtorEq,Nat.reduceLeDiff,Nat.reduceLT,Nat.reduceBEq,Nat.reduceAdd,hv, hv', z1, z2, q1, q2, decide_false, hP, hL, hQ, hL', hS, hT, hr, hall, hc, hst, he, vg];(repeat1' with_reducible first|apply And.intro|(intro _;try exact q_v)|(refine hK _ ?_;clear hK K))<;>(try (clear hK K;exact q_u)))|(with_reducible refine q_s ?_;(first|apply q_J|apply q_K|apply q_L|apply q_M|apply q_N|apply q_O)<;>try (intro _;try exact q_v))|with_reducible refine q_t ?_)
        all_goals first | contradiction | omega | exact q_A rfl
      · have vg := Bool.eq_false_iff.2 (fun hh => hrv (vg.1 hh))
        rw [hR.2 hrv]
        simp only [gG]
        (refine q_H Try.func76 (fun F => ?_); simp only [q_z,q_y,Try.ntmps76,Try.results76])
        repeat' (first|(with_reducible first|apply q_a|apply q_b|apply q_c|apply q_d|apply q_e|apply q_f|apply q_g|apply q_h|apply q_i|apply q_j|apply q_k|apply q_m|apply q_n|apply q_o|apply q_p|refine q_l ?_)|((with_reducible first|refine q_q ry1_ok fun K hK=>?_|refine q_r ry1_ok fun K hK=>?_);simp (maxSteps:=2000000) only [go_sem,↓reduceIte,reduceCtorEq,Nat.reduceLeDiff,Nat.reduceLT,Nat.reduceBEq,Nat.reduceAdd,hv, hv', z1, z2, q1, q2, decide_false, hP, hL, hQ, hL', hS, hT, hr, hall, hc, hst, he, vg];(repeat1' with_reducible first|apply And.intro|(intro _;try exact q_v)|(refine hK _ ?_;clear hK K))<;>(try (clear hK K;exact q_u)))|(with_reducible refine q_s ?_;(first|apply q_J|apply q_K|apply q_L|apply q_M|apply q_N|apply q_O)<;>try (intro _;try exact q_v))|with_reducible refine q_t ?_)
        all_goals first | contradiction | omega | exact q_B [nG, .inr [none, none]] rfl rfl
    · rw [mtL, if_neg k2] at he
      obtain ⟨rb, ff, fe⟩ := fin f _ rfl he (by omega) (by omega)
      obtain ⟨y1, y2, y3⟩ := pl_fb rb
      have y1' := lb_of y1
      have y2' := lb_of y2
      have y3' := lb_of y3
      have vg := vR_g (plS f e st) (plT f e st) (plD f e st)
      by_cases hrv : RV (plS f e st) (plT f e st) (plD f e st)
      · have vg := vg.2 hrv
        rw [hR.1 hrv]
        simp only [gG]
        (refine q_H Try.func76 (fun F => ?_); simp only [q_z,q_y,Try.ntmps76,Try.results76])
        repeat' (first|(with_reducible first|apply q_a|apply q_b|apply q_c|apply q_d|apply q_e|apply q_f|apply q_g|apply q_h|apply q_i|apply q_j|apply q_k|apply q_m|apply q_n|apply q_o|apply q_p|refine q_l ?_)|((with_reducible first|refine q_q ry1_ok fun K hK=>?_|refine q_r ry1_ok fun K hK=>?_);simp (maxSteps:=2000000) only [go_sem,↓reduceIte,reduceCtorEq,Nat.reduceLeDiff,Nat.reduceLT,Nat.reduceBEq,Nat.reduceAdd,hv, hv', z1, z2, q1, q2, decide_false, hP, hL, hQ, hL', hS, hT, hr, hall, hc, hst, he, vg];(repeat1' with_reducible first|apply And.intro|(intro _;try exact q_v)|(refine hK _ ?_;clear hK K))<;>(try (clear hK K;exact q_u)))|(with_reducible refine q_s ?_;(first|apply q_J|apply q_K|apply q_L|apply q_M|apply q_N|apply q_O)<;>try (intro _;try exact q_v))|with_reducible refine q_t ?_)
        all_goals first | contradiction | omega | exact q_A rfl
      · have vg := Bool.eq_false_iff.2 (fun hh => hrv (vg.1 hh))
        rw [hR.2 hrv]
        simp only [gG]
        (refine q_H Try.func76 (fun F => ?_); simp only [q_z,q_y,Try.ntmps76,Try.results76])
        repeat' (first|(with_reducible first|apply q_a|apply q_b|apply q_c|apply q_d|apply q_e|apply q_f|apply q_g|apply q_h|apply q_i|apply q_j|apply q_k|apply q_m|apply q_n|apply q_o|apply q_p|refine q_l ?_)|((with_reducible first|refine q_q ry1_ok fun K hK=>?_|refine q_r ry1_ok fun K hK=>?_);simp (maxSteps:=2000000) only [go_sem,↓reduceIte,reduceCtorEq,Nat.reduceLeDiff,Nat.reduceLT,Nat.reduceBEq,Nat.reduceAdd,hv, hv', z1, z2, q1, q2, decide_false, hP, hL, hQ, hL', hS, hT, hr, hall, hc, hst, he, vg];(repeat1' with_reducible first|apply And.intro|(intro _;try exact q_v)|(refine hK _ ?_;clear hK K))<;>(try (clear hK K;exact q_u)))|(with_reducible refine q_s ?_;(first|apply q_J|apply q_K|apply q_L|apply q_M|apply q_N|apply q_O)<;>try (intro _;try exact q_v))|with_reducible refine q_t ?_)
        all_goals first | contradiction | omega | exact q_B [nG, .inr [none, none]] rfl rfl
def meetCT : CT := mkCT [nG, nG] false fun l K => match l with
  | [.inr [.b s, .ints .u32 xs, .b t, .ints .u32 ys, .b d, .ints .u32 zs], .inr [.b s', .ints .u32 xs', .b t', .ints .u32 ys', .b d', .ints .u32 zs']] =>
      (((xs.length ≤ 140737488355328 ∧ ys.length ≤ 140737488355328 ∧ zs.length ≤ 140737488355328) ∧ xs'.length ≤ 140737488355328 ∧ ys'.length ≤ 140737488355328 ∧ zs'.length ≤ 140737488355328) ∧ (InB 4294967296 xs ∧ InB 4294967296 ys ∧ InB 4294967296 zs) ∧ InB 4294967296 xs' ∧ InB 4294967296 ys' ∧ InB 4294967296 zs') ∧
      (vR s t d xs ys zs = false → K (.t [.inr [.b false, .ints .u32 [], .b false, .ints .u32 [], .b false, .ints .u32 []], .inr [.i .i64 6, .i .i64 (-1)]])) ∧
      (vR s t d xs ys zs = true → (vR s' t' d' xs' ys' zs' = false → K (.t [.inr [.b false, .ints .u32 [], .b false, .ints .u32 [], .b false, .ints .u32 []], .inr [.i .i64 6, .i .i64 (-2)]])) ∧
        (vR s' t' d' xs' ys' zs' = true → gdMeet (sv 4294967296 s xs) (sv 4294967296 t ys) (sv 4294967296 d zs) (sv 4294967296 s' xs') (sv 4294967296 t' ys') (sv 4294967296 d' zs') K))
  | _ => False
def rz7 : Cfg := addT 76 meetCT rz6
theorem rz7_ok : TblOk Try.prog rz7 := q_I rz6_ok Try.func76 fun l K h => by
  split at h
  · rename_i s xs t ys d zs s' xs' t' ys' d' zs'
    obtain ⟨⟨⟨⟨h1, h2, h3⟩, h1', h2', h3'⟩, ⟨b1, b2, b3⟩, b1', b2', b3'⟩, hb1, hrest⟩ := h
    cases hv : vR s t d xs ys zs
    · exact ⟨_, Meet_bad s t d s' t' d' xs ys zs xs' ys' zs' h1 h2 h3 h1' h2' h3' hv, hb1 hv⟩
    · obtain ⟨hb2, hgood⟩ := hrest hv
      cases hw : vR s' t' d' xs' ys' zs'
      · exact ⟨_, Meet_bad2 s t d s' t' d' xs ys zs xs' ys' zs' h1 h2 h3 h1' h2' h3' hv hw, hb2 hw⟩
      · obtain ⟨n1, n2, n3, h⟩ := vR_ok hv b1 b2 b3
        obtain ⟨n1', n2', n3', h'⟩ := vR_ok hw b1' b2' b3'
        obtain ⟨hN, hS⟩ := hgood hw
        rw [gG_nrm n1 n2 n3, gG_nrm n1' n2' n3']
        generalize sv 4294967296 s xs = S at *
        generalize sv 4294967296 t ys = T at *
        generalize sv 4294967296 d zs = D at *
        generalize sv 4294967296 s' xs' = S' at *
        generalize sv 4294967296 t' ys' = T' at *
        generalize sv 4294967296 d' zs' = D' at *
        have p1 := rLen_nonneg S T D h.1
        have p2 := rLen_nonneg S' T' D' h'.1
        by_cases hn : rLen S T D = 0 ∨ rLen S' T' D' = 0 ∨ 0 < rLen S T D ∧ 0 < rLen S' T' D' ∧ (upF S' T' D' - upF S T D).fmod (gOf (upS D) (upS D')) ≠ 0
        · exact ⟨_, Meet_none S T D S' T' D' h h' hn, hN hn⟩
        · have q1 : 0 < rLen S T D := by omega
          have q2 : 0 < rLen S' T' D' := by omega
          have hr : (upF S' T' D' - upF S T D).fmod (gOf (upS D) (upS D')) = 0 := by
            by_cases e : (upF S' T' D' - upF S T D).fmod (gOf (upS D) (upS D')) = 0
            · exact e
            · exact absurd (.inr (.inr ⟨q1, q2, e⟩)) hn
          obtain ⟨i, hi⟩ := isInv_ex (up_w h q1).2.2.2.1 (up_w h' q2).2.2.2.1
          have hS := hS q1 q2 hr i hi
          by_cases hR : RV (plS (meetF S T D S' T' D' i) (meetE S T D S' T' D') (meetS D D')) (plT (meetF S T D S' T' D' i) (meetE S T D S' T' D') (meetS D D')) (plD (meetF S T D S' T' D' i) (meetE S T D S' T' D') (meetS D D'))
          · exact ⟨_, Meet_some S T D S' T' D' i _ _ _ h h' q1 q2 hr hi rfl rfl rfl _ ⟨fun _ => rfl, fun hh => absurd hR hh⟩, hS.1 hR⟩
          · exact ⟨_, Meet_some S T D S' T' D' i _ _ _ h h' q1 q2 hr hi rfl rfl rfl _ ⟨fun hh => absurd hh hR, fun _ => rfl⟩, hS.2 hR⟩
  · exact h.elim
attribute [go_sem] meetCT gdMeet
end Go.Proofs.Ytneecniebhhhlaa
