import Derived.Test.YtneecniebhhhlaaH35
import Derived.Test.YtneecniebhhhlaaH42
namespace Go.Proofs.Ytneecniebhhhlaa
set_option linter.unusedSimpArgs false
set_option linter.unusedVariables false
open Go.Abs Go.Proofs.NatL

def gdMet (S T D S' T' D' : Int) (K : AV → Prop) : Prop :=
  (rLen S T D = 0 ∨ rLen S' T' D' = 0 ∨ 0 < rLen S T D ∧ 0 < rLen S' T' D' ∧ (upF S' T' D' - upF S T D).fmod (gOf (upS D) (upS D')) ≠ 0 → K zero3) ∧
  (0 < rLen S T D → 0 < rLen S' T' D' → (upF S' T' D' - upF S T D).fmod (gOf (upS D) (upS D')) = 0 → ∀ i : Nat, isInv (upS D) (upS D') i →
    (mtL (upL S T D) (upL S' T' D') < meetF S T D S' T' D' i → K zero3) ∧
    (¬ mtL (upL S T D) (upL S' T' D') < meetF S T D S' T' D' i → ∀ a : Bool, K (.t [.inr (gRz (meetF S T D S' T' D' i) a), .inr (gR (meetS D D')), .inr [.b false, .ints .i64 (dg 65536 ((mtL (upL S T D) (upL S' T' D') - meetF S T D S' T' D' i).fdiv (meetS D D') + 1).natAbs)]])))
def metCT (S T D S' T' D' : Int) : CT := mkCT [n8, n8] false fun l K => match l with
  | [.inr [.b s, .ints .i64 xs, .b d, .ints .i64 ds, .b m, .ints .i64 ns, .b z, .ints .i64 zs], .inr [.b s', .ints .i64 xs', .b d', .ints .i64 ds', .b m', .ints .i64 ns', .b z', .ints .i64 zs']] =>
      ((s = decide (S < 0) ∧ xs = dg 65536 S.natAbs ∧ d = decide (D < 0) ∧ ds = dg 65536 D.natAbs ∧ m = decide (rLen S T D < 0) ∧ ns = dg 65536 (rLen S T D).natAbs ∧ z = sgz (S + D * (rLen S T D - 1)) (decide (S < 0)) ∧ zs = dg 65536 (S + D * (rLen S T D - 1)).natAbs) ∧
        (s' = decide (S' < 0) ∧ xs' = dg 65536 S'.natAbs ∧ d' = decide (D' < 0) ∧ ds' = dg 65536 D'.natAbs ∧ m' = decide (rLen S' T' D' < 0) ∧ ns' = dg 65536 (rLen S' T' D').natAbs ∧ z' = sgz (S' + D' * (rLen S' T' D' - 1)) (decide (S' < 0)) ∧ zs' = dg 65536 (S' + D' * (rLen S' T' D' - 1)).natAbs)) ∧
      gdMet S T D S' T' D' K
  | _ => False
theorem metC_of {S T D S' T' D' : Int} (h : RV S T D) (h' : RV S' T' D') (hp : 0 < rLen S T D) (hp' : 0 < rLen S' T' D') :
    MetC S D (S + D * (rLen S T D - 1)) S' D' (S' + D' * (rLen S' T' D' - 1)) (upF S T D) (upL S T D) (upS D) (upF S' T' D') (upL S' T' D') (upS D') :=
  ⟨rfl, rfl, rfl, rfl, rfl, rfl, h.1, h'.1, pc_of h h' hp hp', (up_w h hp).2.1, (up_w h' hp').2.1⟩
def rmcB (S T D S' T' D' : Int) : Cfg := addT 80 (metCT S T D S' T' D') rk1
theorem rmcB_ok {S T D S' T' D' : Int} (h : RV S T D) (h' : RV S' T' D') : TblOk Try.prog (rmcB S T D S' T' D') := q_I rk1_ok Try.func80 fun l K hk => by
  split at hk
  · obtain ⟨⟨⟨rfl, rfl, rfl, rfl, rfl, rfl, rfl, rfl⟩, rfl, rfl, rfl, rfl, rfl, rfl, rfl, rfl⟩, hN, hS⟩ := hk
    have p1 := rLen_nonneg S T D h.1
    have p2 := rLen_nonneg S' T' D' h'.1
    by_cases hn : rLen S T D = 0 ∨ rLen S' T' D' = 0
    · exact ⟨_, met_empty _ _ _ _ _ _ _ _ _ _ hn, hN (hn.elim .inl fun e => .inr (.inl e))⟩
    · have q1 : 0 < rLen S T D := by omega
      have q2 : 0 < rLen S' T' D' := by omega
      have hc := metC_of h h' q1 q2
      by_cases hr : (upF S' T' D' - upF S T D).fmod (gOf (upS D) (upS D')) = 0
      · obtain ⟨i, hi⟩ := isInv_ex (up_w h q1).2.2.2.1 (up_w h' q2).2.2.2.1
        have hS := hS q1 q2 hr i hi
        obtain ⟨a, ha⟩ := met_some _ _ _ _ _ _ _ _ _ _ _ _ _ _ (decide (S < 0)) (decide (S' < 0)) i q1 q2 hc hr hi (meetF S T D S' T' D' i) (mtL (upL S T D) (upL S' T' D')) (meetS D D') rfl rfl rfl
        by_cases hl : mtL (upL S T D) (upL S' T' D') < meetF S T D S' T' D' i
        · rw [if_pos hl] at ha
          exact ⟨_, ha, hS.1 hl⟩
        · rw [if_neg hl] at ha
          exact ⟨_, ha, hS.2 hl a⟩
      · exact ⟨_, met_apart _ _ _ _ _ _ _ _ _ _ _ _ _ _ _ _ q1 q2 hc hr, hN (.inr (.inr ⟨q1, q2, hr⟩))⟩
  · exact hk.elim
def rmlT (S T D S' T' D' : Int) : Cfg := listT [(78, spansCT), (76, meetCT), (80, metCT S T D S' T' D'), (77, rangeOkCT), (23, atCT), (79, noRangeCT), (83, isPlainCT), (72, plusDCT), (66, (rI2CT 1048576 mulF)), (58, (rI2CT 4194304 ordF)), (82, fitsCT), (53, numberCT), (81, rangeOfCT)] [28]
theorem rmlT_ok {S T D S' T' D' : Int} (h : RV S T D) (h' : RV S' T' D') : TblOk Try.prog (rmlT S T D S' T' D') := listE_ok (by simp only [List.mem_singleton, forall_eq]; exact flt)
  ⟨⟨rz8, rz8_ok, rfl⟩, ⟨rz7, rz7_ok, rfl⟩, ⟨rmcB S T D S' T' D', rmcB_ok h h', rfl⟩, ⟨rj1, rj1_ok, rfl⟩, ⟨jt12, jt12_ok, rfl⟩, ⟨rj7, rj7_ok, rfl⟩, ⟨rj9, rj9_ok, rfl⟩, ⟨rj3, rj3_ok, rfl⟩, ⟨jt12, jt12_ok, rfl⟩, ⟨jt12, jt12_ok, rfl⟩, ⟨jt12, jt12_ok, rfl⟩, ⟨jt12, jt12_ok, rfl⟩, ⟨rj4, rj4_ok, rfl⟩, trivial⟩
def rmb : Cfg := listT [(78, spansCT), (76, meetCT), (77, rangeOkCT), (23, atCT), (79, noRangeCT)] [28]
theorem rmb_ok : TblOk Try.prog rmb := listE_ok (by simp only [List.mem_singleton, forall_eq]; exact flt) ⟨⟨rz8, rz8_ok, rfl⟩, ⟨rz7, rz7_ok, rfl⟩, ⟨rj1, rj1_ok, rfl⟩, ⟨jt12, jt12_ok, rfl⟩, ⟨rj7, rj7_ok, rfl⟩, trivial⟩
attribute [go_sem] rmb
attribute [go_sem] rmlT metCT gdMet
set_option maxRecDepth 100000 in
set_option maxHeartbeats 6400000 in
theorem meetl_bad (s t d s' t' d' : Bool) (xs ys zs xs' ys' zs' : List Int) (h1 : xs.length ≤ 140737488355328) (h2 : ys.length ≤ 140737488355328) (h3 : zs.length ≤ 140737488355328) (h4 : xs'.length ≤ 140737488355328) (h5 : ys'.length ≤ 140737488355328) (h6 : zs'.length ≤ 140737488355328) (b1 : InB 4294967296 xs) (b2 : InB 4294967296 ys) (b3 : InB 4294967296 zs) (b4 : InB 4294967296 xs') (b5 : InB 4294967296 ys') (b6 : InB 4294967296 zs') (hv : vR s t d xs ys zs = false ∨ vR s t d xs ys zs = true ∧ vR s' t' d' xs' ys' zs' = false) :
    Ret Try.prog 13 false [.inr [.b s, .ints .u32 xs, .b t, .ints .u32 ys, .b d, .ints .u32 zs], .inr [.b s', .ints .u32 xs', .b t', .ints .u32 ys', .b d', .ints .u32 zs']] (.c (.b true)) := by
  rcases hv with hv | ⟨hv, hw⟩
  · (refine q_H Try.func13 (fun F => ?_); simp only [q_z,q_y,Try.ntmps13,Try.results13])
    repeat' (first|(with_reducible first|apply q_a|apply q_b|apply q_c|apply q_d|apply q_e|apply q_f|apply q_g|apply q_h|apply q_i|apply q_j|apply q_k|apply q_m|apply q_n|apply q_o|apply q_p|refine q_l ?_)|((with_reducible first|refine q_q rmb_ok fun K hK=>?_|refine q_r rmb_ok fun K hK=>?_);simp (maxSteps:=2000000) only [go_sem,↓reduceIte,reduceCtorEq,Nat.reduceLeDiff,Nat.reduceLT,Nat.reduceBEq,Nat.reduceAdd,hv, sv_nil];(repeat1' with_reducible first|apply And.intro|(intro _;try exact q_v)|(refine hK _ ?_;clear hK K))<;>(try (clear hK K;exact q_u)))|(with_reducible refine q_s ?_;(first|apply q_J|apply q_K|apply q_L|apply q_M|apply q_N|apply q_O)<;>try (intro _;try exact q_v))|with_reducible refine q_t ?_)
    all_goals first | contradiction | omega | exact q_A rfl | exact q_A (by simp [resAV, q_y]) | skip
  · (refine q_H Try.func13 (fun F => ?_); simp only [q_z,q_y,Try.ntmps13,Try.results13])
    repeat' (first|(with_reducible first|apply q_a|apply q_b|apply q_c|apply q_d|apply q_e|apply q_f|apply q_g|apply q_h|apply q_i|apply q_j|apply q_k|apply q_m|apply q_n|apply q_o|apply q_p|refine q_l ?_)|((with_reducible first|refine q_q rmb_ok fun K hK=>?_|refine q_r rmb_ok fun K hK=>?_);simp (maxSteps:=2000000) only [go_sem,↓reduceIte,reduceCtorEq,Nat.reduceLeDiff,Nat.reduceLT,Nat.reduceBEq,Nat.reduceAdd,hv, hw, sv_nil];(repeat1' with_reducible first|apply And.intro|(intro _;try exact q_v)|(refine hK _ ?_;clear hK K))<;>(try (clear hK K;exact q_u)))|(with_reducible refine q_s ?_;(first|apply q_J|apply q_K|apply q_L|apply q_M|apply q_N|apply q_O)<;>try (intro _;try exact q_v))|with_reducible refine q_t ?_)
    all_goals first | contradiction | omega | exact q_A rfl | exact q_A (by simp [resAV, q_y]) | skip
theorem isPl_none : isPl 0 0 1 0 0 0 1 = true := by decide
set_option maxRecDepth 100000 in
set_option maxHeartbeats 12800000 in
theorem meetl_none (S T D S' T' D' : Int) (h : RV S T D) (h' : RV S' T' D')
    (hn : (rLen S T D = 0 ∨ rLen S' T' D' = 0 ∨ 0 < rLen S T D ∧ 0 < rLen S' T' D' ∧ (upF S' T' D' - upF S T D).fmod (gOf (upS D) (upS D')) ≠ 0)) :
    Ret Try.prog 13 false [.inr (gG S T D), .inr (gG S' T' D')] (.c (.b true)) := by
  have hv := (vR_g S T D).2 h
  have hv' := (vR_g S' T' D').2 h'
  have ht := rmlT_ok h h'
  obtain ⟨f1, f2, f3⟩ := rv_fb h
  have l1 := lb_of f1
  have l2 := lb_of f2
  have l3 := lb_of f3
  obtain ⟨f1', f2', f3'⟩ := rv_fb h'
  have l1' := lb_of f1'
  have l2' := lb_of f2'
  have l3' := lb_of f3'
  have l0 := len_i64 (z := 0) (by omega)
  have q6 := len_i64 (z := 1) (by omega)
  have q7 := len_i64 (z := -1) (by omega)
  have e0 : (0 : Int) + -1 = -1 := rfl
  have a0 := FB_zero
  have a1 := FB_one
  have hpi : pIs 0 0 1 0 0 0 1 := ⟨⟨FB_zero, FB_zero, FB_one⟩, ⟨by simp, by simp, by simp⟩, .inl rfl, by omega, .inl rfl⟩
  simp only [gG]
  (refine q_H Try.func13 (fun F => ?_); simp only [q_z,q_y,Try.ntmps13,Try.results13])
  repeat' (first|(with_reducible first|apply q_a|apply q_b|apply q_c|apply q_d|apply q_e|apply q_f|apply q_g|apply q_h|apply q_i|apply q_j|apply q_k|apply q_m|apply q_n|apply q_o|apply q_p|refine q_l ?_)|((with_reducible first|refine q_q ht fun K hK=>?_|refine q_r ht fun K hK=>?_);simp (maxSteps:=2000000) only [go_sem,↓reduceIte,reduceCtorEq,Nat.reduceLeDiff,Nat.reduceLT,Nat.reduceBEq,Nat.reduceAdd,hv, hv', hn, sv_nil, sv_nil65, e0, Int.zero_add, Int.zero_mul, Int.add_zero, isPl_none];(repeat1' with_reducible first|apply And.intro|(intro _;try exact q_v)|(refine hK _ ?_;clear hK K))<;>(try (clear hK K;exact q_u)))|(with_reducible refine q_s ?_;(first|apply q_J|apply q_K|apply q_L|apply q_M|apply q_N|apply q_O)<;>try (intro _;try exact q_v))|with_reducible refine q_t ?_)
  all_goals first | contradiction | omega | assumption | exact q_A rfl | skip
theorem meetF_w {S T D S' T' D' : Int} {i : Nat} (h : RV S T D) (h' : RV S' T' D') (hp : 0 < rLen S T D) (hp' : 0 < rLen S' T' D') (hr : (upF S' T' D' - upF S T D).fmod (gOf (upS D) (upS D')) = 0) (hi : isInv (upS D) (upS D') i) :
    (meetF S T D S' T' D' i).natAbs ≤ 4 * W80 ∧ upF S T D ≤ meetF S T D S' T' D' i ∧ (meetS D D').natAbs ≤ W80 ∧ 0 < meetS D D' ∧ (mtL (upL S T D) (upL S' T' D')).natAbs < W40 ∧ (upF S T D).natAbs < W40 := by
  have pc := pc_of h h' hp hp'
  obtain ⟨x1, x2, x3, x4, x5⟩ := com_w pc hi
  obtain ⟨u1, u2, _⟩ := up_w h hp
  obtain ⟨v1, v2, _⟩ := up_w h' hp'
  have hw := W80_ge
  have hm := mtF_w (f := comF (upF S T D) (upS D) (upF S' T' D') (upS D') i) (q := upF S' T' D') x3 x2 x1 (by omega)
  refine ⟨?_, ?_, x2, x3, by unfold mtL; split <;> omega, u1⟩
  · unfold meetF mtF
    split
    · rename_i k
      obtain ⟨_, _, m3, m4⟩ := hm k
      generalize comS (upS D) (upS D') * _ = y at *
      omega
    · omega
  · unfold meetF mtF
    split
    · rename_i k
      obtain ⟨_, _, m3, m4⟩ := hm k
      generalize comS (upS D) (upS D') * _ = y at *
      omega
    · omega
theorem len_rise {f L st : Int} (hs : 0 < st) : (L < f → rLen f (L + 1) st = 0) ∧ (¬ L < f → rLen f (L + 1) st = (L - f).fdiv st + 1) := by
  refine ⟨fun h => ?_, fun h => ?_⟩
  · unfold rLen
    rw [if_neg (by omega), if_neg (by omega)]
  · unfold rLen
    rw [if_neg (by omega), if_pos (by omega)]
    have e : L + 1 - f + (st - 1) = L - f + st * 1 := by omega
    rw [e, Int.add_mul_fdiv_left _ _ (by omega)]
set_option maxRecDepth 100000 in
set_option maxHeartbeats 12800000 in
theorem meetl_low (S T D S' T' D' f L st : Int) (i : Nat) (h : RV S T D) (h' : RV S' T' D') (hp : 0 < rLen S T D) (hp' : 0 < rLen S' T' D') (hr : (upF S' T' D' - upF S T D).fmod (gOf (upS D) (upS D')) = 0) (hi : isInv (upS D) (upS D') i)
    (hf : meetF S T D S' T' D' i = f) (hL : mtL (upL S T D) (upL S' T' D') = L) (hst : meetS D D' = st) (hLf : L < f) :
    Ret Try.prog 13 false [.inr (gG S T D), .inr (gG S' T' D')] (.c (.b true)) := by
  have hv := (vR_g S T D).2 h
  have hv' := (vR_g S' T' D').2 h'
  have ht := rmlT_ok h h'
  have hall : ∀ P : Nat → Prop, (∀ k, isInv (upS D) (upS D') k → P k) = P i := fun P => propext ⟨fun hh => hh i hi, fun hh k hk => (isInv_unique (up_w h hp).2.2.2.1 (up_w h' hp').2.2.2.1 hi hk) ▸ hh⟩
  have he : meetE S T D S' T' D' = L + 1 := by unfold meetE; rw [hL]
  have hs0 : 0 < st := by rw [← hst]; exact (com_w (pc_of h h' hp hp') hi).2.2.1
  have r0 := (len_rise (f := f) (L := L) hs0).1 hLf
  have a1 : plS f (L + 1) st = 0 := if_pos r0
  have a2 : plT f (L + 1) st = 0 := if_pos r0
  have a3 : plD f (L + 1) st = 1 := if_pos r0
  have hR : RV 0 0 1 := RV_of (by kernel_rfl)
  obtain ⟨f1, f2, f3⟩ := rv_fb h
  have l1 := lb_of f1
  have l2 := lb_of f2
  have l3 := lb_of f3
  obtain ⟨f1', f2', f3'⟩ := rv_fb h'
  have l1' := lb_of f1'
  have l2' := lb_of f2'
  have l3' := lb_of f3'
  have n1 : ¬ rLen S T D = 0 := by omega
  have n2 : ¬ rLen S' T' D' = 0 := by omega
  have l0 := len_i64 (z := 0) (by omega)
  have q6 := len_i64 (z := 1) (by omega)
  have q7 := len_i64 (z := -1) (by omega)
  have e0 : (0 : Int) + -1 = -1 := rfl
  have hpi : pIs 0 0 1 0 0 0 1 := ⟨⟨FB_zero, FB_zero, FB_one⟩, ⟨by simp, by simp, by simp⟩, .inl rfl, by omega, .inl rfl⟩
  simp only [gG]
  (refine q_H Try.func13 (fun F => ?_); simp only [q_z,q_y,Try.ntmps13,Try.results13])
  repeat' (first|(with_reducible first|apply q_a|apply q_b|apply q_c|apply q_d|apply q_e|apply q_f|apply q_g|apply q_h|apply q_i|apply q_j|apply q_k|apply q_m|apply q_n|apply q_o|apply q_p|refine q_l ?_)|((with_reducible first|refine q_q ht fun K hK=>?_|refine q_r ht fun K hK=>?_);simp (maxSteps:=2000000) only [go_sem,↓reduceIte,reduceCtorEq,Nat.reduceLeDiff,Nat.reduceLT,Nat.reduceBEq,Nat.reduceAdd,hv, hv', hp, hp', n1, n2, hr, hall, hf, hL, he, hst, a1, a2, a3, hR, hLf, sv_nil, sv_nil65, e0, Int.zero_add, Int.zero_mul, Int.add_zero, isPl_none];(repeat1' with_reducible first|apply And.intro|(intro _;try exact q_v)|(refine hK _ ?_;clear hK K))<;>(try (clear hK K;exact q_u)))|(with_reducible refine q_s ?_;(first|apply q_J|apply q_K|apply q_L|apply q_M|apply q_N|apply q_O)<;>try (intro _;try exact q_v))|with_reducible refine q_t ?_)
  all_goals first | contradiction | omega | assumption | exact q_A rfl | skip
set_option maxRecDepth 100000 in
set_option maxHeartbeats 25600000 in
theorem meetl_high (S T D S' T' D' f L st cn A1 A2 A3 : Int) (i : Nat) (h : RV S T D) (h' : RV S' T' D') (hp : 0 < rLen S T D) (hp' : 0 < rLen S' T' D') (hr : (upF S' T' D' - upF S T D).fmod (gOf (upS D) (upS D')) = 0) (hi : isInv (upS D) (upS D') i)
    (hf : meetF S T D S' T' D' i = f) (hL : mtL (upL S T D) (upL S' T' D') = L) (hst : meetS D D' = st) (hLf : ¬ L < f) (hcn : (L - f).fdiv st + 1 = cn) (hA1 : plS f (L + 1) st = A1) (hA2 : plT f (L + 1) st = A2) (hA3 : plD f (L + 1) st = A3) :
    Ret Try.prog 13 false [.inr (gG S T D), .inr (gG S' T' D')] (.c (.b true)) := by
  have hv := (vR_g S T D).2 h
  have hv' := (vR_g S' T' D').2 h'
  have ht := rmlT_ok h h'
  have hall : ∀ P : Nat → Prop, (∀ k, isInv (upS D) (upS D') k → P k) = P i := fun P => propext ⟨fun hh => hh i hi, fun hh k hk => (isInv_unique (up_w h hp).2.2.2.1 (up_w h' hp').2.2.2.1 hi hk) ▸ hh⟩
  have he : meetE S T D S' T' D' = L + 1 := by unfold meetE; rw [hL]
  obtain ⟨w1, w2, w3, w4, w5, w6⟩ := meetF_w h h' hp hp' hr hi
  rw [hf] at w1 w2
  rw [hst] at w3 w4
  rw [hL] at w5
  have hw := W80_ge
  have hl := (len_rise (f := f) (L := L) w4).2 hLf
  rw [hcn] at hl
  have hl0 := rLen_nonneg f (L + 1) st (by omega)
  have hle := rLen_le f (L + 1) st (by omega)
  have hrb : RB f (L + 1) st := ⟨by omega, by omega, by omega, by omega⟩
  have hn1 : 1 ≤ cn := by
    have := (rLen_iff (S := f) (T := L + 1) (D := st) (by omega) 0 (by omega)).2 (by rw [Int.mul_zero]; omega)
    omega
  obtain ⟨c1, c2, c3⟩ := elem_in (S := f) (T := L + 1) (D := st) (k := cn - 1) (by omega) (by omega) (by omega)
  have hs1 : sgR st = 1 := if_neg (by omega)
  have hpl := isPl_pl (S := f) (T := L + 1) (D := st) hl0
  obtain ⟨y1, y2, y3⟩ := pl_fb hrb
  rw [hl, hs1, hA1, hA2, hA3] at hpl
  rw [hA1] at y1
  rw [hA2] at y2
  rw [hA3] at y3
  rw [hl] at hle
  have hz : ¬ rLen f (L + 1) st = 0 := by omega
  have eA1 : A1 = f := by rw [← hA1]; exact if_neg hz
  have eA2 : f + st * (cn - 1) + 1 = A2 := by rw [← hA2, plT, if_neg hz, hl, hs1]
  have eA3 : A3 = if 1 < cn then st else 1 := by rw [← hA3, plD, if_neg hz, hl, hs1]
  have hRV : RV A1 A2 A3 ↔ A2.natAbs < W40 ∧ (1 < cn → st.natAbs < W40) := by
    have hp0 : 0 ≤ st * (cn - 1) := Int.mul_nonneg (by omega) (by omega)
    unfold RV
    rw [eA3, eA1]
    generalize st * (cn - 1) = y at *
    split
    · exact ⟨fun hh => ⟨hh.2.2.1, fun _ => hh.2.2.2⟩, fun hh => ⟨by omega, by omega, hh.1, hh.2 (by assumption)⟩⟩
    · have := W40_pos
      exact ⟨fun hh => ⟨hh.2.2.1, fun k => by omega⟩, fun hh => ⟨by omega, by omega, hh.1, by omega⟩⟩
  have hpi : pIs A1 A2 A3 f st cn 1 := ⟨⟨y1, y2, y3⟩, ⟨by omega, by omega, by omega⟩, .inr (by omega), by omega, .inl rfl⟩
  have g1 := w65 (z := f) (k := 4) w1 (by omega)
  have g2 := w65 (z := st) (k := 1) (by omega) (by omega)
  have g3 := w65 (z := cn) (k := 100) (by omega) (by omega)
  have g4 := w65 (z := cn - 1) (k := 100) (by omega) (by omega)
  have g5 := w65 (z := st * (cn - 1)) (k := 100) (by omega) (by omega)
  have g6 := sum_len g1 g5
  have g7 := sum_len (x := f + st * (cn - 1)) (y := 1) (k := 257) g6 (by have := len_i64 (z := 1) (by omega); omega)
  rw [eA2] at g7
  have f40 := len_W40 A2
  have s40 := len_W40 st
  have c4 := cz_gt cn 1
  have eC : cn + -1 = cn - 1 := by omega
  have hcv : sg false cn.natAbs = cn := by rw [sgf]; omega
  have z1 := dg_len_pos 65536 cn.natAbs (by omega)
  have q6 := len_i64 (z := 1) (by omega)
  have q7 := len_i64 (z := -1) (by omega)
  have k1 := lb_of y1
  have k2 := lb_of y2
  have k3 := lb_of y3
  obtain ⟨f1, f2, f3⟩ := rv_fb h
  have l1 := lb_of f1
  have l2 := lb_of f2
  have l3 := lb_of f3
  obtain ⟨f1', f2', f3'⟩ := rv_fb h'
  have l1' := lb_of f1'
  have l2' := lb_of f2'
  have l3' := lb_of f3'
  have n1 : ¬ rLen S T D = 0 := by omega
  have n2 : ¬ rLen S' T' D' = 0 := by omega
  have hcn0 : ¬ cn = 0 := by omega
  have hcp : (0 < ((dg 65536 cn.natAbs).length : Int)) = True := eq_true (by omega)
  clear c1 c2 c3 hle hl0 w1 w2 w3 w5 w6 hw hl hz hrb
  simp only [gG]
  by_cases hR : RV A1 A2 A3
  · obtain ⟨r1, r2⟩ := hRV.1 hR
    clear hRV
    (refine q_H Try.func13 (fun F => ?_); simp only [q_z,q_y,Try.ntmps13,Try.results13])
    repeat' (first|(with_reducible first|apply q_a|apply q_b|apply q_c|apply q_d|apply q_e|apply q_f|apply q_g|apply q_h|apply q_i|apply q_j|apply q_k|apply q_m|apply q_n|apply q_o|apply q_p|refine q_l ?_)|((with_reducible first|refine q_q ht fun K hK=>?_|refine q_r ht fun K hK=>?_);simp (maxSteps:=2000000) only [go_sem,↓reduceIte,reduceCtorEq,Nat.reduceLeDiff,Nat.reduceLT,Nat.reduceBEq,Nat.reduceAdd,hv, hv', hp, hp', n1, n2, hr, hall, hf, hL, he, hst, hA1, hA2, hA3, hR, hLf, hcn, hcv, eC, eA2, hcp, sv_nil, hpl];(repeat1' with_reducible first|apply And.intro|(intro _;try exact q_v)|(refine hK _ ?_;clear hK K))<;>(try (clear hK K;exact q_u)))|(with_reducible refine q_s ?_;(first|apply q_J|apply q_K|apply q_L|apply q_M|apply q_N|apply q_O)<;>try (intro _;try exact q_v))|with_reducible refine q_t ?_)
    all_goals first | contradiction | omega | assumption | exact q_A rfl | skip
  · have r1 : ¬ (A2.natAbs < W40 ∧ (1 < cn → st.natAbs < W40)) := fun hh => hR (hRV.2 hh)
    clear hRV
    (refine q_H Try.func13 (fun F => ?_); simp only [q_z,q_y,Try.ntmps13,Try.results13])
    repeat' (first|(with_reducible first|apply q_a|apply q_b|apply q_c|apply q_d|apply q_e|apply q_f|apply q_g|apply q_h|apply q_i|apply q_j|apply q_k|apply q_m|apply q_n|apply q_o|apply q_p|refine q_l ?_)|((with_reducible first|refine q_q ht fun K hK=>?_|refine q_r ht fun K hK=>?_);simp (maxSteps:=2000000) only [go_sem,↓reduceIte,reduceCtorEq,Nat.reduceLeDiff,Nat.reduceLT,Nat.reduceBEq,Nat.reduceAdd,hv, hv', hp, hp', n1, n2, hr, hall, hf, hL, he, hst, hA1, hA2, hA3, hR, hLf, hcn, hcv, eC, eA2, hcp, sv_nil, hpl];(repeat1' with_reducible first|apply And.intro|(intro _;try exact q_v)|(refine hK _ ?_;clear hK K))<;>(try (clear hK K;exact q_u)))|(with_reducible refine q_s ?_;(first|apply q_J|apply q_K|apply q_L|apply q_M|apply q_N|apply q_O)<;>try (intro _;try exact q_v))|with_reducible refine q_t ?_)
    all_goals first | contradiction | omega | assumption | exact q_A rfl | skip
theorem meetl_ok (S T D S' T' D' : Int) (h : RV S T D) (h' : RV S' T' D') : Ret Try.prog 13 false [.inr (gG S T D), .inr (gG S' T' D')] (.c (.b true)) := by
  by_cases hn : rLen S T D = 0 ∨ rLen S' T' D' = 0 ∨ 0 < rLen S T D ∧ 0 < rLen S' T' D' ∧ (upF S' T' D' - upF S T D).fmod (gOf (upS D) (upS D')) ≠ 0
  · exact meetl_none _ _ _ _ _ _ h h' hn
  · have p1 := rLen_nonneg S T D h.1
    have p2 := rLen_nonneg S' T' D' h'.1
    have q1 : 0 < rLen S T D := by omega
    have q2 : 0 < rLen S' T' D' := by omega
    have hr : (upF S' T' D' - upF S T D).fmod (gOf (upS D) (upS D')) = 0 := by
      by_cases e : (upF S' T' D' - upF S T D).fmod (gOf (upS D) (upS D')) = 0
      · exact e
      · exact absurd (.inr (.inr ⟨q1, q2, e⟩)) hn
    obtain ⟨i, hi⟩ := isInv_ex (up_w h q1).2.2.2.1 (up_w h' q2).2.2.2.1
    by_cases hLf : mtL (upL S T D) (upL S' T' D') < meetF S T D S' T' D' i
    · exact meetl_low _ _ _ _ _ _ _ _ _ i h h' q1 q2 hr hi rfl rfl rfl hLf
    · exact meetl_high _ _ _ _ _ _ _ _ _ _ _ _ _ i h h' q1 q2 hr hi rfl rfl rfl hLf rfl rfl rfl rfl
end Go.Proofs.Ytneecniebhhhlaa
