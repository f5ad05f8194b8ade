import Derived.Test.YtneecniebhhhlaaH28
import Derived.Test.YtneecniebhhhlaaH41
namespace Go.Proofs.Ytneecniebhhhlaa
set_option linter.unusedSimpArgs false
set_option linter.unusedVariables false
open Go.Abs Go.Proofs.NatL

attribute [go_sem] n8
def rF (S D Z : Int) : Int := if D < 0 then Z else S
def rL (S D Z : Int) : Int := if D < 0 then S else Z
def risingCT : CT := mkCT [n8] false fun l K => match l with
  | [.inr [.b s, .ints .i64 xs, .b d, .ints .i64 ds, .b m, .ints .i64 ns, .b z, .ints .i64 zs]] => ((InB 65536 xs ∧ Trd xs ∧ InB 65536 ds ∧ Trd ds ∧ InB 65536 zs ∧ Trd zs) ∧ sv 65536 d ds ≠ 0) ∧
      K (.t [.inr (gRz (rF (sv 65536 s xs) (sv 65536 d ds) (sv 65536 z zs)) (cond d z s)), .inr (gRz (rL (sv 65536 s xs) (sv 65536 d ds) (sv 65536 z zs)) (cond d s z)), .inr (gR (upS (sv 65536 d ds)))])
  | _ => False
def rrt : Cfg := listT [(60, iminusCT)] [28]
theorem rrt_ok : TblOk Try.prog rrt := listE_ok (by simp only [List.mem_singleton, forall_eq]; exact flt) ⟨⟨jt12, jt12_ok, rfl⟩, trivial⟩
attribute [go_sem] rrt
def rk1 : Cfg := addT 150 risingCT rj8
theorem rk1_ok : TblOk Try.prog rk1 := q_I rj8_ok Try.func150 fun l K h => by
  split at h
  · rename_i s xs d ds m ns z zs
    obtain ⟨⟨⟨b1, t1, b2, t2, b3, t3⟩, h0⟩, h⟩ := h
    have e1 := gRz_of' (t := s) b1 t1
    have e2 := gRz_of' (t := d) b2 t2
    have e3 := gRz_of' (t := z) b3 t3
    cases d
    · have hn : ¬ sv 65536 false ds < 0 := by rw [svf]; omega
      refine ⟨_, ?_, h⟩
      unfold rF rL upS
      rw [if_neg hn, if_neg hn, if_neg hn, cond_false, cond_false, e1, e3]
      have e4 : gR (sv 65536 false ds) = [.b false, .ints .i64 ds] := by rw [← e2]; simp only [gR, gRz, sgz_ne h0]
      rw [e4]
      (refine q_H Try.func150 (fun F => ?_); simp only [q_z,q_y,Try.ntmps150,Try.results150])
      repeat' (first|(with_reducible first|apply q_a|apply q_b|apply q_c|apply q_d|apply q_e|apply q_f|apply q_g|apply q_h|apply q_i|apply q_j|apply q_k|apply q_m|apply q_n|apply q_o|apply q_p|refine q_l ?_)|((with_reducible first|refine q_q rrt_ok fun K hK=>?_|refine q_r rrt_ok fun K hK=>?_);simp (maxSteps:=2000000) only [go_sem,↓reduceIte,reduceCtorEq,Nat.reduceLeDiff,Nat.reduceLT,Nat.reduceBEq,Nat.reduceAdd];(repeat1' with_reducible first|apply And.intro|(intro _;try exact q_v)|(refine hK _ ?_;clear hK K))<;>(try (clear hK K;exact q_u)))|(with_reducible refine q_s ?_;(first|apply q_J|apply q_K|apply q_L|apply q_M|apply q_N|apply q_O)<;>try (intro _;try exact q_v))|with_reducible refine q_t ?_)
      all_goals first | contradiction | omega | exact q_A rfl
    · have hn : sv 65536 true ds < 0 := by rw [svt] at h0 ⊢; omega
      refine ⟨_, ?_, h⟩
      unfold rF rL upS
      rw [if_pos hn, if_pos hn, if_pos hn, cond_true, cond_true, e1, e3]
      (refine q_H Try.func150 (fun F => ?_); simp only [q_z,q_y,Try.ntmps150,Try.results150])
      repeat' (first|(with_reducible first|apply q_a|apply q_b|apply q_c|apply q_d|apply q_e|apply q_f|apply q_g|apply q_h|apply q_i|apply q_j|apply q_k|apply q_m|apply q_n|apply q_o|apply q_p|refine q_l ?_)|((with_reducible first|refine q_q rrt_ok fun K hK=>?_|refine q_r rrt_ok fun K hK=>?_);simp (maxSteps:=2000000) only [go_sem,↓reduceIte,reduceCtorEq,Nat.reduceLeDiff,Nat.reduceLT,Nat.reduceBEq,Nat.reduceAdd];(repeat1' with_reducible first|apply And.intro|(intro _;try exact q_v)|(refine hK _ ?_;clear hK K))<;>(try (clear hK K;exact q_u)))|(with_reducible refine q_s ?_;(first|apply q_J|apply q_K|apply q_L|apply q_M|apply q_N|apply q_O)<;>try (intro _;try exact q_v))|with_reducible refine q_t ?_)
      all_goals first | contradiction | omega | exact q_A rfl
  · exact h.elim
attribute [go_sem] risingCT
def rmt : Cfg := listT [(150, risingCT), (42, commonCT), (151, rinvTCT), (53, numberCT), (60, iminusCT), (72, plusDCT), (44, floorDCT), (66, (rI2CT 1048576 mulF)), (58, (rI2CT 4194304 ordF))] [28]
theorem rmt_ok : TblOk Try.prog rmt := listE_ok (by simp only [List.mem_singleton, forall_eq]; exact flt) ⟨⟨rk1, rk1_ok, rfl⟩, ⟨rg3, rg3_ok, rfl⟩, ⟨rj8, rj8_ok, rfl⟩, ⟨jt12, jt12_ok, rfl⟩, ⟨jt12, jt12_ok, rfl⟩, ⟨rj3, rj3_ok, rfl⟩, ⟨rj3, rj3_ok, rfl⟩, ⟨jt12, jt12_ok, rfl⟩, ⟨jt12, jt12_ok, rfl⟩, trivial⟩
attribute [go_sem] rmt
abbrev zero3 : AV := .t [.inr [.b false, .ints .i64 []], .inr [.b false, .ints .i64 []], .inr [.b false, .ints .i64 []]]
theorem cz_lt' (a b : Int) : cmpZ a b < 0 ↔ a < b := by unfold cmpZ; (repeat' split) <;> omega
theorem cz_gt (a b : Int) : 0 < cmpZ a b ↔ b < a := by unfold cmpZ; (repeat' split) <;> omega
theorem met_empty (S D n Z S' D' n' Z' : Int) (c c' : Bool) (h : n = 0 ∨ n' = 0) :
    Ret Try.prog 80 false [.inr (gG8 S D n Z c), .inr (gG8 S' D' n' Z' c')] zero3 := by
  have z1 := dg_len_pos 65536 n.natAbs (by omega)
  have z2 := dg_len_pos 65536 n'.natAbs (by omega)
  (refine q_H Try.func80 (fun F => ?_); simp only [q_z,q_y,Try.ntmps80,Try.results80])
  repeat' (first|(with_reducible first|apply q_a|apply q_b|apply q_c|apply q_d|apply q_e|apply q_f|apply q_g|apply q_h|apply q_i|apply q_j|apply q_k|apply q_m|apply q_n|apply q_o|apply q_p|refine q_l ?_)|((with_reducible first|refine q_q rmt_ok fun K hK=>?_|refine q_r rmt_ok fun K hK=>?_);simp (maxSteps:=2000000) only [go_sem,↓reduceIte,reduceCtorEq,Nat.reduceLeDiff,Nat.reduceLT,Nat.reduceBEq,Nat.reduceAdd];(repeat1' with_reducible first|apply And.intro|(intro _;try exact q_v)|(refine hK _ ?_;clear hK K))<;>(try (clear hK K;exact q_u)))|(with_reducible refine q_s ?_;(first|apply q_J|apply q_K|apply q_L|apply q_M|apply q_N|apply q_O)<;>try (intro _;try exact q_v))|with_reducible refine q_t ?_)
  all_goals first | contradiction | omega | exact q_B [nR, nR, nR] rfl rfl | skip
theorem comF_ref {p s q t : Int} {i : Nat} (hs : 0 < s) (ht : 0 < t) : p + s * (((q - p).fdiv (gOf s t) * (i : Int)).fmod (t.fdiv (gOf s t))) = comF p s q t i := by
  obtain ⟨_, _, ⟨u0, _⟩, _⟩ := gcd_facts hs ht (g := gOf s t) rfl rfl rfl
  unfold comF
  generalize t.fdiv (gOf s t) = u at *
  generalize (q - p).fdiv (gOf s t) = y
  rw [Int.fmod_eq_emod_of_nonneg _ (show 0 ≤ u by omega), Int.fmod_eq_emod_of_nonneg _ (show 0 ≤ u by omega), Int.fmod_eq_emod_of_nonneg _ (show 0 ≤ u by omega)]
  have : (y % u * (i : Int)) % u = (y * (i : Int)) % u := by rw [Int.mul_emod, Int.emod_emod, ← Int.mul_emod]
  rw [this]
structure MetC (S D Z S' D' Z' p l s q l' t : Int) : Prop where
  hP : rF S D Z = p
  hL : rL S D Z = l
  hQ : rF S' D' Z' = q
  hL' : rL S' D' Z' = l'
  hS : upS D = s
  hT : upS D' = t
  hD : D ≠ 0
  hD' : D' ≠ 0
  hc : pCom p s q t
  wl : l.natAbs < W40
  wl' : l'.natAbs < W40
set_option maxRecDepth 100000 in
set_option maxHeartbeats 12800000 in
theorem met_apart (S D n Z S' D' n' Z' p l s q l' t : Int) (c c' : Bool) (hn : 0 < n) (hn' : 0 < n') (hm : MetC S D Z S' D' Z' p l s q l' t) (hr : (q - p).fmod (gOf s t) ≠ 0) :
    Ret Try.prog 80 false [.inr (gG8 S D n Z c), .inr (gG8 S' D' n' Z' c')] zero3 := by
  obtain ⟨hP, hL, hQ, hL', hS, hT, hD, hD', ⟨⟨hs, ht⟩, w1, w2, w3, w4⟩, wl, wl'⟩ := hm
  have z1 := dg_len_pos 65536 n.natAbs (by omega)
  have z2 := dg_len_pos 65536 n'.natAbs (by omega)
  obtain ⟨⟨g0, g1⟩, _⟩ := gcd_facts hs ht (g := gOf s t) rfl rfl rfl
  have hgc : Nat.gcd s.natAbs t.natAbs = (gOf s t).natAbs := by unfold gOf; rw [Int.natAbs_natCast]
  have hga : (((gOf s t).natAbs : Nat) : Int) = gOf s t := by omega
  have hw := W80_ge
  have l1 := w65 (z := p) (k := 1) (by omega) (by omega)
  have l2 := w65 (z := q) (k := 1) (by omega) (by omega)
  have l3 := w65 (z := s) (k := 1) (by omega) (by omega)
  have l4 := w65 (z := t) (k := 1) (by omega) (by omega)
  have l5 := w65 (z := -p) (k := 1) (by omega) (by omega)
  have l6 := w65 (z := q - p) (k := 2) (by omega) (by omega)
  have ep : q + -p = q - p := by omega
  generalize gOf s t = g at *
  have l7 := w65 (z := g) (k := 1) (by omega) (by omega)
  have hg0 : ¬ g = 0 := by omega
  generalize hR : (q - p).fmod g = r at *
  have z3 := dg_len_pos 65536 r.natAbs (by omega)
  (refine q_H Try.func80 (fun F => ?_); simp only [q_z,q_y,Try.ntmps80,Try.results80])
  repeat' (first|(with_reducible first|apply q_a|apply q_b|apply q_c|apply q_d|apply q_e|apply q_f|apply q_g|apply q_h|apply q_i|apply q_j|apply q_k|apply q_m|apply q_n|apply q_o|apply q_p|refine q_l ?_)|((with_reducible first|refine q_q rmt_ok fun K hK=>?_|refine q_r rmt_ok fun K hK=>?_);simp (maxSteps:=2000000) only [go_sem,↓reduceIte,reduceCtorEq,Nat.reduceLeDiff,Nat.reduceLT,Nat.reduceBEq,Nat.reduceAdd,hP, hL, hQ, hL', hS, hT, hgc, hga, sgf, ep, hR];(repeat1' with_reducible first|apply And.intro|(intro _;try exact q_v)|(refine hK _ ?_;clear hK K))<;>(try (clear hK K;exact q_u)))|(with_reducible refine q_s ?_;(first|apply q_J|apply q_K|apply q_L|apply q_M|apply q_N|apply q_O)<;>try (intro _;try exact q_v))|with_reducible refine q_t ?_)
  all_goals first | contradiction | omega | exact q_B [nR, nR, nR] rfl rfl | skip
theorem seq_cutM {F : Fr} {Q : Exit → St → Prop} {st : St} {a b c d e f g h i j k l Y : Code} {ι : Type} (mid : ι → St) (h1 : ∀ Y', (∀ i, AWp Try.prog F Y' Q (mid i)) → AWp Try.prog F (.seq a (.seq b (.seq c (.seq d (.seq e (.seq f (.seq g (.seq h (.seq i (.seq j (.seq k (.seq l Y')))))))))))) Q st) (h2 : ∀ i, AWp Try.prog F Y Q (mid i)) : AWp Try.prog F (.seq a (.seq b (.seq c (.seq d (.seq e (.seq f (.seq g (.seq h (.seq i (.seq j (.seq k (.seq l Y)))))))))))) Q st := h1 Y h2
theorem awp_fitM {F : Fr} {Q : Exit → St → Prop} {st : St} {Y : Code} {ι : Type} {mid : ι → St} (hY : ∀ i, AWp Try.prog F Y Q (mid i)) (i : ι) (h : FitP st (mid i)) : AWp Try.prog F Y Q st := awp_told (mid i) h (hY i)
theorem gap_lens {q c st : Int} (h1 : q.natAbs < W40) (h2 : c.natAbs ≤ 2 * W80) (h3 : st.natAbs ≤ W80) : (dg 65536 (q - c + st).natAbs).length ≤ 256 ∧ (dg 65536 (q - c + (st - 1)).natAbs).length ≤ 256 := by
  have := W80_ge
  exact ⟨w65 (k := 4) (by omega) (by omega), w65 (k := 5) (by omega) (by omega)⟩
theorem sgz_pos {z : Int} (h : 0 < z) (c : Bool) : sgz z c = false := by rw [sgz_ne (by omega)]; exact decide_eq_false (by omega)
theorem sgz_neg {z : Int} (h : z < 0) (c : Bool) : sgz z c = true := by rw [sgz_ne (by omega)]; exact decide_eq_true h
set_option maxRecDepth 100000 in
set_option maxHeartbeats 25600000 in
theorem met_some (S D n Z S' D' n' Z' p l s q l' t : Int) (c c' : Bool) (i : Nat) (hn : 0 < n) (hn' : 0 < n') (hm : MetC S D Z S' D' Z' p l s q l' t) (hr : (q - p).fmod (gOf s t) = 0) (hi : isInv s t i) (f L st : Int)
    (hst : comS s t = st) (hf : mtF (comF p s q t i) q st = f) (hL : mtL l l' = L) :
    ∃ a : Bool, Ret Try.prog 80 false [.inr (gG8 S D n Z c), .inr (gG8 S' D' n' Z' c')] (if L < f then zero3 else .t [.inr (gRz f a), .inr (gR st), .inr [.b false, .ints .i64 (dg 65536 ((L - f).fdiv st + 1).natAbs)]]) := by
  have hcr := comF_ref (p := p) (q := q) (i := i) hm.hc.1.1 hm.hc.1.2
  obtain ⟨x1, x2, x3, x4, x5⟩ := com_w hm.hc hi
  have hmt := mtF_w (f := comF p s q t i) (q := q) x3 x2 x1
  obtain ⟨hP, hLl, hQ, hL', hS, hT, hD, hD', ⟨⟨hs, ht⟩, w1, w2, w3, w4⟩, wl, wl'⟩ := hm
  have hun := fun j hj => isInv_unique (i := i) (j := j) hs ht hi hj
  have hall : ∀ P : Nat → Prop, (∀ j, isI (s.fdiv (gOf s t)) (t.fdiv (gOf s t)) j → P j) = P i := fun P => propext ⟨fun h => h i hi, fun h j hj => (hun j hj) ▸ h⟩
  have z1 := dg_len_pos 65536 n.natAbs (by omega)
  have z2 := dg_len_pos 65536 n'.natAbs (by omega)
  obtain ⟨⟨g0, g1⟩, ⟨o0, o1⟩, ⟨u0, u1⟩, hco, es, et⟩ := gcd_facts hs ht (g := gOf s t) rfl rfl rfl
  have hgc : Nat.gcd s.natAbs t.natAbs = (gOf s t).natAbs := by unfold gOf; rw [Int.natAbs_natCast]
  have hga : (((gOf s t).natAbs : Nat) : Int) = gOf s t := by omega
  have hw := W80_ge
  have l1 := w65 (z := p) (k := 1) (by omega) (by omega)
  have l2 := w65 (z := q) (k := 1) (by omega) (by omega)
  have l3 := w65 (z := s) (k := 1) (by omega) (by omega)
  have l4 := w65 (z := t) (k := 1) (by omega) (by omega)
  have l5 := w65 (z := -p) (k := 1) (by omega) (by omega)
  have l6 := w65 (z := q - p) (k := 2) (by omega) (by omega)
  have ep : q + -p = q - p := by omega
  have hi1 := hi.1
  rw [hst] at x2 x3 x5 hmt
  unfold comS at hst
  generalize hG : gOf s t = g at *
  have l7 := w65 (z := g) (k := 1) (by omega) (by omega)
  have hg0 : ¬ g = 0 := by omega
  generalize hO : s.fdiv g = o at *
  generalize hU : t.fdiv g = u at *
  have l8 := w65 (z := o) (k := 1) (by omega) (by omega)
  have l9 := w65 (z := u) (k := 1) (by omega) (by omega)
  have hu0 : ¬ u = 0 := by omega
  have l10 : (dg 65536 (i : Int).natAbs).length ≤ 256 := w65 (z := (i : Int)) (k := 1) (by omega) (by omega)
  have pri : pRi (u.toNat + 1) o u := ⟨by omega, by omega, by omega, hco, Nat.le_trans l8 (by omega), Nat.le_trans l9 (by omega)⟩
  have l11 : (dg 65536 ((q - p).fdiv g).natAbs).length ≤ 256 := by
    have e := Int.fmod_add_mul_fdiv (q - p) g
    rw [hr] at e
    have e2 : (g * (q - p).fdiv g).natAbs = g.natAbs * ((q - p).fdiv g).natAbs := Int.natAbs_mul _ _
    have e3 : ((q - p).fdiv g).natAbs ≤ g.natAbs * ((q - p).fdiv g).natAbs := Nat.le_mul_of_pos_left _ (by omega)
    refine w65 (k := 2) ?_ (by omega)
    generalize g * (q - p).fdiv g = y at *
    generalize g.natAbs * ((q - p).fdiv g).natAbs = z at *
    omega
  generalize hY : (q - p).fdiv g = y at *
  have l12 : (dg 65536 (y * (i : Int)).natAbs).length ≤ 512 := by
    rw [Int.natAbs_mul]
    exact mul_len (by omega) l11 l10
  have fx := (Int.fdiv_fmod_unique (a := y * (i : Int)) u0).1 ⟨rfl, rfl⟩
  generalize hX : (y * (i : Int)).fmod u = x at *
  have l13 := w65 (z := x) (k := 1) (by omega) (by omega)
  have b2 : (s * x).natAbs ≤ W80 := mul_w (by omega) (by omega)
  have l14 := w65 (z := s * x) (k := 1) (by omega) (by omega)
  generalize hC : comF p s q t i = cc at *
  have l15 := w65 (z := cc) (k := 2) (by omega) (by omega)
  have l16 := w65 (z := -cc) (k := 2) (by omega) (by omega)
  have l17 := w65 (z := q - cc) (k := 3) (by omega) (by omega)
  have eq' : q + -cc = q - cc := by omega
  have l18 := w65 (z := st) (k := 1) (by omega) (by omega)
  have hst0 : ¬ st = 0 := by omega
  have l19 := w65 (z := l) (k := 1) (by omega) (by omega)
  have l20 := w65 (z := l') (k := 1) (by omega) (by omega)
  have c1 := cz_lt' l' l
  have l21 := len_i64 (z := 1) (by omega)
  have l22 := len_i64 (z := -1) (by omega)
  have wL : L.natAbs < W40 := by rw [← hL]; unfold mtL; split <;> omega
  have wf : f.natAbs ≤ 4 * W80 := by
    rw [← hf]
    by_cases k : cc < q
    · obtain ⟨_, _, m3, m4⟩ := hmt (by omega) k
      rw [mtF, if_pos k]
      generalize st * (q - cc + (st - 1)).fdiv st = y at *
      omega
    · rw [mtF, if_neg k]; omega
  have l23 := w65 (z := f) (k := 4) (by omega) (by omega)
  have l24 := w65 (z := L) (k := 1) (by omega) (by omega)
  have l25 := w65 (z := -f) (k := 4) (by omega) (by omega)
  have l26 := w65 (z := L - f) (k := 5) (by omega) (by omega)
  have eL : L + -f = L - f := by omega
  have c2 := cz_gt f L
  have fc := (Int.fdiv_fmod_unique (a := L - f) x3).1 ⟨rfl, rfl⟩
  have hmc : mtL l l' = if l' < l then l' else l := rfl
  have l27 : ¬ L < f → (dg 65536 ((L - f).fdiv st).natAbs).length ≤ 256 ∧ 0 ≤ (L - f).fdiv st := fun hLf => by
    obtain ⟨e, e2, e3⟩ := fc
    have h0 : 0 ≤ (L - f).fdiv st := by
      rcases Int.lt_or_le ((L - f).fdiv st) 0 with h | h
      · have : st * (L - f).fdiv st ≤ st * (-1) := Int.mul_le_mul_of_nonneg_left (by omega) (by omega)
        omega
      · exact h
    have h1 : (L - f).fdiv st ≤ st * (L - f).fdiv st := by
      have := Int.mul_le_mul_of_nonneg_right (show 1 ≤ st by omega) h0
      omega
    exact ⟨w65 (k := 5) (by omega) (by omega), h0⟩
  clear fc
  have z3 := dg_len_pos 65536 (q - cc).natAbs (by omega)
  have hL2 : (l' < l ∧ l' = L) ∨ (¬ l' < l ∧ l = L) := by rw [← hL]; unfold mtL; split <;> omega
  clear hL hmc
  obtain ⟨a, ha⟩ : ∃ a, (if cc < q then sgz cc (sgz p (cond (decide (D < 0)) (sgz Z c) (decide (S < 0)))) else sgz p (cond (decide (D < 0)) (sgz Z c) (decide (S < 0)))) = a := ⟨_, rfl⟩
  refine ⟨a, ?_⟩
  (refine q_H Try.func80 (fun F => ?_); simp only [q_z,q_y,Try.ntmps80,Try.results80])
  refine seq_cutM (ι := Bool × Bool × Bool × Bool × List Int) (fun j => ⟨154, [(4, .bx 2 0), (5, .bx 3 0), (6, .bx 4 0), (8, .bx 6 0), (10, .bx 8 0), (11, .bx 9 0), (14, .bx 12 0)], ⟨[(12, [.c (.b j.2.2.2.1), .c (.ints .i64 j.2.2.2.2)]), (9, [.c (.b (sgz l' j.2.2.1)), .c (.ints .i64 (dg 65536 l'.natAbs))]), (8, [.c (.b (sgz q j.2.1)), .c (.ints .i64 (dg 65536 q.natAbs))]), (6, [.c (.b (sgz l j.1)), .c (.ints .i64 (dg 65536 l.natAbs))]), (4, [.c (.b false), .c (.ints .i64 [])]), (3, [.c (.b (decide (st < 0))), .c (.ints .i64 (dg 65536 st.natAbs))]), (2, [.c (.b (sgz cc (sgz p (cond (decide (D < 0)) (sgz Z c) (decide (S < 0)))))), .c (.ints .i64 (dg 65536 cc.natAbs))])], [], []⟩, 18⟩) (fun Y' hY' => ?_) ?_
  · repeat' (first|(with_reducible first|apply q_a|apply q_b|apply q_c|apply q_d|apply q_e|apply q_f|apply q_g|apply q_h|apply q_i|apply q_j|apply q_k|apply q_m|apply q_n|apply q_o|apply q_p|refine q_l ?_)|((with_reducible first|refine q_q rmt_ok fun K hK=>?_|refine q_r rmt_ok fun K hK=>?_);simp (maxSteps:=2000000) only [go_sem,↓reduceIte,reduceCtorEq,Nat.reduceLeDiff,Nat.reduceLT,Nat.reduceBEq,Nat.reduceAdd,hP, hLl, hQ, hL', hS, hT, hgc, hga, sgf, ep, hr, hO, hU, hY, hall, hX, hcr, hst];(repeat1' with_reducible first|apply And.intro|(intro _;try exact q_v)|(refine hK _ ?_;clear hK K))<;>(try (clear hK K;exact q_u)))|(with_reducible refine q_s ?_;(first|apply q_J|apply q_K|apply q_L|apply q_M|apply q_N|apply q_O)<;>try (intro _;try exact q_v))|with_reducible refine q_t ?_)
    all_goals first | contradiction | omega | exact pri | exact awp_fitM hY' (_, _, _, _, _) q_D | skip
  rintro ⟨j1, j2, j3, j4, j5⟩
  generalize sgz p (cond (decide (D < 0)) (sgz Z c) (decide (S < 0))) = fl at *
  clear hall hP hLl hQ hL' hS hT hgc hga hr hO hU hY hX hcr es et z1 z2 pri
  have hmt := hmt (by omega)
  have l32 := gap_lens w4 x1 x2
  clear l1 l3 l4 l5 l6 l7 l8 l9 l10 l11 l12 l13 l14 w1 w2 w3 w4 x1 x2 wl wl' wL wf b2 hw hs ht g0 g1 o0 o1 u0 u1 hi1 fx hD hD' hn hn' hg0 hu0
  refine seq_join (ι := Bool × List Int) (fun j => ⟨154, [(4, .bx 2 0), (5, .bx 3 0), (6, .bx 4 0), (8, .bx 6 0), (11, .bx 9 0), (14, .bx 12 0)], ⟨[(12, [.c (.b j.1), .c (.ints .i64 j.2)]), (9, [.c (.b (sgz l' j3)), .c (.ints .i64 (dg 65536 l'.natAbs))]), (6, [.c (.b (sgz l j1)), .c (.ints .i64 (dg 65536 l.natAbs))]), (4, [.c (.b false), .c (.ints .i64 [])]), (3, [.c (.b (decide (st < 0))), .c (.ints .i64 (dg 65536 st.natAbs))]), (2, [.c (.b (sgz f a)), .c (.ints .i64 (dg 65536 f.natAbs))])], [], []⟩, 19⟩) ?_ ?_
  · by_cases k1 : cc < q
    · obtain ⟨m1, m2, m3, m4⟩ := hmt k1
      clear hmt hL2 l27
      have hsg := sgz_pos (show 0 < q - cc by omega)
      have hsv : sg false (q - cc).natAbs = q - cc := by rw [sgf]; omega
      rw [mtF, if_pos k1] at hf
      rw [if_pos k1] at ha
      subst ha
      have l30 := (dg_half' _ 128).2 m1
      have l31 := (dg_half' _ 128).2 m2
      generalize hM : (q - cc + (st - 1)).fdiv st = kk at *
      have eM : q - cc + st + -1 = q - cc + (st - 1) := by omega
      obtain ⟨l32, l33⟩ := l32
      repeat' (first|(with_reducible first|apply q_a|apply q_b|apply q_c|apply q_d|apply q_e|apply q_f|apply q_g|apply q_h|apply q_i|apply q_j|apply q_k|apply q_m|apply q_n|apply q_o|apply q_p|refine q_l ?_)|((with_reducible first|refine q_q rmt_ok fun K hK=>?_|refine q_r rmt_ok fun K hK=>?_);simp (maxSteps:=2000000) only [go_sem,↓reduceIte,reduceCtorEq,Nat.reduceLeDiff,Nat.reduceLT,Nat.reduceBEq,Nat.reduceAdd,eq', hsg, hsv, eM, hM, hf];(repeat1' with_reducible first|apply And.intro|(intro _;try exact q_v)|(refine hK _ ?_;clear hK K))<;>(try (clear hK K;exact q_u)))|(with_reducible refine q_s ?_;(first|apply q_J|apply q_K|apply q_L|apply q_M|apply q_N|apply q_O)<;>try (intro _;try exact q_v))|with_reducible refine q_t ?_)
      all_goals first | contradiction | omega | exact join_n (_, _) q_D | skip
    · rw [mtF, if_neg k1] at hf
      rw [if_neg k1] at ha
      clear hmt hL2 l27
      subst hf ha
      by_cases keq : cc = q
      · repeat' (first|(with_reducible first|apply q_a|apply q_b|apply q_c|apply q_d|apply q_e|apply q_f|apply q_g|apply q_h|apply q_i|apply q_j|apply q_k|apply q_m|apply q_n|apply q_o|apply q_p|refine q_l ?_)|((with_reducible first|refine q_q rmt_ok fun K hK=>?_|refine q_r rmt_ok fun K hK=>?_);simp (maxSteps:=2000000) only [go_sem,↓reduceIte,reduceCtorEq,Nat.reduceLeDiff,Nat.reduceLT,Nat.reduceBEq,Nat.reduceAdd,eq'];(repeat1' with_reducible first|apply And.intro|(intro _;try exact q_v)|(refine hK _ ?_;clear hK K))<;>(try (clear hK K;exact q_u)))|(with_reducible refine q_s ?_;(first|apply q_J|apply q_K|apply q_L|apply q_M|apply q_N|apply q_O)<;>try (intro _;try exact q_v))|with_reducible refine q_t ?_)
        all_goals first | contradiction | omega | exact join_n (_, _) q_D | skip
      · have hsg := sgz_neg (show q - cc < 0 by omega)
        repeat' (first|(with_reducible first|apply q_a|apply q_b|apply q_c|apply q_d|apply q_e|apply q_f|apply q_g|apply q_h|apply q_i|apply q_j|apply q_k|apply q_m|apply q_n|apply q_o|apply q_p|refine q_l ?_)|((with_reducible first|refine q_q rmt_ok fun K hK=>?_|refine q_r rmt_ok fun K hK=>?_);simp (maxSteps:=2000000) only [go_sem,↓reduceIte,reduceCtorEq,Nat.reduceLeDiff,Nat.reduceLT,Nat.reduceBEq,Nat.reduceAdd,eq', hsg];(repeat1' with_reducible first|apply And.intro|(intro _;try exact q_v)|(refine hK _ ?_;clear hK K))<;>(try (clear hK K;exact q_u)))|(with_reducible refine q_s ?_;(first|apply q_J|apply q_K|apply q_L|apply q_M|apply q_N|apply q_O)<;>try (intro _;try exact q_v))|with_reducible refine q_t ?_)
        all_goals first | contradiction | omega | exact join_n (_, _) q_D | skip
  rintro ⟨j7, j8⟩
  clear hf ha hmt
  refine seq_join (ι := Bool × Bool × List Int) (fun j => ⟨154, [(4, .bx 2 0), (5, .bx 3 0), (6, .bx 4 0), (8, .bx 6 0), (14, .bx 12 0)], ⟨[(12, [.c (.b j.2.1), .c (.ints .i64 j.2.2)]), (6, [.c (.b (sgz L j.1)), .c (.ints .i64 (dg 65536 L.natAbs))]), (4, [.c (.b false), .c (.ints .i64 [])]), (3, [.c (.b (decide (st < 0))), .c (.ints .i64 (dg 65536 st.natAbs))]), (2, [.c (.b (sgz f a)), .c (.ints .i64 (dg 65536 f.natAbs))])], [], []⟩, 19⟩) ?_ ?_
  · rcases hL2 with ⟨k2, rfl⟩ | ⟨k2, rfl⟩
    · repeat' (first|(with_reducible first|apply q_a|apply q_b|apply q_c|apply q_d|apply q_e|apply q_f|apply q_g|apply q_h|apply q_i|apply q_j|apply q_k|apply q_m|apply q_n|apply q_o|apply q_p|refine q_l ?_)|((with_reducible first|refine q_q rmt_ok fun K hK=>?_|refine q_r rmt_ok fun K hK=>?_);simp (maxSteps:=2000000) only [go_sem,↓reduceIte,reduceCtorEq,Nat.reduceLeDiff,Nat.reduceLT,Nat.reduceBEq,Nat.reduceAdd];(repeat1' with_reducible first|apply And.intro|(intro _;try exact q_v)|(refine hK _ ?_;clear hK K))<;>(try (clear hK K;exact q_u)))|(with_reducible refine q_s ?_;(first|apply q_J|apply q_K|apply q_L|apply q_M|apply q_N|apply q_O)<;>try (intro _;try exact q_v))|with_reducible refine q_t ?_)
      all_goals first | contradiction | omega | exact join_n (_, _, _) q_D | skip
    · repeat' (first|(with_reducible first|apply q_a|apply q_b|apply q_c|apply q_d|apply q_e|apply q_f|apply q_g|apply q_h|apply q_i|apply q_j|apply q_k|apply q_m|apply q_n|apply q_o|apply q_p|refine q_l ?_)|((with_reducible first|refine q_q rmt_ok fun K hK=>?_|refine q_r rmt_ok fun K hK=>?_);simp (maxSteps:=2000000) only [go_sem,↓reduceIte,reduceCtorEq,Nat.reduceLeDiff,Nat.reduceLT,Nat.reduceBEq,Nat.reduceAdd];(repeat1' with_reducible first|apply And.intro|(intro _;try exact q_v)|(refine hK _ ?_;clear hK K))<;>(try (clear hK K;exact q_u)))|(with_reducible refine q_s ?_;(first|apply q_J|apply q_K|apply q_L|apply q_M|apply q_N|apply q_O)<;>try (intro _;try exact q_v))|with_reducible refine q_t ?_)
      all_goals first | contradiction | omega | exact join_n (_, _, _) q_D | skip
  rintro ⟨j6, j9, j10⟩
  by_cases hLf : L < f
  · rw [if_pos hLf]
    repeat' (first|(with_reducible first|apply q_a|apply q_b|apply q_c|apply q_d|apply q_e|apply q_f|apply q_g|apply q_h|apply q_i|apply q_j|apply q_k|apply q_m|apply q_n|apply q_o|apply q_p|refine q_l ?_)|((with_reducible first|refine q_q rmt_ok fun K hK=>?_|refine q_r rmt_ok fun K hK=>?_);simp (maxSteps:=2000000) only [go_sem,↓reduceIte,reduceCtorEq,Nat.reduceLeDiff,Nat.reduceLT,Nat.reduceBEq,Nat.reduceAdd,eL];(repeat1' with_reducible first|apply And.intro|(intro _;try exact q_v)|(refine hK _ ?_;clear hK K))<;>(try (clear hK K;exact q_u)))|(with_reducible refine q_s ?_;(first|apply q_J|apply q_K|apply q_L|apply q_M|apply q_N|apply q_O)<;>try (intro _;try exact q_v))|with_reducible refine q_t ?_)
    all_goals first | contradiction | omega | exact q_B [nR, nR, nR] rfl rfl | skip
  · rw [if_neg hLf]
    obtain ⟨l28, k0⟩ := l27 hLf
    generalize hKK : (L - f).fdiv st = k at *
    have hk1 := sgz_pos (show 0 < k + 1 by omega)
    repeat' (first|(with_reducible first|apply q_a|apply q_b|apply q_c|apply q_d|apply q_e|apply q_f|apply q_g|apply q_h|apply q_i|apply q_j|apply q_k|apply q_m|apply q_n|apply q_o|apply q_p|refine q_l ?_)|((with_reducible first|refine q_q rmt_ok fun K hK=>?_|refine q_r rmt_ok fun K hK=>?_);simp (maxSteps:=2000000) only [go_sem,↓reduceIte,reduceCtorEq,Nat.reduceLeDiff,Nat.reduceLT,Nat.reduceBEq,Nat.reduceAdd,eL, hKK, hk1];(repeat1' with_reducible first|apply And.intro|(intro _;try exact q_v)|(refine hK _ ?_;clear hK K))<;>(try (clear hK K;exact q_u)))|(with_reducible refine q_s ?_;(first|apply q_J|apply q_K|apply q_L|apply q_M|apply q_N|apply q_O)<;>try (intro _;try exact q_v))|with_reducible refine q_t ?_)
    all_goals first | contradiction | omega | exact q_A rfl | skip
end Go.Proofs.Ytneecniebhhhlaa
