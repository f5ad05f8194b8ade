import Derived.Test.YtlflfhcfljiciaaGreatE12
namespace Go.Proofs.YtlflfhcfljiciaaGreat
set_option linter.unusedSimpArgs false
set_option linter.unusedVariables false
open Go.Abs Go.Proofs.NatL

theorem subO_le {m n : Nat} (h : n ≤ m) : subO (dg 4294967296 m) (dg 4294967296 n) = dg 4294967296 (m - n) ∧ subC (dg 4294967296 m) (dg 4294967296 n) = 0 ∧ subI (dg 4294967296 m) (dg 4294967296 n) = 0 := by
  have h1 : ¬ m < n := by omega
  simp only [subO, subC, subI, subN, V32, h1, if_false, and_self]
theorem addNd' (m n : Nat) : addN (dg 4294967296 m) (dg 4294967296 n) = dg 4294967296 (m + n) := by unfold addN; rw [V32, V32]
theorem mulNd' (m n : Nat) : mulN (dg 4294967296 m) (dg 4294967296 n) = dg 4294967296 (m * n) := by unfold mulN; rw [V32, V32]
theorem cmp3_nlt {m n : Nat} (h : n ≤ m) : ¬ cmp3 m n < 0 := fun h2 => by have := (cmp3_lt m n).1 h2; omega

set_option maxHeartbeats 1600000 in
theorem iplus_truetrue (m n : Nat) (lm : (dg 4294967296 m).length ≤ 128) (ln : (dg 4294967296 n).length ≤ 128) :
    Ret Tryz.prog 89 false [.inr [.b true, .ints .u32 (dg 4294967296 m)], .inr [.b true, .ints .u32 (dg 4294967296 n)]] (.t [.inr (gI (cl 128 (sg true m + sg true n))), .inr [.i .i64 (clC 128 (sg true m + sg true n)), .i .i64 (clI 128 (sg true m + sg true n))]]) := by
  have om := okN_128 lm
  have on' := okN_128 ln
  have al := add_len (B := 4294967296) (by omega) lm ln
  have ad := addNd' m n
  obtain ⟨f1, f2, f3⟩ := fit_small (n := m + n) (by omega)
  have hz : sg true m + sg true n = sg true (m + n) := by simp only [sg, Bool.false_eq_true, if_false, if_true]; omega
  rw [hz]
  (refine q_H Tryz.func89 (fun F => ?_); simp only [q_z,q_y,Tryz.ntmps89,Tryz.results89])
  repeat' (first|(with_reducible first|apply q_a|apply q_b|apply q_c|apply q_d|apply q_e|apply q_f|apply q_g|apply q_h|apply q_i|apply q_j|apply q_k|apply q_m|apply q_n|apply q_o|apply q_p|refine q_l ?_)|((with_reducible first|refine q_q ib_ok fun K hK=>?_|refine q_r ib_ok fun K hK=>?_);simp (maxSteps:=2000000) only [go_sem,↓reduceIte,reduceCtorEq,Nat.reduceLeDiff,Nat.reduceLT,Nat.reduceBEq,Nat.reduceAdd,om, on', ad, f1, f2, f3, sv32d];(repeat1' with_reducible first|apply And.intro|(intro _;try exact q_v)|(refine hK _ ?_;clear hK K))<;>(try (clear hK K;exact q_u)))|(with_reducible refine q_s ?_;(first|apply q_J|apply q_K|apply q_L|apply q_M|apply q_N|apply q_O)<;>try (intro _;try exact q_v))|with_reducible refine q_t ?_)
  exact q_A rfl
set_option maxHeartbeats 1600000 in
theorem iplus_falsefalse (m n : Nat) (lm : (dg 4294967296 m).length ≤ 128) (ln : (dg 4294967296 n).length ≤ 128) :
    Ret Tryz.prog 89 false [.inr [.b false, .ints .u32 (dg 4294967296 m)], .inr [.b false, .ints .u32 (dg 4294967296 n)]] (.t [.inr (gI (cl 128 (sg false m + sg false n))), .inr [.i .i64 (clC 128 (sg false m + sg false n)), .i .i64 (clI 128 (sg false m + sg false n))]]) := by
  have om := okN_128 lm
  have on' := okN_128 ln
  have al := add_len (B := 4294967296) (by omega) lm ln
  have ad := addNd' m n
  obtain ⟨f1, f2, f3⟩ := fit_small (n := m + n) (by omega)
  have hz : sg false m + sg false n = sg false (m + n) := by simp only [sg, Bool.false_eq_true, if_false, if_true]; omega
  rw [hz]
  (refine q_H Tryz.func89 (fun F => ?_); simp only [q_z,q_y,Tryz.ntmps89,Tryz.results89])
  repeat' (first|(with_reducible first|apply q_a|apply q_b|apply q_c|apply q_d|apply q_e|apply q_f|apply q_g|apply q_h|apply q_i|apply q_j|apply q_k|apply q_m|apply q_n|apply q_o|apply q_p|refine q_l ?_)|((with_reducible first|refine q_q ib_ok fun K hK=>?_|refine q_r ib_ok fun K hK=>?_);simp (maxSteps:=2000000) only [go_sem,↓reduceIte,reduceCtorEq,Nat.reduceLeDiff,Nat.reduceLT,Nat.reduceBEq,Nat.reduceAdd,om, on', ad, f1, f2, f3, sv32d];(repeat1' with_reducible first|apply And.intro|(intro _;try exact q_v)|(refine hK _ ?_;clear hK K))<;>(try (clear hK K;exact q_u)))|(with_reducible refine q_s ?_;(first|apply q_J|apply q_K|apply q_L|apply q_M|apply q_N|apply q_O)<;>try (intro _;try exact q_v))|with_reducible refine q_t ?_)
  exact q_A rfl
set_option maxHeartbeats 1600000 in
theorem iplus_truefalse (m n : Nat) (lm : (dg 4294967296 m).length ≤ 128) (ln : (dg 4294967296 n).length ≤ 128) :
    Ret Tryz.prog 89 false [.inr [.b true, .ints .u32 (dg 4294967296 m)], .inr [.b false, .ints .u32 (dg 4294967296 n)]] (.t [.inr (gI (cl 128 (sg true m + sg false n))), .inr [.i .i64 (clC 128 (sg true m + sg false n)), .i .i64 (clI 128 (sg true m + sg false n))]]) := by
  have om := okN_128 lm
  have on' := okN_128 ln
  rcases Nat.lt_or_ge m n with h | h
  · have hc := (cmp3_lt m n).2 h
    obtain ⟨s1, s2, s3⟩ := subO_le (m := n) (n := m) (by omega)
    have sl := sub_len (B := 4294967296) (by omega) (a := n) (b := m) ln
    have hz : sg true m + sg false n = sg false (n - m) := by simp only [sg, Bool.false_eq_true, if_false, if_true]; omega
    rw [hz]
    (refine q_H Tryz.func89 (fun F => ?_); simp only [q_z,q_y,Tryz.ntmps89,Tryz.results89])
    repeat' (first|(with_reducible first|apply q_a|apply q_b|apply q_c|apply q_d|apply q_e|apply q_f|apply q_g|apply q_h|apply q_i|apply q_j|apply q_k|apply q_m|apply q_n|apply q_o|apply q_p|refine q_l ?_)|((with_reducible first|refine q_q ib_ok fun K hK=>?_|refine q_r ib_ok fun K hK=>?_);simp (maxSteps:=2000000) only [go_sem,↓reduceIte,reduceCtorEq,Nat.reduceLeDiff,Nat.reduceLT,Nat.reduceBEq,Nat.reduceAdd,om, on', s1, s2, s3, sv32d];(repeat1' with_reducible first|apply And.intro|(intro _;try exact q_v)|(refine hK _ ?_;clear hK K))<;>(try (clear hK K;exact q_u)))|(with_reducible refine q_s ?_;(first|apply q_J|apply q_K|apply q_L|apply q_M|apply q_N|apply q_O)<;>try (intro _;try exact q_v))|with_reducible refine q_t ?_)
    exact q_A rfl
  · have hc := cmp3_nlt h
    obtain ⟨s1, s2, s3⟩ := subO_le (m := m) (n := n) (by omega)
    have sl := sub_len (B := 4294967296) (by omega) (a := m) (b := n) lm
    have hz : sg true m + sg false n = sg true (m - n) := by simp only [sg, Bool.false_eq_true, if_false, if_true]; omega
    rw [hz]
    (refine q_H Tryz.func89 (fun F => ?_); simp only [q_z,q_y,Tryz.ntmps89,Tryz.results89])
    repeat' (first|(with_reducible first|apply q_a|apply q_b|apply q_c|apply q_d|apply q_e|apply q_f|apply q_g|apply q_h|apply q_i|apply q_j|apply q_k|apply q_m|apply q_n|apply q_o|apply q_p|refine q_l ?_)|((with_reducible first|refine q_q ib_ok fun K hK=>?_|refine q_r ib_ok fun K hK=>?_);simp (maxSteps:=2000000) only [go_sem,↓reduceIte,reduceCtorEq,Nat.reduceLeDiff,Nat.reduceLT,Nat.reduceBEq,Nat.reduceAdd,om, on', s1, s2, s3, sv32d];(repeat1' with_reducible first|apply And.intro|(intro _;try exact q_v)|(refine hK _ ?_;clear hK K))<;>(try (clear hK K;exact q_u)))|(with_reducible refine q_s ?_;(first|apply q_J|apply q_K|apply q_L|apply q_M|apply q_N|apply q_O)<;>try (intro _;try exact q_v))|with_reducible refine q_t ?_)
    exact q_A rfl
set_option maxHeartbeats 1600000 in
theorem iplus_falsetrue (m n : Nat) (lm : (dg 4294967296 m).length ≤ 128) (ln : (dg 4294967296 n).length ≤ 128) :
    Ret Tryz.prog 89 false [.inr [.b false, .ints .u32 (dg 4294967296 m)], .inr [.b true, .ints .u32 (dg 4294967296 n)]] (.t [.inr (gI (cl 128 (sg false m + sg true n))), .inr [.i .i64 (clC 128 (sg false m + sg true n)), .i .i64 (clI 128 (sg false m + sg true n))]]) := by
  have om := okN_128 lm
  have on' := okN_128 ln
  rcases Nat.lt_or_ge m n with h | h
  · have hc := (cmp3_lt m n).2 h
    obtain ⟨s1, s2, s3⟩ := subO_le (m := n) (n := m) (by omega)
    have sl := sub_len (B := 4294967296) (by omega) (a := n) (b := m) ln
    have hz : sg false m + sg true n = sg true (n - m) := by simp only [sg, Bool.false_eq_true, if_false, if_true]; omega
    rw [hz]
    (refine q_H Tryz.func89 (fun F => ?_); simp only [q_z,q_y,Tryz.ntmps89,Tryz.results89])
    repeat' (first|(with_reducible first|apply q_a|apply q_b|apply q_c|apply q_d|apply q_e|apply q_f|apply q_g|apply q_h|apply q_i|apply q_j|apply q_k|apply q_m|apply q_n|apply q_o|apply q_p|refine q_l ?_)|((with_reducible first|refine q_q ib_ok fun K hK=>?_|refine q_r ib_ok fun K hK=>?_);simp (maxSteps:=2000000) only [go_sem,↓reduceIte,reduceCtorEq,Nat.reduceLeDiff,Nat.reduceLT,Nat.reduceBEq,Nat.reduceAdd,om, on', s1, s2, s3, sv32d];(repeat1' with_reducible first|apply And.intro|(intro _;try exact q_v)|(refine hK _ ?_;clear hK K))<;>(try (clear hK K;exact q_u)))|(with_reducible refine q_s ?_;(first|apply q_J|apply q_K|apply q_L|apply q_M|apply q_N|apply q_O)<;>try (intro _;try exact q_v))|with_reducible refine q_t ?_)
    exact q_A rfl
  · have hc := cmp3_nlt h
    obtain ⟨s1, s2, s3⟩ := subO_le (m := m) (n := n) (by omega)
    have sl := sub_len (B := 4294967296) (by omega) (a := m) (b := n) lm
    have hz : sg false m + sg true n = sg false (m - n) := by simp only [sg, Bool.false_eq_true, if_false, if_true]; omega
    rw [hz]
    (refine q_H Tryz.func89 (fun F => ?_); simp only [q_z,q_y,Tryz.ntmps89,Tryz.results89])
    repeat' (first|(with_reducible first|apply q_a|apply q_b|apply q_c|apply q_d|apply q_e|apply q_f|apply q_g|apply q_h|apply q_i|apply q_j|apply q_k|apply q_m|apply q_n|apply q_o|apply q_p|refine q_l ?_)|((with_reducible first|refine q_q ib_ok fun K hK=>?_|refine q_r ib_ok fun K hK=>?_);simp (maxSteps:=2000000) only [go_sem,↓reduceIte,reduceCtorEq,Nat.reduceLeDiff,Nat.reduceLT,Nat.reduceBEq,Nat.reduceAdd,om, on', s1, s2, s3, sv32d];(repeat1' with_reducible first|apply And.intro|(intro _;try exact q_v)|(refine hK _ ?_;clear hK K))<;>(try (clear hK K;exact q_u)))|(with_reducible refine q_s ?_;(first|apply q_J|apply q_K|apply q_L|apply q_M|apply q_N|apply q_O)<;>try (intro _;try exact q_v))|with_reducible refine q_t ?_)
    exact q_A rfl
theorem iplus_ret (s t : Bool) (m n : Nat) (lm : (dg 4294967296 m).length ≤ 128) (ln : (dg 4294967296 n).length ≤ 128) :
    Ret Tryz.prog 89 false [.inr [.b s, .ints .u32 (dg 4294967296 m)], .inr [.b t, .ints .u32 (dg 4294967296 n)]] (.t [.inr (gI (cl 128 (sg s m + sg t n))), .inr [.i .i64 (clC 128 (sg s m + sg t n)), .i .i64 (clI 128 (sg s m + sg t n))]]) := by
  cases s <;> cases t
  · exact iplus_falsefalse m n lm ln
  · exact iplus_falsetrue m n lm ln
  · exact iplus_truefalse m n lm ln
  · exact iplus_truetrue m n lm ln
def iplusCT : CT := mkCT [nP, nP] false fun l K => match l with
  | [.inr [.b s, .ints .u32 xs], .inr [.b t, .ints .u32 ys]] => (InB 4294967296 xs ∧ Trd xs ∧ xs.length ≤ 128 ∧ InB 4294967296 ys ∧ Trd ys ∧ ys.length ≤ 128) ∧
      K (.t [.inr (gI (cl 128 (sv 4294967296 s xs + sv 4294967296 t ys))), .inr [.i .i64 (clC 128 (sv 4294967296 s xs + sv 4294967296 t ys)), .i .i64 (clI 128 (sv 4294967296 s xs + sv 4294967296 t ys))]])
  | _ => False
def it6 : Cfg := addT 89 iplusCT it5
theorem it6_ok : TblOk Tryz.prog it6 := q_I it5_ok Tryz.func89 fun l K h => by
  split at h
  · rename_i s xs t ys
    obtain ⟨⟨h1, h2, h3, h4, h5, h6⟩, h⟩ := h
    have ex := dg_V 4294967296 (by omega) xs h1 h2
    have ey := dg_V 4294967296 (by omega) ys h4 h5
    have := iplus_ret s t (V 4294967296 xs) (V 4294967296 ys) (by rw [ex]; exact h3) (by rw [ey]; exact h6)
    rw [← sv32d, ← sv32d, ex, ey] at this
    exact ⟨_, this, h⟩
  · exact h.elim
attribute [go_sem] iplusCT
def ic : Cfg := listT [(45, atCT), (42, icheckCT), (48, isignedCT), (89, iplusCT), (88, (goodCT (fun xs ys => fitN (mulN xs ys)) (fun xs ys => fitC (mulN xs ys)) (fun xs ys => fitI (mulN xs ys)))), (74, CmpCT)] [28]
theorem ic_ok : TblOk Tryz.prog ic := listT_ok (big := it6) it6_ok ⟨rfl, rfl, rfl, rfl, rfl, rfl, trivial⟩
attribute [go_sem] ic
set_option maxHeartbeats 1600000 in
theorem iAdd_ok (a b : Int) (la : (dg 4294967296 a.natAbs).length ≤ 128) (lb : (dg 4294967296 b.natAbs).length ≤ 128) :
    Ret Tryz.prog 77 false [.inr (gI a), .inr (gI b)] (.t [.inr (gI (cl 128 (a + b))), .inr [.i .i64 (clC 128 (a + b)), .i .i64 (clI 128 (a + b))]]) := by
  have oa := (okZ_g a).trans (decide_eq_true la)
  have ob := (okZ_g b).trans (decide_eq_true lb)
  have hn := sg_not (decide (b < 0)) b.natAbs
  rw [sg_self] at hn
  have hs : a + -b = a - b := by omega
  (refine q_H Tryz.func77 (fun F => ?_); simp only [q_z,q_y,Tryz.ntmps77,Tryz.results77])
  repeat' (first|(with_reducible first|apply q_a|apply q_b|apply q_c|apply q_d|apply q_e|apply q_f|apply q_g|apply q_h|apply q_i|apply q_j|apply q_k|apply q_m|apply q_n|apply q_o|apply q_p|refine q_l ?_)|((with_reducible first|refine q_q ic_ok fun K hK=>?_|refine q_r ic_ok fun K hK=>?_);simp (maxSteps:=2000000) only [go_sem,↓reduceIte,reduceCtorEq,Nat.reduceLeDiff,Nat.reduceLT,Nat.reduceBEq,Nat.reduceAdd,oa, ob, sv32, sv32d, hn, sg_self, hs];(repeat1' with_reducible first|apply And.intro|(intro _;try exact q_v)|(refine hK _ ?_;clear hK K))<;>(try (clear hK K;exact q_u)))|(with_reducible refine q_s ?_;(first|apply q_J|apply q_K|apply q_L|apply q_M|apply q_N|apply q_O)<;>try (intro _;try exact q_v))|with_reducible refine q_t ?_)
  exact q_A rfl
set_option maxHeartbeats 1600000 in
theorem iSub_ok (a b : Int) (la : (dg 4294967296 a.natAbs).length ≤ 128) (lb : (dg 4294967296 b.natAbs).length ≤ 128) :
    Ret Tryz.prog 79 false [.inr (gI a), .inr (gI b)] (.t [.inr (gI (cl 128 (a - b))), .inr [.i .i64 (clC 128 (a - b)), .i .i64 (clI 128 (a - b))]]) := by
  have oa := (okZ_g a).trans (decide_eq_true la)
  have ob := (okZ_g b).trans (decide_eq_true lb)
  have hn := sg_not (decide (b < 0)) b.natAbs
  rw [sg_self] at hn
  have hs : a + -b = a - b := by omega
  (refine q_H Tryz.func79 (fun F => ?_); simp only [q_z,q_y,Tryz.ntmps79,Tryz.results79])
  repeat' (first|(with_reducible first|apply q_a|apply q_b|apply q_c|apply q_d|apply q_e|apply q_f|apply q_g|apply q_h|apply q_i|apply q_j|apply q_k|apply q_m|apply q_n|apply q_o|apply q_p|refine q_l ?_)|((with_reducible first|refine q_q ic_ok fun K hK=>?_|refine q_r ic_ok fun K hK=>?_);simp (maxSteps:=2000000) only [go_sem,↓reduceIte,reduceCtorEq,Nat.reduceLeDiff,Nat.reduceLT,Nat.reduceBEq,Nat.reduceAdd,oa, ob, sv32, sv32d, hn, sg_self, hs];(repeat1' with_reducible first|apply And.intro|(intro _;try exact q_v)|(refine hK _ ?_;clear hK K))<;>(try (clear hK K;exact q_u)))|(with_reducible refine q_s ?_;(first|apply q_J|apply q_K|apply q_L|apply q_M|apply q_N|apply q_O)<;>try (intro _;try exact q_v))|with_reducible refine q_t ?_)
  exact q_A rfl
set_option maxHeartbeats 1600000 in
theorem iMul_ok (a b : Int) (la : (dg 4294967296 a.natAbs).length ≤ 128) (lb : (dg 4294967296 b.natAbs).length ≤ 128) :
    Ret Tryz.prog 76 false [.inr (gI a), .inr (gI b)] (.t [.inr (gI (cl 128 (a * b))), .inr [.i .i64 (clC 128 (a * b)), .i .i64 (clI 128 (a * b))]]) := by
  have oa := (okZ_g a).trans (decide_eq_true la)
  have ob := (okZ_g b).trans (decide_eq_true lb)
  have ka := okN_128 la
  have kb := okN_128 lb
  have ml := mul_len (B := 4294967296) (by omega) la lb
  have mu := mulNd' a.natAbs b.natAbs
  obtain ⟨f1, f2, f3⟩ := fit_small (n := a.natAbs * b.natAbs) (by omega)
  have hm := sg_mul (decide (a < 0)) (decide (b < 0)) a.natAbs b.natAbs
  rw [sg_self, sg_self] at hm
  (refine q_H Tryz.func76 (fun F => ?_); simp only [q_z,q_y,Tryz.ntmps76,Tryz.results76])
  repeat' (first|(with_reducible first|apply q_a|apply q_b|apply q_c|apply q_d|apply q_e|apply q_f|apply q_g|apply q_h|apply q_i|apply q_j|apply q_k|apply q_m|apply q_n|apply q_o|apply q_p|refine q_l ?_)|((with_reducible first|refine q_q ic_ok fun K hK=>?_|refine q_r ic_ok fun K hK=>?_);simp (maxSteps:=2000000) only [go_sem,↓reduceIte,reduceCtorEq,Nat.reduceLeDiff,Nat.reduceLT,Nat.reduceBEq,Nat.reduceAdd,oa, ob, ka, kb, mu, f1, f2, f3, sv32d, hm];(repeat1' with_reducible first|apply And.intro|(intro _;try exact q_v)|(refine hK _ ?_;clear hK K))<;>(try (clear hK K;exact q_u)))|(with_reducible refine q_s ?_;(first|apply q_J|apply q_K|apply q_L|apply q_M|apply q_N|apply q_O)<;>try (intro _;try exact q_v))|with_reducible refine q_t ?_)
  exact q_A rfl

set_option maxHeartbeats 1600000 in
theorem iCmp_ok (a b : Int) (la : (dg 4294967296 a.natAbs).length ≤ 128) (lb : (dg 4294967296 b.natAbs).length ≤ 128) :
    Ret Tryz.prog 52 false [.inr (gI a), .inr (gI b)] (.t [.inl (.i .i64 (cmpZ a b)), .inr [.i .i64 0, .i .i64 0]]) := by
  have oa := (okZ_g a).trans (decide_eq_true la)
  have ob := (okZ_g b).trans (decide_eq_true lb)
  have ka := okN_128 la
  have kb := okN_128 lb
  have hz := cmp3_Z a.natAbs b.natAbs
  have hb : -1 ≤ cmpZ a.natAbs b.natAbs ∧ cmpZ a.natAbs b.natAbs ≤ 1 := by unfold cmpZ; repeat' split <;> omega
  by_cases ha : a < 0
  · by_cases hb : b < 0
    · have e : 0 - cmpZ a.natAbs b.natAbs = cmpZ a b := by unfold cmpZ; repeat' split <;> omega
      simp only [gI, decide_eq_true ha, decide_eq_true hb] at oa ob ⊢
      (refine q_H Tryz.func52 (fun F => ?_); simp only [q_z,q_y,Tryz.ntmps52,Tryz.results52])
      repeat' (first|(with_reducible first|apply q_a|apply q_b|apply q_c|apply q_d|apply q_e|apply q_f|apply q_g|apply q_h|apply q_i|apply q_j|apply q_k|apply q_m|apply q_n|apply q_o|apply q_p|refine q_l ?_)|((with_reducible first|refine q_q ic_ok fun K hK=>?_|refine q_r ic_ok fun K hK=>?_);simp (maxSteps:=2000000) only [go_sem,↓reduceIte,reduceCtorEq,Nat.reduceLeDiff,Nat.reduceLT,Nat.reduceBEq,Nat.reduceAdd,oa, ob, ka, kb, hz, e];(repeat1' with_reducible first|apply And.intro|(intro _;try exact q_v)|(refine hK _ ?_;clear hK K))<;>(try (clear hK K;exact q_u)))|(with_reducible refine q_s ?_;(first|apply q_J|apply q_K|apply q_L|apply q_M|apply q_N|apply q_O)<;>try (intro _;try exact q_v))|with_reducible refine q_t ?_)
      exact q_A rfl
    · have e : cmpZ a b = -1 := by unfold cmpZ; rw [if_pos (by omega)]
      simp only [gI, decide_eq_true ha, decide_eq_false hb] at oa ob ⊢
      rw [e]
      (refine q_H Tryz.func52 (fun F => ?_); simp only [q_z,q_y,Tryz.ntmps52,Tryz.results52])
      repeat' (first|(with_reducible first|apply q_a|apply q_b|apply q_c|apply q_d|apply q_e|apply q_f|apply q_g|apply q_h|apply q_i|apply q_j|apply q_k|apply q_m|apply q_n|apply q_o|apply q_p|refine q_l ?_)|((with_reducible first|refine q_q ic_ok fun K hK=>?_|refine q_r ic_ok fun K hK=>?_);simp (maxSteps:=2000000) only [go_sem,↓reduceIte,reduceCtorEq,Nat.reduceLeDiff,Nat.reduceLT,Nat.reduceBEq,Nat.reduceAdd,oa, ob, ka, kb, hz];(repeat1' with_reducible first|apply And.intro|(intro _;try exact q_v)|(refine hK _ ?_;clear hK K))<;>(try (clear hK K;exact q_u)))|(with_reducible refine q_s ?_;(first|apply q_J|apply q_K|apply q_L|apply q_M|apply q_N|apply q_O)<;>try (intro _;try exact q_v))|with_reducible refine q_t ?_)
      exact q_A rfl
  · by_cases hb : b < 0
    · have e : cmpZ a b = 1 := by unfold cmpZ; rw [if_neg (by omega), if_neg (by omega)]
      simp only [gI, decide_eq_false ha, decide_eq_true hb] at oa ob ⊢
      rw [e]
      (refine q_H Tryz.func52 (fun F => ?_); simp only [q_z,q_y,Tryz.ntmps52,Tryz.results52])
      repeat' (first|(with_reducible first|apply q_a|apply q_b|apply q_c|apply q_d|apply q_e|apply q_f|apply q_g|apply q_h|apply q_i|apply q_j|apply q_k|apply q_m|apply q_n|apply q_o|apply q_p|refine q_l ?_)|((with_reducible first|refine q_q ic_ok fun K hK=>?_|refine q_r ic_ok fun K hK=>?_);simp (maxSteps:=2000000) only [go_sem,↓reduceIte,reduceCtorEq,Nat.reduceLeDiff,Nat.reduceLT,Nat.reduceBEq,Nat.reduceAdd,oa, ob, ka, kb, hz];(repeat1' with_reducible first|apply And.intro|(intro _;try exact q_v)|(refine hK _ ?_;clear hK K))<;>(try (clear hK K;exact q_u)))|(with_reducible refine q_s ?_;(first|apply q_J|apply q_K|apply q_L|apply q_M|apply q_N|apply q_O)<;>try (intro _;try exact q_v))|with_reducible refine q_t ?_)
      exact q_A rfl
    · have e : cmpZ a.natAbs b.natAbs = cmpZ a b := by unfold cmpZ; repeat' split <;> omega
      simp only [gI, decide_eq_false ha, decide_eq_false hb] at oa ob ⊢
      (refine q_H Tryz.func52 (fun F => ?_); simp only [q_z,q_y,Tryz.ntmps52,Tryz.results52])
      repeat' (first|(with_reducible first|apply q_a|apply q_b|apply q_c|apply q_d|apply q_e|apply q_f|apply q_g|apply q_h|apply q_i|apply q_j|apply q_k|apply q_m|apply q_n|apply q_o|apply q_p|refine q_l ?_)|((with_reducible first|refine q_q ic_ok fun K hK=>?_|refine q_r ic_ok fun K hK=>?_);simp (maxSteps:=2000000) only [go_sem,↓reduceIte,reduceCtorEq,Nat.reduceLeDiff,Nat.reduceLT,Nat.reduceBEq,Nat.reduceAdd,oa, ob, ka, kb, hz, e];(repeat1' with_reducible first|apply And.intro|(intro _;try exact q_v)|(refine hK _ ?_;clear hK K))<;>(try (clear hK K;exact q_u)))|(with_reducible refine q_s ?_;(first|apply q_J|apply q_K|apply q_L|apply q_M|apply q_N|apply q_O)<;>try (intro _;try exact q_v))|with_reducible refine q_t ?_)
      exact q_A rfl

end Go.Proofs.YtlflfhcfljiciaaGreat

namespace Go.Proofs.YtlflfhcfljiciaaGreat
set_option linter.unusedSimpArgs false
set_option linter.unusedVariables false
open Go.Abs Go.Proofs.NatL

def dvZ2CT : CT := mkCT [.inl (some (.ints .u32 [])), .inl (some (.ints .u32 []))] false fun l K => match l with
  | [.inl (.ints .u32 xs), .inl (.ints .u32 ys)] => (okN xs = true ∧ InB 4294967296 xs ∧ ys = []) ∧ K (.t [.inl (.ints .u32 []), .inl (.ints .u32 []), .inr [.i .i64 22, .i .i64 (-2)]])
  | _ => False
attribute [go_sem] dvZ2CT
def ibz : Cfg := listT [(42, icheckCT), (73, dvZ2CT)] [28]
attribute [go_sem] ibz
set_option maxHeartbeats 3200000 in
theorem iDivMod_ok (a b : Int) (hb : b ≠ 0) (la : (dg 4294967296 a.natAbs).length ≤ 128) (lb : (dg 4294967296 b.natAbs).length ≤ 128) :
    Ret Tryz.prog 78 false [.inr (gI a), .inr (gI b)] (.t [.inr (gI (a.fdiv b)), .inr (gI (a.fmod b)), .inr [.i .i64 0, .i .i64 0]]) := by
  have oa := (okZ_g a).trans (decide_eq_true la)
  have ob := (okZ_g b).trans (decide_eq_true lb)
  have ka := okN_128 la
  have kb := okN_128 lb
  have b0 : 0 < b.natAbs := by omega
  have hr0 := Nat.mod_lt a.natAbs b0
  have lq := Nat.le_trans (dg_len_mono (B := 4294967296) (by omega) (Nat.div_le_self a.natAbs b.natAbs)) la
  have lr := Nat.le_trans (dg_len_mono (B := 4294967296) (by omega) (Nat.le_of_lt hr0)) lb
  have pr := dg_len_pos 4294967296 (a.natAbs % b.natAbs) (by omega)
  by_cases hs : decide (a < 0) = decide (b < 0) ∨ a.natAbs % b.natAbs = 0
  · obtain ⟨z1, z2⟩ := floor_same hb hs
    have a1 : (a.fdiv b).natAbs = a.natAbs / b.natAbs := by rw [← z1, sg_abs]
    have a2 : (a.fmod b).natAbs = a.natAbs % b.natAbs := by rw [← z2, sg_abs]
    obtain ⟨e1, e2, e3⟩ := cl_fit (k := 128) (z := a.fdiv b) (by rw [a1]; exact lq)
    obtain ⟨g1, g2, g3⟩ := cl_fit (k := 128) (z := a.fmod b) (by rw [a2]; exact lr)
    by_cases hne : decide (a < 0) = decide (b < 0)
    · have hq : (decide (a < 0) != decide (b < 0)) = false := by rw [hne]; exact bne_self_eq_false _
      rw [hq] at z1
      (refine q_H Tryz.func78 (fun F => ?_); simp only [q_z,q_y,Tryz.ntmps78,Tryz.results78])
      repeat' (first|(with_reducible first|apply q_a|apply q_b|apply q_c|apply q_d|apply q_e|apply q_f|apply q_g|apply q_h|apply q_i|apply q_j|apply q_k|apply q_m|apply q_n|apply q_o|apply q_p|refine q_l ?_)|((with_reducible first|refine q_q ib_ok fun K hK=>?_|refine q_r ib_ok fun K hK=>?_);simp (maxSteps:=2000000) only [go_sem,↓reduceIte,reduceCtorEq,Nat.reduceLeDiff,Nat.reduceLT,Nat.reduceBEq,Nat.reduceAdd,oa, ob, ka, kb, hq, sv32d, z1, z2, e1, e2, e3, g1, g2, g3];(repeat1' with_reducible first|apply And.intro|(intro _;try exact q_v)|(refine hK _ ?_;clear hK K))<;>(try (clear hK K;exact q_u)))|(with_reducible refine q_s ?_;(first|apply q_J|apply q_K|apply q_L|apply q_M|apply q_N|apply q_O)<;>try (intro _;try exact q_v))|with_reducible refine q_t ?_)
      exact q_A rfl
    · have hq : (decide (a < 0) != decide (b < 0)) = true := by simpa [bne] using hne
      have hr : a.natAbs % b.natAbs = 0 := by rcases hs with h | h; exact absurd h hne; exact h
      have hr' : ¬ 0 < (dg 4294967296 (a.natAbs % b.natAbs)).length := fun h => by have := pr.1 h; omega
      rw [hq] at z1
      (refine q_H Tryz.func78 (fun F => ?_); simp only [q_z,q_y,Tryz.ntmps78,Tryz.results78])
      repeat' (first|(with_reducible first|apply q_a|apply q_b|apply q_c|apply q_d|apply q_e|apply q_f|apply q_g|apply q_h|apply q_i|apply q_j|apply q_k|apply q_m|apply q_n|apply q_o|apply q_p|refine q_l ?_)|((with_reducible first|refine q_q ib_ok fun K hK=>?_|refine q_r ib_ok fun K hK=>?_);simp (maxSteps:=2000000) only [go_sem,↓reduceIte,reduceCtorEq,Nat.reduceLeDiff,Nat.reduceLT,Nat.reduceBEq,Nat.reduceAdd,oa, ob, ka, kb, hq, sv32d, z1, z2, e1, e2, e3, g1, g2, g3];(repeat1' with_reducible first|apply And.intro|(intro _;try exact q_v)|(refine hK _ ?_;clear hK K))<;>(try (clear hK K;exact q_u)))|(with_reducible refine q_s ?_;(first|apply q_J|apply q_K|apply q_L|apply q_M|apply q_N|apply q_O)<;>try (intro _;try exact q_v))|with_reducible refine q_t ?_)
      exact q_A rfl
  · have hne : decide (a < 0) ≠ decide (b < 0) := fun h => hs (.inl h)
    have hr : a.natAbs % b.natAbs ≠ 0 := fun h => hs (.inr h)
    obtain ⟨z1, z2, z3⟩ := floor_diff hb hne hr
    have hr' : 0 < (dg 4294967296 (a.natAbs % b.natAbs)).length := pr.2 (by omega)
    have hq : (decide (a < 0) != decide (b < 0)) = true := by simpa [bne] using hne
    have a1 : (a.fdiv b).natAbs = a.natAbs / b.natAbs + 1 := by rw [← z1, sg_abs]
    have a2 : (a.fmod b).natAbs = b.natAbs - a.natAbs % b.natAbs := by rw [← z2, sg_abs]
    have lq1 := Nat.le_trans (dg_len_mono (B := 4294967296) (by omega) z3) la
    have lr1 := sub_len (B := 4294967296) (by omega) (a := b.natAbs) (b := a.natAbs % b.natAbs) lb
    obtain ⟨e1, e2, e3⟩ := cl_fit (k := 128) (z := a.fdiv b) (by rw [a1]; exact lq1)
    obtain ⟨g1, g2, g3⟩ := cl_fit (k := 128) (z := a.fmod b) (by rw [a2]; exact lr1)
    have kq := okN_128 lq
    have kr := okN_128 lr
    have k1 := okN_one (b := 1) (by omega) (by omega)
    have i1 : InB 4294967296 [1] := InB_one (by omega) (by omega)
    have ad : addN (dg 4294967296 (a.natAbs / b.natAbs)) [1] = dg 4294967296 (a.natAbs / b.natAbs + 1) := by unfold addN; rw [V32, V_one]; rfl
    obtain ⟨f1, f2, f3⟩ := fit_small (Nat.le_trans lq1 (by omega))
    obtain ⟨s1, s2, s3⟩ := subO_le (Nat.le_of_lt hr0)
    (refine q_H Tryz.func78 (fun F => ?_); simp only [q_z,q_y,Tryz.ntmps78,Tryz.results78])
    repeat' (first|(with_reducible first|apply q_a|apply q_b|apply q_c|apply q_d|apply q_e|apply q_f|apply q_g|apply q_h|apply q_i|apply q_j|apply q_k|apply q_m|apply q_n|apply q_o|apply q_p|refine q_l ?_)|((with_reducible first|refine q_q ib_ok fun K hK=>?_|refine q_r ib_ok fun K hK=>?_);simp (maxSteps:=2000000) only [go_sem,↓reduceIte,reduceCtorEq,Nat.reduceLeDiff,Nat.reduceLT,Nat.reduceBEq,Nat.reduceAdd,oa, ob, ka, kb, kq, kr, k1, hq, ad, f1, f2, f3, s1, s2, s3, sv32d, z1, z2, e1, e2, e3, g1, g2, g3];(repeat1' with_reducible first|apply And.intro|(intro _;try exact q_v)|(refine hK _ ?_;clear hK K))<;>(try (clear hK K;exact q_u)))|(with_reducible refine q_s ?_;(first|apply q_J|apply q_K|apply q_L|apply q_M|apply q_N|apply q_O)<;>try (intro _;try exact q_v))|with_reducible refine q_t ?_)
    all_goals first | assumption | exact q_A rfl

end Go.Proofs.YtlflfhcfljiciaaGreat
