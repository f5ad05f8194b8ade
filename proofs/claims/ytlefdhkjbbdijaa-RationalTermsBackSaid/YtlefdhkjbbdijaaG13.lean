import Derived.Test.YtlefdhkjbbdijaaG12
namespace Go.Proofs.Ytlefdhkjbbdijaa
set_option linter.unusedSimpArgs false
set_option linter.unusedVariables false
open Go.Abs Go.Proofs.NatL

theorem subO_le {m n : Nat} (h : n ≤ m) : subO (dg 4294967296 m) (dg 4294967296 n) = dg 4294967296 (m - n) ∧ subC (dg 4294967296 m) (dg 4294967296 n) = 0 ∧ subI (dg 4294967296 m) (dg 4294967296 n) = 0 := by
  have h1 : ¬ m < n := by omega
  simp only [subO, subC, subI, subN, V32, h1, if_false, and_self]
theorem addNd' (m n : Nat) : addN (dg 4294967296 m) (dg 4294967296 n) = dg 4294967296 (m + n) := by unfold addN; rw [V32, V32]
theorem mulNd' (m n : Nat) : mulN (dg 4294967296 m) (dg 4294967296 n) = dg 4294967296 (m * n) := by unfold mulN; rw [V32, V32]
theorem cmp3_nlt {m n : Nat} (h : n ≤ m) : ¬ cmp3 m n < 0 := fun h2 => by have := (cmp3_lt m n).1 h2; omega

set_option maxHeartbeats 1600000 in
theorem iplus_truetrue (m n : Nat) (lm : (dg 4294967296 m).length ≤ 128) (ln : (dg 4294967296 n).length ≤ 128) :
    Ret Try.prog 110 false [.inr [.b true, .ints .u32 (dg 4294967296 m)], .inr [.b true, .ints .u32 (dg 4294967296 n)]] (.t [.inr (gI (cl 128 (sg true m + sg true n))), .inr [.i .i64 (clC 128 (sg true m + sg true n)), .i .i64 (clI 128 (sg true m + sg true n))]]) := by
  have om := okN_128 lm
  have on' := okN_128 ln
  have al := add_len (B := 4294967296) (by omega) lm ln
  have ad := addNd' m n
  obtain ⟨f1, f2, f3⟩ := fit_small (n := m + n) (by omega)
  have hz : sg true m + sg true n = sg true (m + n) := by simp only [sg, Bool.false_eq_true, if_false, if_true]; omega
  rw [hz]
  (refine q_H Try.func110 (fun F => ?_); simp only [q_z,q_y,Try.ntmps110,Try.results110])
  repeat' (first|(with_reducible first|apply q_a|apply q_b|apply q_c|apply q_d|apply q_e|apply q_f|apply q_g|apply q_h|apply q_i|apply q_j|apply q_k|apply q_m|apply q_n|apply q_o|apply q_p|refine q_l ?_)|((with_reducible first|refine q_q ib_ok fun K hK=>?_|refine q_r ib_ok fun K hK=>?_);simp (maxSteps:=2000000) only [go_sem,↓reduceIte,reduceCtorEq,Nat.reduceLeDiff,Nat.reduceLT,Nat.reduceBEq,Nat.reduceAdd,om, on', ad, f1, f2, f3, sv32d];(repeat1' with_reducible first|apply And.intro|(intro _;try exact q_v)|(refine hK _ ?_;clear hK K))<;>(try (clear hK K;exact q_u)))|(with_reducible refine q_s ?_;(first|apply q_J|apply q_K|apply q_L|apply q_M|apply q_N|apply q_O)<;>try (intro _;try exact q_v))|with_reducible refine q_t ?_)
  exact q_A rfl
set_option maxHeartbeats 1600000 in
theorem iplus_falsefalse (m n : Nat) (lm : (dg 4294967296 m).length ≤ 128) (ln : (dg 4294967296 n).length ≤ 128) :
    Ret Try.prog 110 false [.inr [.b false, .ints .u32 (dg 4294967296 m)], .inr [.b false, .ints .u32 (dg 4294967296 n)]] (.t [.inr (gI (cl 128 (sg false m + sg false n))), .inr [.i .i64 (clC 128 (sg false m + sg false n)), .i .i64 (clI 128 (sg false m + sg false n))]]) := by
  have om := okN_128 lm
  have on' := okN_128 ln
  have al := add_len (B := 4294967296) (by omega) lm ln
  have ad := addNd' m n
  obtain ⟨f1, f2, f3⟩ := fit_small (n := m + n) (by omega)
  have hz : sg false m + sg false n = sg false (m + n) := by simp only [sg, Bool.false_eq_true, if_false, if_true]; omega
  rw [hz]
  (refine q_H Try.func110 (fun F => ?_); simp only [q_z,q_y,Try.ntmps110,Try.results110])
  repeat' (first|(with_reducible first|apply q_a|apply q_b|apply q_c|apply q_d|apply q_e|apply q_f|apply q_g|apply q_h|apply q_i|apply q_j|apply q_k|apply q_m|apply q_n|apply q_o|apply q_p|refine q_l ?_)|((with_reducible first|refine q_q ib_ok fun K hK=>?_|refine q_r ib_ok fun K hK=>?_);simp (maxSteps:=2000000) only [go_sem,↓reduceIte,reduceCtorEq,Nat.reduceLeDiff,Nat.reduceLT,Nat.reduceBEq,Nat.reduceAdd,om, on', ad, f1, f2, f3, sv32d];(repeat1' with_reducible first|apply And.intro|(intro _;try exact q_v)|(refine hK _ ?_;clear hK K))<;>(try (clear hK K;exact q_u)))|(with_reducible refine q_s ?_;(first|apply q_J|apply q_K|apply q_L|apply q_M|apply q_N|apply q_O)<;>try (intro _;try exact q_v))|with_reducible refine q_t ?_)
  exact q_A rfl
set_option maxHeartbeats 1600000 in
theorem iplus_truefalse (m n : Nat) (lm : (dg 4294967296 m).length ≤ 128) (ln : (dg 4294967296 n).length ≤ 128) :
    Ret Try.prog 110 false [.inr [.b true, .ints .u32 (dg 4294967296 m)], .inr [.b false, .ints .u32 (dg 4294967296 n)]] (.t [.inr (gI (cl 128 (sg true m + sg false n))), .inr [.i .i64 (clC 128 (sg true m + sg false n)), .i .i64 (clI 128 (sg true m + sg false n))]]) := by
  have om := okN_128 lm
  have on' := okN_128 ln
  rcases Nat.lt_or_ge m n with h | h
  · have hc := (cmp3_lt m n).2 h
    obtain ⟨s1, s2, s3⟩ := subO_le (m := n) (n := m) (by omega)
    have sl := sub_len (B := 4294967296) (by omega) (a := n) (b := m) ln
    have hz : sg true m + sg false n = sg false (n - m) := by simp only [sg, Bool.false_eq_true, if_false, if_true]; omega
    rw [hz]
    (refine q_H Try.func110 (fun F => ?_); simp only [q_z,q_y,Try.ntmps110,Try.results110])
    repeat' (first|(with_reducible first|apply q_a|apply q_b|apply q_c|apply q_d|apply q_e|apply q_f|apply q_g|apply q_h|apply q_i|apply q_j|apply q_k|apply q_m|apply q_n|apply q_o|apply q_p|refine q_l ?_)|((with_reducible first|refine q_q ib_ok fun K hK=>?_|refine q_r ib_ok fun K hK=>?_);simp (maxSteps:=2000000) only [go_sem,↓reduceIte,reduceCtorEq,Nat.reduceLeDiff,Nat.reduceLT,Nat.reduceBEq,Nat.reduceAdd,om, on', s1, s2, s3, sv32d];(repeat1' with_reducible first|apply And.intro|(intro _;try exact q_v)|(refine hK _ ?_;clear hK K))<;>(try (clear hK K;exact q_u)))|(with_reducible refine q_s ?_;(first|apply q_J|apply q_K|apply q_L|apply q_M|apply q_N|apply q_O)<;>try (intro _;try exact q_v))|with_reducible refine q_t ?_)
    exact q_A rfl
  · have hc := cmp3_nlt h
    obtain ⟨s1, s2, s3⟩ := subO_le (m := m) (n := n) (by omega)
    have sl := sub_len (B := 4294967296) (by omega) (a := m) (b := n) lm
    have hz : sg true m + sg false n = sg true (m - n) := by simp only [sg, Bool.false_eq_true, if_false, if_true]; omega
    rw [hz]
    (refine q_H Try.func110 (fun F => ?_); simp only [q_z,q_y,Try.ntmps110,Try.results110])
    repeat' (first|(with_reducible first|apply q_a|apply q_b|apply q_c|apply q_d|apply q_e|apply q_f|apply q_g|apply q_h|apply q_i|apply q_j|apply q_k|apply q_m|apply q_n|apply q_o|apply q_p|refine q_l ?_)|((with_reducible first|refine q_q ib_ok fun K hK=>?_|refine q_r ib_ok fun K hK=>?_);simp (maxSteps:=2000000) only [go_sem,↓reduceIte,reduceCtorEq,Nat.reduceLeDiff,Nat.reduceLT,Nat.reduceBEq,Nat.reduceAdd,om, on', s1, s2, s3, sv32d];(repeat1' with_reducible first|apply And.intro|(intro _;try exact q_v)|(refine hK _ ?_;clear hK K))<;>(try (clear hK K;exact q_u)))|(with_reducible refine q_s ?_;(first|apply q_J|apply q_K|apply q_L|apply q_M|apply q_N|apply q_O)<;>try (intro _;try exact q_v))|with_reducible refine q_t ?_)
    exact q_A rfl
set_option maxHeartbeats 1600000 in
theorem iplus_falsetrue (m n : Nat) (lm : (dg 4294967296 m).length ≤ 128) (ln : (dg 4294967296 n).length ≤ 128) :
    Ret Try.prog 110 false [.inr [.b false, .ints .u32 (dg 4294967296 m)], .inr [.b true, .ints .u32 (dg 4294967296 n)]] (.t [.inr (gI (cl 128 (sg false m + sg true n))), .inr [.i .i64 (clC 128 (sg false m + sg true n)), .i .i64 (clI 128 (sg false m + sg true n))]]) := by
  have om := okN_128 lm
  have on' := okN_128 ln
  rcases Nat.lt_or_ge m n with h | h
  · have hc := (cmp3_lt m n).2 h
    obtain ⟨s1, s2, s3⟩ := subO_le (m := n) (n := m) (by omega)
    have sl := sub_len (B := 4294967296) (by omega) (a := n) (b := m) ln
    have hz : sg false m + sg true n = sg true (n - m) := by simp only [sg, Bool.false_eq_true, if_false, if_true]; omega
    rw [hz]
    (refine q_H Try.func110 (fun F => ?_); simp only [q_z,q_y,Try.ntmps110,Try.results110])
    repeat' (first|(with_reducible first|apply q_a|apply q_b|apply q_c|apply q_d|apply q_e|apply q_f|apply q_g|apply q_h|apply q_i|apply q_j|apply q_k|apply q_m|apply q_n|apply q_o|apply q_p|refine q_l ?_)|((with_reducible first|refine q_q ib_ok fun K hK=>?_|refine q_r ib_ok fun K hK=>?_);simp (maxSteps:=2000000) only [go_sem,↓reduceIte,reduceCtorEq,Nat.reduceLeDiff,Nat.reduceLT,Nat.reduceBEq,Nat.reduceAdd,om, on', s1, s2, s3, sv32d];(repeat1' with_reducible first|apply And.intro|(intro _;try exact q_v)|(refine hK _ ?_;clear hK K))<;>(try (clear hK K;exact q_u)))|(with_reducible refine q_s ?_;(first|apply q_J|apply q_K|apply q_L|apply q_M|apply q_N|apply q_O)<;>try (intro _;try exact q_v))|with_reducible refine q_t ?_)
    exact q_A rfl
  · have hc := cmp3_nlt h
    obtain ⟨s1, s2, s3⟩ := subO_le (m := m) (n := n) (by omega)
    have sl := sub_len (B := 4294967296) (by omega) (a := m) (b := n) lm
    have hz : sg false m + sg true n = sg false (m - n) := by simp only [sg, Bool.false_eq_true, if_false, if_true]; omega
    rw [hz]
    (refine q_H Try.func110 (fun F => ?_); simp only [q_z,q_y,Try.ntmps110,Try.results110])
    repeat' (first|(with_reducible first|apply q_a|apply q_b|apply q_c|apply q_d|apply q_e|apply q_f|apply q_g|apply q_h|apply q_i|apply q_j|apply q_k|apply q_m|apply q_n|apply q_o|apply q_p|refine q_l ?_)|((with_reducible first|refine q_q ib_ok fun K hK=>?_|refine q_r ib_ok fun K hK=>?_);simp (maxSteps:=2000000) only [go_sem,↓reduceIte,reduceCtorEq,Nat.reduceLeDiff,Nat.reduceLT,Nat.reduceBEq,Nat.reduceAdd,om, on', s1, s2, s3, sv32d];(repeat1' with_reducible first|apply And.intro|(intro _;try exact q_v)|(refine hK _ ?_;clear hK K))<;>(try (clear hK K;exact q_u)))|(with_reducible refine q_s ?_;(first|apply q_J|apply q_K|apply q_L|apply q_M|apply q_N|apply q_O)<;>try (intro _;try exact q_v))|with_reducible refine q_t ?_)
    exact q_A rfl
theorem iplus_ret (s t : Bool) (m n : Nat) (lm : (dg 4294967296 m).length ≤ 128) (ln : (dg 4294967296 n).length ≤ 128) :
    Ret Try.prog 110 false [.inr [.b s, .ints .u32 (dg 4294967296 m)], .inr [.b t, .ints .u32 (dg 4294967296 n)]] (.t [.inr (gI (cl 128 (sg s m + sg t n))), .inr [.i .i64 (clC 128 (sg s m + sg t n)), .i .i64 (clI 128 (sg s m + sg t n))]]) := by
  cases s <;> cases t
  · exact iplus_falsefalse m n lm ln
  · exact iplus_falsetrue m n lm ln
  · exact iplus_truefalse m n lm ln
  · exact iplus_truetrue m n lm ln
def iplusCT : CT := mkCT [nP, nP] false fun l K => match l with
  | [.inr [.b s, .ints .u32 xs], .inr [.b t, .ints .u32 ys]] => (InB 4294967296 xs ∧ Trd xs ∧ xs.length ≤ 128 ∧ InB 4294967296 ys ∧ Trd ys ∧ ys.length ≤ 128) ∧
      K (.t [.inr (gI (cl 128 (sv 4294967296 s xs + sv 4294967296 t ys))), .inr [.i .i64 (clC 128 (sv 4294967296 s xs + sv 4294967296 t ys)), .i .i64 (clI 128 (sv 4294967296 s xs + sv 4294967296 t ys))]])
  | _ => False
def it6 : Cfg := addT 110 iplusCT it5
theorem it6_ok : TblOk Try.prog it6 := q_I it5_ok Try.func110 fun l K h => by
  split at h
  · rename_i s xs t ys
    obtain ⟨⟨h1, h2, h3, h4, h5, h6⟩, h⟩ := h
    have ex := dg_V 4294967296 (by omega) xs h1 h2
    have ey := dg_V 4294967296 (by omega) ys h4 h5
    have := iplus_ret s t (V 4294967296 xs) (V 4294967296 ys) (by rw [ex]; exact h3) (by rw [ey]; exact h6)
    rw [← sv32d, ← sv32d, ex, ey] at this
    exact ⟨_, this, h⟩
  · exact h.elim
attribute [go_sem] iplusCT
def ic : Cfg := listT [(114, atCT), (87, icheckCT), (105, isignedCT), (110, iplusCT), (82, (goodCT (fun xs ys => fitN (mulN xs ys)) (fun xs ys => fitC (mulN xs ys)) (fun xs ys => fitI (mulN xs ys)))), (74, CmpCT)] [30]
theorem ic_ok : TblOk Try.prog ic := listT_ok (big := it6) it6_ok ⟨rfl, rfl, rfl, rfl, rfl, rfl, trivial⟩
attribute [go_sem] ic
set_option maxHeartbeats 1600000 in
theorem iAdd_ok (a b : Int) (la : (dg 4294967296 a.natAbs).length ≤ 128) (lb : (dg 4294967296 b.natAbs).length ≤ 128) :
    Ret Try.prog 75 false [.inr (gI a), .inr (gI b)] (.t [.inr (gI (cl 128 (a + b))), .inr [.i .i64 (clC 128 (a + b)), .i .i64 (clI 128 (a + b))]]) := by
  have oa := (okZ_g a).trans (decide_eq_true la)
  have ob := (okZ_g b).trans (decide_eq_true lb)
  have hn := sg_not (decide (b < 0)) b.natAbs
  rw [sg_self] at hn
  have hs : a + -b = a - b := by omega
  (refine q_H Try.func75 (fun F => ?_); simp only [q_z,q_y,Try.ntmps75,Try.results75])
  repeat' (first|(with_reducible first|apply q_a|apply q_b|apply q_c|apply q_d|apply q_e|apply q_f|apply q_g|apply q_h|apply q_i|apply q_j|apply q_k|apply q_m|apply q_n|apply q_o|apply q_p|refine q_l ?_)|((with_reducible first|refine q_q ic_ok fun K hK=>?_|refine q_r ic_ok fun K hK=>?_);simp (maxSteps:=2000000) only [go_sem,↓reduceIte,reduceCtorEq,Nat.reduceLeDiff,Nat.reduceLT,Nat.reduceBEq,Nat.reduceAdd,oa, ob, sv32, sv32d, hn, sg_self, hs];(repeat1' with_reducible first|apply And.intro|(intro _;try exact q_v)|(refine hK _ ?_;clear hK K))<;>(try (clear hK K;exact q_u)))|(with_reducible refine q_s ?_;(first|apply q_J|apply q_K|apply q_L|apply q_M|apply q_N|apply q_O)<;>try (intro _;try exact q_v))|with_reducible refine q_t ?_)
  exact q_A rfl
set_option maxHeartbeats 1600000 in
theorem iSub_ok (a b : Int) (la : (dg 4294967296 a.natAbs).length ≤ 128) (lb : (dg 4294967296 b.natAbs).length ≤ 128) :
    Ret Try.prog 101 false [.inr (gI a), .inr (gI b)] (.t [.inr (gI (cl 128 (a - b))), .inr [.i .i64 (clC 128 (a - b)), .i .i64 (clI 128 (a - b))]]) := by
  have oa := (okZ_g a).trans (decide_eq_true la)
  have ob := (okZ_g b).trans (decide_eq_true lb)
  have hn := sg_not (decide (b < 0)) b.natAbs
  rw [sg_self] at hn
  have hs : a + -b = a - b := by omega
  (refine q_H Try.func101 (fun F => ?_); simp only [q_z,q_y,Try.ntmps101,Try.results101])
  repeat' (first|(with_reducible first|apply q_a|apply q_b|apply q_c|apply q_d|apply q_e|apply q_f|apply q_g|apply q_h|apply q_i|apply q_j|apply q_k|apply q_m|apply q_n|apply q_o|apply q_p|refine q_l ?_)|((with_reducible first|refine q_q ic_ok fun K hK=>?_|refine q_r ic_ok fun K hK=>?_);simp (maxSteps:=2000000) only [go_sem,↓reduceIte,reduceCtorEq,Nat.reduceLeDiff,Nat.reduceLT,Nat.reduceBEq,Nat.reduceAdd,oa, ob, sv32, sv32d, hn, sg_self, hs];(repeat1' with_reducible first|apply And.intro|(intro _;try exact q_v)|(refine hK _ ?_;clear hK K))<;>(try (clear hK K;exact q_u)))|(with_reducible refine q_s ?_;(first|apply q_J|apply q_K|apply q_L|apply q_M|apply q_N|apply q_O)<;>try (intro _;try exact q_v))|with_reducible refine q_t ?_)
  exact q_A rfl
set_option maxHeartbeats 1600000 in
theorem iMul_ok (a b : Int) (la : (dg 4294967296 a.natAbs).length ≤ 128) (lb : (dg 4294967296 b.natAbs).length ≤ 128) :
    Ret Try.prog 100 false [.inr (gI a), .inr (gI b)] (.t [.inr (gI (cl 128 (a * b))), .inr [.i .i64 (clC 128 (a * b)), .i .i64 (clI 128 (a * b))]]) := by
  have oa := (okZ_g a).trans (decide_eq_true la)
  have ob := (okZ_g b).trans (decide_eq_true lb)
  have ka := okN_128 la
  have kb := okN_128 lb
  have ml := mul_len (B := 4294967296) (by omega) la lb
  have mu := mulNd' a.natAbs b.natAbs
  obtain ⟨f1, f2, f3⟩ := fit_small (n := a.natAbs * b.natAbs) (by omega)
  have hm := sg_mul (decide (a < 0)) (decide (b < 0)) a.natAbs b.natAbs
  rw [sg_self, sg_self] at hm
  (refine q_H Try.func100 (fun F => ?_); simp only [q_z,q_y,Try.ntmps100,Try.results100])
  repeat' (first|(with_reducible first|apply q_a|apply q_b|apply q_c|apply q_d|apply q_e|apply q_f|apply q_g|apply q_h|apply q_i|apply q_j|apply q_k|apply q_m|apply q_n|apply q_o|apply q_p|refine q_l ?_)|((with_reducible first|refine q_q ic_ok fun K hK=>?_|refine q_r ic_ok fun K hK=>?_);simp (maxSteps:=2000000) only [go_sem,↓reduceIte,reduceCtorEq,Nat.reduceLeDiff,Nat.reduceLT,Nat.reduceBEq,Nat.reduceAdd,oa, ob, ka, kb, mu, f1, f2, f3, sv32d, hm];(repeat1' with_reducible first|apply And.intro|(intro _;try exact q_v)|(refine hK _ ?_;clear hK K))<;>(try (clear hK K;exact q_u)))|(with_reducible refine q_s ?_;(first|apply q_J|apply q_K|apply q_L|apply q_M|apply q_N|apply q_O)<;>try (intro _;try exact q_v))|with_reducible refine q_t ?_)
  exact q_A rfl

set_option maxHeartbeats 1600000 in
theorem iCmp_ok (a b : Int) (la : (dg 4294967296 a.natAbs).length ≤ 128) (lb : (dg 4294967296 b.natAbs).length ≤ 128) :
    Ret Try.prog 44 false [.inr (gI a), .inr (gI b)] (.t [.inl (.i .i64 (cmpZ a b)), .inr [.i .i64 0, .i .i64 0]]) := by
  have oa := (okZ_g a).trans (decide_eq_true la)
  have ob := (okZ_g b).trans (decide_eq_true lb)
  have ka := okN_128 la
  have kb := okN_128 lb
  have hz := cmp3_Z a.natAbs b.natAbs
  have hb : -1 ≤ cmpZ a.natAbs b.natAbs ∧ cmpZ a.natAbs b.natAbs ≤ 1 := by unfold cmpZ; repeat' split <;> omega
  by_cases ha : a < 0
  · by_cases hb : b < 0
    · have e : 0 - cmpZ a.natAbs b.natAbs = cmpZ a b := by unfold cmpZ; repeat' split <;> omega
      simp only [gI, decide_eq_true ha, decide_eq_true hb] at oa ob ⊢
      (refine q_H Try.func44 (fun F => ?_); simp only [q_z,q_y,Try.ntmps44,Try.results44])
      repeat' (first|(with_reducible first|apply q_a|apply q_b|apply q_c|apply q_d|apply q_e|apply q_f|apply q_g|apply q_h|apply q_i|apply q_j|apply q_k|apply q_m|apply q_n|apply q_o|apply q_p|refine q_l ?_)|((with_reducible first|refine q_q ic_ok fun K hK=>?_|refine q_r ic_ok fun K hK=>?_);simp (maxSteps:=2000000) only [go_sem,↓reduceIte,reduceCtorEq,Nat.reduceLeDiff,Nat.reduceLT,Nat.reduceBEq,Nat.reduceAdd,oa, ob, ka, kb, hz, e];(repeat1' with_reducible first|apply And.intro|(intro _;try exact q_v)|(refine hK _ ?_;clear hK K))<;>(try (clear hK K;exact q_u)))|(with_reducible refine q_s ?_;(first|apply q_J|apply q_K|apply q_L|apply q_M|apply q_N|apply q_O)<;>try (intro _;try exact q_v))|with_reducible refine q_t ?_)
      exact q_A rfl
    · have e : cmpZ a b = -1 := by unfold cmpZ; rw [if_pos (by omega)]
      simp only [gI, decide_eq_true ha, decide_eq_false hb] at oa ob ⊢
      rw [e]
      (refine q_H Try.func44 (fun F => ?_); simp only [q_z,q_y,Try.ntmps44,Try.results44])
      repeat' (first|(with_reducible first|apply q_a|apply q_b|apply q_c|apply q_d|apply q_e|apply q_f|apply q_g|apply q_h|apply q_i|apply q_j|apply q_k|apply q_m|apply q_n|apply q_o|apply q_p|refine q_l ?_)|((with_reducible first|refine q_q ic_ok fun K hK=>?_|refine q_r ic_ok fun K hK=>?_);simp (maxSteps:=2000000) only [go_sem,↓reduceIte,reduceCtorEq,Nat.reduceLeDiff,Nat.reduceLT,Nat.reduceBEq,Nat.reduceAdd,oa, ob, ka, kb, hz];(repeat1' with_reducible first|apply And.intro|(intro _;try exact q_v)|(refine hK _ ?_;clear hK K))<;>(try (clear hK K;exact q_u)))|(with_reducible refine q_s ?_;(first|apply q_J|apply q_K|apply q_L|apply q_M|apply q_N|apply q_O)<;>try (intro _;try exact q_v))|with_reducible refine q_t ?_)
      exact q_A rfl
  · by_cases hb : b < 0
    · have e : cmpZ a b = 1 := by unfold cmpZ; rw [if_neg (by omega), if_neg (by omega)]
      simp only [gI, decide_eq_false ha, decide_eq_true hb] at oa ob ⊢
      rw [e]
      (refine q_H Try.func44 (fun F => ?_); simp only [q_z,q_y,Try.ntmps44,Try.results44])
      repeat' (first|(with_reducible first|apply q_a|apply q_b|apply q_c|apply q_d|apply q_e|apply q_f|apply q_g|apply q_h|apply q_i|apply q_j|apply q_k|apply q_m|apply q_n|apply q_o|apply q_p|refine q_l ?_)|((with_reducible first|refine q_q ic_ok fun K hK=>?_|refine q_r ic_ok fun K hK=>?_);simp (maxSteps:=2000000) only [go_sem,↓reduceIte,reduceCtorEq,Nat.reduceLeDiff,Nat.reduceLT,Nat.reduceBEq,Nat.reduceAdd,oa, ob, ka, kb, hz];(repeat1' with_reducible first|apply And.intro|(intro _;try exact q_v)|(refine hK _ ?_;clear hK K))<;>(try (clear hK K;exact q_u)))|(with_reducible refine q_s ?_;(first|apply q_J|apply q_K|apply q_L|apply q_M|apply q_N|apply q_O)<;>try (intro _;try exact q_v))|with_reducible refine q_t ?_)
      exact q_A rfl
    · have e : cmpZ a.natAbs b.natAbs = cmpZ a b := by unfold cmpZ; repeat' split <;> omega
      simp only [gI, decide_eq_false ha, decide_eq_false hb] at oa ob ⊢
      (refine q_H Try.func44 (fun F => ?_); simp only [q_z,q_y,Try.ntmps44,Try.results44])
      repeat' (first|(with_reducible first|apply q_a|apply q_b|apply q_c|apply q_d|apply q_e|apply q_f|apply q_g|apply q_h|apply q_i|apply q_j|apply q_k|apply q_m|apply q_n|apply q_o|apply q_p|refine q_l ?_)|((with_reducible first|refine q_q ic_ok fun K hK=>?_|refine q_r ic_ok fun K hK=>?_);simp (maxSteps:=2000000) only [go_sem,↓reduceIte,reduceCtorEq,Nat.reduceLeDiff,Nat.reduceLT,Nat.reduceBEq,Nat.reduceAdd,oa, ob, ka, kb, hz, e];(repeat1' with_reducible first|apply And.intro|(intro _;try exact q_v)|(refine hK _ ?_;clear hK K))<;>(try (clear hK K;exact q_u)))|(with_reducible refine q_s ?_;(first|apply q_J|apply q_K|apply q_L|apply q_M|apply q_N|apply q_O)<;>try (intro _;try exact q_v))|with_reducible refine q_t ?_)
      exact q_A rfl

end Go.Proofs.Ytlefdhkjbbdijaa

namespace Go.Proofs.Ytlefdhkjbbdijaa
set_option linter.unusedSimpArgs false
set_option linter.unusedVariables false
open Go.Abs Go.Proofs.NatL

def dvZ2CT : CT := mkCT [.inl (some (.ints .u32 [])), .inl (some (.ints .u32 []))] false fun l K => match l with
  | [.inl (.ints .u32 xs), .inl (.ints .u32 ys)] => (okN xs = true ∧ InB 4294967296 xs ∧ ys = []) ∧ K (.t [.inl (.ints .u32 []), .inl (.ints .u32 []), .inr [.i .i64 22, .i .i64 (-2)]])
  | _ => False
attribute [go_sem] dvZ2CT
def ibz : Cfg := listT [(87, icheckCT), (103, dvZ2CT)] [30]
attribute [go_sem] ibz
set_option maxHeartbeats 3200000 in
theorem iDivMod_ok (a b : Int) (hb : b ≠ 0) (la : (dg 4294967296 a.natAbs).length ≤ 128) (lb : (dg 4294967296 b.natAbs).length ≤ 128) :
    Ret Try.prog 72 false [.inr (gI a), .inr (gI b)] (.t [.inr (gI (a.fdiv b)), .inr (gI (a.fmod b)), .inr [.i .i64 0, .i .i64 0]]) := by
  have oa := (okZ_g a).trans (decide_eq_true la)
  have ob := (okZ_g b).trans (decide_eq_true lb)
  have ka := okN_128 la
  have kb := okN_128 lb
  have b0 : 0 < b.natAbs := by omega
  have hr0 := Nat.mod_lt a.natAbs b0
  have lq := Nat.le_trans (dg_len_mono (B := 4294967296) (by omega) (Nat.div_le_self a.natAbs b.natAbs)) la
  have lr := Nat.le_trans (dg_len_mono (B := 4294967296) (by omega) (Nat.le_of_lt hr0)) lb
  have pr := dg_len_pos 4294967296 (a.natAbs % b.natAbs) (by omega)
  by_cases hs : decide (a < 0) = decide (b < 0) ∨ a.natAbs % b.natAbs = 0
  · obtain ⟨z1, z2⟩ := floor_same hb hs
    have a1 : (a.fdiv b).natAbs = a.natAbs / b.natAbs := by rw [← z1, sg_abs]
    have a2 : (a.fmod b).natAbs = a.natAbs % b.natAbs := by rw [← z2, sg_abs]
    obtain ⟨e1, e2, e3⟩ := cl_fit (k := 128) (z := a.fdiv b) (by rw [a1]; exact lq)
    obtain ⟨g1, g2, g3⟩ := cl_fit (k := 128) (z := a.fmod b) (by rw [a2]; exact lr)
    by_cases hne : decide (a < 0) = decide (b < 0)
    · have hq : (decide (a < 0) != decide (b < 0)) = false := by rw [hne]; exact bne_self_eq_false _
      rw [hq] at z1
      (refine q_H Try.func72 (fun F => ?_); simp only [q_z,q_y,Try.ntmps72,Try.results72])
      repeat' (first|(with_reducible first|apply q_a|apply q_b|apply q_c|apply q_d|apply q_e|apply q_f|apply q_g|apply q_h|apply q_i|apply q_j|apply q_k|apply q_m|apply q_n|apply q_o|apply q_p|refine q_l ?_)|((with_reducible first|refine q_q ib_ok fun K hK=>?_|refine q_r ib_ok fun K hK=>?_);simp (maxSteps:=2000000) only [go_sem,↓reduceIte,reduceCtorEq,Nat.reduceLeDiff,Nat.reduceLT,Nat.reduceBEq,Nat.reduceAdd,oa, ob, ka, kb, hq, sv32d, z1, z2, e1, e2, e3, g1, g2, g3];(repeat1' with_reducible first|apply And.intro|(intro _;try exact q_v)|(refine hK _ ?_;clear hK K))<;>(try (clear hK K;exact q_u)))|(with_reducible refine q_s ?_;(first|apply q_J|apply q_K|apply q_L|apply q_M|apply q_N|apply q_O)<;>try (intro _;try exact q_v))|with_reducible refine q_t ?_)
      exact q_A rfl
    · have hq : (decide (a < 0) != decide (b < 0)) = true := by simpa [bne] using hne
      have hr : a.natAbs % b.natAbs = 0 := by rcases hs with h | h; exact absurd h hne; exact h
      have hr' : ¬ 0 < (dg 4294967296 (a.natAbs % b.natAbs)).length := fun h => by have := pr.1 h; omega
      rw [hq] at z1
      (refine q_H Try.func72 (fun F => ?_); simp only [q_z,q_y,Try.ntmps72,Try.results72])
      repeat' (first|(with_reducible first|apply q_a|apply q_b|apply q_c|apply q_d|apply q_e|apply q_f|apply q_g|apply q_h|apply q_i|apply q_j|apply q_k|apply q_m|apply q_n|apply q_o|apply q_p|refine q_l ?_)|((with_reducible first|refine q_q ib_ok fun K hK=>?_|refine q_r ib_ok fun K hK=>?_);simp (maxSteps:=2000000) only [go_sem,↓reduceIte,reduceCtorEq,Nat.reduceLeDiff,Nat.reduceLT,Nat.reduceBEq,Nat.reduceAdd,oa, ob, ka, kb, hq, sv32d, z1, z2, e1, e2, e3, g1, g2, g3];(repeat1' with_reducible first|apply And.intro|(intro _;try exact q_v)|(refine hK _ ?_;clear hK K))<;>(try (clear hK K;exact q_u)))|(with_reducible refine q_s ?_;(first|apply q_J|apply q_K|apply q_L|apply q_M|apply q_N|apply q_O)<;>try (intro _;try exact q_v))|with_reducible refine q_t ?_)
      exact q_A rfl
  · have hne : decide (a < 0) ≠ decide (b < 0) := fun h => hs (.inl h)
    have hr : a.natAbs % b.natAbs ≠ 0 := fun h => hs (.inr h)
    obtain ⟨z1, z2, z3⟩ := floor_diff hb hne hr
    have hr' : 0 < (dg 4294967296 (a.natAbs % b.natAbs)).length := pr.2 (by omega)
    have hq : (decide (a < 0) != decide (b < 0)) = true := by simpa [bne] using hne
    have a1 : (a.fdiv b).natAbs = a.natAbs / b.natAbs + 1 := by rw [← z1, sg_abs]
    have a2 : (a.fmod b).natAbs = b.natAbs - a.natAbs % b.natAbs := by rw [← z2, sg_abs]
    have lq1 := Nat.le_trans (dg_len_mono (B := 4294967296) (by omega) z3) la
    have lr1 := sub_len (B := 4294967296) (by omega) (a := b.natAbs) (b := a.natAbs % b.natAbs) lb
    obtain ⟨e1, e2, e3⟩ := cl_fit (k := 128) (z := a.fdiv b) (by rw [a1]; exact lq1)
    obtain ⟨g1, g2, g3⟩ := cl_fit (k := 128) (z := a.fmod b) (by rw [a2]; exact lr1)
    have kq := okN_128 lq
    have kr := okN_128 lr
    have k1 := okN_one (b := 1) (by omega) (by omega)
    have i1 : InB 4294967296 [1] := InB_one (by omega) (by omega)
    have ad : addN (dg 4294967296 (a.natAbs / b.natAbs)) [1] = dg 4294967296 (a.natAbs / b.natAbs + 1) := by unfold addN; rw [V32, V_one]; rfl
    obtain ⟨f1, f2, f3⟩ := fit_small (Nat.le_trans lq1 (by omega))
    obtain ⟨s1, s2, s3⟩ := subO_le (Nat.le_of_lt hr0)
    (refine q_H Try.func72 (fun F => ?_); simp only [q_z,q_y,Try.ntmps72,Try.results72])
    repeat' (first|(with_reducible first|apply q_a|apply q_b|apply q_c|apply q_d|apply q_e|apply q_f|apply q_g|apply q_h|apply q_i|apply q_j|apply q_k|apply q_m|apply q_n|apply q_o|apply q_p|refine q_l ?_)|((with_reducible first|refine q_q ib_ok fun K hK=>?_|refine q_r ib_ok fun K hK=>?_);simp (maxSteps:=2000000) only [go_sem,↓reduceIte,reduceCtorEq,Nat.reduceLeDiff,Nat.reduceLT,Nat.reduceBEq,Nat.reduceAdd,oa, ob, ka, kb, kq, kr, k1, hq, ad, f1, f2, f3, s1, s2, s3, sv32d, z1, z2, e1, e2, e3, g1, g2, g3];(repeat1' with_reducible first|apply And.intro|(intro _;try exact q_v)|(refine hK _ ?_;clear hK K))<;>(try (clear hK K;exact q_u)))|(with_reducible refine q_s ?_;(first|apply q_J|apply q_K|apply q_L|apply q_M|apply q_N|apply q_O)<;>try (intro _;try exact q_v))|with_reducible refine q_t ?_)
    all_goals first | assumption | exact q_A rfl

end Go.Proofs.Ytlefdhkjbbdijaa

namespace Go.Proofs.NatL
set_option linter.unusedSimpArgs false
set_option linter.unusedVariables false
theorem Int.lt_or_ge' (a b : Int) : a < b ∨ b ≤ a := by omega
def dl (X : Int) (D : Nat) (s : Int) (t : Nat) : Nat := (X * t - s * D).natAbs
def Best (X : Int) (D m : Nat) (s : Int) (t : Nat) : Prop := (0 < t ∧ t ≤ m ∧ Nat.gcd s.natAbs t = 1) ∧
  ∀ (s' : Int) (t' : Nat), 0 < t' → t' ≤ m → Nat.gcd s'.natAbs t' = 1 →
    dl X D s t * t' < dl X D s' t' * t ∨ (dl X D s t * t' = dl X D s' t' * t ∧ (t < t' ∨ (t = t' ∧ s ≤ s')))
theorem best_unique {X : Int} {D m : Nat} {s s' : Int} {t t' : Nat} (h : Best X D m s t) (h' : Best X D m s' t') : s = s' ∧ t = t' := by
  have a := h.2 s' t' h'.1.1 h'.1.2.1 h'.1.2.2
  have b := h'.2 s t h.1.1 h.1.2.1 h.1.2.2
  omega
theorem farey {a c s : Int} {b d t m : Nat} (hdet : c * b - a * d = 1) (hm : m < b + d) (ht : t ≤ m) : s * b ≤ a * t ∨ c * t ≤ s * d := by
  rcases Int.lt_or_ge' (a * t) (s * b) with h | h
  · rcases Int.lt_or_ge' (s * d) (c * t) with h' | h'
    · exfalso
      have e : (t : Int) = (c * t - s * d) * b + (s * b - a * t) * d := by
        have : (c * t - s * d) * b + (s * b - a * t) * d = (c * b - a * d) * t := by
          simp only [Int.sub_mul]
          have e1 : c * t * (b : Int) = c * b * t := by ac_rfl
          have e2 : s * d * (b : Int) = s * b * d := by ac_rfl
          have e3 : a * t * (d : Int) = a * d * t := by ac_rfl
          rw [e1, e2, e3]; omega
        rw [this, hdet, Int.one_mul]
      have h1 : (b : Int) ≤ (c * t - s * d) * b := by
        have := Int.mul_le_mul_of_nonneg_right (show (1 : Int) ≤ c * t - s * d by omega) (Int.natCast_nonneg b)
        omega
      have h2 : (d : Int) ≤ (s * b - a * t) * d := by
        have := Int.mul_le_mul_of_nonneg_right (show (1 : Int) ≤ s * b - a * t by omega) (Int.natCast_nonneg d)
        omega
      omega
    · exact .inr h'
  · exact .inl h
theorem dl_low {X s : Int} {D t : Nat} (h : s * D ≤ X * t) : (dl X D s t : Int) = X * t - s * D := by unfold dl; omega
theorem mul_le_c {a b c : Int} (h : a ≤ b) (hc : 0 ≤ c) : a * c ≤ b * c := Int.mul_le_mul_of_nonneg_right h hc
theorem far_low {X a s : Int} {D b t : Nat} (hb : 0 < b) (ha : a * D ≤ X * b) (h : s * b ≤ a * t) : s * D ≤ X * t ∧ dl X D a b * t ≤ dl X D s t * b ∧ (dl X D a b * t = dl X D s t * b → 0 < D → s * b = a * t) := by
  have h1 : s * D ≤ X * t := by
    have e1 := mul_le_c h (Int.natCast_nonneg D)
    have e2 := mul_le_c ha (Int.natCast_nonneg t)
    have e3 : s * D * b ≤ X * t * b := by
      have r1 : s * (b : Int) * D = s * D * b := by ac_rfl
      have r2 : a * (t : Int) * D = a * D * t := by ac_rfl
      have r3 : X * (b : Int) * t = X * t * b := by ac_rfl
      rw [r1, r2] at e1
      rw [r3] at e2
      omega
    exact Int.le_of_mul_le_mul_right e3 (by omega)
  have k1 := dl_low ha
  have k2 := dl_low h1
  have e : (dl X D s t : Int) * b - dl X D a b * t = (a * t - s * b) * D := by
    rw [k1, k2]
    simp only [Int.sub_mul]
    have r1 : X * (t : Int) * b = X * b * t := by ac_rfl
    have r2 : s * (D : Int) * b = s * b * D := by ac_rfl
    have r3 : a * (D : Int) * t = a * t * D := by ac_rfl
    rw [r1, r2, r3]; omega
  refine ⟨h1, ?_, fun he hD => ?_⟩
  · have : 0 ≤ (a * t - s * b) * (D : Int) := Int.mul_nonneg (by omega) (by omega)
    have h2 : ((dl X D a b * t : Nat) : Int) ≤ ((dl X D s t * b : Nat) : Int) := by rw [Int.natCast_mul, Int.natCast_mul]; omega
    omega
  · have h2 : ((dl X D a b * t : Nat) : Int) = ((dl X D s t * b : Nat) : Int) := by rw [he]
    rw [Int.natCast_mul, Int.natCast_mul] at h2
    have h3 : (a * t - s * b) * (D : Int) = 0 := by omega
    rcases Int.mul_eq_zero.1 h3 with h4 | h4 <;> omega
theorem dl_neg (X : Int) (D : Nat) (s : Int) (t : Nat) : dl (-X) D (-s) t = dl X D s t := by
  unfold dl
  rw [Int.neg_mul, Int.neg_mul]; omega
theorem far_up {X c s : Int} {D d t : Nat} (hd : 0 < d) (hc : X * d ≤ c * D) (h : c * t ≤ s * d) : X * t ≤ s * D ∧ dl X D c d * t ≤ dl X D s t * d ∧ (dl X D c d * t = dl X D s t * d → 0 < D → s * d = c * t) := by
  have := far_low (X := -X) (a := -c) (s := -s) (D := D) (b := d) (t := t) hd (by rw [Int.neg_mul, Int.neg_mul]; omega) (by rw [Int.neg_mul, Int.neg_mul]; omega)
  rw [dl_neg, dl_neg, Int.neg_mul, Int.neg_mul, Int.neg_mul, Int.neg_mul] at this
  refine ⟨by omega, this.2.1, fun h1 h2 => ?_⟩
  have := this.2.2 h1 h2
  omega
theorem cop_det {a c : Int} {b d : Nat} (h : c * b - a * d = 1) : Nat.gcd a.natAbs b = 1 ∧ Nat.gcd c.natAbs d = 1 := by
  refine ⟨?_, ?_⟩
  · have h1 : ((Nat.gcd a.natAbs b : Nat) : Int) ∣ 1 := by
      rw [← h]
      refine Int.dvd_sub ?_ ?_
      · exact Int.dvd_trans (Int.natCast_dvd_natCast.2 (Nat.gcd_dvd_right _ _)) (Int.dvd_mul_left ..)
      · exact Int.dvd_trans (Int.ofNat_dvd_left.2 (Nat.gcd_dvd_left _ _)) (Int.dvd_mul_right ..)
    have := Int.natCast_dvd_natCast (m := Nat.gcd a.natAbs b) (n := 1)
    exact Nat.dvd_one.1 (this.1 h1)
  · have h1 : ((Nat.gcd c.natAbs d : Nat) : Int) ∣ 1 := by
      rw [← h]
      refine Int.dvd_sub ?_ ?_
      · exact Int.dvd_trans (Int.ofNat_dvd_left.2 (Nat.gcd_dvd_left _ _)) (Int.dvd_mul_right ..)
      · exact Int.dvd_trans (Int.natCast_dvd_natCast.2 (Nat.gcd_dvd_right _ _)) (Int.dvd_mul_left ..)
    exact Nat.dvd_one.1 (Int.natCast_dvd_natCast.1 h1)
theorem low_eq {a s : Int} {b t : Nat} (hb : 0 < b) (ht : 0 < t) (h1 : Nat.gcd a.natAbs b = 1) (h2 : Nat.gcd s.natAbs t = 1) (h : s * b = a * t) : s = a ∧ t = b := by
  have ha := congrArg Int.natAbs h
  rw [Int.natAbs_mul, Int.natAbs_mul, Int.natAbs_natCast, Int.natAbs_natCast] at ha
  have d1 : b ∣ t := by
    have : b ∣ a.natAbs * t := ⟨s.natAbs, by rw [← ha, Nat.mul_comm]⟩
    exact Nat.Coprime.dvd_of_dvd_mul_left (Nat.Coprime.symm h1) this
  have d2 : t ∣ b := by
    have : t ∣ s.natAbs * b := ⟨a.natAbs, by rw [ha, Nat.mul_comm]⟩
    exact Nat.Coprime.dvd_of_dvd_mul_left (Nat.Coprime.symm h2) this
  have e : t = b := Nat.dvd_antisymm d2 d1
  subst e
  exact ⟨Int.eq_of_mul_eq_mul_right (by omega) h, rfl⟩
def lowB (X : Int) (D : Nat) (a : Int) (b : Nat) (c : Int) (d : Nat) : Prop := dl X D a b * d < dl X D c d * b ∨ (dl X D a b * d = dl X D c d * b ∧ b ≤ d)
theorem trans_lt {ea ec es b d t : Nat} (ht : 0 < t) (h1 : ea * d < ec * b) (h2 : ec * t ≤ es * d) : ea * t < es * b := by
  have e1 : ea * d * t < ec * b * t := Nat.mul_lt_mul_of_pos_right h1 ht
  have e2 : ec * t * b ≤ es * d * b := Nat.mul_le_mul_right _ h2
  have r1 : ea * d * t = ea * t * d := by ac_rfl
  have r2 : ec * b * t = ec * t * b := by ac_rfl
  have r3 : es * d * b = es * b * d := by ac_rfl
  rw [r1, r2] at e1
  rw [r3] at e2
  have e3 : ea * t * d < es * b * d := Nat.lt_of_lt_of_le e1 e2
  exact Nat.lt_of_mul_lt_mul_right e3
theorem trans_le {ea ec es b d t : Nat} (hd : 0 < d) (h1 : ea * d ≤ ec * b) (h2 : ec * t ≤ es * d) : ea * t ≤ es * b := by
  have e1 : ea * d * t ≤ ec * b * t := Nat.mul_le_mul_right _ h1
  have e2 : ec * t * b ≤ es * d * b := Nat.mul_le_mul_right _ h2
  have r1 : ea * d * t = ea * t * d := by ac_rfl
  have r2 : ec * b * t = ec * t * b := by ac_rfl
  have r3 : es * d * b = es * b * d := by ac_rfl
  rw [r1, r2] at e1
  rw [r3] at e2
  have e3 : ea * t * d ≤ es * b * d := Nat.le_trans e1 e2
  exact Nat.le_of_mul_le_mul_right e3 hd
theorem best_low {X a c : Int} {D m b d : Nat} (hD : 0 < D) (hb : 0 < b) (hd : 0 < d) (hdet : c * b - a * d = 1) (hm : m < b + d) (hbm : b ≤ m) (hl : a * D ≤ X * b) (hu : X * d ≤ c * D) (h : lowB X D a b c d) : Best X D m a b := by
  obtain ⟨ca, cc⟩ := cop_det hdet
  refine ⟨⟨hb, hbm, ca⟩, fun s t ht htm hg => ?_⟩
  rcases farey (s := s) hdet hm htm with k | k
  · obtain ⟨_, k2, k3⟩ := far_low hb hl k
    rcases Nat.lt_or_ge (dl X D a b * t) (dl X D s t * b) with q | q
    · exact .inl q
    · have e := k3 (by omega) hD
      obtain ⟨rfl, rfl⟩ := low_eq hb ht ca hg e
      exact .inr ⟨by omega, .inr ⟨rfl, by omega⟩⟩
  · obtain ⟨_, k2, k3⟩ := far_up hd hu k
    rcases h with h | ⟨h, hbd⟩
    · exact .inl (trans_lt ht h k2)
    · have k4 := trans_le hd (Nat.le_of_eq h) k2
      rcases Nat.lt_or_ge (dl X D a b * t) (dl X D s t * b) with q | q
      · exact .inl q
      · have q : dl X D a b * t = dl X D s t * b := by omega
        -- then s / t is c / d
        have k5 : dl X D c d * t = dl X D s t * d := by
          have e1 : dl X D c d * t * b = dl X D s t * d * b := by
            have r1 : dl X D c d * t * b = (dl X D c d * b) * t := by ac_rfl
            have r2 : dl X D s t * d * b = (dl X D s t * b) * d := by ac_rfl
            rw [r1, ← h, r2, ← q]; ac_rfl
          exact Nat.eq_of_mul_eq_mul_right hb e1
        have e := k3 k5 hD
        obtain ⟨rfl, rfl⟩ := low_eq hd ht cc hg e
        refine .inr ⟨q, ?_⟩
        rcases Nat.lt_or_ge b t with z | z
        · exact .inl z
        · have hbt : b = t := by omega
          refine .inr ⟨hbt, ?_⟩
          subst hbt
          have : (s - a) * (b : Int) = 1 := by rw [Int.sub_mul]; exact hdet
          rcases Int.lt_or_ge' (s - a) 0 with w | w
          · have := Int.mul_neg_of_neg_of_pos w (show (0 : Int) < b by omega); omega
          · omega
theorem best_up {X a c : Int} {D m b d : Nat} (hD : 0 < D) (hb : 0 < b) (hd : 0 < d) (hdet : c * b - a * d = 1) (hm : m < b + d) (hdm : d ≤ m) (hl : a * D ≤ X * b) (hu : X * d ≤ c * D) (h : ¬ lowB X D a b c d) : Best X D m c d := by
  obtain ⟨ca, cc⟩ := cop_det hdet
  have h1 : dl X D c d * b < dl X D a b * d ∨ (dl X D c d * b = dl X D a b * d ∧ d < b) := by
    unfold lowB at h; omega
  refine ⟨⟨hd, hdm, cc⟩, fun s t ht htm hg => ?_⟩
  rcases farey (s := s) hdet hm htm with k | k
  · obtain ⟨_, k2, k3⟩ := far_low hb hl k
    rcases h1 with h | ⟨h, hbd⟩
    · exact .inl (trans_lt ht h k2)
    · have k4 := trans_le hb (Nat.le_of_eq h) k2
      rcases Nat.lt_or_ge (dl X D c d * t) (dl X D s t * d) with q | q
      · exact .inl q
      · have q : dl X D c d * t = dl X D s t * d := by omega
        have k5 : dl X D a b * t = dl X D s t * b := by
          have e1 : dl X D a b * t * d = dl X D s t * b * d := by
            have r1 : dl X D a b * t * d = (dl X D a b * d) * t := by ac_rfl
            have r2 : dl X D s t * b * d = (dl X D s t * d) * b := by ac_rfl
            rw [r1, ← h, r2, ← q]; ac_rfl
          exact Nat.eq_of_mul_eq_mul_right hd e1
        have e := k3 k5 hD
        obtain ⟨rfl, rfl⟩ := low_eq hb ht ca hg e
        exact .inr ⟨q, .inl hbd⟩
  · obtain ⟨_, k2, k3⟩ := far_up hd hu k
    rcases Nat.lt_or_ge (dl X D c d * t) (dl X D s t * d) with q | q
    · exact .inl q
    · have e := k3 (by omega) hD
      obtain ⟨rfl, rfl⟩ := low_eq hd ht cc hg e
      exact .inr ⟨by omega, .inr ⟨rfl, by omega⟩⟩
theorem best_all {X s : Int} {D m t : Nat} (h : Best X D m s t) (s' : Int) {t' : Nat} (h1 : 0 < t') (h2 : t' ≤ m) : dl X D s t * t' ≤ dl X D s' t' * t := by
  have hg := Nat.gcd_pos_of_pos_right s'.natAbs h1
  have d1 : ((Nat.gcd s'.natAbs t' : Nat) : Int) ∣ s' := Int.ofNat_dvd_left.2 (Nat.gcd_dvd_left _ _)
  obtain ⟨u, hu⟩ := d1
  obtain ⟨v, hv⟩ := Nat.gcd_dvd_right s'.natAbs t'
  have hcop := Nat.gcd_div_gcd_div_gcd_of_pos_right (n := s'.natAbs) h1
  generalize hG : Nat.gcd s'.natAbs t' = g at *
  have hua : s'.natAbs / g = u.natAbs := by
    rw [hu, Int.natAbs_mul, Int.natAbs_natCast, Nat.mul_div_cancel_left _ hg]
  have hva : t' / g = v := by rw [hv, Nat.mul_div_cancel_left _ hg]
  rw [hua, hva] at hcop
  have hv0 : 0 < v := by
    rcases Nat.eq_zero_or_pos v with z | z
    · rw [z] at hv; omega
    · exact z
  have hvt : v ≤ t' := by rw [hv]; exact Nat.le_mul_of_pos_left _ hg
  have hle : dl X D s t * v ≤ dl X D u v * t := by
    have := h.2 u v hv0 (by omega) hcop
    omega
  have e : dl X D s' t' = dl X D u v * g := by
    unfold dl
    have : X * (t' : Int) - s' * D = (X * v - u * D) * g := by
      rw [hu, hv, Int.natCast_mul, Int.sub_mul]
      have r1 : X * ((g : Int) * v) = X * v * g := by ac_rfl
      have r2 : (g : Int) * u * D = u * D * g := by ac_rfl
      rw [r1, r2]
    rw [this, Int.natAbs_mul, Int.natAbs_natCast]
  rw [e]
  have e2 : dl X D s t * t' = dl X D s t * v * g := by rw [hv]; ac_rfl
  have e3 : dl X D u v * g * t = dl X D u v * t * g := by ac_rfl
  rw [e2, e3]
  exact Nat.mul_le_mul_right _ hle
end Go.Proofs.NatL
