import Derived.Test.YtlflfhcfljiciaaGreatE10
import Derived.Test.YtlflfhcfljiciaaGreatE5
namespace Go.Proofs.YtlflfhcfljiciaaGreat
set_option linter.unusedSimpArgs false
set_option linter.unusedVariables false
open Go.Abs Go.Proofs.NatL

def okGCT : CT := mkCT [.inl (some (.ints .u32 []))] true fun l K => match l with
  | [.inl (.ints .u32 xs)] => okN xs = true ∧ K (.c (.b true))
  | _ => False
def ck3 : Cfg := addT 60 okGCT ck2
theorem ck3_ok : TblOk Tryz.prog ck3 := q_I ck2_ok Tryz.func60 fun l K h => by
  split at h
  · obtain ⟨h1, h⟩ := h
    have := valid_ret _ (okN_LB' h1)
    rw [h1] at this
    exact ⟨_, this.plain rfl, h⟩
  · exact h.elim
attribute [go_sem] okGCT
def tb21 : Cfg := listT [(61, atCT), (60, okGCT), (62, chunkCT), (63, shortCT), (64, reverseCT)] [28]
theorem tb21_ok : TblOk Tryz.prog tb21 := listT_ok (big := ck3) ck3_ok ⟨rfl, rfl, rfl, rfl, rfl, trivial⟩
attribute [go_sem] tb21
set_option maxRecDepth 100000 in
set_option maxHeartbeats 1600000 in
theorem Digits_good (xs : List Int) (b : Nat) (bx : InB 4294967296 xs) (ho : okN xs = true) (h1 : 2 ≤ b) (h2 : b ≤ 36) :
    Ret Tryz.prog 43 false [.inl (.ints .u32 xs), .inl (.i .i64 b)] (.t [.inl (.ints .i64 (dg b (V 4294967296 xs)).reverse), .inr [.i .i64 0, .i .i64 0]]) := by
  obtain ⟨lx, tx⟩ : xs.length ≤ 600 ∧ Trd xs := by simpa [okN] using ho
  have hbl := bl_ok ho bx
  have hdl := Nat.le_trans (dg_len_two b _ h1 _ (lt_bl (V 4294967296 xs))) hbl
  have e := dg_V 4294967296 (by omega) xs bx tx
  generalize hA : V 4294967296 xs = A at *
  subst e
  (refine q_H Tryz.func43 (fun F => ?_); simp only [q_z,q_y,Tryz.ntmps43,Tryz.results43])
  repeat' (first|(with_reducible first|apply q_a|apply q_b|apply q_c|apply q_d|apply q_e|apply q_f|apply q_g|apply q_h|apply q_i|apply q_j|apply q_k|apply q_m|apply q_n|apply q_o|apply q_p|refine q_l ?_)|((with_reducible first|refine q_q tb21_ok fun K hK=>?_|refine q_r tb21_ok fun K hK=>?_);simp (maxSteps:=2000000) only [go_sem,↓reduceIte,reduceCtorEq,Nat.reduceLeDiff,Nat.reduceLT,Nat.reduceBEq,Nat.reduceAdd];(repeat1' with_reducible first|apply And.intro|(intro _;try exact q_v)|(refine hK _ ?_;clear hK K))<;>(try (clear hK K;exact q_u)))|(with_reducible refine q_s ?_;(first|apply q_J|apply q_K|apply q_L|apply q_M|apply q_N|apply q_O)<;>try (intro _;try exact q_v))|with_reducible refine q_t ?_)
  rename_i n hn
  obtain ⟨n0, n32, hP⟩ := hn
  have hP2 : 2 ≤ b ^ n := by
    have : b ^ 1 ≤ b ^ n := Nat.pow_le_pow_right (by omega) n0
    rw [Nat.pow_one] at this
    omega
  refine q_G (ι := { p : Nat × List Int // p.1 ≤ A ∧ p.2 ++ dg b p.1 = dg b A }) (fun p => ⟨67, [(0, .c (.ints .u32 (dg 4294967296 p.1.1))), (1, .c (.i .i64 b)), (5, .bx 0 0), (6, .c (.i .u32 ((b ^ n : Nat) : Int))), (7, .c (.i .i64 n)), (8, .own 1 0)], ⟨[(0, [.c (.i .i64 0), .c (.i .i64 0)])], [(1, ⟨0, 3, 1, .ints .i64 p.1.2⟩)], []⟩, 2⟩) (fun p => p.1.1) ⟨(A, []), Nat.le_refl _, by simp⟩ ?_ ?_
  · exact q_D
  rintro ⟨⟨m, o⟩, g1, g2⟩
  simp only at g1 g2 ⊢
  have lm := Nat.le_trans (dg_len_mono (B := 4294967296) (by omega) g1) lx
  have pm := dg_len_pos 4294967296 m (by omega)
  have lo : o.length ≤ 19200 := by
    have := congrArg List.length g2
    rw [List.length_append] at this
    omega
  repeat' (first|(with_reducible first|apply q_a|apply q_b|apply q_c|apply q_d|apply q_e|apply q_f|apply q_g|apply q_h|apply q_i|apply q_j|apply q_k|apply q_m|apply q_n|apply q_o|apply q_p|refine q_l ?_)|((with_reducible first|refine q_q tb21_ok fun K hK=>?_|refine q_r tb21_ok fun K hK=>?_);simp (maxSteps:=2000000) only [go_sem,↓reduceIte,reduceCtorEq,Nat.reduceLeDiff,Nat.reduceLT,Nat.reduceBEq,Nat.reduceAdd];(repeat1' with_reducible first|apply And.intro|(intro _;try exact q_v)|(refine hK _ ?_;clear hK K))<;>(try (clear hK K;exact q_u)))|(with_reducible refine q_s ?_;(first|apply q_J|apply q_K|apply q_L|apply q_M|apply q_N|apply q_O)<;>try (intro _;try exact q_v))|with_reducible refine q_t ?_)
  · rename_i hm
    have hm0 : 0 < m := pm.1 (by omega)
    have hsp : m / b ^ n * b ^ n + m % b ^ n = m := by rw [Nat.mul_comm]; exact Nat.div_add_mod _ _
    have hr0 : m % b ^ n < b ^ n := Nat.mod_lt _ (by omega)
    have hlt : m / b ^ n < m := Nat.div_lt_self hm0 hP2
    have pm' := dg_len_pos 4294967296 (m / b ^ n) (by omega)
    generalize m / b ^ n = m' at *
    generalize m % b ^ n = r0 at *
    refine q_G (ι := { p : Nat × List Int × Nat // p.1 ≤ n ∧ p.2.2 < b ^ (n - p.1) ∧ p.2.1 ++ dg b (m' * b ^ (n - p.1) + p.2.2) = dg b A }) (fun p => ⟨67, [(0, .c (.ints .u32 (dg 4294967296 m'))), (1, .c (.i .i64 b)), (5, .bx 0 0), (6, .c (.i .u32 ((b ^ n : Nat) : Int))), (7, .c (.i .i64 n)), (8, .own 1 0), (9, .c (.i .u32 (p.1.2.2 : Nat))), (10, .c (.i .i64 (p.1.1 : Nat)))], ⟨[(0, [.c (.i .i64 0), .c (.i .i64 0)])], [(1, ⟨0, 3, 1, .ints .i64 p.1.2.1⟩)], []⟩, 2⟩) (fun p => n - p.1.1) ⟨(0, o, r0), by simp, hr0, by simp only [Nat.sub_zero]; rw [hsp]; exact g2⟩ ?_ ?_
    · exact q_D
    rintro ⟨⟨k, l, r⟩, p1, p2, p3⟩
    simp only at p1 p2 p3 ⊢
    have hrW : r < 4294967296 := Nat.lt_of_lt_of_le p2 (Nat.le_trans (Nat.pow_le_pow_right (by omega) (by omega)) (Nat.le_of_lt hP))
    have ll : l.length ≤ 19200 := by
      have := congrArg List.length p3
      rw [List.length_append] at this
      omega
    have hbm : (b : Int) % 4294967296 = b := by omega
    have e1 : ((r : Int)).tmod (b : Int) = ((r % b : Nat) : Int) := by rw [Int.tmod_eq_emod_of_nonneg (by omega)]; simp
    have e2 : (r : Int) / ((b : Int) % 4294967296) = ((r / b : Nat) : Int) := by rw [hbm]; simp
    have hst : k < n → 0 < m' ∨ 0 < r → r / b < b ^ (n - (k + 1)) ∧ (l ++ [((r % b : Nat) : Int)]) ++ dg b (m' * b ^ (n - (k + 1)) + r / b) = dg b A := fun hk hp => by
      have ek : n - k = n - (k + 1) + 1 := by omega
      rw [ek] at p2 p3
      refine ⟨Nat.div_lt_of_lt_mul (by rw [Nat.pow_succ, Nat.mul_comm] at p2; exact p2), ?_⟩
      rw [dg_digit b m' (n - (k + 1)) r h1 (by
        rcases hp with hp | hp
        · exact Nat.lt_of_lt_of_le (Nat.mul_pos hp (Nat.pow_pos (by omega))) (Nat.le_add_right _ _)
        · omega)] at p3
      rw [List.append_assoc]; exact p3
    have hen : k = n ∨ (m' = 0 ∧ r = 0) → l ++ dg b m' = dg b A := fun h => by
      rcases h with h | ⟨h, h'⟩
      · subst h
        rw [Nat.sub_self, Nat.pow_zero] at p2 p3
        have : r = 0 := by omega
        subst this
        simpa using p3
      · subst h; subst h'
        simpa using p3
    generalize r / b = rq at *
    generalize r % b = rm at *
    repeat' (first|(with_reducible first|apply q_a|apply q_b|apply q_c|apply q_d|apply q_e|apply q_f|apply q_g|apply q_h|apply q_i|apply q_j|apply q_k|apply q_m|apply q_n|apply q_o|apply q_p|refine q_l ?_)|((with_reducible first|refine q_q tb21_ok fun K hK=>?_|refine q_r tb21_ok fun K hK=>?_);simp (maxSteps:=2000000) only [go_sem,↓reduceIte,reduceCtorEq,Nat.reduceLeDiff,Nat.reduceLT,Nat.reduceBEq,Nat.reduceAdd];(repeat1' with_reducible first|apply And.intro|(intro _;try exact q_v)|(refine hK _ ?_;clear hK K))<;>(try (clear hK K;exact q_u)))|(with_reducible refine q_s ?_;(first|apply q_J|apply q_K|apply q_L|apply q_M|apply q_N|apply q_O)<;>try (intro _;try exact q_v))|with_reducible refine q_t ?_)
    all_goals (try simp only [hbm] at *)
    all_goals (try omega)
    all_goals (first
      | (rw [e1, e2]; obtain ⟨q1, q2⟩ := hst (by omega) (by omega); refine q_F ⟨(k + 1, l ++ [(rm : Int)], rq), by simp only; omega, q1, q2⟩ ?_ (by simp only; omega); exact q_D; done)
      | (refine q_F ⟨(m', l), by simp only; omega, hen (by omega)⟩ ?_ (by simp only; omega); exact q_D; done)
      | skip)
    all_goals trace_state
  · rename_i hm
    have hm0 : m = 0 := by
      rcases Nat.eq_zero_or_pos m with h | h
      · exact h
      · exact absurd (pm.2 h) (by omega)
    subst hm0
    rw [dg_zero, List.append_nil] at g2
    exact q_A (by rw [g2]; rfl)

end Go.Proofs.YtlflfhcfljiciaaGreat

namespace Go.Proofs.YtlflfhcfljiciaaGreat
set_option linter.unusedSimpArgs false
set_option linter.unusedVariables false
open Go.Abs Go.Proofs.NatL

theorem trim1 (d : Nat) (h : d < 4294967296) : trimL [(d : Int)] = dg 4294967296 d := by
  rw [trimL_eq 4294967296 (by omega) _ (InB_one (by omega) (by omega)), V_one, Int.toNat_natCast]
theorem one_len (d : Nat) (h : d < 4294967296) : (dg 4294967296 d).length ≤ 1 := dg_len_le (by omega) _ _ (by omega)
theorem mulN1 (m d : Nat) : mulN (dg 4294967296 m) [(d : Int)] = dg 4294967296 (m * d) := by
  unfold mulN; rw [V32, V_one, Int.toNat_natCast]
theorem addNd (m d : Nat) : addN (dg 4294967296 m) (dg 4294967296 d) = dg 4294967296 (m + d) := by
  unfold addN; rw [V32, V32]
theorem fitN_big {xs ys : List Int} (h : xs = ys ∨ 600 < xs.length ∧ 600 < ys.length) (tx : Trd xs) (ty : Trd ys) : fitN xs = fitN ys ∧ fitC xs = fitC ys ∧ fitI xs = fitI ys := by
  rcases h with h | ⟨h1, h2⟩
  · subst h; exact ⟨rfl, rfl, rfl⟩
  · have e1 : trimL xs = xs := trimL_stop xs (tx.imp_left (by simp_all))
    have e2 : trimL ys = ys := trimL_stop ys (ty.imp_left (by simp_all))
    have g1 : ¬ xs.length ≤ 600 := by omega
    have g2 : ¬ ys.length ≤ 600 := by omega
    simp [fitN, fitC, fitI, e1, e2, h1, h2, g1, g2]

def tb22 : Cfg := listT [(61, atCT), (68, trimCT), (69, fitCT), (66, (numCT (fun _ _ => True) addN)), (67, (numCT (fun _ _ => True) mulN))] [28]
theorem tb22_ok : TblOk Tryz.prog tb22 := listT_ok (big := ck3) ck3_ok ⟨rfl, rfl, rfl, rfl, rfl, trivial⟩
attribute [go_sem] tb22
set_option maxRecDepth 100000 in
set_option maxHeartbeats 1600000 in
theorem From_good (ds : List Int) (b : Nat) (hd : InB b ds) (h1 : 2 ≤ b) (h2 : b ≤ 36) (hl : ds.length ≤ 140737488355328) :
    Ret Tryz.prog 47 false [.inl (.ints .i64 ds), .inl (.i .i64 b)] (.t [.inl (.ints .u32 (fitN (dg 4294967296 (rdv b ds)))), .inr [.i .i64 (fitC (dg 4294967296 (rdv b ds))), .i .i64 (fitI (dg 4294967296 (rdv b ds)))]]) := by
  (refine q_H Tryz.func47 (fun F => ?_); simp only [q_z,q_y,Tryz.ntmps47,Tryz.results47])
  repeat' (first|(with_reducible first|apply q_a|apply q_b|apply q_c|apply q_d|apply q_e|apply q_f|apply q_g|apply q_h|apply q_i|apply q_j|apply q_k|apply q_m|apply q_n|apply q_o|apply q_p|refine q_l ?_)|((with_reducible first|refine q_q tb22_ok fun K hK=>?_|refine q_r tb22_ok fun K hK=>?_);simp (maxSteps:=2000000) only [go_sem,↓reduceIte,reduceCtorEq,Nat.reduceLeDiff,Nat.reduceLT,Nat.reduceBEq,Nat.reduceAdd];(repeat1' with_reducible first|apply And.intro|(intro _;try exact q_v)|(refine hK _ ?_;clear hK K))<;>(try (clear hK K;exact q_u)))|(with_reducible refine q_s ?_;(first|apply q_J|apply q_K|apply q_L|apply q_M|apply q_N|apply q_O)<;>try (intro _;try exact q_v))|with_reducible refine q_t ?_)
  refine q_G (ι := { p : Nat × Nat // p.1 ≤ ds.length ∧ (dg 4294967296 p.2).length ≤ 601 ∧ (p.2 = rdv b (ds.take p.1) ∨ 600 < (dg 4294967296 p.2).length ∧ 600 < (dg 4294967296 (rdv b (ds.take p.1))).length) }) (fun p => ⟨50, [(0, .c (.ints .i64 ds)), (1, .c (.i .i64 b)), (5, .bx 0 0), (6, .c (.ints .u32 (dg 4294967296 p.1.2))), (16, .c (.ints .i64 ds)), (17, .c (.i .i64 ds.length)), (18, .c (.i .i64 (p.1.1 : Nat)))], ⟨[(0, [.c (.i .i64 0), .c (.i .i64 0)])], [], []⟩, 1⟩) (fun p => ds.length - p.1.1) ⟨(0, 0), by simp, by simp [dg_zero], by simp [rdv_nil]⟩ ?_ ?_
  · ((simp only [go_sem,↓reduceIte,reduceCtorEq,Nat.reduceLeDiff,Nat.reduceLT,Nat.reduceBEq,Nat.reduceAdd])<;>(try (simp;done))<;>(try ((simp only [C.i.injEq,C.b.injEq,C.ints.injEq,C.bools.injEq,List.append_cancel_left_eq,List.cons.injEq,true_and,and_true]);(repeat' with_reducible apply And.intro)<;>(first|rfl|assumption|omega|(simp;omega)|(congr 1;omega)|(congr 2;omega)))))
    simp [dg_zero]
  rintro ⟨⟨i, m⟩, g1, g2, g3⟩
  simp only at g1 g2 g3 ⊢
  have b1 := InB_getD (by omega) hd i
  obtain ⟨d, hdd⟩ : ∃ d : Nat, ds.getD i 0 = d := ⟨(ds.getD i 0).toNat, by omega⟩
  rw [hdd] at b1
  have hdb : d < b := by omega
  have bm := InB_dg 4294967296 (by omega) m
  have bb : InB 4294967296 [(b : Int)] := InB_one (by omega) (by omega)
  have hbm : (b : Int) % 4294967296 = b := by omega
  have hdm : (d : Int) % 4294967296 = d := by omega
  have tr := trim1 d (by omega)
  have mu := mulN1 m b
  have ad := addNd (m * b) d
  have tl : (dg 4294967296 d).length ≤ 1 := dg_len_le (by omega) _ _ (by omega)
  have ml : (dg 4294967296 (m * b)).length ≤ 602 := mul_len (by omega) g2 (one_len b (by omega))
  have al : (dg 4294967296 m).length ≤ 600 → (dg 4294967296 (m * b + d)).length ≤ 601 := fun h => snoc_len (by omega) h (by omega) (by omega) hdb
  have hstep : i < ds.length → rdv b (ds.take (i + 1)) = rdv b (ds.take i) * b + d := fun h => by rw [rdv_take _ _ _ h, hdd, Int.toNat_natCast]
  have hgrow : (dg 4294967296 (rdv b (ds.take i))).length ≤ (dg 4294967296 (rdv b (ds.take i) * b + d)).length := dg_len_mono (by omega) (rdv_grows b (by omega) _ _)
  repeat' (first|(with_reducible first|apply q_a|apply q_b|apply q_c|apply q_d|apply q_e|apply q_f|apply q_g|apply q_h|apply q_i|apply q_j|apply q_k|apply q_m|apply q_n|apply q_o|apply q_p|refine q_l ?_)|((with_reducible first|refine q_q tb22_ok fun K hK=>?_|refine q_r tb22_ok fun K hK=>?_);simp (maxSteps:=2000000) only [go_sem,↓reduceIte,reduceCtorEq,Nat.reduceLeDiff,Nat.reduceLT,Nat.reduceBEq,Nat.reduceAdd,hdd, hbm, hdm, tr, mu, ad];(repeat1' with_reducible first|apply And.intro|(intro _;try exact q_v)|(refine hK _ ?_;clear hK K))<;>(try (clear hK K;exact q_u)))|(with_reducible refine q_s ?_;(first|apply q_J|apply q_K|apply q_L|apply q_M|apply q_N|apply q_O)<;>try (intro _;try exact q_v))|with_reducible refine q_t ?_)
  · rename_i q1 q2 q3 q4
    refine q_F ⟨(i + 1, m), by simp only; omega, g2, .inr ⟨by simp only; omega, ?_⟩⟩ ?_ (by simp only; omega)
    · rw [hstep (by omega)]
      rcases g3 with g3 | g3
      · rw [← g3] at hgrow ⊢; omega
      · omega
    · exact q_D
  · rename_i q1 q2 q3 q4
    refine q_F ⟨(i + 1, m * b + d), by simp only; omega, al (by omega), .inl ?_⟩ ?_ (by simp only; omega)
    · simp only
      rcases g3 with g3 | g3
      · rw [hstep (by omega), ← g3]
      · omega
    · exact q_D
  · rename_i q1
    have hi : i = ds.length := by omega
    rw [hi, List.take_length] at g3
    obtain ⟨e1, e2, e3⟩ := fitN_big (xs := dg 4294967296 m) (ys := dg 4294967296 (rdv b ds)) (g3.imp_left (fun h => by rw [h])) (dg_trd 4294967296 (by omega) _) (dg_trd 4294967296 (by omega) _)
    exact q_A (by rw [e1, e2, e3]; rfl)

end Go.Proofs.YtlflfhcfljiciaaGreat

namespace Go.Proofs.YtlflfhcfljiciaaGreat
set_option linter.unusedSimpArgs false
set_option linter.unusedVariables false
open Go.Abs Go.Proofs.NatL
theorem toNat2 : (2 : Int).toNat = 2 := rfl
attribute [go_sem] dg_head tmod2 toNat2 Bool.toNat_false Bool.toNat_true
set_option maxHeartbeats 800000 in
theorem halve_ret (xs : List Int) (d : Nat) (hx : xs.length ≤ 4194304) (bx : InB 65536 xs) (d0 : 0 < d) (d1 : d < 65536) :
    Ret Tryz.prog 38 false [.inl (.ints .i64 xs), .inl (.i .i64 d)] (.t [.inl (.ints .i64 (dg 65536 (V 65536 xs / d))), .inl (.i .i64 ((V 65536 xs % d : Nat) : Int))]) := by
  (refine q_H Tryz.func38 (fun F => ?_); simp only [q_z,q_y,Tryz.ntmps38,Tryz.results38])
  repeat' (first|(with_reducible first|apply q_a|apply q_b|apply q_c|apply q_d|apply q_e|apply q_f|apply q_g|apply q_h|apply q_i|apply q_j|apply q_k|apply q_m|apply q_n|apply q_o|apply q_p|refine q_l ?_)|((with_reducible first|refine q_q rf1_ok fun K hK=>?_|refine q_r rf1_ok fun K hK=>?_);simp (maxSteps:=2000000) only [go_sem,↓reduceIte,reduceCtorEq,Nat.reduceLeDiff,Nat.reduceLT,Nat.reduceBEq,Nat.reduceAdd];(repeat1' with_reducible first|apply And.intro|intro _|(refine hK _ ?_;clear hK K))<;>(try (clear hK K;exact q_u)))|(with_reducible refine q_s ?_;(first|apply q_J|apply q_K|apply q_L|apply q_M|apply q_N|apply q_O)<;>try intro _)|with_reducible refine q_t ?_)
  refine q_G (ι := { p : Nat × List Int × Nat // p.1 ≤ xs.length ∧ p.2.1.length = xs.length ∧ InB 65536 p.2.1 ∧ p.2.2 < d ∧ V 65536 (p.2.1.drop p.1) * d + p.2.2 = V 65536 (xs.drop p.1) }) (fun p => ⟨38, [(0, .c (.ints .i64 xs)), (1, .c (.i .i64 d)), (6, .own 0 0), (7, .c (.i .i64 (p.1.2.2 : Nat))), (8, .c (.i .i64 ((p.1.1 : Int) - 1)))], ⟨[], [(0, ⟨0, 3, 1, .ints .i64 p.1.2.1⟩)], []⟩, 1⟩) (fun p => p.1.1) ⟨(xs.length, List.replicate xs.length 0, 0), by simp, by simp, InB_replicate (by omega) _, d0, by simp [V]⟩ ?_ ?_
  · exact q_D
  rintro ⟨⟨k, o, r⟩, g1, g2, g3, g4, g5⟩
  simp only at g1 g2 g3 g4 g5 ⊢
  have b1 := InB_getD (by omega) bx ((k : Int) - 1).toNat
  obtain ⟨x, hxx⟩ : ∃ x : Nat, xs.getD ((k : Int) - 1).toNat 0 = x := ⟨(xs.getD ((k : Int) - 1).toNat 0).toNat, by omega⟩
  have hx2 : x < 65536 := by omega
  have hq : ((r : Int) * 65536 + xs.getD ((k : Int) - 1).toNat 0).tdiv (d : Int) = (((r * 65536 + x) / d : Nat) : Int) := by
    rw [hxx, Int.tdiv_eq_ediv_of_nonneg (by omega)]; simp
  have hr : ((r : Int) * 65536 + xs.getD ((k : Int) - 1).toNat 0).tmod (d : Int) = (((r * 65536 + x) % d : Nat) : Int) := by
    rw [hxx, Int.tmod_eq_emod_of_nonneg (by omega)]; simp
  have hlt : (r * 65536 + x) / d < 65536 := by
    rw [Nat.div_lt_iff_lt_mul d0]
    have h1 : (r + 1) * 65536 ≤ d * 65536 := Nat.mul_le_mul_right _ g4
    omega
  have hmod := Nat.mod_lt (r * 65536 + x) d0
  have hdm := Nat.div_add_mod (r * 65536 + x) d
  generalize (r * 65536 + x) / d = Q at *
  generalize (r * 65536 + x) % d = R at *
  repeat' (first|(with_reducible first|apply q_a|apply q_b|apply q_c|apply q_d|apply q_e|apply q_f|apply q_g|apply q_h|apply q_i|apply q_j|apply q_k|apply q_m|apply q_n|apply q_o|apply q_p|refine q_l ?_)|((with_reducible first|refine q_q rf1_ok fun K hK=>?_|refine q_r rf1_ok fun K hK=>?_);simp (maxSteps:=2000000) only [go_sem,↓reduceIte,reduceCtorEq,Nat.reduceLeDiff,Nat.reduceLT,Nat.reduceBEq,Nat.reduceAdd];(repeat1' with_reducible first|apply And.intro|intro _|(refine hK _ ?_;clear hK K))<;>(try (clear hK K;exact q_u)))|(with_reducible refine q_s ?_;(first|apply q_J|apply q_K|apply q_L|apply q_M|apply q_N|apply q_O)<;>try intro _)|with_reducible refine q_t ?_)
  · rename_i ha
    have e : ((k : Int) - 1).toNat = k - 1 := by omega
    rw [hq, hr, e]
    rw [e] at hxx
    refine q_F ⟨(k - 1, o.set (k - 1) (Q : Int), R), by simp only; omega, by simp [g2], InB_set g3 _ (by omega) (by omega), hmod, ?_⟩ ?_ ?_
    · simp only
      refine short_step 65536 (k - 1) d o xs r _ _ x (by omega) g2 (by rw [show k - 1 + 1 = k by omega]; exact g5) (by rw [hxx]; simp) ?_
      rw [Nat.mul_comm]; exact hdm
    · exact q_D
    · show k - 1 < k
      omega
  · rename_i ha
    have hk : k = 0 := by omega
    subst hk
    simp only [List.drop_zero] at g5
    refine q_A ?_
    simp only [resAV]
    rw [trimL_eq 65536 (by omega) _ g3, ← g5]
    have h1 : (V 65536 o * d + r) / d = V 65536 o := by rw [Nat.mul_comm, Nat.mul_add_div d0, Nat.div_eq_of_lt g4]; simp
    have h2 : (V 65536 o * d + r) % d = r := by rw [Nat.mul_comm, Nat.mul_add_mod]; exact Nat.mod_eq_of_lt g4
    rw [h1, h2]

set_option maxHeartbeats 800000 in
theorem double_ret (xs : List Int) (one : Bool) (hx : xs.length ≤ 4194304) (bx : InB 65536 xs) :
    Ret Tryz.prog 41 false [.inl (.ints .i64 xs), .inl (.b one)] (.c (.ints .i64 (dg 65536 (2 * V 65536 xs + one.toNat)))) := by
  (refine q_H Tryz.func41 (fun F => ?_); simp only [q_z,q_y,Tryz.ntmps41,Tryz.results41])
  refine q_a ?_
  ((first | with_reducible refine q_q rf1_ok (fun K hK => ?_) | with_reducible refine awp_region_draw rf1_ok mixed (by kernel_rfl) (fun K hK => ?_)); (simp (maxSteps:=2000000) only [go_sem,↓reduceIte,reduceCtorEq,Nat.reduceLeDiff,Nat.reduceLT,Nat.reduceBEq,Nat.reduceAdd]); (first | with_reducible apply And.intro | with_reducible intro _ | (with_reducible refine hK _ ?_; clear hK K)) <;> (repeat' (first | with_reducible apply And.intro | with_reducible intro _ | (with_reducible refine hK _ ?_; clear hK K))) <;> (try (clear hK K; first | omega | assumption | ((simp (disch := omega) only [Int.tdiv_eq_ediv_of_nonneg, Int.tmod_eq_emod_of_nonneg]); omega))))
  refine q_b (q_a ?_)
  ((first | with_reducible refine q_q rf1_ok (fun K hK => ?_) | with_reducible refine awp_region_draw rf1_ok mixed (by kernel_rfl) (fun K hK => ?_)); (simp (maxSteps:=2000000) only [go_sem,↓reduceIte,reduceCtorEq,Nat.reduceLeDiff,Nat.reduceLT,Nat.reduceBEq,Nat.reduceAdd]); (first | with_reducible apply And.intro | with_reducible intro _ | (with_reducible refine hK _ ?_; clear hK K)) <;> (repeat' (first | with_reducible apply And.intro | with_reducible intro _ | (with_reducible refine hK _ ?_; clear hK K))) <;> (try (clear hK K; first | omega | assumption | ((simp (disch := omega) only [Int.tdiv_eq_ediv_of_nonneg, Int.tmod_eq_emod_of_nonneg]); omega))))
  refine q_b ?_
  refine seq_join (ι := { c : Nat // c = one.toNat }) (fun c => ⟨38, [(0, .c (.ints .i64 xs)), (5, .c (.i .i64 (c.1 : Nat)))], ⟨[], [], []⟩, 0⟩) ?_ ?_
  · repeat' (first|(with_reducible first|apply q_a|apply q_b|apply q_c|apply q_d|apply q_e|apply q_f|apply q_g|apply q_h|apply q_i|apply q_j|apply q_k|apply q_m|apply q_n|apply q_o|apply q_p|refine q_l ?_)|((with_reducible first|refine q_q rf1_ok fun K hK=>?_|refine q_r rf1_ok fun K hK=>?_);simp (maxSteps:=2000000) only [go_sem,↓reduceIte,reduceCtorEq,Nat.reduceLeDiff,Nat.reduceLT,Nat.reduceBEq,Nat.reduceAdd];(repeat1' with_reducible first|apply And.intro|intro _|(refine hK _ ?_;clear hK K))<;>(try (clear hK K;exact q_u)))|(with_reducible refine q_s ?_;(first|apply q_J|apply q_K|apply q_L|apply q_M|apply q_N|apply q_O)<;>try intro _)|with_reducible refine q_t ?_)
    · rename_i h
      refine join_n ⟨1, by rw [h]; rfl⟩ ?_
      exact q_D
    · rename_i h
      refine join_n ⟨0, by cases one <;> simp_all⟩ ?_
      exact q_D
  rintro ⟨c0, hc0⟩
  simp only at hc0 ⊢
  have hc1 : c0 ≤ 1 := by rw [hc0]; cases one <;> decide
  rw [← hc0]
  repeat' (first|(with_reducible first|apply q_a|apply q_b|apply q_c|apply q_d|apply q_e|apply q_f|apply q_g|apply q_h|apply q_i|apply q_j|apply q_k|apply q_m|apply q_n|apply q_o|apply q_p|refine q_l ?_)|((with_reducible first|refine q_q rf1_ok fun K hK=>?_|refine q_r rf1_ok fun K hK=>?_);simp (maxSteps:=2000000) only [go_sem,↓reduceIte,reduceCtorEq,Nat.reduceLeDiff,Nat.reduceLT,Nat.reduceBEq,Nat.reduceAdd];(repeat1' with_reducible first|apply And.intro|intro _|(refine hK _ ?_;clear hK K))<;>(try (clear hK K;exact q_u)))|(with_reducible refine q_s ?_;(first|apply q_J|apply q_K|apply q_L|apply q_M|apply q_N|apply q_O)<;>try intro _)|with_reducible refine q_t ?_)
  refine q_G (ι := { p : Nat × List Int × Nat // p.1 ≤ xs.length ∧ p.2.1.length = p.1 ∧ InB 65536 p.2.1 ∧ p.2.2 ≤ 1 ∧ V 65536 p.2.1 + 65536 ^ p.1 * p.2.2 = V 65536 (xs.take p.1) * 2 + c0 }) (fun p => ⟨38, [(0, .c (.ints .i64 xs)), (5, .c (.i .i64 (p.1.2.2 : Nat))), (6, .own 0 0), (7, .c (.i .i64 (p.1.1 : Nat)))], ⟨[], [(0, ⟨0, 3, 1, .ints .i64 p.1.2.1⟩)], []⟩, 1⟩) (fun p => xs.length - p.1.1) ⟨(0, [], c0), by simp, rfl, InB_nil _, hc1, by simp [V]⟩ ?_ ?_
  · exact q_D
  rintro ⟨⟨i, o, c⟩, g1, g2, g3, g4, g5⟩
  simp only at g1 g2 g3 g4 g5 ⊢
  have b1 := InB_getD (by omega) bx i
  obtain ⟨x, hxx⟩ : ∃ x : Nat, xs.getD i 0 = x := ⟨(xs.getD i 0).toNat, by omega⟩
  have hq : (2 * xs.getD i 0 + (c : Int)).tdiv 65536 = (((2 * x + c) / 65536 : Nat) : Int) := by
    rw [hxx, Int.tdiv_eq_ediv_of_nonneg (by omega)]; omega
  have hr : (2 * xs.getD i 0 + (c : Int)).tmod 65536 = (((2 * x + c) % 65536 : Nat) : Int) := by
    rw [hxx, Int.tmod_eq_emod_of_nonneg (by omega)]; omega
  repeat' (first|(with_reducible first|apply q_a|apply q_b|apply q_c|apply q_d|apply q_e|apply q_f|apply q_g|apply q_h|apply q_i|apply q_j|apply q_k|apply q_m|apply q_n|apply q_o|apply q_p|refine q_l ?_)|((with_reducible first|refine q_q rf1_ok fun K hK=>?_|refine q_r rf1_ok fun K hK=>?_);simp (maxSteps:=2000000) only [go_sem,↓reduceIte,reduceCtorEq,Nat.reduceLeDiff,Nat.reduceLT,Nat.reduceBEq,Nat.reduceAdd];(repeat1' with_reducible first|apply And.intro|intro _|(refine hK _ ?_;clear hK K))<;>(try (clear hK K;exact q_u)))|(with_reducible refine q_s ?_;(first|apply q_J|apply q_K|apply q_L|apply q_M|apply q_N|apply q_O)<;>try intro _)|with_reducible refine q_t ?_)
  · rename_i ha
    rw [hq, hr]
    refine q_F ⟨(i + 1, o ++ [(((2 * x + c) % 65536 : Nat) : Int)], (2 * x + c) / 65536), by simp only; omega, by simp [g2], InB_snoc g3 (by omega) (by omega), by simp only; omega, dbl_step 65536 i o xs c ((2 * x + c) % 65536) ((2 * x + c) / 65536) c0 g5 g2 (by rw [hxx, Int.toNat_natCast]; omega)⟩ ?_ (by simp only; omega)
    exact q_D
  · rename_i ha hb
    have hi : i = xs.length := by omega
    refine q_A ?_
    simp only [resAV, q_y]
    rw [trimL_eq 65536 (by omega) _ (InB_snoc g3 (by omega) (by omega)), V_snoc, g2, Int.toNat_natCast, g5, hi, List.take_length, Nat.mul_comm]
  · rename_i ha hb
    have hi : i = xs.length := by omega
    have hc : c = 0 := by omega
    refine q_A ?_
    simp only [resAV, q_y]
    rw [hc, Nat.mul_zero, Nat.add_zero, hi, List.take_length] at g5
    rw [trimL_eq 65536 (by omega) _ g3, g5, Nat.mul_comm]

def halveCT : CT := mkCT [.inl (some (.ints .i64 []))] false fun l K => match l with
  | [.inl (.ints .i64 xs), .inl (.i .i64 d)] => (xs.length ≤ 4194304 ∧ InB 65536 xs ∧ 0 < d ∧ d < 65536) ∧ K (.t [.inl (.ints .i64 (dg 65536 (V 65536 xs / d.toNat))), .inl (.i .i64 ((V 65536 xs % d.toNat : Nat) : Int))])
  | _ => False
def rg1 : Cfg := addT 38 halveCT db13
theorem rg1_ok : TblOk Tryz.prog rg1 := q_I db13_ok Tryz.func38 fun l K h => by
  split at h
  · rename_i xs d
    obtain ⟨d, rfl⟩ : ∃ n : Nat, d = n := ⟨d.toNat, by omega⟩
    exact ⟨_, halve_ret _ d h.1.1 h.1.2.1 (by omega) (by omega), by simpa using h.2⟩
  · exact h.elim
def doubleCT : CT := mkCT [.inl (some (.ints .i64 []))] false fun l K => match l with
  | [.inl (.ints .i64 xs), .inl (.b one)] => (xs.length ≤ 4194304 ∧ InB 65536 xs) ∧ K (.c (.ints .i64 (dg 65536 (2 * V 65536 xs + one.toNat))))
  | _ => False
def rg2 : Cfg := addT 41 doubleCT rg1
theorem rg2_ok : TblOk Tryz.prog rg2 := q_I rg1_ok Tryz.func41 fun l K h => by
  split at h
  · exact ⟨_, double_ret _ _ h.1.1 h.1.2, h.2⟩
  · exact h.elim
attribute [go_sem] halveCT doubleCT
def tb15 : Cfg := listT [(38, halveCT), (41, doubleCT), (10, rcmpCT), (40, (rnumCT (fun _ _ => True) (· + ·))), (39, (rnumCT (fun xs ys => V 65536 ys ≤ V 65536 xs) (· - ·)))] [28]
theorem tb15_ok : TblOk Tryz.prog tb15 := listT_ok (big := rg2) rg2_ok ⟨rfl, rfl, rfl, rfl, rfl, trivial⟩
attribute [go_sem] tb15
set_option maxRecDepth 100000 in
set_option maxHeartbeats 1600000 in
theorem common_ret (A B : Nat) (hA : (dg 65536 A).length ≤ 1048576) (hB : (dg 65536 B).length ≤ 1048576) :
    Ret Tryz.prog 19 false [.inl (.ints .i64 (dg 65536 A)), .inl (.ints .i64 (dg 65536 B))] (.c (.ints .i64 (dg 65536 (Nat.gcd A B)))) := by
  have hG : (dg 65536 (Nat.gcd A B)).length ≤ 1048576 := by
    rcases Nat.eq_zero_or_pos A with h | h
    · subst h; rw [Nat.gcd_zero_left]; exact hB
    · exact Nat.le_trans (dg_len_mono (by omega) (Nat.gcd_le_left B h)) hA
  (refine q_H Tryz.func19 (fun F => ?_); simp only [q_z,q_y,Tryz.ntmps19,Tryz.results19])
  repeat' (first|(with_reducible first|apply q_a|apply q_b|apply q_c|apply q_d|apply q_e|apply q_f|apply q_g|apply q_h|apply q_i|apply q_j|apply q_k|apply q_m|apply q_n|apply q_o|apply q_p|refine q_l ?_)|((with_reducible first|refine q_q tb15_ok fun K hK=>?_|refine q_r tb15_ok fun K hK=>?_);simp (maxSteps:=2000000) only [go_sem,↓reduceIte,reduceCtorEq,Nat.reduceLeDiff,Nat.reduceLT,Nat.reduceBEq,Nat.reduceAdd];(repeat1' with_reducible first|apply And.intro|intro _|(refine hK _ ?_;clear hK K))<;>(try (clear hK K;exact q_u)))|(with_reducible refine q_s ?_;(first|apply q_J|apply q_K|apply q_L|apply q_M|apply q_N|apply q_O)<;>try intro _)|with_reducible refine q_t ?_)
  refine q_G (ι := { p : Nat × Nat × Nat // p.1 * 2 ^ p.2.2 ≤ A ∧ p.2.1 ≤ B ∧ Nat.gcd p.1 p.2.1 * 2 ^ p.2.2 = Nat.gcd A B ∧ p.2.2 ≤ 16777216 }) (fun p => ⟨83, [(0, .c (.ints .i64 (dg 65536 p.1.1))), (1, .c (.ints .i64 (dg 65536 p.1.2.1))), (5, .c (.i .i64 (p.1.2.2 : Nat)))], ⟨[], [], []⟩, 0⟩) (fun p => p.1.1 + p.1.2.1) ⟨(A, B, 0), by simp, by simp, by simp, by simp⟩ ?_ ?_
  · exact q_D
  rintro ⟨⟨a, b, t⟩, g1, g2, g3, g4⟩
  simp only at g1 g2 g3 g4 ⊢
  have p0 : 0 < 2 ^ t := Nat.pow_pos (by omega)
  have ga : a ≤ A := Nat.le_trans (Nat.le_mul_of_pos_right a p0) g1
  have la := Nat.le_trans (dg_len_mono (B := 65536) (by omega) ga) hA
  have lb := Nat.le_trans (dg_len_mono (B := 65536) (by omega) g2) hB
  have ka := dg_len_pos 65536 a (by omega)
  have kb := dg_len_pos 65536 b (by omega)
  have kc := cmp3_ge a b
  have e1 : a % 65536 % 2 = a % 2 := by omega
  have e2 : b % 65536 % 2 = b % 2 := by omega
  have h2 : ∀ x, x % 2 = 0 → x / 2 * 2 ^ (t + 1) = x * 2 ^ t := fun x hx => by
    rw [Nat.pow_succ, ← Nat.mul_assoc, Nat.mul_right_comm, show x / 2 * 2 = x by omega]
  have h3 : a / 2 * 2 ^ t ≤ A := Nat.le_trans (Nat.mul_le_mul_right _ (by omega)) g1
  have h4 : (a - b) * 2 ^ t ≤ A := Nat.le_trans (Nat.mul_le_mul_right _ (by omega)) g1
  have r1 : 0 < a → a % 2 = 0 → b % 2 = 0 → a / 2 * 2 ^ (t + 1) ≤ A ∧ b / 2 ≤ B ∧ Nat.gcd (a / 2) (b / 2) * 2 ^ (t + 1) = Nat.gcd A B ∧ t + 1 ≤ 16777216 := fun h0 ha hb => by
    refine ⟨by rw [h2 a ha]; exact g1, by omega, ?_, ?_⟩
    · rw [← g3, gcd_even2 ha hb, Nat.pow_succ, Nat.mul_assoc, Nat.mul_comm 2]
    · have h5 : 2 ^ (t + 1) ≤ A := by
        have h6 := h2 a ha
        have h7 : 1 * 2 ^ (t + 1) ≤ a / 2 * 2 ^ (t + 1) := Nat.mul_le_mul_right _ (by omega)
        omega
      have := pow_le_len h5 hA
      omega
  have r2 : a % 2 = 0 → b % 2 = 1 → Nat.gcd (a / 2) b * 2 ^ t = Nat.gcd A B := fun ha hb => by rw [gcd_even1 ha hb, g3]
  have r3 : a % 2 = 1 → b % 2 = 0 → Nat.gcd a (b / 2) * 2 ^ t = Nat.gcd A B := fun ha hb => by rw [Nat.gcd_comm, gcd_even1 hb ha, Nat.gcd_comm, g3]
  have r4 : b ≤ a → Nat.gcd (a - b) b * 2 ^ t = Nat.gcd A B := fun h => by rw [Nat.gcd_sub_self_left h, g3]
  have r5 : a ≤ b → Nat.gcd a (b - a) * 2 ^ t = Nat.gcd A B := fun h => by rw [Nat.gcd_sub_self_right h, g3]
  have hend : a = 0 ∨ b = 0 → (a + b) * 2 ^ t = Nat.gcd A B := fun h => by
    rw [← g3]
    rcases h with h | h
    · subst h; rw [Nat.gcd_zero_left, Nat.zero_add]
    · subst h; rw [Nat.gcd_zero_right, Nat.add_zero]
  have lab := add_len (B := 65536) (by omega) la lb
  repeat' (first|(with_reducible first|apply q_a|apply q_b|apply q_c|apply q_d|apply q_e|apply q_f|apply q_g|apply q_h|apply q_i|apply q_j|apply q_k|apply q_m|apply q_n|apply q_o|apply q_p|refine q_l ?_)|((with_reducible first|refine q_q tb15_ok fun K hK=>?_|refine q_r tb15_ok fun K hK=>?_);simp (maxSteps:=2000000) only [go_sem,↓reduceIte,reduceCtorEq,Nat.reduceLeDiff,Nat.reduceLT,Nat.reduceBEq,Nat.reduceAdd];(repeat1' with_reducible first|apply And.intro|intro _|(refine hK _ ?_;clear hK K))<;>(try (clear hK K;exact q_u)))|(with_reducible refine q_s ?_;(first|apply q_J|apply q_K|apply q_L|apply q_M|apply q_N|apply q_O)<;>try intro _)|with_reducible refine q_t ?_)
  all_goals (first
    | (exfalso; omega)
    | (refine q_F ⟨(a / 2, b / 2, t + 1), r1 (by omega) (by omega) (by omega)⟩ ?_ (by simp only; omega); exact q_D; done)
    | (refine q_F ⟨(a / 2, b, t), h3, g2, r2 (by omega) (by omega), g4⟩ ?_ (by simp only; omega); exact q_D; done)
    | (refine q_F ⟨(a, b / 2, t), g1, by simp only; omega, r3 (by omega) (by omega), g4⟩ ?_ (by simp only; omega); exact q_D; done)
    | (refine q_F ⟨(a - b, b, t), h4, g2, r4 (by omega), g4⟩ ?_ (by simp only; omega); exact q_D; done)
    | (refine q_F ⟨(a, b - a, t), g1, by simp only; omega, r5 (by omega), g4⟩ ?_ (by simp only; omega); exact q_D; done)
    | skip)
  all_goals (
    refine q_G (ι := { p : Nat × Nat // p.1 ≤ 16777216 ∧ p.2 * 2 ^ p.1 = Nat.gcd A B }) (fun p => ⟨83, [(5, .c (.i .i64 (p.1.1 : Nat))), (6, .c (.ints .i64 (dg 65536 p.1.2)))], ⟨[], [], []⟩, 0⟩) (fun p => p.1.1) ⟨(t, a + b), g4, hend (by omega)⟩ (by exact q_D) ?_
    rintro ⟨⟨u, n⟩, q1, q2⟩
    simp only at q1 q2 ⊢
    have ln : (dg 65536 n).length ≤ 1048576 := Nat.le_trans (dg_len_mono (by omega) (by rw [← q2]; exact Nat.le_mul_of_pos_right _ (Nat.pow_pos (by omega)))) hG
    repeat' (first|(with_reducible first|apply q_a|apply q_b|apply q_c|apply q_d|apply q_e|apply q_f|apply q_g|apply q_h|apply q_i|apply q_j|apply q_k|apply q_m|apply q_n|apply q_o|apply q_p|refine q_l ?_)|((with_reducible first|refine q_q tb15_ok fun K hK=>?_|refine q_r tb15_ok fun K hK=>?_);simp (maxSteps:=2000000) only [go_sem,↓reduceIte,reduceCtorEq,Nat.reduceLeDiff,Nat.reduceLT,Nat.reduceBEq,Nat.reduceAdd];(repeat1' with_reducible first|apply And.intro|intro _|(refine hK _ ?_;clear hK K))<;>(try (clear hK K;exact q_u)))|(with_reducible refine q_s ?_;(first|apply q_J|apply q_K|apply q_L|apply q_M|apply q_N|apply q_O)<;>try intro _)|with_reducible refine q_t ?_)
    · rename_i hu
      refine q_F ⟨(u - 1, 2 * n), by simp only; omega, ?_⟩ ?_ (by simp only; omega)
      · simp only
        rw [← q2, Nat.mul_comm 2, Nat.mul_assoc, ← Nat.pow_succ', Nat.succ_eq_add_one, show u - 1 + 1 = u by omega]
      · exact q_D
    · rename_i hu
      have hu0 : u = 0 := by omega
      subst hu0
      exact q_A (by simp only [resAV, q_y]; rw [← q2]; simp))

def commonCT : CT := mkCT [.inl (some (.ints .i64 [])), .inl (some (.ints .i64 []))] false fun l K => match l with
  | [.inl (.ints .i64 xs), .inl (.ints .i64 ys)] => (xs.length ≤ 1048576 ∧ ys.length ≤ 1048576 ∧ InB 65536 xs ∧ InB 65536 ys ∧ Trd xs ∧ Trd ys) ∧ K (.c (.ints .i64 (dg 65536 (Nat.gcd (V 65536 xs) (V 65536 ys)))))
  | _ => False
def rg3 : Cfg := addT 19 commonCT rg2
theorem rg3_ok : TblOk Tryz.prog rg3 := q_I rg2_ok Tryz.func19 fun l K h => by
  split at h
  · rename_i xs ys
    obtain ⟨⟨h1, h2, h3, h4, h5, h6⟩, h⟩ := h
    have ex := dg_V 65536 (by omega) xs h3 h5
    have ey := dg_V 65536 (by omega) ys h4 h6
    have := common_ret (V 65536 xs) (V 65536 ys) (by rw [ex]; exact h1) (by rw [ey]; exact h2)
    rw [ex, ey] at this
    exact ⟨_, this, h⟩
  · exact h.elim
attribute [go_sem] commonCT
end Go.Proofs.YtlflfhcfljiciaaGreat

namespace Go.Proofs.YtlflfhcfljiciaaGreat
set_option linter.unusedSimpArgs false
set_option linter.unusedVariables false
open Go.Abs Go.Proofs.NatL

def dd1 : Cfg := addT 11 smallCT rg1
theorem dd1_ok : TblOk Tryz.prog dd1 := q_I rg1_ok Tryz.func11 fun l K h => by
  split at h
  · rename_i n
    obtain ⟨m, rfl⟩ : ∃ m : Nat, n = m := ⟨n.toNat, by omega⟩
    exact ⟨_, small_ret m (by omega), by simpa using h.2⟩
  · exact h.elim
def tb23 : Cfg := listT [(38, halveCT), (11, smallCT), (40, (rnumCT (fun _ _ => True) (· + ·))), (59, (rnumCT (fun _ _ => True) (· * ·)))] [28]
theorem tb23_ok : TblOk Tryz.prog tb23 := listT_ok (big := dd1) dd1_ok ⟨rfl, rfl, rfl, rfl, trivial⟩
attribute [go_sem] tb23
set_option maxRecDepth 100000 in
set_option maxHeartbeats 1600000 in
theorem figures_ret (n b : Nat) (hn : (dg 65536 n).length ≤ 65536) (h1 : 2 ≤ b) (h2 : b ≤ 36) :
    Ret Tryz.prog 33 false [.inl (.ints .i64 (dg 65536 n)), .inl (.i .i64 b)] (.c (.ints .i64 (dg b n).reverse)) := by
  have hbn : (dg b n).length ≤ 1048576 := by
    obtain ⟨e, he⟩ : ∃ e : Nat, e = 65536 := ⟨_, rfl⟩
    have := lt_of_len (B := 65536) (a := n) (k := e) (by omega) (by omega)
    rw [show (65536 : Nat) = 2 ^ 16 from rfl, ← Nat.pow_mul] at this
    exact Nat.le_trans (dg_len_two b n h1 (16 * e) this) (by omega)
  (refine q_H Tryz.func33 (fun F => ?_); simp only [q_z,q_y,Tryz.ntmps33,Tryz.results33])
  repeat' (first|(with_reducible first|apply q_a|apply q_b|apply q_c|apply q_d|apply q_e|apply q_f|apply q_g|apply q_h|apply q_i|apply q_j|apply q_k|apply q_m|apply q_n|apply q_o|apply q_p|refine q_l ?_)|((with_reducible first|refine q_q tb23_ok fun K hK=>?_|refine q_r tb23_ok fun K hK=>?_);simp (maxSteps:=2000000) only [go_sem,↓reduceIte,reduceCtorEq,Nat.reduceLeDiff,Nat.reduceLT,Nat.reduceBEq,Nat.reduceAdd];(repeat1' with_reducible first|apply And.intro|(intro _;try exact q_v)|(refine hK _ ?_;clear hK K))<;>(try (clear hK K;exact q_u)))|(with_reducible refine q_s ?_;(first|apply q_J|apply q_K|apply q_L|apply q_M|apply q_N|apply q_O)<;>try (intro _;try exact q_v))|with_reducible refine q_t ?_)
  refine q_G (ι := { p : Nat × List Int // p.1 ≤ n ∧ p.2 ++ dg b p.1 = dg b n }) (fun p => ⟨37, [(0, .c (.ints .i64 (dg 65536 p.1.1))), (1, .c (.i .i64 b)), (5, .own 0 0)], ⟨[], [(0, ⟨0, 3, 1, .ints .i64 p.1.2⟩)], []⟩, 1⟩) (fun p => p.1.1) ⟨(n, []), Nat.le_refl _, rfl⟩ ?_ ?_
  · exact q_D
  rintro ⟨⟨m, o⟩, g1, g2⟩
  simp only at g1 g2 ⊢
  have lm := dg_len_mono (B := 65536) (by omega) g1
  have pm := dg_len_pos 65536 m (by omega)
  have ll : o.length ≤ 1048576 := by
    have := congrArg List.length g2
    rw [List.length_append] at this
    omega
  have bm := InB_dg 65536 (by omega) m
  have mn : (b : Int) < 65536 := by omega
  repeat' (first|(with_reducible first|apply q_a|apply q_b|apply q_c|apply q_d|apply q_e|apply q_f|apply q_g|apply q_h|apply q_i|apply q_j|apply q_k|apply q_m|apply q_n|apply q_o|apply q_p|refine q_l ?_)|((with_reducible first|refine q_q tb23_ok fun K hK=>?_|refine q_r tb23_ok fun K hK=>?_);simp (maxSteps:=2000000) only [go_sem,↓reduceIte,reduceCtorEq,Nat.reduceLeDiff,Nat.reduceLT,Nat.reduceBEq,Nat.reduceAdd];(repeat1' with_reducible first|apply And.intro|(intro _;try exact q_v)|(refine hK _ ?_;clear hK K))<;>(try (clear hK K;exact q_u)))|(with_reducible refine q_s ?_;(first|apply q_J|apply q_K|apply q_L|apply q_M|apply q_N|apply q_O)<;>try (intro _;try exact q_v))|with_reducible refine q_t ?_)
  · rename_i q
    have m0 : 0 < m := pm.1 (by omega)
    refine q_F ⟨(m / b, o ++ [((m % b : Nat) : Int)]), Nat.le_trans (Nat.div_le_self _ _) g1, ?_⟩ ?_ (Nat.div_lt_self m0 h1)
    · simp only
      rw [dg_pos b m h1 m0] at g2
      rw [List.append_assoc]; exact g2
    · exact q_D
  · rename_i q
    have m0 : m = 0 := by
      rcases Nat.eq_zero_or_pos m with h | h
      · exact h
      · exact absurd (pm.2 h) (by omega)
    subst m0
    rw [dg_zero, List.append_nil] at g2
    rw [← g2] at hbn ⊢
    refine q_G (ι := { k : Nat // k ≤ o.length }) (fun k => ⟨37, [(5, .c (.ints .i64 o)), (7, .own 1 0), (8, .c (.i .i64 ((k.1 : Int) - 1)))], ⟨[], [(1, ⟨0, 3, 1, .ints .i64 (o.drop k.1).reverse⟩)], []⟩, 2⟩) (fun k => k.1) ⟨o.length, Nat.le_refl _⟩ ?_ ?_
    · exact q_D
    rintro ⟨k, hk⟩
    simp only at hk ⊢
    have lr : (o.drop k).reverse.length ≤ 1048576 := by simp only [List.length_reverse, List.length_drop]; omega
    have e1 : 0 < k → ((k : Int) - 1).toNat = k - 1 := fun h => by omega
    have e2 : 0 < k → (o.drop k).reverse ++ [o.getD (k - 1) 0] = (o.drop (k - 1)).reverse := fun h => by
      rw [List.drop_eq_getElem_cons (i := k - 1) (by omega), List.reverse_cons, getD_eq _ _ (by omega), show k - 1 + 1 = k by omega]
    repeat' (first|(with_reducible first|apply q_a|apply q_b|apply q_c|apply q_d|apply q_e|apply q_f|apply q_g|apply q_h|apply q_i|apply q_j|apply q_k|apply q_m|apply q_n|apply q_o|apply q_p|refine q_l ?_)|((with_reducible first|refine q_q tb23_ok fun K hK=>?_|refine q_r tb23_ok fun K hK=>?_);simp (maxSteps:=2000000) only [go_sem,↓reduceIte,reduceCtorEq,Nat.reduceLeDiff,Nat.reduceLT,Nat.reduceBEq,Nat.reduceAdd];(repeat1' with_reducible first|apply And.intro|(intro _;try exact q_v)|(refine hK _ ?_;clear hK K))<;>(try (clear hK K;exact q_u)))|(with_reducible refine q_s ?_;(first|apply q_J|apply q_K|apply q_L|apply q_M|apply q_N|apply q_O)<;>try (intro _;try exact q_v))|with_reducible refine q_t ?_)
    · rename_i q
      rw [e1 (by omega), e2 (by omega)]
      refine q_F ⟨k - 1, by omega⟩ ?_ (by simp only; omega)
      exact q_D
    · rename_i q
      have hk0 : k = 0 := by omega
      subst hk0
      exact q_A rfl

set_option maxRecDepth 100000 in
set_option maxHeartbeats 1600000 in
theorem read_ret (ds : List Int) (b : Nat) (hd : InB b ds) (h1 : 2 ≤ b) (h2 : b ≤ 36) (hl : ds.length ≤ 65536) :
    Ret Tryz.prog 36 false [.inl (.ints .i64 ds), .inl (.i .i64 b)] (.c (.ints .i64 (dg 65536 (rdv b ds)))) := by
  (refine q_H Tryz.func36 (fun F => ?_); simp only [q_z,q_y,Tryz.ntmps36,Tryz.results36])
  repeat' (first|(with_reducible first|apply q_a|apply q_b|apply q_c|apply q_d|apply q_e|apply q_f|apply q_g|apply q_h|apply q_i|apply q_j|apply q_k|apply q_m|apply q_n|apply q_o|apply q_p|refine q_l ?_)|((with_reducible first|refine q_q tb23_ok fun K hK=>?_|refine q_r tb23_ok fun K hK=>?_);simp (maxSteps:=2000000) only [go_sem,↓reduceIte,reduceCtorEq,Nat.reduceLeDiff,Nat.reduceLT,Nat.reduceBEq,Nat.reduceAdd];(repeat1' with_reducible first|apply And.intro|(intro _;try exact q_v)|(refine hK _ ?_;clear hK K))<;>(try (clear hK K;exact q_u)))|(with_reducible refine q_s ?_;(first|apply q_J|apply q_K|apply q_L|apply q_M|apply q_N|apply q_O)<;>try (intro _;try exact q_v))|with_reducible refine q_t ?_)
  refine q_G (ι := { i : Nat // i ≤ ds.length ∧ (dg 65536 (rdv b (ds.take i))).length ≤ i }) (fun i => ⟨24, [(0, .c (.ints .i64 ds)), (1, .c (.i .i64 b)), (5, .c (.ints .i64 (dg 65536 (rdv b (ds.take i.1))))), (6, .c (.i .i64 (i.1 : Nat)))], ⟨[], [], []⟩, 0⟩) (fun i => ds.length - i.1) ⟨0, by simp, by simp [rdv_nil, dg_zero]⟩ ?_ ?_
  · ((simp only [go_sem,↓reduceIte,reduceCtorEq,Nat.reduceLeDiff,Nat.reduceLT,Nat.reduceBEq,Nat.reduceAdd])<;>(try (simp;done))<;>(try ((simp only [C.i.injEq,C.b.injEq,C.ints.injEq,C.bools.injEq,List.append_cancel_left_eq,List.cons.injEq,true_and,and_true]);(repeat' with_reducible apply And.intro)<;>(first|rfl|assumption|omega|(simp;omega)|(congr 1;omega)|(congr 2;omega)))))
    simp [rdv_nil, dg_zero]
  rintro ⟨i, g1, g2⟩
  simp only at g1 g2 ⊢
  have b1 := InB_getD (by omega) hd i
  obtain ⟨d, hdd⟩ : ∃ d : Nat, ds.getD i 0 = d := ⟨(ds.getD i 0).toNat, by omega⟩
  rw [hdd] at b1
  have hstep : i < ds.length → rdv b (ds.take (i + 1)) = rdv b (ds.take i) * b + d := fun h => by rw [rdv_take _ _ _ h, hdd, Int.toNat_natCast]
  have ob : (dg 65536 b).length ≤ 1 := dg_len_le (by omega) _ _ (by omega)
  have od : (dg 65536 d).length ≤ 1 := dg_len_le (by omega) _ _ (by omega)
  have ml := mul_len (B := 65536) (by omega) g2 ob
  have al := snoc_len (W := 65536) (by omega) g2 (by omega) (by omega) (show d < b by omega)
  repeat' (first|(with_reducible first|apply q_a|apply q_b|apply q_c|apply q_d|apply q_e|apply q_f|apply q_g|apply q_h|apply q_i|apply q_j|apply q_k|apply q_m|apply q_n|apply q_o|apply q_p|refine q_l ?_)|((with_reducible first|refine q_q tb23_ok fun K hK=>?_|refine q_r tb23_ok fun K hK=>?_);simp (maxSteps:=2000000) only [go_sem,↓reduceIte,reduceCtorEq,Nat.reduceLeDiff,Nat.reduceLT,Nat.reduceBEq,Nat.reduceAdd,hdd];(repeat1' with_reducible first|apply And.intro|(intro _;try exact q_v)|(refine hK _ ?_;clear hK K))<;>(try (clear hK K;exact q_u)))|(with_reducible refine q_s ?_;(first|apply q_J|apply q_K|apply q_L|apply q_M|apply q_N|apply q_O)<;>try (intro _;try exact q_v))|with_reducible refine q_t ?_)
  · rename_i q
    refine q_F ⟨i + 1, by omega, ?_⟩ ?_ (by simp only; omega)
    · rw [hstep (by omega)]; exact al
    · simp only [hstep (show i < ds.length by omega)]
      exact q_D
  · rename_i q
    have hi : i = ds.length := by omega
    subst hi
    rw [List.take_length]
    exact q_A rfl

end Go.Proofs.YtlflfhcfljiciaaGreat
