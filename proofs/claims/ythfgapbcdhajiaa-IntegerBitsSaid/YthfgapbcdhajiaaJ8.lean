/- The reference's operations on bits. -/
import Derived.Test.YthfgapbcdhajiaaJ9
import Derived.Test.YthfgapbcdhajiaaP6
namespace Go.Proofs.Ythfgapbcdhajiaa
set_option linter.unusedSimpArgs false
set_option linter.unusedVariables false
open Go.Abs Go.Proofs.NatL

/-! ### binary digits as a row of its own -/
set_option maxRecDepth 100000 in
set_option maxHeartbeats 3200000 in
theorem ones_own (n : Nat) (hn : (dg 65536 n).length ≤ 1048576) : RetO Try.prog 48 [.inl (.ints .i64 (dg 65536 n))] 4 1 (.bools (bs n)) := by
  have bx := InB_dg 65536 (by omega) n
  have vx := V_dg 65536 (by omega) n
  generalize dg 65536 n = xs at *
  (refine q_x Try.func48 rfl (Nat.le_of_ble_eq_true rfl) (fun F => ?_); simp only [q_z, q_y, Try.ntmps48, Try.results48])
  repeat' (first|(with_reducible first|apply q_a|apply q_b|apply q_c|apply q_d|apply q_e|apply q_f|apply q_g|apply q_h|apply q_i|apply q_j|apply q_k|apply q_m|apply q_n|apply q_o|apply q_p|refine q_l (by decide) ?_)|((with_reducible first|refine q_q rf1_ok fun K hK=>?_|refine q_r rf1_ok q_D (by kernel_rfl) fun K hK=>?_);(simp (maxSteps:=2000000) only [go_sem,↓reduceIte,reduceCtorEq,Nat.reduceLeDiff,Nat.reduceLT,Nat.reduceBEq,Nat.reduceAdd]);(repeat1' (with_reducible first|apply And.intro|intro _|(refine hK _ ?_;clear hK K)))<;>(try (clear hK K;first|omega|assumption|((simp (disch:=omega) only [q_H,q_I]);omega))))|((with_reducible refine q_s (by simp only [go_sem,↓reduceIte,reduceCtorEq,Nat.reduceBEq];rfl) ?_);(with_reducible first|apply q_J|apply q_K|refine q_L ?_ ?_|refine q_M ?_ ?_|refine q_N ?_ ?_|refine q_O ?_ ?_)<;>(try with_reducible intro _)))
  refine q_G (ι := { p : Nat × List Bool // p.1 ≤ xs.length ∧ p.2.length = 16 * p.1 ∧ B2 p.2 = V 65536 (xs.take p.1) }) (fun p => ⟨47, [(0, .c (.ints .i64 xs)), (3, .own 0 0), (4, .c (.i .i64 (p.1.1 : Nat)))], ⟨[], [(0, ⟨0, 4, 1, .bools p.1.2⟩)], []⟩, 1⟩) (fun p => xs.length - p.1.1) ⟨(0, []), by simp, rfl, by simp [B2, bI, V]⟩ ?_ ?_
  · ((simp only [go_sem,↓reduceIte,reduceCtorEq,Nat.reduceLeDiff,Nat.reduceLT,Nat.reduceBEq,Nat.reduceAdd])<;>(try (simp;done))<;>(try ((simp only [C.i.injEq,C.b.injEq,C.ints.injEq,C.bools.injEq,List.append_cancel_left_eq,List.cons.injEq,true_and,and_true]);(repeat' with_reducible apply And.intro)<;>(first|rfl|assumption|omega|(simp;omega)|(congr 1;omega)|(congr 2;omega)))))
  rintro ⟨⟨i, o⟩, g1, g2, g3⟩
  simp only at g1 g2 g3 ⊢
  have b1 := InB_getD (by omega) bx i
  obtain ⟨x, hxx⟩ : ∃ x : Nat, xs.getD i 0 = x := ⟨(xs.getD i 0).toNat, by omega⟩
  repeat' (first|(with_reducible first|apply q_a|apply q_b|apply q_c|apply q_d|apply q_e|apply q_f|apply q_g|apply q_h|apply q_i|apply q_j|apply q_k|apply q_m|apply q_n|apply q_o|apply q_p|refine q_l (by decide) ?_)|((with_reducible first|refine q_q rf1_ok fun K hK=>?_|refine q_r rf1_ok q_D (by kernel_rfl) fun K hK=>?_);(simp (maxSteps:=2000000) only [go_sem,↓reduceIte,reduceCtorEq,Nat.reduceLeDiff,Nat.reduceLT,Nat.reduceBEq,Nat.reduceAdd]);(repeat1' (with_reducible first|apply And.intro|(intro _;try first|contradiction|(exfalso;omega))|(refine hK _ ?_;clear hK K)))<;>(try (clear hK K;first|omega|assumption|((simp (disch:=omega) only [q_H,q_I]);omega))))|((with_reducible refine q_s (by simp only [go_sem,↓reduceIte,reduceCtorEq,Nat.reduceBEq];rfl) ?_);(with_reducible first|apply q_J|apply q_K|refine q_L ?_ ?_|refine q_M ?_ ?_|refine q_N ?_ ?_|refine q_O ?_ ?_)<;>(try with_reducible (intro _;try first|contradiction|(exfalso;omega)))))
  · rename_i hi
    rw [hxx]
    refine q_G (ι := { p : Nat × List Bool × Nat // p.1 ≤ 16 ∧ p.2.1.length = 16 * i + p.1 ∧ p.2.2 < 2 ^ (16 - p.1) ∧ B2 p.2.1 + 2 ^ (16 * i + p.1) * p.2.2 = V 65536 (xs.take (i + 1)) }) (fun p => ⟨47, [(0, .c (.ints .i64 xs)), (3, .own 0 0), (4, .c (.i .i64 (i : Nat))), (5, .c (.i .i64 (p.1.2.2 : Nat))), (6, .c (.i .i64 (p.1.1 : Nat)))], ⟨[], [(0, ⟨0, 4, 1, .bools p.1.2.1⟩)], []⟩, 1⟩) (fun p => 16 - p.1.1) ⟨(0, o, x), by simp, g2, by simp only [show (2 : Nat) ^ (16 - 0) = 65536 from rfl]; omega, by
      simp only
      rw [V_take_getD, g3, hxx, Int.toNat_natCast, Nat.add_zero, show (65536 : Nat) = 2 ^ 16 from rfl, ← Nat.pow_mul]⟩ ?_ ?_
    · ((simp only [go_sem,↓reduceIte,reduceCtorEq,Nat.reduceLeDiff,Nat.reduceLT,Nat.reduceBEq,Nat.reduceAdd])<;>(try (simp;done))<;>(try ((simp only [C.i.injEq,C.b.injEq,C.ints.injEq,C.bools.injEq,List.append_cancel_left_eq,List.cons.injEq,true_and,and_true]);(repeat' with_reducible apply And.intro)<;>(first|rfl|assumption|omega|(simp;omega)|(congr 1;omega)|(congr 2;omega)))))
    rintro ⟨⟨k, l, y⟩, p1, p2, p3, p4⟩
    simp only at p1 p2 p3 p4 ⊢
    have hy : y < 65536 := Nat.lt_of_lt_of_le p3 (by
      have : (2 : Nat) ^ (16 - k) ≤ 2 ^ 16 := Nat.pow_le_pow_right (by omega) (by omega)
      exact this)
    have e1 : ((y : Int)).tdiv 2 = ((y / 2 : Nat) : Int) := by rw [Int.tdiv_eq_ediv_of_nonneg (by omega)]; omega
    have e2 : ((y : Int)).tmod 2 = ((y % 2 : Nat) : Int) := by rw [Int.tmod_eq_emod_of_nonneg (by omega)]; omega
    have e3 : decide (((y % 2 : Nat) : Int) = 1) = decide (y % 2 = 1) := by
      by_cases h : y % 2 = 1
      · rw [decide_eq_true h, decide_eq_true (by omega)]
      · rw [decide_eq_false h, decide_eq_false (by omega)]
    repeat' (first|(with_reducible first|apply q_a|apply q_b|apply q_c|apply q_d|apply q_e|apply q_f|apply q_g|apply q_h|apply q_i|apply q_j|apply q_k|apply q_m|apply q_n|apply q_o|apply q_p|refine q_l (by decide) ?_)|((with_reducible first|refine q_q rf1_ok fun K hK=>?_|refine q_r rf1_ok q_D (by kernel_rfl) fun K hK=>?_);(simp (maxSteps:=2000000) only [go_sem,↓reduceIte,reduceCtorEq,Nat.reduceLeDiff,Nat.reduceLT,Nat.reduceBEq,Nat.reduceAdd]);(repeat1' (with_reducible first|apply And.intro|(intro _;try first|contradiction|(exfalso;omega))|(refine hK _ ?_;clear hK K)))<;>(try (clear hK K;first|omega|assumption|((simp (disch:=omega) only [q_H,q_I]);omega))))|((with_reducible refine q_s (by simp only [go_sem,↓reduceIte,reduceCtorEq,Nat.reduceBEq];rfl) ?_);(with_reducible first|apply q_J|apply q_K|refine q_L ?_ ?_|refine q_M ?_ ?_|refine q_N ?_ ?_|refine q_O ?_ ?_)<;>(try with_reducible (intro _;try first|contradiction|(exfalso;omega)))))
    · rename_i hk
      simp only [e1, e2, e3]
      refine q_F ⟨(k + 1, l ++ [decide (y % 2 = 1)], y / 2), by simp only; omega, by simp [p2]; omega, ?_, ?_⟩ ?_ (by simp only; omega)
      · simp only
        rw [show 16 - k = 16 - (k + 1) + 1 by omega, Nat.pow_succ] at p3
        omega
      · simp only
        exact bit_step l (16 * i + k) y _ p2 p4
      · ((simp only [go_sem,↓reduceIte,reduceCtorEq,Nat.reduceLeDiff,Nat.reduceLT,Nat.reduceBEq,Nat.reduceAdd])<;>(try (simp;done))<;>(try ((simp only [C.i.injEq,C.b.injEq,C.ints.injEq,C.bools.injEq,List.append_cancel_left_eq,List.cons.injEq,true_and,and_true]);(repeat' with_reducible apply And.intro)<;>(first|rfl|assumption|omega|(simp;omega)|(congr 1;omega)|(congr 2;omega)))))
    · rename_i hk
      have hk' : k = 16 := by omega
      subst hk'
      have hy0 : y = 0 := by simp only [Nat.sub_self, Nat.pow_zero] at p3; omega
      subst hy0
      refine q_F ⟨(i + 1, l), by simp only; omega, by simp only; omega, by simpa using p4⟩ ?_ (by simp only; omega)
      ((simp only [go_sem,↓reduceIte,reduceCtorEq,Nat.reduceLeDiff,Nat.reduceLT,Nat.reduceBEq,Nat.reduceAdd])<;>(try (simp;done))<;>(try ((simp only [C.i.injEq,C.b.injEq,C.ints.injEq,C.bools.injEq,List.append_cancel_left_eq,List.cons.injEq,true_and,and_true]);(repeat' with_reducible apply And.intro)<;>(first|rfl|assumption|omega|(simp;omega)|(congr 1;omega)|(congr 2;omega)))))
  · rename_i hi
    have hi' : i = xs.length := by omega
    rw [hi', List.take_length, vx] at g3
    refine q_G (ι := { l : List Bool // l.length ≤ 16 * xs.length ∧ B2 l = n }) (fun l => ⟨47, [(3, .own 0 0)], ⟨[], [(0, ⟨0, 4, 1, .bools l.1⟩)], []⟩, 1⟩) (fun l => l.1.length) ⟨o, by omega, g3⟩ ?_ ?_
    · ((simp only [go_sem,↓reduceIte,reduceCtorEq,Nat.reduceLeDiff,Nat.reduceLT,Nat.reduceBEq,Nat.reduceAdd])<;>(try (simp;done))<;>(try ((simp only [C.i.injEq,C.b.injEq,C.ints.injEq,C.bools.injEq,List.append_cancel_left_eq,List.cons.injEq,true_and,and_true]);(repeat' with_reducible apply And.intro)<;>(first|rfl|assumption|omega|(simp;omega)|(congr 1;omega)|(congr 2;omega)))))
    rintro ⟨l, q1, q2⟩
    simp only at q1 q2 ⊢
    have e1 : ((l.length : Int) - 1).toNat = l.length - 1 := by omega
    repeat' (first|(with_reducible first|apply q_a|apply q_b|apply q_c|apply q_d|apply q_e|apply q_f|apply q_g|apply q_h|apply q_i|apply q_j|apply q_k|apply q_m|apply q_n|apply q_o|apply q_p|refine q_l (by decide) ?_)|((with_reducible first|refine q_q rf1_ok fun K hK=>?_|refine q_r rf1_ok q_D (by kernel_rfl) fun K hK=>?_);(simp (maxSteps:=2000000) only [go_sem,↓reduceIte,reduceCtorEq,Nat.reduceLeDiff,Nat.reduceLT,Nat.reduceBEq,Nat.reduceAdd]);(repeat1' (with_reducible first|apply And.intro|(intro _;try first|contradiction|(exfalso;omega))|(refine hK _ ?_;clear hK K)))<;>(try (clear hK K;first|omega|assumption|((simp (disch:=omega) only [q_H,q_I]);omega))))|((with_reducible refine q_s (by simp only [go_sem,↓reduceIte,reduceCtorEq,Nat.reduceBEq];rfl) ?_);(with_reducible first|apply q_J|apply q_K|refine q_L ?_ ?_|refine q_M ?_ ?_|refine q_N ?_ ?_|refine q_O ?_ ?_)<;>(try with_reducible (intro _;try first|contradiction|(exfalso;omega)))))
    · rename_i h1 h2
      rw [e1] at h2
      rw [e1]
      refine q_F ⟨l.take (l.length - 1), by simp; omega, by rw [B2_drop_last l (by omega) h2]; exact q2⟩ ?_ (by simp; omega)
      ((simp only [go_sem,↓reduceIte,reduceCtorEq,Nat.reduceLeDiff,Nat.reduceLT,Nat.reduceBEq,Nat.reduceAdd])<;>(try (simp;done))<;>(try ((simp only [C.i.injEq,C.b.injEq,C.ints.injEq,C.bools.injEq,List.append_cancel_left_eq,List.cons.injEq,true_and,and_true]);(repeat' with_reducible apply And.intro)<;>(first|rfl|assumption|omega|(simp;omega)|(congr 1;omega)|(congr 2;omega)))))
    · rename_i h1 h2
      rw [e1] at h2
      refine endsO_own rfl rfl rfl rfl rfl ?_ rfl
      rw [← q2, ← bs_of l (.inr h2)]
    · rename_i h1
      refine endsO_own rfl rfl rfl rfl rfl ?_ rfl
      rw [← q2, ← bs_of l (.inl (by omega))]
def onesOCT : CT := mkCTO [.inl (some (.ints .i64 []))] 4 1 fun l K => match l with
  | [.inl (.ints .i64 xs)] => (xs.length ≤ 1048576 ∧ InB 65536 xs ∧ Trd xs) ∧ K (.c (.bools (bs (V 65536 xs))))
  | _ => False
def jv1 : Cfg := addT 48 onesOCT jt17
theorem jv1_ok : TblOk Try.prog jv1 := mkCTO_ok jt17_ok (q_C Try.func48 (by kernel_rfl) (by kernel_rfl)) rfl fun l K h => by
  split at h
  · rename_i xs
    obtain ⟨⟨h1, h2, h3⟩, h⟩ := h
    have e := dg_V 65536 (by omega) xs h2 h3
    have := ones_own (V 65536 xs) (by rw [e]; exact h1)
    rw [e] at this
    exact ⟨_, this, h⟩
  · exact h.elim
attribute [go_sem] onesOCT
def jtw : Cfg := listT [(80, smallCT), (48, onesOCT), (76, (rnumCT (fun xs ys => V 65536 ys ≤ V 65536 xs) (· - ·)))] [27]
theorem jtw_ok : TblOk Try.prog jtw := listT_ok (big := jv1) jv1_ok ⟨rfl, rfl, rfl, trivial⟩
attribute [go_sem] jtw
theorem map_ne (X : List Bool) (i : Nat) (s : Bool) (h : i < X.length) : (X.map (fun b => b != s)).getD i false = (X.getD i false != s) := by
  simp [List.getD_eq_getElem?_getD, List.getElem?_eq_getElem h]
theorem lo_sg {s : Bool} {m n : Nat} (hs : s = true → 0 < m) (h : FitK n (sg s m)) : (bits n (if s then m - 1 else m)).map (fun b => b != s) = bits n (lo n (sg s m)) := by
  have hp := pow2_pos n
  cases s
  · rw [sgf] at h ⊢
    unfold FitK at h
    rw [lo_nat (by omega)]
    simp
  · have h0 := hs rfl
    rw [sgt] at h ⊢
    have h1 := lo_eq h
    have h2 : sgB (-(m : Int)) = 1 := by unfold sgB; rw [if_pos (by omega)]
    rw [h2] at h1
    unfold FitK at h
    have := bits_flip n (m - 1) (by omega) true
    simp only [if_true] at this ⊢
    rw [this]; congr 1; omega
set_option maxRecDepth 100000 in
set_option maxHeartbeats 3200000 in
theorem rtwos_own (s : Bool) (m n : Nat) (hs : s = true → 0 < m) (lm : (dg 65536 m).length ≤ 65536) (hn : n ≤ 1048576) (hf : FitK n (sg s m)) :
    RetO Try.prog 98 [.inr [.b s, .ints .i64 (dg 65536 m)], .inl (.i .i64 (n : Int))] 4 1 (.bools (bits n (lo n (sg s m)))) := by
  have hl := dg_len_pos 65536 m (by omega)
  have hlo := lo_sg hs hf
  have hlX := bits_len n (if s then m - 1 else m)
  have hlR := bits_len n (lo n (sg s m))
  have hbo := bits_ones n (if s then m - 1 else m)
  generalize bits n (lo n (sg s m)) = R at *
  cases s
  · have hbl : (bs m).length ≤ 1048576 := by rw [bs_bl]; exact Nat.le_trans (bl_dg lm) (by omega)
    simp only [Bool.false_eq_true, if_false] at hlo hlX hbo
    (refine q_x Try.func98 rfl (Nat.le_of_ble_eq_true rfl) (fun F => ?_); simp only [q_z, q_y, Try.ntmps98, Try.results98])
    repeat' (first|(with_reducible first|apply q_a|apply q_b|apply q_c|apply q_d|apply q_e|apply q_f|apply q_g|apply q_h|apply q_i|apply q_j|apply q_k|apply q_m|apply q_n|apply q_o|apply q_p|refine q_l (by decide) ?_)|((with_reducible first|refine q_q jtw_ok fun K hK=>?_|refine q_r jtw_ok q_D (by kernel_rfl) fun K hK=>?_);(simp (maxSteps:=2000000) only [go_sem,↓reduceIte,reduceCtorEq,Nat.reduceLeDiff,Nat.reduceLT,Nat.reduceBEq,Nat.reduceAdd,hbo]);(repeat1' (with_reducible first|apply And.intro|(intro _;try first|contradiction|(exfalso;omega))|(refine hK _ ?_;clear hK K)))<;>(try (clear hK K;first|omega|assumption|((simp (disch:=omega) only [q_H,q_I]);omega))))|((with_reducible refine q_s (by simp only [go_sem,↓reduceIte,reduceCtorEq,Nat.reduceBEq];rfl) ?_);(with_reducible first|apply q_J|apply q_K|refine q_L ?_ ?_|refine q_M ?_ ?_|refine q_N ?_ ?_|refine q_O ?_ ?_)<;>(try with_reducible (intro _;try first|contradiction|(exfalso;omega)))))
    generalize bits n m = X at *
    refine q_G (ι := { i : Nat // i ≤ n }) (fun i => ⟨51, [(1, .c (.i .i64 (n : Int))), (2, .bx 0 0), (6, .own 2 0), (7, .c (.i .i64 (i.1 : Nat)))], ⟨[(0, [.c (.b false), .c (.ints .i64 (dg 65536 m))])], [(2, ⟨0, 4, 1, .bools (mixL R X i.1)⟩)], []⟩, 3⟩) (fun i => n - i.1) ⟨0, by omega⟩ ?_ ?_
    · simp only [mixL_zero]
      ((simp only [go_sem,↓reduceIte,reduceCtorEq,Nat.reduceLeDiff,Nat.reduceLT,Nat.reduceBEq,Nat.reduceAdd])<;>(try (simp;done))<;>(try ((simp only [C.i.injEq,C.b.injEq,C.ints.injEq,C.bools.injEq,List.append_cancel_left_eq,List.cons.injEq,true_and,and_true]);(repeat' with_reducible apply And.intro)<;>(first|rfl|assumption|omega|(simp;omega)|(congr 1;omega)|(congr 2;omega)))))
    rintro ⟨i, g1⟩
    simp only at g1 ⊢
    have hgl := mixL_len (rs := R) (xs := X) (i := i) (by rw [hlR, hlX]) (by omega)
    rw [hlX] at hgl
    rcases Nat.lt_or_ge i n with hi | hi
    · have hg := mixL_get (rs := R) (xs := X) (i := i) false (by rw [hlR, hlX]) (by omega)
      have hst := mixL_set (rs := R) (xs := X) (i := i) false (by rw [hlR, hlX]) (by omega) (X.getD i false != false) (by rw [← hlo]; exact (map_ne X i false (by omega)).symm)
      repeat' (first|(with_reducible first|apply q_a|apply q_b|apply q_c|apply q_d|apply q_e|apply q_f|apply q_g|apply q_h|apply q_i|apply q_j|apply q_k|apply q_m|apply q_n|apply q_o|apply q_p|refine q_l (by decide) ?_)|((with_reducible first|refine q_q jtw_ok fun K hK=>?_|refine q_r jtw_ok q_D (by kernel_rfl) fun K hK=>?_);(simp (maxSteps:=2000000) only [go_sem,↓reduceIte,reduceCtorEq,Nat.reduceLeDiff,Nat.reduceLT,Nat.reduceBEq,Nat.reduceAdd,hg, hgl, hst]);(repeat1' (with_reducible first|apply And.intro|(intro _;try first|contradiction|(exfalso;omega))|(refine hK _ ?_;clear hK K)))<;>(try (clear hK K;first|omega|assumption|((simp (disch:=omega) only [q_H,q_I]);omega))))|((with_reducible refine q_s (by simp only [go_sem,↓reduceIte,reduceCtorEq,Nat.reduceBEq];rfl) ?_);(with_reducible first|apply q_J|apply q_K|refine q_L ?_ ?_|refine q_M ?_ ?_|refine q_N ?_ ?_|refine q_O ?_ ?_)<;>(try with_reducible (intro _;try first|contradiction|(exfalso;omega)))))
      refine q_F ⟨i + 1, by omega⟩ ?_ (by simp only; omega)
      ((simp only [go_sem,↓reduceIte,reduceCtorEq,Nat.reduceLeDiff,Nat.reduceLT,Nat.reduceBEq,Nat.reduceAdd])<;>(try (simp;done))<;>(try ((simp only [C.i.injEq,C.b.injEq,C.ints.injEq,C.bools.injEq,List.append_cancel_left_eq,List.cons.injEq,true_and,and_true]);(repeat' with_reducible apply And.intro)<;>(first|rfl|assumption|omega|(simp;omega)|(congr 1;omega)|(congr 2;omega)))))
    · have hi' : i = n := by omega
      subst hi'
      have hall := mixL_all R X i (by omega) (by omega)
      simp only [hall]
      repeat' (first|(with_reducible first|apply q_a|apply q_b|apply q_c|apply q_d|apply q_e|apply q_f|apply q_g|apply q_h|apply q_i|apply q_j|apply q_k|apply q_m|apply q_n|apply q_o|apply q_p|refine q_l (by decide) ?_)|((with_reducible first|refine q_q jtw_ok fun K hK=>?_|refine q_r jtw_ok q_D (by kernel_rfl) fun K hK=>?_);(simp (maxSteps:=2000000) only [go_sem,↓reduceIte,reduceCtorEq,Nat.reduceLeDiff,Nat.reduceLT,Nat.reduceBEq,Nat.reduceAdd,hlR]);(repeat1' (with_reducible first|apply And.intro|(intro _;try first|contradiction|(exfalso;omega))|(refine hK _ ?_;clear hK K)))<;>(try (clear hK K;first|omega|assumption|((simp (disch:=omega) only [q_H,q_I]);omega))))|((with_reducible refine q_s (by simp only [go_sem,↓reduceIte,reduceCtorEq,Nat.reduceBEq];rfl) ?_);(with_reducible first|apply q_J|apply q_K|refine q_L ?_ ?_|refine q_M ?_ ?_|refine q_N ?_ ?_|refine q_O ?_ ?_)<;>(try with_reducible (intro _;try first|contradiction|(exfalso;omega)))))
      exact endsO_own rfl rfl rfl rfl rfl rfl rfl
  · have hm := hs rfl
    have l1 := Nat.le_trans (dg_len_mono (B := 65536) (by omega) (Nat.sub_le m 1)) lm
    have l3 : (dg 65536 1).length ≤ 256 := Nat.le_trans (dg_len_le (B := 65536) (by omega) _ 1 (by decide)) (by omega)
    have hbl : (bs (m - 1)).length ≤ 1048576 := by rw [bs_bl]; exact Nat.le_trans (bl_dg l1) (by omega)
    simp only [if_true] at hlo hlX hbo
    (refine q_x Try.func98 rfl (Nat.le_of_ble_eq_true rfl) (fun F => ?_); simp only [q_z, q_y, Try.ntmps98, Try.results98])
    have hdec : decide (0 < ((dg 65536 m).length : Int)) = true := decide_eq_true (by omega)
    repeat' (first|(with_reducible first|apply q_a|apply q_b|apply q_c|apply q_d|apply q_e|apply q_f|apply q_g|apply q_h|apply q_i|apply q_j|apply q_k|apply q_m|apply q_n|apply q_o|apply q_p|refine q_l (by decide) ?_)|((with_reducible first|refine q_q jtw_ok fun K hK=>?_|refine q_r jtw_ok q_D (by kernel_rfl) fun K hK=>?_);(simp (maxSteps:=2000000) only [go_sem,↓reduceIte,reduceCtorEq,Nat.reduceLeDiff,Nat.reduceLT,Nat.reduceBEq,Nat.reduceAdd,hbo, toNat1m]);(repeat1' (with_reducible first|apply And.intro|(intro _;try first|contradiction|(exfalso;omega))|(refine hK _ ?_;clear hK K)))<;>(try (clear hK K;first|omega|assumption|((simp (disch:=omega) only [q_H,q_I]);omega))))|((with_reducible refine q_s (by simp only [go_sem,↓reduceIte,reduceCtorEq,Nat.reduceBEq];rfl) ?_);(with_reducible first|apply q_J|apply q_K|refine q_L ?_ ?_|refine q_M ?_ ?_|refine q_N ?_ ?_|refine q_O ?_ ?_)<;>(try with_reducible (intro _;try first|contradiction|(exfalso;omega)))))
    all_goals first | omega | skip
    generalize bits n (m - 1) = X at *
    refine q_G (ι := { i : Nat // i ≤ n }) (fun i => ⟨51, [(1, .c (.i .i64 (n : Int))), (2, .bx 0 0), (6, .own 2 0), (7, .c (.i .i64 (i.1 : Nat)))], ⟨[(0, [.c (.b true), .c (.ints .i64 (dg 65536 m))])], [(2, ⟨0, 4, 1, .bools (mixL R X i.1)⟩)], []⟩, 3⟩) (fun i => n - i.1) ⟨0, by omega⟩ ?_ ?_
    · simp only [mixL_zero]
      ((simp only [go_sem,↓reduceIte,reduceCtorEq,Nat.reduceLeDiff,Nat.reduceLT,Nat.reduceBEq,Nat.reduceAdd])<;>(try (simp;done))<;>(try ((simp only [C.i.injEq,C.b.injEq,C.ints.injEq,C.bools.injEq,List.append_cancel_left_eq,List.cons.injEq,true_and,and_true]);(repeat' with_reducible apply And.intro)<;>(first|rfl|assumption|omega|(simp;omega)|(congr 1;omega)|(congr 2;omega)))))
    rintro ⟨i, g1⟩
    simp only at g1 ⊢
    have hgl := mixL_len (rs := R) (xs := X) (i := i) (by rw [hlR, hlX]) (by omega)
    rw [hlX] at hgl
    rcases Nat.lt_or_ge i n with hi | hi
    · have hg := mixL_get (rs := R) (xs := X) (i := i) false (by rw [hlR, hlX]) (by omega)
      have hst := mixL_set (rs := R) (xs := X) (i := i) false (by rw [hlR, hlX]) (by omega) (X.getD i false != true) (by rw [← hlo]; exact (map_ne X i true (by omega)).symm)
      repeat' (first|(with_reducible first|apply q_a|apply q_b|apply q_c|apply q_d|apply q_e|apply q_f|apply q_g|apply q_h|apply q_i|apply q_j|apply q_k|apply q_m|apply q_n|apply q_o|apply q_p|refine q_l (by decide) ?_)|((with_reducible first|refine q_q jtw_ok fun K hK=>?_|refine q_r jtw_ok q_D (by kernel_rfl) fun K hK=>?_);(simp (maxSteps:=2000000) only [go_sem,↓reduceIte,reduceCtorEq,Nat.reduceLeDiff,Nat.reduceLT,Nat.reduceBEq,Nat.reduceAdd,hg, hgl, hdec, hst]);(repeat1' (with_reducible first|apply And.intro|(intro _;try first|contradiction|(exfalso;omega))|(refine hK _ ?_;clear hK K)))<;>(try (clear hK K;first|omega|assumption|((simp (disch:=omega) only [q_H,q_I]);omega))))|((with_reducible refine q_s (by simp only [go_sem,↓reduceIte,reduceCtorEq,Nat.reduceBEq];rfl) ?_);(with_reducible first|apply q_J|apply q_K|refine q_L ?_ ?_|refine q_M ?_ ?_|refine q_N ?_ ?_|refine q_O ?_ ?_)<;>(try with_reducible (intro _;try first|contradiction|(exfalso;omega)))))
      refine q_F ⟨i + 1, by omega⟩ ?_ (by simp only; omega)
      ((simp only [go_sem,↓reduceIte,reduceCtorEq,Nat.reduceLeDiff,Nat.reduceLT,Nat.reduceBEq,Nat.reduceAdd])<;>(try (simp;done))<;>(try ((simp only [C.i.injEq,C.b.injEq,C.ints.injEq,C.bools.injEq,List.append_cancel_left_eq,List.cons.injEq,true_and,and_true]);(repeat' with_reducible apply And.intro)<;>(first|rfl|assumption|omega|(simp;omega)|(congr 1;omega)|(congr 2;omega)))))
    · have hi' : i = n := by omega
      subst hi'
      have hall := mixL_all R X i (by omega) (by omega)
      simp only [hall]
      repeat' (first|(with_reducible first|apply q_a|apply q_b|apply q_c|apply q_d|apply q_e|apply q_f|apply q_g|apply q_h|apply q_i|apply q_j|apply q_k|apply q_m|apply q_n|apply q_o|apply q_p|refine q_l (by decide) ?_)|((with_reducible first|refine q_q jtw_ok fun K hK=>?_|refine q_r jtw_ok q_D (by kernel_rfl) fun K hK=>?_);(simp (maxSteps:=2000000) only [go_sem,↓reduceIte,reduceCtorEq,Nat.reduceLeDiff,Nat.reduceLT,Nat.reduceBEq,Nat.reduceAdd,hlR]);(repeat1' (with_reducible first|apply And.intro|(intro _;try first|contradiction|(exfalso;omega))|(refine hK _ ?_;clear hK K)))<;>(try (clear hK K;first|omega|assumption|((simp (disch:=omega) only [q_H,q_I]);omega))))|((with_reducible refine q_s (by simp only [go_sem,↓reduceIte,reduceCtorEq,Nat.reduceBEq];rfl) ?_);(with_reducible first|apply q_J|apply q_K|refine q_L ?_ ?_|refine q_M ?_ ?_|refine q_N ?_ ?_|refine q_O ?_ ?_)<;>(try with_reducible (intro _;try first|contradiction|(exfalso;omega)))))
      exact endsO_own rfl rfl rfl rfl rfl rfl rfl
def rtwosCT : CT := mkCTO [nR] 4 1 fun l K => match l with
  | [.inr [.b s, .ints .i64 ys], .inl (.i .i64 n)] => (InB 65536 ys ∧ Trd ys ∧ ys.length ≤ 65536 ∧ 0 ≤ n ∧ n ≤ 1048576 ∧ (s = true → sv 65536 s ys ≠ 0) ∧ FitK n.toNat (sv 65536 s ys)) ∧ K (.c (.bools (bits n.toNat (lo n.toNat (sv 65536 s ys)))))
  | _ => False
def jv2 : Cfg := addT 98 rtwosCT jv1
theorem jv2_ok : TblOk Try.prog jv2 := mkCTO_ok jv1_ok (q_C Try.func98 (by kernel_rfl) (by kernel_rfl)) rfl fun l K h => by
  split at h
  · rename_i s ys n
    obtain ⟨⟨h1, h2, h3, h4, h5, h6, h7⟩, h⟩ := h
    obtain ⟨e1, e2⟩ := sv_ys (s := s) h1 h2
    rw [e2] at h h6 h7
    obtain ⟨k, rfl⟩ : ∃ k : Nat, n = k := ⟨n.toNat, by omega⟩
    have := rtwos_own s (V 65536 ys) k (fun hs => by
      have := h6 hs
      rcases Nat.eq_zero_or_pos (V 65536 ys) with h0 | h0
      · rw [h0, sg_zero] at this; exact absurd rfl this
      · exact h0) (by rw [← e1]; exact h3) (by omega) (by simpa using h7)
    rw [← e1] at this
    exact ⟨_, this, by simpa using h⟩
  · exact h.elim
attribute [go_sem] rtwosCT

/-! ### operations on bits -/
def jbw : Cfg := listT [(80, smallCT), (48, onesCT), (98, rtwosCT), (69, binaryCT), (77, (rnumCT (fun _ _ => True) (· + ·)))] [27]
theorem jbw_ok : TblOk Try.prog jbw := listE_ok (by simp only [List.mem_singleton, forall_eq]; exact flt) ⟨⟨jv2, jv2_ok, rfl⟩, ⟨jt17, jt17_ok, rfl⟩, ⟨jv2, jv2_ok, rfl⟩, ⟨jv2, jv2_ok, rfl⟩, ⟨jv2, jv2_ok, rfl⟩, trivial⟩
attribute [go_sem] jbw
def bAnd (x y : Bool) : Bool := x && y
def bOr (x y : Bool) : Bool := x || y
def bXor (x y : Bool) : Bool := x != y
theorem bAnd_tb (a b i : Nat) : ((fun x y : Nat => x &&& y) a b).testBit i = bAnd (a.testBit i) (b.testBit i) := Nat.testBit_and ..
theorem bOr_tb (a b i : Nat) : ((fun x y : Nat => x ||| y) a b).testBit i = bOr (a.testBit i) (b.testBit i) := Nat.testBit_or ..
theorem bXor_tb (a b i : Nat) : ((fun x y : Nat => x ^^^ y) a b).testBit i = bXor (a.testBit i) (b.testBit i) := by
  show (a ^^^ b).testBit i = _
  rw [Nat.testBit_xor]; unfold bXor; cases a.testBit i <;> cases b.testBit i <;> rfl
set_option maxRecDepth 100000 in
set_option maxHeartbeats 3200000 in
theorem rbitAnd_ex (a b : Int) (la : (dg 65536 a.natAbs).length ≤ 256) (lb : (dg 65536 b.natAbs).length ≤ 256) :
    ∃ c, Ret Try.prog 60 false [.inr (gR a), .inr (gR b), .inl (.i .i64 0)] (.g (gRz (zop (fun x y => x &&& y) a b) c)) := by
  obtain ⟨k, hk⟩ : ∃ k, k = bl a.natAbs + bl b.natAbs + 1 := ⟨_, rfl⟩
  have f1 : FitK k a := (fitK_bl a).mono (by omega)
  have f2 : FitK k b := (fitK_bl b).mono (by omega)
  have g1 : FitK (k + 1) a := f1.mono (by omega)
  have g2 : FitK (k + 1) b := f2.mono (by omega)
  have hz := zop_fit andOp f1 f2
  have hlo := lo_zop andOp g1 g2
  have hR : List.zipWith bAnd (bits (k + 1) (lo (k + 1) a)) (bits (k + 1) (lo (k + 1) b)) = bits (k + 1) (lo (k + 1) (zop (fun x y => x &&& y) a b)) := by
    rw [bits_zip bAnd_tb, hlo]
  have hla : bl a.natAbs ≤ 65536 := Nat.le_trans (bl_dg la) (by omega)
  have hlb : bl b.natAbs ≤ 65536 := Nat.le_trans (bl_dg lb) (by omega)
  have hn : ((bs a.natAbs).length : Int) + ((bs b.natAbs).length : Int) + 2 = ((k + 1 : Nat) : Int) := by rw [bs_bl, bs_bl]; omega
  have hs1 : decide (a < 0) = true → a ≠ 0 := fun h => by have := of_decide_eq_true h; omega
  have hs2 : decide (b < 0) = true → b ≠ 0 := fun h => by have := of_decide_eq_true h; omega
  obtain ⟨s1, s2⟩ := sgn_lo hz
  have hr := lo_lt (k + 1) (zop (fun x y => x &&& y) a b)
  have hlX := bits_len (k + 1) (lo (k + 1) a)
  have hlY := bits_len (k + 1) (lo (k + 1) b)
  have hlR := bits_len (k + 1) (lo (k + 1) (zop (fun x y => x &&& y) a b))
  have hBR := B2_bits (k + 1) _ hr
  have htop := top_bit hr
  have hgt := bits_get (k + 1) (lo (k + 1) (zop (fun x y => x &&& y) a b)) k (by omega)
  have hsn : sgn k (lo (k + 1) (zop (fun x y => x &&& y) a b)) = (zop (fun x y => x &&& y) a b) := s1
  unfold sgn at hsn
  generalize (zop (fun x y => x &&& y) a b) = z at *
  generalize lo (k + 1) z = R at *
  by_cases hneg : z < 0
  · have htt : R.testBit k = true := by rw [htop]; exact decide_eq_true (s2.2 hneg)
    rw [if_pos (s2.2 hneg)] at hsn
    have hB2 : 2 ^ (k + 1) - (R + 1) + 1 = z.natAbs := by omega
    have e : gRz z true = [.b true, .ints .i64 (dg 65536 (2 ^ (k + 1) - (R + 1) + 1))] := by
      rw [hB2]; simp only [gRz, sgz_ne (show z ≠ 0 by omega), decide_eq_true hneg]
    have hfl := bits_flip (k + 1) R hr true
    rw [if_pos rfl] at hfl
    have hlR2 := bits_len (k + 1) (2 ^ (k + 1) - (R + 1))
    have hBR2 := B2_bits (k + 1) (2 ^ (k + 1) - (R + 1)) (by omega)
    have hlen2 : (dg 65536 (2 ^ (k + 1) - (R + 1))).length ≤ 200000 := Nat.le_trans (dg_len_two 65536 _ (by omega) (k + 1) (by omega)) (by omega)
    have l3 : (dg 65536 1).length ≤ 256 := Nat.le_trans (dg_len_le (B := 65536) (by omega) _ 1 (by decide)) (by omega)
    refine ⟨true, ?_⟩
    rw [e]
    (refine q_w Try.func60 rfl (Nat.le_of_ble_eq_true rfl) (fun F => ?_); simp only [q_z, q_y, Try.ntmps60, Try.results60])
    repeat' (first|(with_reducible first|apply q_a|apply q_b|apply q_c|apply q_d|apply q_e|apply q_f|apply q_g|apply q_h|apply q_i|apply q_j|apply q_k|apply q_m|apply q_n|apply q_o|apply q_p|refine q_l (by decide) ?_)|((with_reducible first|refine q_q jbw_ok fun K hK=>?_|refine q_r jbw_ok q_D (by kernel_rfl) fun K hK=>?_);(simp (maxSteps:=2000000) only [go_sem,↓reduceIte,reduceCtorEq,Nat.reduceLeDiff,Nat.reduceLT,Nat.reduceBEq,Nat.reduceAdd,hn]);(repeat1' (with_reducible first|apply And.intro|(intro _;try first|contradiction|(exfalso;omega))|(refine hK _ ?_;clear hK K)))<;>(try (clear hK K;first|omega|assumption|((simp (disch:=omega) only [q_H,q_I]);omega))))|((with_reducible refine q_s (by simp only [go_sem,↓reduceIte,reduceCtorEq,Nat.reduceBEq];rfl) ?_);(with_reducible first|apply q_J|apply q_K|refine q_L ?_ ?_|refine q_M ?_ ?_|refine q_N ?_ ?_|refine q_O ?_ ?_)<;>(try with_reducible (intro _;try first|contradiction|(exfalso;omega))))|with_reducible refine q_t (by simp only [go_sem,↓reduceIte,reduceCtorEq,Nat.reduceBEq,q_u,resO,q_v];rfl) ?_)
    all_goals first | assumption | omega | skip
    generalize hXX : bits (k + 1) (lo (k + 1) a) = X at *
    generalize hYY : bits (k + 1) (lo (k + 1) b) = Y at *
    generalize hRR : bits (k + 1) R = Rb at *
    refine q_G (ι := { i : Nat // i ≤ k + 1 }) (fun i => ⟨103, [(2, .c (.i .i64 0)), (6, .bx 2 0), (7, .c (.i .i64 ((k + 1 : Nat) : Int))), (8, .own 3 0), (9, .own 4 0), (10, .c (.i .i64 (i.1 : Nat)))], ⟨[(2, [.c (.b false), .c .nil])], [(4, ⟨0, 4, 1, .bools Y⟩), (3, ⟨0, 4, 1, .bools (mixL Rb X i.1)⟩)], []⟩, 5⟩) (fun i => k + 1 - i.1) ⟨0, by omega⟩ ?_ ?_
    · simp only [mixL_zero]
      ((simp only [go_sem,↓reduceIte,reduceCtorEq,Nat.reduceLeDiff,Nat.reduceLT,Nat.reduceBEq,Nat.reduceAdd])<;>(try (simp;done))<;>(try ((simp only [C.i.injEq,C.b.injEq,C.ints.injEq,C.bools.injEq,List.append_cancel_left_eq,List.cons.injEq,true_and,and_true]);(repeat' with_reducible apply And.intro)<;>(first|rfl|assumption|omega|(simp;omega)|(congr 1;omega)|(congr 2;omega)))))
    rintro ⟨i, p1⟩
    simp only at p1 ⊢
    have hgl := mixL_len (rs := Rb) (xs := X) (i := i) (by rw [hlR, hlX]) (by omega)
    rw [hlX] at hgl
    rcases Nat.lt_or_ge i (k + 1) with hi | hi
    · have hg := mixL_get (rs := Rb) (xs := X) (i := i) false (by rw [hlR, hlX]) (by omega)
      have hget : Rb.getD i false = bAnd (X.getD i false) (Y.getD i false) := by
        rw [← hR]
        simp [List.getD_eq_getElem?_getD, List.getElem?_zipWith, List.getElem?_eq_getElem (show i < X.length by omega), List.getElem?_eq_getElem (show i < Y.length by omega)]
      have hst := mixL_set (rs := Rb) (xs := X) (i := i) false (by rw [hlR, hlX]) (by omega) _ hget.symm
      cases hx : X.getD i false <;> cases hy : Y.getD i false
      all_goals
        rw [hx, hy] at hst
        simp only [bAnd, bOr, bXor, Bool.and_true, Bool.true_and, Bool.and_false, Bool.false_and, Bool.or_true, Bool.true_or, Bool.or_false, Bool.false_or] at hst
        repeat' (first|(with_reducible first|apply q_a|apply q_b|apply q_c|apply q_d|apply q_e|apply q_f|apply q_g|apply q_h|apply q_i|apply q_j|apply q_k|apply q_m|apply q_n|apply q_o|apply q_p|refine q_l (by decide) ?_)|((with_reducible first|refine q_q jbw_ok fun K hK=>?_|refine q_r jbw_ok q_D (by kernel_rfl) fun K hK=>?_);(simp (maxSteps:=2000000) only [go_sem,↓reduceIte,reduceCtorEq,Nat.reduceLeDiff,Nat.reduceLT,Nat.reduceBEq,Nat.reduceAdd,hg, hgl, hlY, hx, hy, hst]);(repeat1' (with_reducible first|apply And.intro|(intro _;try first|contradiction|(exfalso;omega))|(refine hK _ ?_;clear hK K)))<;>(try (clear hK K;first|omega|assumption|((simp (disch:=omega) only [q_H,q_I]);omega))))|((with_reducible refine q_s (by simp only [go_sem,↓reduceIte,reduceCtorEq,Nat.reduceBEq];rfl) ?_);(with_reducible first|apply q_J|apply q_K|refine q_L ?_ ?_|refine q_M ?_ ?_|refine q_N ?_ ?_|refine q_O ?_ ?_)<;>(try with_reducible (intro _;try first|contradiction|(exfalso;omega))))|with_reducible refine q_t (by simp only [go_sem,↓reduceIte,reduceCtorEq,Nat.reduceBEq,q_u,resO,q_v];rfl) ?_)
        all_goals first | omega | skip
        refine q_F ⟨i + 1, by omega⟩ ?_ (by simp only; omega)
        ((simp only [go_sem,↓reduceIte,reduceCtorEq,Nat.reduceLeDiff,Nat.reduceLT,Nat.reduceBEq,Nat.reduceAdd])<;>(try (simp;done))<;>(try ((simp only [C.i.injEq,C.b.injEq,C.ints.injEq,C.bools.injEq,List.append_cancel_left_eq,List.cons.injEq,true_and,and_true]);(repeat' with_reducible apply And.intro)<;>(first|rfl|assumption|omega|(simp;omega)|(congr 1;omega)|(congr 2;omega)))))
    · have hi' : i = k + 1 := by omega
      subst hi'
      have hall := mixL_all Rb X (k + 1) (by omega) (by omega)
      simp only [hall]
      have hi1 : ((k + 1 : Nat) : Int) - 1 = (k : Int) := by omega
      repeat' (first|(with_reducible first|apply q_a|apply q_b|apply q_c|apply q_d|apply q_e|apply q_f|apply q_g|apply q_h|apply q_i|apply q_j|apply q_k|apply q_m|apply q_n|apply q_o|apply q_p|refine q_l (by decide) ?_)|((with_reducible first|refine q_q jbw_ok fun K hK=>?_|refine q_r jbw_ok q_D (by kernel_rfl) fun K hK=>?_);(simp (maxSteps:=2000000) only [go_sem,↓reduceIte,reduceCtorEq,Nat.reduceLeDiff,Nat.reduceLT,Nat.reduceBEq,Nat.reduceAdd,hlR, hi1, hgt, htt]);(repeat1' (with_reducible first|apply And.intro|(intro _;try first|contradiction|(exfalso;omega))|(refine hK _ ?_;clear hK K)))<;>(try (clear hK K;first|omega|assumption|((simp (disch:=omega) only [q_H,q_I]);omega))))|((with_reducible refine q_s (by simp only [go_sem,↓reduceIte,reduceCtorEq,Nat.reduceBEq];rfl) ?_);(with_reducible first|apply q_J|apply q_K|refine q_L ?_ ?_|refine q_M ?_ ?_|refine q_N ?_ ?_|refine q_O ?_ ?_)<;>(try with_reducible (intro _;try first|contradiction|(exfalso;omega))))|with_reducible refine q_t (by simp only [go_sem,↓reduceIte,reduceCtorEq,Nat.reduceBEq,q_u,resO,q_v];rfl) ?_)
      all_goals first | omega | skip
      generalize hRR2 : bits (k + 1) (2 ^ (k + 1) - (R + 1)) = R2 at *
      refine q_G (ι := { i : Nat // i ≤ k + 1 }) (fun i => ⟨103, [(6, .bx 2 0), (7, .c (.i .i64 ((k + 1 : Nat) : Int))), (8, .own 3 0), (11, .c (.i .i64 (i.1 : Nat)))], ⟨[(2, [.c (.b false), .c .nil])], [(3, ⟨0, 4, 1, .bools (mixL R2 Rb i.1)⟩)], []⟩, 5⟩) (fun i => k + 1 - i.1) ⟨0, by omega⟩ ?_ ?_
      · simp only [mixL_zero]
        ((simp only [go_sem,↓reduceIte,reduceCtorEq,Nat.reduceLeDiff,Nat.reduceLT,Nat.reduceBEq,Nat.reduceAdd])<;>(try (simp;done))<;>(try ((simp only [C.i.injEq,C.b.injEq,C.ints.injEq,C.bools.injEq,List.append_cancel_left_eq,List.cons.injEq,true_and,and_true]);(repeat' with_reducible apply And.intro)<;>(first|rfl|assumption|omega|(simp;omega)|(congr 1;omega)|(congr 2;omega)))))
      rintro ⟨i, p1⟩
      simp only at p1 ⊢
      have hgl2 := mixL_len (rs := R2) (xs := Rb) (i := i) (by rw [hlR, hlR2]) (by omega)
      rw [hlR] at hgl2
      rcases Nat.lt_or_ge i (k + 1) with hi | hi
      · have hg2 := mixL_get (rs := R2) (xs := Rb) (i := i) false (by rw [hlR, hlR2]) (by omega)
        have hst2 := mixL_set (rs := R2) (xs := Rb) (i := i) false (by rw [hlR, hlR2]) (by omega) (!Rb.getD i false) (by rw [← hfl, map_ne Rb i true (by omega)]; simp)
        repeat' (first|(with_reducible first|apply q_a|apply q_b|apply q_c|apply q_d|apply q_e|apply q_f|apply q_g|apply q_h|apply q_i|apply q_j|apply q_k|apply q_m|apply q_n|apply q_o|apply q_p|refine q_l (by decide) ?_)|((with_reducible first|refine q_q jbw_ok fun K hK=>?_|refine q_r jbw_ok q_D (by kernel_rfl) fun K hK=>?_);(simp (maxSteps:=2000000) only [go_sem,↓reduceIte,reduceCtorEq,Nat.reduceLeDiff,Nat.reduceLT,Nat.reduceBEq,Nat.reduceAdd,hg2, hgl2, hst2]);(repeat1' (with_reducible first|apply And.intro|(intro _;try first|contradiction|(exfalso;omega))|(refine hK _ ?_;clear hK K)))<;>(try (clear hK K;first|omega|assumption|((simp (disch:=omega) only [q_H,q_I]);omega))))|((with_reducible refine q_s (by simp only [go_sem,↓reduceIte,reduceCtorEq,Nat.reduceBEq];rfl) ?_);(with_reducible first|apply q_J|apply q_K|refine q_L ?_ ?_|refine q_M ?_ ?_|refine q_N ?_ ?_|refine q_O ?_ ?_)<;>(try with_reducible (intro _;try first|contradiction|(exfalso;omega))))|with_reducible refine q_t (by simp only [go_sem,↓reduceIte,reduceCtorEq,Nat.reduceBEq,q_u,resO,q_v];rfl) ?_)
        all_goals first | omega | skip
        refine q_F ⟨i + 1, by omega⟩ ?_ (by simp only; omega)
        ((simp only [go_sem,↓reduceIte,reduceCtorEq,Nat.reduceLeDiff,Nat.reduceLT,Nat.reduceBEq,Nat.reduceAdd])<;>(try (simp;done))<;>(try ((simp only [C.i.injEq,C.b.injEq,C.ints.injEq,C.bools.injEq,List.append_cancel_left_eq,List.cons.injEq,true_and,and_true]);(repeat' with_reducible apply And.intro)<;>(first|rfl|assumption|omega|(simp;omega)|(congr 1;omega)|(congr 2;omega)))))
      · have hi' : i = k + 1 := by omega
        subst hi'
        have hall2 := mixL_all R2 Rb (k + 1) (by omega) (by omega)
        simp only [hall2]
        repeat' (first|(with_reducible first|apply q_a|apply q_b|apply q_c|apply q_d|apply q_e|apply q_f|apply q_g|apply q_h|apply q_i|apply q_j|apply q_k|apply q_m|apply q_n|apply q_o|apply q_p|refine q_l (by decide) ?_)|((with_reducible first|refine q_q jbw_ok fun K hK=>?_|refine q_r jbw_ok q_D (by kernel_rfl) fun K hK=>?_);(simp (maxSteps:=2000000) only [go_sem,↓reduceIte,reduceCtorEq,Nat.reduceLeDiff,Nat.reduceLT,Nat.reduceBEq,Nat.reduceAdd,hlR2, hBR2, toNat1m]);(repeat1' (with_reducible first|apply And.intro|(intro _;try first|contradiction|(exfalso;omega))|(refine hK _ ?_;clear hK K)))<;>(try (clear hK K;first|omega|assumption|((simp (disch:=omega) only [q_H,q_I]);omega))))|((with_reducible refine q_s (by simp only [go_sem,↓reduceIte,reduceCtorEq,Nat.reduceBEq];rfl) ?_);(with_reducible first|apply q_J|apply q_K|refine q_L ?_ ?_|refine q_M ?_ ?_|refine q_N ?_ ?_|refine q_O ?_ ?_)<;>(try with_reducible (intro _;try first|contradiction|(exfalso;omega))))|with_reducible refine q_t (by simp only [go_sem,↓reduceIte,reduceCtorEq,Nat.reduceBEq,q_u,resO,q_v];rfl) ?_)
        all_goals first | omega | exact q_A rfl | skip
  · have htf : R.testBit k = false := by rw [htop]; exact decide_eq_false (fun h => hneg (s2.1 h))
    rw [if_neg (fun h => hneg (s2.1 h))] at hsn
    have e : gRz z false = [.b false, .ints .i64 (dg 65536 R)] := by
      simp only [gRz, sgz_false, decide_eq_false hneg]
      rw [show z.natAbs = R by omega]
    refine ⟨false, ?_⟩
    rw [e]
    (refine q_w Try.func60 rfl (Nat.le_of_ble_eq_true rfl) (fun F => ?_); simp only [q_z, q_y, Try.ntmps60, Try.results60])
    repeat' (first|(with_reducible first|apply q_a|apply q_b|apply q_c|apply q_d|apply q_e|apply q_f|apply q_g|apply q_h|apply q_i|apply q_j|apply q_k|apply q_m|apply q_n|apply q_o|apply q_p|refine q_l (by decide) ?_)|((with_reducible first|refine q_q jbw_ok fun K hK=>?_|refine q_r jbw_ok q_D (by kernel_rfl) fun K hK=>?_);(simp (maxSteps:=2000000) only [go_sem,↓reduceIte,reduceCtorEq,Nat.reduceLeDiff,Nat.reduceLT,Nat.reduceBEq,Nat.reduceAdd,hn]);(repeat1' (with_reducible first|apply And.intro|(intro _;try first|contradiction|(exfalso;omega))|(refine hK _ ?_;clear hK K)))<;>(try (clear hK K;first|omega|assumption|((simp (disch:=omega) only [q_H,q_I]);omega))))|((with_reducible refine q_s (by simp only [go_sem,↓reduceIte,reduceCtorEq,Nat.reduceBEq];rfl) ?_);(with_reducible first|apply q_J|apply q_K|refine q_L ?_ ?_|refine q_M ?_ ?_|refine q_N ?_ ?_|refine q_O ?_ ?_)<;>(try with_reducible (intro _;try first|contradiction|(exfalso;omega))))|with_reducible refine q_t (by simp only [go_sem,↓reduceIte,reduceCtorEq,Nat.reduceBEq,q_u,resO,q_v];rfl) ?_)
    all_goals first | assumption | omega | skip
    generalize hXX : bits (k + 1) (lo (k + 1) a) = X at *
    generalize hYY : bits (k + 1) (lo (k + 1) b) = Y at *
    generalize hRR : bits (k + 1) R = Rb at *
    refine q_G (ι := { i : Nat // i ≤ k + 1 }) (fun i => ⟨103, [(2, .c (.i .i64 0)), (6, .bx 2 0), (7, .c (.i .i64 ((k + 1 : Nat) : Int))), (8, .own 3 0), (9, .own 4 0), (10, .c (.i .i64 (i.1 : Nat)))], ⟨[(2, [.c (.b false), .c .nil])], [(4, ⟨0, 4, 1, .bools Y⟩), (3, ⟨0, 4, 1, .bools (mixL Rb X i.1)⟩)], []⟩, 5⟩) (fun i => k + 1 - i.1) ⟨0, by omega⟩ ?_ ?_
    · simp only [mixL_zero]
      ((simp only [go_sem,↓reduceIte,reduceCtorEq,Nat.reduceLeDiff,Nat.reduceLT,Nat.reduceBEq,Nat.reduceAdd])<;>(try (simp;done))<;>(try ((simp only [C.i.injEq,C.b.injEq,C.ints.injEq,C.bools.injEq,List.append_cancel_left_eq,List.cons.injEq,true_and,and_true]);(repeat' with_reducible apply And.intro)<;>(first|rfl|assumption|omega|(simp;omega)|(congr 1;omega)|(congr 2;omega)))))
    rintro ⟨i, p1⟩
    simp only at p1 ⊢
    have hgl := mixL_len (rs := Rb) (xs := X) (i := i) (by rw [hlR, hlX]) (by omega)
    rw [hlX] at hgl
    rcases Nat.lt_or_ge i (k + 1) with hi | hi
    · have hg := mixL_get (rs := Rb) (xs := X) (i := i) false (by rw [hlR, hlX]) (by omega)
      have hget : Rb.getD i false = bAnd (X.getD i false) (Y.getD i false) := by
        rw [← hR]
        simp [List.getD_eq_getElem?_getD, List.getElem?_zipWith, List.getElem?_eq_getElem (show i < X.length by omega), List.getElem?_eq_getElem (show i < Y.length by omega)]
      have hst := mixL_set (rs := Rb) (xs := X) (i := i) false (by rw [hlR, hlX]) (by omega) _ hget.symm
      cases hx : X.getD i false <;> cases hy : Y.getD i false
      all_goals
        rw [hx, hy] at hst
        simp only [bAnd, bOr, bXor, Bool.and_true, Bool.true_and, Bool.and_false, Bool.false_and, Bool.or_true, Bool.true_or, Bool.or_false, Bool.false_or] at hst
        repeat' (first|(with_reducible first|apply q_a|apply q_b|apply q_c|apply q_d|apply q_e|apply q_f|apply q_g|apply q_h|apply q_i|apply q_j|apply q_k|apply q_m|apply q_n|apply q_o|apply q_p|refine q_l (by decide) ?_)|((with_reducible first|refine q_q jbw_ok fun K hK=>?_|refine q_r jbw_ok q_D (by kernel_rfl) fun K hK=>?_);(simp (maxSteps:=2000000) only [go_sem,↓reduceIte,reduceCtorEq,Nat.reduceLeDiff,Nat.reduceLT,Nat.reduceBEq,Nat.reduceAdd,hg, hgl, hlY, hx, hy, hst]);(repeat1' (with_reducible first|apply And.intro|(intro _;try first|contradiction|(exfalso;omega))|(refine hK _ ?_;clear hK K)))<;>(try (clear hK K;first|omega|assumption|((simp (disch:=omega) only [q_H,q_I]);omega))))|((with_reducible refine q_s (by simp only [go_sem,↓reduceIte,reduceCtorEq,Nat.reduceBEq];rfl) ?_);(with_reducible first|apply q_J|apply q_K|refine q_L ?_ ?_|refine q_M ?_ ?_|refine q_N ?_ ?_|refine q_O ?_ ?_)<;>(try with_reducible (intro _;try first|contradiction|(exfalso;omega))))|with_reducible refine q_t (by simp only [go_sem,↓reduceIte,reduceCtorEq,Nat.reduceBEq,q_u,resO,q_v];rfl) ?_)
        all_goals first | omega | skip
        refine q_F ⟨i + 1, by omega⟩ ?_ (by simp only; omega)
        ((simp only [go_sem,↓reduceIte,reduceCtorEq,Nat.reduceLeDiff,Nat.reduceLT,Nat.reduceBEq,Nat.reduceAdd])<;>(try (simp;done))<;>(try ((simp only [C.i.injEq,C.b.injEq,C.ints.injEq,C.bools.injEq,List.append_cancel_left_eq,List.cons.injEq,true_and,and_true]);(repeat' with_reducible apply And.intro)<;>(first|rfl|assumption|omega|(simp;omega)|(congr 1;omega)|(congr 2;omega)))))
    · have hi' : i = k + 1 := by omega
      subst hi'
      have hall := mixL_all Rb X (k + 1) (by omega) (by omega)
      simp only [hall]
      have hi1 : ((k + 1 : Nat) : Int) - 1 = (k : Int) := by omega
      repeat' (first|(with_reducible first|apply q_a|apply q_b|apply q_c|apply q_d|apply q_e|apply q_f|apply q_g|apply q_h|apply q_i|apply q_j|apply q_k|apply q_m|apply q_n|apply q_o|apply q_p|refine q_l (by decide) ?_)|((with_reducible first|refine q_q jbw_ok fun K hK=>?_|refine q_r jbw_ok q_D (by kernel_rfl) fun K hK=>?_);(simp (maxSteps:=2000000) only [go_sem,↓reduceIte,reduceCtorEq,Nat.reduceLeDiff,Nat.reduceLT,Nat.reduceBEq,Nat.reduceAdd,hlR, hi1, hgt, htf, hBR]);(repeat1' (with_reducible first|apply And.intro|(intro _;try first|contradiction|(exfalso;omega))|(refine hK _ ?_;clear hK K)))<;>(try (clear hK K;first|omega|assumption|((simp (disch:=omega) only [q_H,q_I]);omega))))|((with_reducible refine q_s (by simp only [go_sem,↓reduceIte,reduceCtorEq,Nat.reduceBEq];rfl) ?_);(with_reducible first|apply q_J|apply q_K|refine q_L ?_ ?_|refine q_M ?_ ?_|refine q_N ?_ ?_|refine q_O ?_ ?_)<;>(try with_reducible (intro _;try first|contradiction|(exfalso;omega))))|with_reducible refine q_t (by simp only [go_sem,↓reduceIte,reduceCtorEq,Nat.reduceBEq,q_u,resO,q_v];rfl) ?_)
      all_goals first | omega | exact q_A rfl | skip
set_option maxRecDepth 100000 in
set_option maxHeartbeats 3200000 in
theorem rbitOr_ex (a b : Int) (la : (dg 65536 a.natAbs).length ≤ 256) (lb : (dg 65536 b.natAbs).length ≤ 256) :
    ∃ c, Ret Try.prog 60 false [.inr (gR a), .inr (gR b), .inl (.i .i64 1)] (.g (gRz (zop (fun x y => x ||| y) a b) c)) := by
  obtain ⟨k, hk⟩ : ∃ k, k = bl a.natAbs + bl b.natAbs + 1 := ⟨_, rfl⟩
  have f1 : FitK k a := (fitK_bl a).mono (by omega)
  have f2 : FitK k b := (fitK_bl b).mono (by omega)
  have g1 : FitK (k + 1) a := f1.mono (by omega)
  have g2 : FitK (k + 1) b := f2.mono (by omega)
  have hz := zop_fit orOp f1 f2
  have hlo := lo_zop orOp g1 g2
  have hR : List.zipWith bOr (bits (k + 1) (lo (k + 1) a)) (bits (k + 1) (lo (k + 1) b)) = bits (k + 1) (lo (k + 1) (zop (fun x y => x ||| y) a b)) := by
    rw [bits_zip bOr_tb, hlo]
  have hla : bl a.natAbs ≤ 65536 := Nat.le_trans (bl_dg la) (by omega)
  have hlb : bl b.natAbs ≤ 65536 := Nat.le_trans (bl_dg lb) (by omega)
  have hn : ((bs a.natAbs).length : Int) + ((bs b.natAbs).length : Int) + 2 = ((k + 1 : Nat) : Int) := by rw [bs_bl, bs_bl]; omega
  have hs1 : decide (a < 0) = true → a ≠ 0 := fun h => by have := of_decide_eq_true h; omega
  have hs2 : decide (b < 0) = true → b ≠ 0 := fun h => by have := of_decide_eq_true h; omega
  obtain ⟨s1, s2⟩ := sgn_lo hz
  have hr := lo_lt (k + 1) (zop (fun x y => x ||| y) a b)
  have hlX := bits_len (k + 1) (lo (k + 1) a)
  have hlY := bits_len (k + 1) (lo (k + 1) b)
  have hlR := bits_len (k + 1) (lo (k + 1) (zop (fun x y => x ||| y) a b))
  have hBR := B2_bits (k + 1) _ hr
  have htop := top_bit hr
  have hgt := bits_get (k + 1) (lo (k + 1) (zop (fun x y => x ||| y) a b)) k (by omega)
  have hsn : sgn k (lo (k + 1) (zop (fun x y => x ||| y) a b)) = (zop (fun x y => x ||| y) a b) := s1
  unfold sgn at hsn
  generalize (zop (fun x y => x ||| y) a b) = z at *
  generalize lo (k + 1) z = R at *
  by_cases hneg : z < 0
  · have htt : R.testBit k = true := by rw [htop]; exact decide_eq_true (s2.2 hneg)
    rw [if_pos (s2.2 hneg)] at hsn
    have hB2 : 2 ^ (k + 1) - (R + 1) + 1 = z.natAbs := by omega
    have e : gRz z true = [.b true, .ints .i64 (dg 65536 (2 ^ (k + 1) - (R + 1) + 1))] := by
      rw [hB2]; simp only [gRz, sgz_ne (show z ≠ 0 by omega), decide_eq_true hneg]
    have hfl := bits_flip (k + 1) R hr true
    rw [if_pos rfl] at hfl
    have hlR2 := bits_len (k + 1) (2 ^ (k + 1) - (R + 1))
    have hBR2 := B2_bits (k + 1) (2 ^ (k + 1) - (R + 1)) (by omega)
    have hlen2 : (dg 65536 (2 ^ (k + 1) - (R + 1))).length ≤ 200000 := Nat.le_trans (dg_len_two 65536 _ (by omega) (k + 1) (by omega)) (by omega)
    have l3 : (dg 65536 1).length ≤ 256 := Nat.le_trans (dg_len_le (B := 65536) (by omega) _ 1 (by decide)) (by omega)
    refine ⟨true, ?_⟩
    rw [e]
    (refine q_w Try.func60 rfl (Nat.le_of_ble_eq_true rfl) (fun F => ?_); simp only [q_z, q_y, Try.ntmps60, Try.results60])
    repeat' (first|(with_reducible first|apply q_a|apply q_b|apply q_c|apply q_d|apply q_e|apply q_f|apply q_g|apply q_h|apply q_i|apply q_j|apply q_k|apply q_m|apply q_n|apply q_o|apply q_p|refine q_l (by decide) ?_)|((with_reducible first|refine q_q jbw_ok fun K hK=>?_|refine q_r jbw_ok q_D (by kernel_rfl) fun K hK=>?_);(simp (maxSteps:=2000000) only [go_sem,↓reduceIte,reduceCtorEq,Nat.reduceLeDiff,Nat.reduceLT,Nat.reduceBEq,Nat.reduceAdd,hn]);(repeat1' (with_reducible first|apply And.intro|(intro _;try first|contradiction|(exfalso;omega))|(refine hK _ ?_;clear hK K)))<;>(try (clear hK K;first|omega|assumption|((simp (disch:=omega) only [q_H,q_I]);omega))))|((with_reducible refine q_s (by simp only [go_sem,↓reduceIte,reduceCtorEq,Nat.reduceBEq];rfl) ?_);(with_reducible first|apply q_J|apply q_K|refine q_L ?_ ?_|refine q_M ?_ ?_|refine q_N ?_ ?_|refine q_O ?_ ?_)<;>(try with_reducible (intro _;try first|contradiction|(exfalso;omega))))|with_reducible refine q_t (by simp only [go_sem,↓reduceIte,reduceCtorEq,Nat.reduceBEq,q_u,resO,q_v];rfl) ?_)
    all_goals first | assumption | omega | skip
    generalize hXX : bits (k + 1) (lo (k + 1) a) = X at *
    generalize hYY : bits (k + 1) (lo (k + 1) b) = Y at *
    generalize hRR : bits (k + 1) R = Rb at *
    refine q_G (ι := { i : Nat // i ≤ k + 1 }) (fun i => ⟨103, [(2, .c (.i .i64 1)), (6, .bx 2 0), (7, .c (.i .i64 ((k + 1 : Nat) : Int))), (8, .own 3 0), (9, .own 4 0), (10, .c (.i .i64 (i.1 : Nat)))], ⟨[(2, [.c (.b false), .c .nil])], [(4, ⟨0, 4, 1, .bools Y⟩), (3, ⟨0, 4, 1, .bools (mixL Rb X i.1)⟩)], []⟩, 5⟩) (fun i => k + 1 - i.1) ⟨0, by omega⟩ ?_ ?_
    · simp only [mixL_zero]
      ((simp only [go_sem,↓reduceIte,reduceCtorEq,Nat.reduceLeDiff,Nat.reduceLT,Nat.reduceBEq,Nat.reduceAdd])<;>(try (simp;done))<;>(try ((simp only [C.i.injEq,C.b.injEq,C.ints.injEq,C.bools.injEq,List.append_cancel_left_eq,List.cons.injEq,true_and,and_true]);(repeat' with_reducible apply And.intro)<;>(first|rfl|assumption|omega|(simp;omega)|(congr 1;omega)|(congr 2;omega)))))
    rintro ⟨i, p1⟩
    simp only at p1 ⊢
    have hgl := mixL_len (rs := Rb) (xs := X) (i := i) (by rw [hlR, hlX]) (by omega)
    rw [hlX] at hgl
    rcases Nat.lt_or_ge i (k + 1) with hi | hi
    · have hg := mixL_get (rs := Rb) (xs := X) (i := i) false (by rw [hlR, hlX]) (by omega)
      have hget : Rb.getD i false = bOr (X.getD i false) (Y.getD i false) := by
        rw [← hR]
        simp [List.getD_eq_getElem?_getD, List.getElem?_zipWith, List.getElem?_eq_getElem (show i < X.length by omega), List.getElem?_eq_getElem (show i < Y.length by omega)]
      have hst := mixL_set (rs := Rb) (xs := X) (i := i) false (by rw [hlR, hlX]) (by omega) _ hget.symm
      cases hx : X.getD i false <;> cases hy : Y.getD i false
      all_goals
        rw [hx, hy] at hst
        simp only [bAnd, bOr, bXor, Bool.and_true, Bool.true_and, Bool.and_false, Bool.false_and, Bool.or_true, Bool.true_or, Bool.or_false, Bool.false_or] at hst
        repeat' (first|(with_reducible first|apply q_a|apply q_b|apply q_c|apply q_d|apply q_e|apply q_f|apply q_g|apply q_h|apply q_i|apply q_j|apply q_k|apply q_m|apply q_n|apply q_o|apply q_p|refine q_l (by decide) ?_)|((with_reducible first|refine q_q jbw_ok fun K hK=>?_|refine q_r jbw_ok q_D (by kernel_rfl) fun K hK=>?_);(simp (maxSteps:=2000000) only [go_sem,↓reduceIte,reduceCtorEq,Nat.reduceLeDiff,Nat.reduceLT,Nat.reduceBEq,Nat.reduceAdd,hg, hgl, hlY, hx, hy, hst]);(repeat1' (with_reducible first|apply And.intro|(intro _;try first|contradiction|(exfalso;omega))|(refine hK _ ?_;clear hK K)))<;>(try (clear hK K;first|omega|assumption|((simp (disch:=omega) only [q_H,q_I]);omega))))|((with_reducible refine q_s (by simp only [go_sem,↓reduceIte,reduceCtorEq,Nat.reduceBEq];rfl) ?_);(with_reducible first|apply q_J|apply q_K|refine q_L ?_ ?_|refine q_M ?_ ?_|refine q_N ?_ ?_|refine q_O ?_ ?_)<;>(try with_reducible (intro _;try first|contradiction|(exfalso;omega))))|with_reducible refine q_t (by simp only [go_sem,↓reduceIte,reduceCtorEq,Nat.reduceBEq,q_u,resO,q_v];rfl) ?_)
        all_goals first | omega | skip
        refine q_F ⟨i + 1, by omega⟩ ?_ (by simp only; omega)
        ((simp only [go_sem,↓reduceIte,reduceCtorEq,Nat.reduceLeDiff,Nat.reduceLT,Nat.reduceBEq,Nat.reduceAdd])<;>(try (simp;done))<;>(try ((simp only [C.i.injEq,C.b.injEq,C.ints.injEq,C.bools.injEq,List.append_cancel_left_eq,List.cons.injEq,true_and,and_true]);(repeat' with_reducible apply And.intro)<;>(first|rfl|assumption|omega|(simp;omega)|(congr 1;omega)|(congr 2;omega)))))
    · have hi' : i = k + 1 := by omega
      subst hi'
      have hall := mixL_all Rb X (k + 1) (by omega) (by omega)
      simp only [hall]
      have hi1 : ((k + 1 : Nat) : Int) - 1 = (k : Int) := by omega
      repeat' (first|(with_reducible first|apply q_a|apply q_b|apply q_c|apply q_d|apply q_e|apply q_f|apply q_g|apply q_h|apply q_i|apply q_j|apply q_k|apply q_m|apply q_n|apply q_o|apply q_p|refine q_l (by decide) ?_)|((with_reducible first|refine q_q jbw_ok fun K hK=>?_|refine q_r jbw_ok q_D (by kernel_rfl) fun K hK=>?_);(simp (maxSteps:=2000000) only [go_sem,↓reduceIte,reduceCtorEq,Nat.reduceLeDiff,Nat.reduceLT,Nat.reduceBEq,Nat.reduceAdd,hlR, hi1, hgt, htt]);(repeat1' (with_reducible first|apply And.intro|(intro _;try first|contradiction|(exfalso;omega))|(refine hK _ ?_;clear hK K)))<;>(try (clear hK K;first|omega|assumption|((simp (disch:=omega) only [q_H,q_I]);omega))))|((with_reducible refine q_s (by simp only [go_sem,↓reduceIte,reduceCtorEq,Nat.reduceBEq];rfl) ?_);(with_reducible first|apply q_J|apply q_K|refine q_L ?_ ?_|refine q_M ?_ ?_|refine q_N ?_ ?_|refine q_O ?_ ?_)<;>(try with_reducible (intro _;try first|contradiction|(exfalso;omega))))|with_reducible refine q_t (by simp only [go_sem,↓reduceIte,reduceCtorEq,Nat.reduceBEq,q_u,resO,q_v];rfl) ?_)
      all_goals first | omega | skip
      generalize hRR2 : bits (k + 1) (2 ^ (k + 1) - (R + 1)) = R2 at *
      refine q_G (ι := { i : Nat // i ≤ k + 1 }) (fun i => ⟨103, [(6, .bx 2 0), (7, .c (.i .i64 ((k + 1 : Nat) : Int))), (8, .own 3 0), (11, .c (.i .i64 (i.1 : Nat)))], ⟨[(2, [.c (.b false), .c .nil])], [(3, ⟨0, 4, 1, .bools (mixL R2 Rb i.1)⟩)], []⟩, 5⟩) (fun i => k + 1 - i.1) ⟨0, by omega⟩ ?_ ?_
      · simp only [mixL_zero]
        ((simp only [go_sem,↓reduceIte,reduceCtorEq,Nat.reduceLeDiff,Nat.reduceLT,Nat.reduceBEq,Nat.reduceAdd])<;>(try (simp;done))<;>(try ((simp only [C.i.injEq,C.b.injEq,C.ints.injEq,C.bools.injEq,List.append_cancel_left_eq,List.cons.injEq,true_and,and_true]);(repeat' with_reducible apply And.intro)<;>(first|rfl|assumption|omega|(simp;omega)|(congr 1;omega)|(congr 2;omega)))))
      rintro ⟨i, p1⟩
      simp only at p1 ⊢
      have hgl2 := mixL_len (rs := R2) (xs := Rb) (i := i) (by rw [hlR, hlR2]) (by omega)
      rw [hlR] at hgl2
      rcases Nat.lt_or_ge i (k + 1) with hi | hi
      · have hg2 := mixL_get (rs := R2) (xs := Rb) (i := i) false (by rw [hlR, hlR2]) (by omega)
        have hst2 := mixL_set (rs := R2) (xs := Rb) (i := i) false (by rw [hlR, hlR2]) (by omega) (!Rb.getD i false) (by rw [← hfl, map_ne Rb i true (by omega)]; simp)
        repeat' (first|(with_reducible first|apply q_a|apply q_b|apply q_c|apply q_d|apply q_e|apply q_f|apply q_g|apply q_h|apply q_i|apply q_j|apply q_k|apply q_m|apply q_n|apply q_o|apply q_p|refine q_l (by decide) ?_)|((with_reducible first|refine q_q jbw_ok fun K hK=>?_|refine q_r jbw_ok q_D (by kernel_rfl) fun K hK=>?_);(simp (maxSteps:=2000000) only [go_sem,↓reduceIte,reduceCtorEq,Nat.reduceLeDiff,Nat.reduceLT,Nat.reduceBEq,Nat.reduceAdd,hg2, hgl2, hst2]);(repeat1' (with_reducible first|apply And.intro|(intro _;try first|contradiction|(exfalso;omega))|(refine hK _ ?_;clear hK K)))<;>(try (clear hK K;first|omega|assumption|((simp (disch:=omega) only [q_H,q_I]);omega))))|((with_reducible refine q_s (by simp only [go_sem,↓reduceIte,reduceCtorEq,Nat.reduceBEq];rfl) ?_);(with_reducible first|apply q_J|apply q_K|refine q_L ?_ ?_|refine q_M ?_ ?_|refine q_N ?_ ?_|refine q_O ?_ ?_)<;>(try with_reducible (intro _;try first|contradiction|(exfalso;omega))))|with_reducible refine q_t (by simp only [go_sem,↓reduceIte,reduceCtorEq,Nat.reduceBEq,q_u,resO,q_v];rfl) ?_)
        all_goals first | omega | skip
        refine q_F ⟨i + 1, by omega⟩ ?_ (by simp only; omega)
        ((simp only [go_sem,↓reduceIte,reduceCtorEq,Nat.reduceLeDiff,Nat.reduceLT,Nat.reduceBEq,Nat.reduceAdd])<;>(try (simp;done))<;>(try ((simp only [C.i.injEq,C.b.injEq,C.ints.injEq,C.bools.injEq,List.append_cancel_left_eq,List.cons.injEq,true_and,and_true]);(repeat' with_reducible apply And.intro)<;>(first|rfl|assumption|omega|(simp;omega)|(congr 1;omega)|(congr 2;omega)))))
      · have hi' : i = k + 1 := by omega
        subst hi'
        have hall2 := mixL_all R2 Rb (k + 1) (by omega) (by omega)
        simp only [hall2]
        repeat' (first|(with_reducible first|apply q_a|apply q_b|apply q_c|apply q_d|apply q_e|apply q_f|apply q_g|apply q_h|apply q_i|apply q_j|apply q_k|apply q_m|apply q_n|apply q_o|apply q_p|refine q_l (by decide) ?_)|((with_reducible first|refine q_q jbw_ok fun K hK=>?_|refine q_r jbw_ok q_D (by kernel_rfl) fun K hK=>?_);(simp (maxSteps:=2000000) only [go_sem,↓reduceIte,reduceCtorEq,Nat.reduceLeDiff,Nat.reduceLT,Nat.reduceBEq,Nat.reduceAdd,hlR2, hBR2, toNat1m]);(repeat1' (with_reducible first|apply And.intro|(intro _;try first|contradiction|(exfalso;omega))|(refine hK _ ?_;clear hK K)))<;>(try (clear hK K;first|omega|assumption|((simp (disch:=omega) only [q_H,q_I]);omega))))|((with_reducible refine q_s (by simp only [go_sem,↓reduceIte,reduceCtorEq,Nat.reduceBEq];rfl) ?_);(with_reducible first|apply q_J|apply q_K|refine q_L ?_ ?_|refine q_M ?_ ?_|refine q_N ?_ ?_|refine q_O ?_ ?_)<;>(try with_reducible (intro _;try first|contradiction|(exfalso;omega))))|with_reducible refine q_t (by simp only [go_sem,↓reduceIte,reduceCtorEq,Nat.reduceBEq,q_u,resO,q_v];rfl) ?_)
        all_goals first | omega | exact q_A rfl | skip
  · have htf : R.testBit k = false := by rw [htop]; exact decide_eq_false (fun h => hneg (s2.1 h))
    rw [if_neg (fun h => hneg (s2.1 h))] at hsn
    have e : gRz z false = [.b false, .ints .i64 (dg 65536 R)] := by
      simp only [gRz, sgz_false, decide_eq_false hneg]
      rw [show z.natAbs = R by omega]
    refine ⟨false, ?_⟩
    rw [e]
    (refine q_w Try.func60 rfl (Nat.le_of_ble_eq_true rfl) (fun F => ?_); simp only [q_z, q_y, Try.ntmps60, Try.results60])
    repeat' (first|(with_reducible first|apply q_a|apply q_b|apply q_c|apply q_d|apply q_e|apply q_f|apply q_g|apply q_h|apply q_i|apply q_j|apply q_k|apply q_m|apply q_n|apply q_o|apply q_p|refine q_l (by decide) ?_)|((with_reducible first|refine q_q jbw_ok fun K hK=>?_|refine q_r jbw_ok q_D (by kernel_rfl) fun K hK=>?_);(simp (maxSteps:=2000000) only [go_sem,↓reduceIte,reduceCtorEq,Nat.reduceLeDiff,Nat.reduceLT,Nat.reduceBEq,Nat.reduceAdd,hn]);(repeat1' (with_reducible first|apply And.intro|(intro _;try first|contradiction|(exfalso;omega))|(refine hK _ ?_;clear hK K)))<;>(try (clear hK K;first|omega|assumption|((simp (disch:=omega) only [q_H,q_I]);omega))))|((with_reducible refine q_s (by simp only [go_sem,↓reduceIte,reduceCtorEq,Nat.reduceBEq];rfl) ?_);(with_reducible first|apply q_J|apply q_K|refine q_L ?_ ?_|refine q_M ?_ ?_|refine q_N ?_ ?_|refine q_O ?_ ?_)<;>(try with_reducible (intro _;try first|contradiction|(exfalso;omega))))|with_reducible refine q_t (by simp only [go_sem,↓reduceIte,reduceCtorEq,Nat.reduceBEq,q_u,resO,q_v];rfl) ?_)
    all_goals first | assumption | omega | skip
    generalize hXX : bits (k + 1) (lo (k + 1) a) = X at *
    generalize hYY : bits (k + 1) (lo (k + 1) b) = Y at *
    generalize hRR : bits (k + 1) R = Rb at *
    refine q_G (ι := { i : Nat // i ≤ k + 1 }) (fun i => ⟨103, [(2, .c (.i .i64 1)), (6, .bx 2 0), (7, .c (.i .i64 ((k + 1 : Nat) : Int))), (8, .own 3 0), (9, .own 4 0), (10, .c (.i .i64 (i.1 : Nat)))], ⟨[(2, [.c (.b false), .c .nil])], [(4, ⟨0, 4, 1, .bools Y⟩), (3, ⟨0, 4, 1, .bools (mixL Rb X i.1)⟩)], []⟩, 5⟩) (fun i => k + 1 - i.1) ⟨0, by omega⟩ ?_ ?_
    · simp only [mixL_zero]
      ((simp only [go_sem,↓reduceIte,reduceCtorEq,Nat.reduceLeDiff,Nat.reduceLT,Nat.reduceBEq,Nat.reduceAdd])<;>(try (simp;done))<;>(try ((simp only [C.i.injEq,C.b.injEq,C.ints.injEq,C.bools.injEq,List.append_cancel_left_eq,List.cons.injEq,true_and,and_true]);(repeat' with_reducible apply And.intro)<;>(first|rfl|assumption|omega|(simp;omega)|(congr 1;omega)|(congr 2;omega)))))
    rintro ⟨i, p1⟩
    simp only at p1 ⊢
    have hgl := mixL_len (rs := Rb) (xs := X) (i := i) (by rw [hlR, hlX]) (by omega)
    rw [hlX] at hgl
    rcases Nat.lt_or_ge i (k + 1) with hi | hi
    · have hg := mixL_get (rs := Rb) (xs := X) (i := i) false (by rw [hlR, hlX]) (by omega)
      have hget : Rb.getD i false = bOr (X.getD i false) (Y.getD i false) := by
        rw [← hR]
        simp [List.getD_eq_getElem?_getD, List.getElem?_zipWith, List.getElem?_eq_getElem (show i < X.length by omega), List.getElem?_eq_getElem (show i < Y.length by omega)]
      have hst := mixL_set (rs := Rb) (xs := X) (i := i) false (by rw [hlR, hlX]) (by omega) _ hget.symm
      cases hx : X.getD i false <;> cases hy : Y.getD i false
      all_goals
        rw [hx, hy] at hst
        simp only [bAnd, bOr, bXor, Bool.and_true, Bool.true_and, Bool.and_false, Bool.false_and, Bool.or_true, Bool.true_or, Bool.or_false, Bool.false_or] at hst
        repeat' (first|(with_reducible first|apply q_a|apply q_b|apply q_c|apply q_d|apply q_e|apply q_f|apply q_g|apply q_h|apply q_i|apply q_j|apply q_k|apply q_m|apply q_n|apply q_o|apply q_p|refine q_l (by decide) ?_)|((with_reducible first|refine q_q jbw_ok fun K hK=>?_|refine q_r jbw_ok q_D (by kernel_rfl) fun K hK=>?_);(simp (maxSteps:=2000000) only [go_sem,↓reduceIte,reduceCtorEq,Nat.reduceLeDiff,Nat.reduceLT,Nat.reduceBEq,Nat.reduceAdd,hg, hgl, hlY, hx, hy, hst]);(repeat1' (with_reducible first|apply And.intro|(intro _;try first|contradiction|(exfalso;omega))|(refine hK _ ?_;clear hK K)))<;>(try (clear hK K;first|omega|assumption|((simp (disch:=omega) only [q_H,q_I]);omega))))|((with_reducible refine q_s (by simp only [go_sem,↓reduceIte,reduceCtorEq,Nat.reduceBEq];rfl) ?_);(with_reducible first|apply q_J|apply q_K|refine q_L ?_ ?_|refine q_M ?_ ?_|refine q_N ?_ ?_|refine q_O ?_ ?_)<;>(try with_reducible (intro _;try first|contradiction|(exfalso;omega))))|with_reducible refine q_t (by simp only [go_sem,↓reduceIte,reduceCtorEq,Nat.reduceBEq,q_u,resO,q_v];rfl) ?_)
        all_goals first | omega | skip
        refine q_F ⟨i + 1, by omega⟩ ?_ (by simp only; omega)
        ((simp only [go_sem,↓reduceIte,reduceCtorEq,Nat.reduceLeDiff,Nat.reduceLT,Nat.reduceBEq,Nat.reduceAdd])<;>(try (simp;done))<;>(try ((simp only [C.i.injEq,C.b.injEq,C.ints.injEq,C.bools.injEq,List.append_cancel_left_eq,List.cons.injEq,true_and,and_true]);(repeat' with_reducible apply And.intro)<;>(first|rfl|assumption|omega|(simp;omega)|(congr 1;omega)|(congr 2;omega)))))
    · have hi' : i = k + 1 := by omega
      subst hi'
      have hall := mixL_all Rb X (k + 1) (by omega) (by omega)
      simp only [hall]
      have hi1 : ((k + 1 : Nat) : Int) - 1 = (k : Int) := by omega
      repeat' (first|(with_reducible first|apply q_a|apply q_b|apply q_c|apply q_d|apply q_e|apply q_f|apply q_g|apply q_h|apply q_i|apply q_j|apply q_k|apply q_m|apply q_n|apply q_o|apply q_p|refine q_l (by decide) ?_)|((with_reducible first|refine q_q jbw_ok fun K hK=>?_|refine q_r jbw_ok q_D (by kernel_rfl) fun K hK=>?_);(simp (maxSteps:=2000000) only [go_sem,↓reduceIte,reduceCtorEq,Nat.reduceLeDiff,Nat.reduceLT,Nat.reduceBEq,Nat.reduceAdd,hlR, hi1, hgt, htf, hBR]);(repeat1' (with_reducible first|apply And.intro|(intro _;try first|contradiction|(exfalso;omega))|(refine hK _ ?_;clear hK K)))<;>(try (clear hK K;first|omega|assumption|((simp (disch:=omega) only [q_H,q_I]);omega))))|((with_reducible refine q_s (by simp only [go_sem,↓reduceIte,reduceCtorEq,Nat.reduceBEq];rfl) ?_);(with_reducible first|apply q_J|apply q_K|refine q_L ?_ ?_|refine q_M ?_ ?_|refine q_N ?_ ?_|refine q_O ?_ ?_)<;>(try with_reducible (intro _;try first|contradiction|(exfalso;omega))))|with_reducible refine q_t (by simp only [go_sem,↓reduceIte,reduceCtorEq,Nat.reduceBEq,q_u,resO,q_v];rfl) ?_)
      all_goals first | omega | exact q_A rfl | skip
set_option maxRecDepth 100000 in
set_option maxHeartbeats 3200000 in
theorem rbitXor_ex (a b : Int) (la : (dg 65536 a.natAbs).length ≤ 256) (lb : (dg 65536 b.natAbs).length ≤ 256) :
    ∃ c, Ret Try.prog 60 false [.inr (gR a), .inr (gR b), .inl (.i .i64 2)] (.g (gRz (zop (fun x y => x ^^^ y) a b) c)) := by
  obtain ⟨k, hk⟩ : ∃ k, k = bl a.natAbs + bl b.natAbs + 1 := ⟨_, rfl⟩
  have f1 : FitK k a := (fitK_bl a).mono (by omega)
  have f2 : FitK k b := (fitK_bl b).mono (by omega)
  have g1 : FitK (k + 1) a := f1.mono (by omega)
  have g2 : FitK (k + 1) b := f2.mono (by omega)
  have hz := zop_fit xorOp f1 f2
  have hlo := lo_zop xorOp g1 g2
  have hR : List.zipWith bXor (bits (k + 1) (lo (k + 1) a)) (bits (k + 1) (lo (k + 1) b)) = bits (k + 1) (lo (k + 1) (zop (fun x y => x ^^^ y) a b)) := by
    rw [bits_zip bXor_tb, hlo]
  have hla : bl a.natAbs ≤ 65536 := Nat.le_trans (bl_dg la) (by omega)
  have hlb : bl b.natAbs ≤ 65536 := Nat.le_trans (bl_dg lb) (by omega)
  have hn : ((bs a.natAbs).length : Int) + ((bs b.natAbs).length : Int) + 2 = ((k + 1 : Nat) : Int) := by rw [bs_bl, bs_bl]; omega
  have hs1 : decide (a < 0) = true → a ≠ 0 := fun h => by have := of_decide_eq_true h; omega
  have hs2 : decide (b < 0) = true → b ≠ 0 := fun h => by have := of_decide_eq_true h; omega
  obtain ⟨s1, s2⟩ := sgn_lo hz
  have hr := lo_lt (k + 1) (zop (fun x y => x ^^^ y) a b)
  have hlX := bits_len (k + 1) (lo (k + 1) a)
  have hlY := bits_len (k + 1) (lo (k + 1) b)
  have hlR := bits_len (k + 1) (lo (k + 1) (zop (fun x y => x ^^^ y) a b))
  have hBR := B2_bits (k + 1) _ hr
  have htop := top_bit hr
  have hgt := bits_get (k + 1) (lo (k + 1) (zop (fun x y => x ^^^ y) a b)) k (by omega)
  have hsn : sgn k (lo (k + 1) (zop (fun x y => x ^^^ y) a b)) = (zop (fun x y => x ^^^ y) a b) := s1
  unfold sgn at hsn
  generalize (zop (fun x y => x ^^^ y) a b) = z at *
  generalize lo (k + 1) z = R at *
  by_cases hneg : z < 0
  · have htt : R.testBit k = true := by rw [htop]; exact decide_eq_true (s2.2 hneg)
    rw [if_pos (s2.2 hneg)] at hsn
    have hB2 : 2 ^ (k + 1) - (R + 1) + 1 = z.natAbs := by omega
    have e : gRz z true = [.b true, .ints .i64 (dg 65536 (2 ^ (k + 1) - (R + 1) + 1))] := by
      rw [hB2]; simp only [gRz, sgz_ne (show z ≠ 0 by omega), decide_eq_true hneg]
    have hfl := bits_flip (k + 1) R hr true
    rw [if_pos rfl] at hfl
    have hlR2 := bits_len (k + 1) (2 ^ (k + 1) - (R + 1))
    have hBR2 := B2_bits (k + 1) (2 ^ (k + 1) - (R + 1)) (by omega)
    have hlen2 : (dg 65536 (2 ^ (k + 1) - (R + 1))).length ≤ 200000 := Nat.le_trans (dg_len_two 65536 _ (by omega) (k + 1) (by omega)) (by omega)
    have l3 : (dg 65536 1).length ≤ 256 := Nat.le_trans (dg_len_le (B := 65536) (by omega) _ 1 (by decide)) (by omega)
    refine ⟨true, ?_⟩
    rw [e]
    (refine q_w Try.func60 rfl (Nat.le_of_ble_eq_true rfl) (fun F => ?_); simp only [q_z, q_y, Try.ntmps60, Try.results60])
    repeat' (first|(with_reducible first|apply q_a|apply q_b|apply q_c|apply q_d|apply q_e|apply q_f|apply q_g|apply q_h|apply q_i|apply q_j|apply q_k|apply q_m|apply q_n|apply q_o|apply q_p|refine q_l (by decide) ?_)|((with_reducible first|refine q_q jbw_ok fun K hK=>?_|refine q_r jbw_ok q_D (by kernel_rfl) fun K hK=>?_);(simp (maxSteps:=2000000) only [go_sem,↓reduceIte,reduceCtorEq,Nat.reduceLeDiff,Nat.reduceLT,Nat.reduceBEq,Nat.reduceAdd,hn]);(repeat1' (with_reducible first|apply And.intro|(intro _;try first|contradiction|(exfalso;omega))|(refine hK _ ?_;clear hK K)))<;>(try (clear hK K;first|omega|assumption|((simp (disch:=omega) only [q_H,q_I]);omega))))|((with_reducible refine q_s (by simp only [go_sem,↓reduceIte,reduceCtorEq,Nat.reduceBEq];rfl) ?_);(with_reducible first|apply q_J|apply q_K|refine q_L ?_ ?_|refine q_M ?_ ?_|refine q_N ?_ ?_|refine q_O ?_ ?_)<;>(try with_reducible (intro _;try first|contradiction|(exfalso;omega))))|with_reducible refine q_t (by simp only [go_sem,↓reduceIte,reduceCtorEq,Nat.reduceBEq,q_u,resO,q_v];rfl) ?_)
    all_goals first | assumption | omega | skip
    generalize hXX : bits (k + 1) (lo (k + 1) a) = X at *
    generalize hYY : bits (k + 1) (lo (k + 1) b) = Y at *
    generalize hRR : bits (k + 1) R = Rb at *
    refine q_G (ι := { i : Nat // i ≤ k + 1 }) (fun i => ⟨103, [(2, .c (.i .i64 2)), (6, .bx 2 0), (7, .c (.i .i64 ((k + 1 : Nat) : Int))), (8, .own 3 0), (9, .own 4 0), (10, .c (.i .i64 (i.1 : Nat)))], ⟨[(2, [.c (.b false), .c .nil])], [(4, ⟨0, 4, 1, .bools Y⟩), (3, ⟨0, 4, 1, .bools (mixL Rb X i.1)⟩)], []⟩, 5⟩) (fun i => k + 1 - i.1) ⟨0, by omega⟩ ?_ ?_
    · simp only [mixL_zero]
      ((simp only [go_sem,↓reduceIte,reduceCtorEq,Nat.reduceLeDiff,Nat.reduceLT,Nat.reduceBEq,Nat.reduceAdd])<;>(try (simp;done))<;>(try ((simp only [C.i.injEq,C.b.injEq,C.ints.injEq,C.bools.injEq,List.append_cancel_left_eq,List.cons.injEq,true_and,and_true]);(repeat' with_reducible apply And.intro)<;>(first|rfl|assumption|omega|(simp;omega)|(congr 1;omega)|(congr 2;omega)))))
    rintro ⟨i, p1⟩
    simp only at p1 ⊢
    have hgl := mixL_len (rs := Rb) (xs := X) (i := i) (by rw [hlR, hlX]) (by omega)
    rw [hlX] at hgl
    rcases Nat.lt_or_ge i (k + 1) with hi | hi
    · have hg := mixL_get (rs := Rb) (xs := X) (i := i) false (by rw [hlR, hlX]) (by omega)
      have hget : Rb.getD i false = bXor (X.getD i false) (Y.getD i false) := by
        rw [← hR]
        simp [List.getD_eq_getElem?_getD, List.getElem?_zipWith, List.getElem?_eq_getElem (show i < X.length by omega), List.getElem?_eq_getElem (show i < Y.length by omega)]
      have hst := mixL_set (rs := Rb) (xs := X) (i := i) false (by rw [hlR, hlX]) (by omega) _ hget.symm
      all_goals
        simp only [bAnd, bOr, bXor, Bool.and_true, Bool.true_and, Bool.and_false, Bool.false_and, Bool.or_true, Bool.true_or, Bool.or_false, Bool.false_or] at hst
        repeat' (first|(with_reducible first|apply q_a|apply q_b|apply q_c|apply q_d|apply q_e|apply q_f|apply q_g|apply q_h|apply q_i|apply q_j|apply q_k|apply q_m|apply q_n|apply q_o|apply q_p|refine q_l (by decide) ?_)|((with_reducible first|refine q_q jbw_ok fun K hK=>?_|refine q_r jbw_ok q_D (by kernel_rfl) fun K hK=>?_);(simp (maxSteps:=2000000) only [go_sem,↓reduceIte,reduceCtorEq,Nat.reduceLeDiff,Nat.reduceLT,Nat.reduceBEq,Nat.reduceAdd,hg, hgl, hlY,  hst]);(repeat1' (with_reducible first|apply And.intro|(intro _;try first|contradiction|(exfalso;omega))|(refine hK _ ?_;clear hK K)))<;>(try (clear hK K;first|omega|assumption|((simp (disch:=omega) only [q_H,q_I]);omega))))|((with_reducible refine q_s (by simp only [go_sem,↓reduceIte,reduceCtorEq,Nat.reduceBEq];rfl) ?_);(with_reducible first|apply q_J|apply q_K|refine q_L ?_ ?_|refine q_M ?_ ?_|refine q_N ?_ ?_|refine q_O ?_ ?_)<;>(try with_reducible (intro _;try first|contradiction|(exfalso;omega))))|with_reducible refine q_t (by simp only [go_sem,↓reduceIte,reduceCtorEq,Nat.reduceBEq,q_u,resO,q_v];rfl) ?_)
        all_goals first | omega | skip
        refine q_F ⟨i + 1, by omega⟩ ?_ (by simp only; omega)
        ((simp only [go_sem,↓reduceIte,reduceCtorEq,Nat.reduceLeDiff,Nat.reduceLT,Nat.reduceBEq,Nat.reduceAdd])<;>(try (simp;done))<;>(try ((simp only [C.i.injEq,C.b.injEq,C.ints.injEq,C.bools.injEq,List.append_cancel_left_eq,List.cons.injEq,true_and,and_true]);(repeat' with_reducible apply And.intro)<;>(first|rfl|assumption|omega|(simp;omega)|(congr 1;omega)|(congr 2;omega)))))
    · have hi' : i = k + 1 := by omega
      subst hi'
      have hall := mixL_all Rb X (k + 1) (by omega) (by omega)
      simp only [hall]
      have hi1 : ((k + 1 : Nat) : Int) - 1 = (k : Int) := by omega
      repeat' (first|(with_reducible first|apply q_a|apply q_b|apply q_c|apply q_d|apply q_e|apply q_f|apply q_g|apply q_h|apply q_i|apply q_j|apply q_k|apply q_m|apply q_n|apply q_o|apply q_p|refine q_l (by decide) ?_)|((with_reducible first|refine q_q jbw_ok fun K hK=>?_|refine q_r jbw_ok q_D (by kernel_rfl) fun K hK=>?_);(simp (maxSteps:=2000000) only [go_sem,↓reduceIte,reduceCtorEq,Nat.reduceLeDiff,Nat.reduceLT,Nat.reduceBEq,Nat.reduceAdd,hlR, hi1, hgt, htt]);(repeat1' (with_reducible first|apply And.intro|(intro _;try first|contradiction|(exfalso;omega))|(refine hK _ ?_;clear hK K)))<;>(try (clear hK K;first|omega|assumption|((simp (disch:=omega) only [q_H,q_I]);omega))))|((with_reducible refine q_s (by simp only [go_sem,↓reduceIte,reduceCtorEq,Nat.reduceBEq];rfl) ?_);(with_reducible first|apply q_J|apply q_K|refine q_L ?_ ?_|refine q_M ?_ ?_|refine q_N ?_ ?_|refine q_O ?_ ?_)<;>(try with_reducible (intro _;try first|contradiction|(exfalso;omega))))|with_reducible refine q_t (by simp only [go_sem,↓reduceIte,reduceCtorEq,Nat.reduceBEq,q_u,resO,q_v];rfl) ?_)
      all_goals first | omega | skip
      generalize hRR2 : bits (k + 1) (2 ^ (k + 1) - (R + 1)) = R2 at *
      refine q_G (ι := { i : Nat // i ≤ k + 1 }) (fun i => ⟨103, [(6, .bx 2 0), (7, .c (.i .i64 ((k + 1 : Nat) : Int))), (8, .own 3 0), (11, .c (.i .i64 (i.1 : Nat)))], ⟨[(2, [.c (.b false), .c .nil])], [(3, ⟨0, 4, 1, .bools (mixL R2 Rb i.1)⟩)], []⟩, 5⟩) (fun i => k + 1 - i.1) ⟨0, by omega⟩ ?_ ?_
      · simp only [mixL_zero]
        ((simp only [go_sem,↓reduceIte,reduceCtorEq,Nat.reduceLeDiff,Nat.reduceLT,Nat.reduceBEq,Nat.reduceAdd])<;>(try (simp;done))<;>(try ((simp only [C.i.injEq,C.b.injEq,C.ints.injEq,C.bools.injEq,List.append_cancel_left_eq,List.cons.injEq,true_and,and_true]);(repeat' with_reducible apply And.intro)<;>(first|rfl|assumption|omega|(simp;omega)|(congr 1;omega)|(congr 2;omega)))))
      rintro ⟨i, p1⟩
      simp only at p1 ⊢
      have hgl2 := mixL_len (rs := R2) (xs := Rb) (i := i) (by rw [hlR, hlR2]) (by omega)
      rw [hlR] at hgl2
      rcases Nat.lt_or_ge i (k + 1) with hi | hi
      · have hg2 := mixL_get (rs := R2) (xs := Rb) (i := i) false (by rw [hlR, hlR2]) (by omega)
        have hst2 := mixL_set (rs := R2) (xs := Rb) (i := i) false (by rw [hlR, hlR2]) (by omega) (!Rb.getD i false) (by rw [← hfl, map_ne Rb i true (by omega)]; simp)
        repeat' (first|(with_reducible first|apply q_a|apply q_b|apply q_c|apply q_d|apply q_e|apply q_f|apply q_g|apply q_h|apply q_i|apply q_j|apply q_k|apply q_m|apply q_n|apply q_o|apply q_p|refine q_l (by decide) ?_)|((with_reducible first|refine q_q jbw_ok fun K hK=>?_|refine q_r jbw_ok q_D (by kernel_rfl) fun K hK=>?_);(simp (maxSteps:=2000000) only [go_sem,↓reduceIte,reduceCtorEq,Nat.reduceLeDiff,Nat.reduceLT,Nat.reduceBEq,Nat.reduceAdd,hg2, hgl2, hst2]);(repeat1' (with_reducible first|apply And.intro|(intro _;try first|contradiction|(exfalso;omega))|(refine hK _ ?_;clear hK K)))<;>(try (clear hK K;first|omega|assumption|((simp (disch:=omega) only [q_H,q_I]);omega))))|((with_reducible refine q_s (by simp only [go_sem,↓reduceIte,reduceCtorEq,Nat.reduceBEq];rfl) ?_);(with_reducible first|apply q_J|apply q_K|refine q_L ?_ ?_|refine q_M ?_ ?_|refine q_N ?_ ?_|refine q_O ?_ ?_)<;>(try with_reducible (intro _;try first|contradiction|(exfalso;omega))))|with_reducible refine q_t (by simp only [go_sem,↓reduceIte,reduceCtorEq,Nat.reduceBEq,q_u,resO,q_v];rfl) ?_)
        all_goals first | omega | skip
        refine q_F ⟨i + 1, by omega⟩ ?_ (by simp only; omega)
        ((simp only [go_sem,↓reduceIte,reduceCtorEq,Nat.reduceLeDiff,Nat.reduceLT,Nat.reduceBEq,Nat.reduceAdd])<;>(try (simp;done))<;>(try ((simp only [C.i.injEq,C.b.injEq,C.ints.injEq,C.bools.injEq,List.append_cancel_left_eq,List.cons.injEq,true_and,and_true]);(repeat' with_reducible apply And.intro)<;>(first|rfl|assumption|omega|(simp;omega)|(congr 1;omega)|(congr 2;omega)))))
      · have hi' : i = k + 1 := by omega
        subst hi'
        have hall2 := mixL_all R2 Rb (k + 1) (by omega) (by omega)
        simp only [hall2]
        repeat' (first|(with_reducible first|apply q_a|apply q_b|apply q_c|apply q_d|apply q_e|apply q_f|apply q_g|apply q_h|apply q_i|apply q_j|apply q_k|apply q_m|apply q_n|apply q_o|apply q_p|refine q_l (by decide) ?_)|((with_reducible first|refine q_q jbw_ok fun K hK=>?_|refine q_r jbw_ok q_D (by kernel_rfl) fun K hK=>?_);(simp (maxSteps:=2000000) only [go_sem,↓reduceIte,reduceCtorEq,Nat.reduceLeDiff,Nat.reduceLT,Nat.reduceBEq,Nat.reduceAdd,hlR2, hBR2, toNat1m]);(repeat1' (with_reducible first|apply And.intro|(intro _;try first|contradiction|(exfalso;omega))|(refine hK _ ?_;clear hK K)))<;>(try (clear hK K;first|omega|assumption|((simp (disch:=omega) only [q_H,q_I]);omega))))|((with_reducible refine q_s (by simp only [go_sem,↓reduceIte,reduceCtorEq,Nat.reduceBEq];rfl) ?_);(with_reducible first|apply q_J|apply q_K|refine q_L ?_ ?_|refine q_M ?_ ?_|refine q_N ?_ ?_|refine q_O ?_ ?_)<;>(try with_reducible (intro _;try first|contradiction|(exfalso;omega))))|with_reducible refine q_t (by simp only [go_sem,↓reduceIte,reduceCtorEq,Nat.reduceBEq,q_u,resO,q_v];rfl) ?_)
        all_goals first | omega | exact q_A rfl | skip
  · have htf : R.testBit k = false := by rw [htop]; exact decide_eq_false (fun h => hneg (s2.1 h))
    rw [if_neg (fun h => hneg (s2.1 h))] at hsn
    have e : gRz z false = [.b false, .ints .i64 (dg 65536 R)] := by
      simp only [gRz, sgz_false, decide_eq_false hneg]
      rw [show z.natAbs = R by omega]
    refine ⟨false, ?_⟩
    rw [e]
    (refine q_w Try.func60 rfl (Nat.le_of_ble_eq_true rfl) (fun F => ?_); simp only [q_z, q_y, Try.ntmps60, Try.results60])
    repeat' (first|(with_reducible first|apply q_a|apply q_b|apply q_c|apply q_d|apply q_e|apply q_f|apply q_g|apply q_h|apply q_i|apply q_j|apply q_k|apply q_m|apply q_n|apply q_o|apply q_p|refine q_l (by decide) ?_)|((with_reducible first|refine q_q jbw_ok fun K hK=>?_|refine q_r jbw_ok q_D (by kernel_rfl) fun K hK=>?_);(simp (maxSteps:=2000000) only [go_sem,↓reduceIte,reduceCtorEq,Nat.reduceLeDiff,Nat.reduceLT,Nat.reduceBEq,Nat.reduceAdd,hn]);(repeat1' (with_reducible first|apply And.intro|(intro _;try first|contradiction|(exfalso;omega))|(refine hK _ ?_;clear hK K)))<;>(try (clear hK K;first|omega|assumption|((simp (disch:=omega) only [q_H,q_I]);omega))))|((with_reducible refine q_s (by simp only [go_sem,↓reduceIte,reduceCtorEq,Nat.reduceBEq];rfl) ?_);(with_reducible first|apply q_J|apply q_K|refine q_L ?_ ?_|refine q_M ?_ ?_|refine q_N ?_ ?_|refine q_O ?_ ?_)<;>(try with_reducible (intro _;try first|contradiction|(exfalso;omega))))|with_reducible refine q_t (by simp only [go_sem,↓reduceIte,reduceCtorEq,Nat.reduceBEq,q_u,resO,q_v];rfl) ?_)
    all_goals first | assumption | omega | skip
    generalize hXX : bits (k + 1) (lo (k + 1) a) = X at *
    generalize hYY : bits (k + 1) (lo (k + 1) b) = Y at *
    generalize hRR : bits (k + 1) R = Rb at *
    refine q_G (ι := { i : Nat // i ≤ k + 1 }) (fun i => ⟨103, [(2, .c (.i .i64 2)), (6, .bx 2 0), (7, .c (.i .i64 ((k + 1 : Nat) : Int))), (8, .own 3 0), (9, .own 4 0), (10, .c (.i .i64 (i.1 : Nat)))], ⟨[(2, [.c (.b false), .c .nil])], [(4, ⟨0, 4, 1, .bools Y⟩), (3, ⟨0, 4, 1, .bools (mixL Rb X i.1)⟩)], []⟩, 5⟩) (fun i => k + 1 - i.1) ⟨0, by omega⟩ ?_ ?_
    · simp only [mixL_zero]
      ((simp only [go_sem,↓reduceIte,reduceCtorEq,Nat.reduceLeDiff,Nat.reduceLT,Nat.reduceBEq,Nat.reduceAdd])<;>(try (simp;done))<;>(try ((simp only [C.i.injEq,C.b.injEq,C.ints.injEq,C.bools.injEq,List.append_cancel_left_eq,List.cons.injEq,true_and,and_true]);(repeat' with_reducible apply And.intro)<;>(first|rfl|assumption|omega|(simp;omega)|(congr 1;omega)|(congr 2;omega)))))
    rintro ⟨i, p1⟩
    simp only at p1 ⊢
    have hgl := mixL_len (rs := Rb) (xs := X) (i := i) (by rw [hlR, hlX]) (by omega)
    rw [hlX] at hgl
    rcases Nat.lt_or_ge i (k + 1) with hi | hi
    · have hg := mixL_get (rs := Rb) (xs := X) (i := i) false (by rw [hlR, hlX]) (by omega)
      have hget : Rb.getD i false = bXor (X.getD i false) (Y.getD i false) := by
        rw [← hR]
        simp [List.getD_eq_getElem?_getD, List.getElem?_zipWith, List.getElem?_eq_getElem (show i < X.length by omega), List.getElem?_eq_getElem (show i < Y.length by omega)]
      have hst := mixL_set (rs := Rb) (xs := X) (i := i) false (by rw [hlR, hlX]) (by omega) _ hget.symm
      all_goals
        simp only [bAnd, bOr, bXor, Bool.and_true, Bool.true_and, Bool.and_false, Bool.false_and, Bool.or_true, Bool.true_or, Bool.or_false, Bool.false_or] at hst
        repeat' (first|(with_reducible first|apply q_a|apply q_b|apply q_c|apply q_d|apply q_e|apply q_f|apply q_g|apply q_h|apply q_i|apply q_j|apply q_k|apply q_m|apply q_n|apply q_o|apply q_p|refine q_l (by decide) ?_)|((with_reducible first|refine q_q jbw_ok fun K hK=>?_|refine q_r jbw_ok q_D (by kernel_rfl) fun K hK=>?_);(simp (maxSteps:=2000000) only [go_sem,↓reduceIte,reduceCtorEq,Nat.reduceLeDiff,Nat.reduceLT,Nat.reduceBEq,Nat.reduceAdd,hg, hgl, hlY,  hst]);(repeat1' (with_reducible first|apply And.intro|(intro _;try first|contradiction|(exfalso;omega))|(refine hK _ ?_;clear hK K)))<;>(try (clear hK K;first|omega|assumption|((simp (disch:=omega) only [q_H,q_I]);omega))))|((with_reducible refine q_s (by simp only [go_sem,↓reduceIte,reduceCtorEq,Nat.reduceBEq];rfl) ?_);(with_reducible first|apply q_J|apply q_K|refine q_L ?_ ?_|refine q_M ?_ ?_|refine q_N ?_ ?_|refine q_O ?_ ?_)<;>(try with_reducible (intro _;try first|contradiction|(exfalso;omega))))|with_reducible refine q_t (by simp only [go_sem,↓reduceIte,reduceCtorEq,Nat.reduceBEq,q_u,resO,q_v];rfl) ?_)
        all_goals first | omega | skip
        refine q_F ⟨i + 1, by omega⟩ ?_ (by simp only; omega)
        ((simp only [go_sem,↓reduceIte,reduceCtorEq,Nat.reduceLeDiff,Nat.reduceLT,Nat.reduceBEq,Nat.reduceAdd])<;>(try (simp;done))<;>(try ((simp only [C.i.injEq,C.b.injEq,C.ints.injEq,C.bools.injEq,List.append_cancel_left_eq,List.cons.injEq,true_and,and_true]);(repeat' with_reducible apply And.intro)<;>(first|rfl|assumption|omega|(simp;omega)|(congr 1;omega)|(congr 2;omega)))))
    · have hi' : i = k + 1 := by omega
      subst hi'
      have hall := mixL_all Rb X (k + 1) (by omega) (by omega)
      simp only [hall]
      have hi1 : ((k + 1 : Nat) : Int) - 1 = (k : Int) := by omega
      repeat' (first|(with_reducible first|apply q_a|apply q_b|apply q_c|apply q_d|apply q_e|apply q_f|apply q_g|apply q_h|apply q_i|apply q_j|apply q_k|apply q_m|apply q_n|apply q_o|apply q_p|refine q_l (by decide) ?_)|((with_reducible first|refine q_q jbw_ok fun K hK=>?_|refine q_r jbw_ok q_D (by kernel_rfl) fun K hK=>?_);(simp (maxSteps:=2000000) only [go_sem,↓reduceIte,reduceCtorEq,Nat.reduceLeDiff,Nat.reduceLT,Nat.reduceBEq,Nat.reduceAdd,hlR, hi1, hgt, htf, hBR]);(repeat1' (with_reducible first|apply And.intro|(intro _;try first|contradiction|(exfalso;omega))|(refine hK _ ?_;clear hK K)))<;>(try (clear hK K;first|omega|assumption|((simp (disch:=omega) only [q_H,q_I]);omega))))|((with_reducible refine q_s (by simp only [go_sem,↓reduceIte,reduceCtorEq,Nat.reduceBEq];rfl) ?_);(with_reducible first|apply q_J|apply q_K|refine q_L ?_ ?_|refine q_M ?_ ?_|refine q_N ?_ ?_|refine q_O ?_ ?_)<;>(try with_reducible (intro _;try first|contradiction|(exfalso;omega))))|with_reducible refine q_t (by simp only [go_sem,↓reduceIte,reduceCtorEq,Nat.reduceBEq,q_u,resO,q_v];rfl) ?_)
      all_goals first | omega | exact q_A rfl | skip
def rbitCT (c : Int) (z : Int → Int → Int) : CT := mkCT [nR, nR] false fun l K => match l with
  | [.inr [.b s, .ints .i64 xs], .inr [.b t, .ints .i64 ys], .inl (.i .i64 o)] => (o = c ∧ s = decide (sv 65536 s xs < 0) ∧ t = decide (sv 65536 t ys < 0) ∧ InB 65536 xs ∧ Trd xs ∧ xs.length ≤ 256 ∧ InB 65536 ys ∧ Trd ys ∧ ys.length ≤ 256) ∧ ∀ d : Bool, K (.g (gRz (z (sv 65536 s xs) (sv 65536 t ys)) d))
  | _ => False
def jw1 : Cfg := addT 60 (rbitCT 0 zAnd) jv2
theorem jw1_ok : TblOk Try.prog jw1 := q_E jv2_ok (q_C Try.func60 (by kernel_rfl) (by kernel_rfl)) rfl fun l K h => by
  split at h
  · rename_i s xs t ys o
    obtain ⟨⟨rfl, h0, h0', h1, h2, h3, h4, h5, h6⟩, h⟩ := h
    obtain ⟨e1, e2⟩ := sv_ys (s := s) h1 h2
    obtain ⟨e3, e4⟩ := sv_ys (s := t) h4 h5
    have a1 : (sv 65536 s xs).natAbs = V 65536 xs := by rw [sv_abs]
    have a2 : (sv 65536 t ys).natAbs = V 65536 ys := by rw [sv_abs]
    obtain ⟨d, this⟩ := rbitAnd_ex (sv 65536 s xs) (sv 65536 t ys) (by rw [a1, ← e1]; exact h3) (by rw [a2, ← e3]; exact h6)
    rw [gR, gR, a1, a2, ← e1, ← e3, ← h0, ← h0'] at this
    exact ⟨_, this, h d⟩
  · exact h.elim
def jw2 : Cfg := addT 60 (rbitCT 1 zOr) jv2
theorem jw2_ok : TblOk Try.prog jw2 := q_E jv2_ok (q_C Try.func60 (by kernel_rfl) (by kernel_rfl)) rfl fun l K h => by
  split at h
  · rename_i s xs t ys o
    obtain ⟨⟨rfl, h0, h0', h1, h2, h3, h4, h5, h6⟩, h⟩ := h
    obtain ⟨e1, e2⟩ := sv_ys (s := s) h1 h2
    obtain ⟨e3, e4⟩ := sv_ys (s := t) h4 h5
    have a1 : (sv 65536 s xs).natAbs = V 65536 xs := by rw [sv_abs]
    have a2 : (sv 65536 t ys).natAbs = V 65536 ys := by rw [sv_abs]
    obtain ⟨d, this⟩ := rbitOr_ex (sv 65536 s xs) (sv 65536 t ys) (by rw [a1, ← e1]; exact h3) (by rw [a2, ← e3]; exact h6)
    rw [gR, gR, a1, a2, ← e1, ← e3, ← h0, ← h0'] at this
    exact ⟨_, this, h d⟩
  · exact h.elim
def jw3 : Cfg := addT 60 (rbitCT 2 zXor) jv2
theorem jw3_ok : TblOk Try.prog jw3 := q_E jv2_ok (q_C Try.func60 (by kernel_rfl) (by kernel_rfl)) rfl fun l K h => by
  split at h
  · rename_i s xs t ys o
    obtain ⟨⟨rfl, h0, h0', h1, h2, h3, h4, h5, h6⟩, h⟩ := h
    obtain ⟨e1, e2⟩ := sv_ys (s := s) h1 h2
    obtain ⟨e3, e4⟩ := sv_ys (s := t) h4 h5
    have a1 : (sv 65536 s xs).natAbs = V 65536 xs := by rw [sv_abs]
    have a2 : (sv 65536 t ys).natAbs = V 65536 ys := by rw [sv_abs]
    obtain ⟨d, this⟩ := rbitXor_ex (sv 65536 s xs) (sv 65536 t ys) (by rw [a1, ← e1]; exact h3) (by rw [a2, ← e3]; exact h6)
    rw [gR, gR, a1, a2, ← e1, ← e3, ← h0, ← h0'] at this
    exact ⟨_, this, h d⟩
  · exact h.elim
attribute [go_sem] rbitCT

end Go.Proofs.Ythfgapbcdhajiaa
