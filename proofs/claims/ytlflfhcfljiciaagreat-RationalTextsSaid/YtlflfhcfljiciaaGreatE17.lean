import Derived.Test.YtlflfhcfljiciaaGreatE16
namespace Go.Proofs.NatL
set_option linter.unusedSimpArgs false
set_option linter.unusedVariables false
theorem dl_pp {X s : Int} {D t : Nat} (hX : ¬ X < 0) (hs : ¬ s < 0) (h : s.natAbs * D ≤ X.natAbs * t) : X.natAbs * t - s.natAbs * D = dl X D s t := by
  have e1 : X * (t : Int) = ((X.natAbs * t : Nat) : Int) := by rw [Int.natCast_mul]; congr 1; omega
  have e2 : s * (D : Int) = ((s.natAbs * D : Nat) : Int) := by rw [Int.natCast_mul]; congr 1; omega
  unfold dl; rw [e1, e2]; omega
theorem dl_nn {X s : Int} {D t : Nat} (hX : X < 0) (hs : s < 0) (h : s.natAbs * D ≤ X.natAbs * t) : X.natAbs * t - s.natAbs * D = dl X D s t := by
  have e1 : X * (t : Int) = -((X.natAbs * t : Nat) : Int) := by rw [Int.natCast_mul, ← Int.neg_mul]; congr 1; omega
  have e2 : s * (D : Int) = -((s.natAbs * D : Nat) : Int) := by rw [Int.natCast_mul, ← Int.neg_mul]; congr 1; omega
  unfold dl; rw [e1, e2]; omega
theorem dl_pp' {X s : Int} {D t : Nat} (hX : ¬ X < 0) (hs : ¬ s < 0) (h : X.natAbs * t ≤ s.natAbs * D) : s.natAbs * D - X.natAbs * t = dl X D s t := by
  have e1 : X * (t : Int) = ((X.natAbs * t : Nat) : Int) := by rw [Int.natCast_mul]; congr 1; omega
  have e2 : s * (D : Int) = ((s.natAbs * D : Nat) : Int) := by rw [Int.natCast_mul]; congr 1; omega
  unfold dl; rw [e1, e2]; omega
theorem dl_nn' {X s : Int} {D t : Nat} (hX : X < 0) (hs : s < 0) (h : X.natAbs * t ≤ s.natAbs * D) : s.natAbs * D - X.natAbs * t = dl X D s t := by
  have e1 : X * (t : Int) = -((X.natAbs * t : Nat) : Int) := by rw [Int.natCast_mul, ← Int.neg_mul]; congr 1; omega
  have e2 : s * (D : Int) = -((s.natAbs * D : Nat) : Int) := by rw [Int.natCast_mul, ← Int.neg_mul]; congr 1; omega
  unfold dl; rw [e1, e2]; omega
theorem dl_pn {X s : Int} {D t : Nat} (h : decide (X < 0) ≠ decide (s < 0)) : X.natAbs * t + s.natAbs * D = dl X D s t := by
  rcases Int.lt_or_ge' X 0 with hX | hX
  · have hs : ¬ s < 0 := fun hs => h (by rw [decide_eq_true hX, decide_eq_true hs])
    have e1 : X * (t : Int) = -((X.natAbs * t : Nat) : Int) := by rw [Int.natCast_mul, ← Int.neg_mul]; congr 1; omega
    have e2 : s * (D : Int) = ((s.natAbs * D : Nat) : Int) := by rw [Int.natCast_mul]; congr 1; omega
    unfold dl; rw [e1, e2]; omega
  · have hs : s < 0 := by
      rcases Int.lt_or_ge' s 0 with k | k
      · exact k
      · exact absurd (by rw [decide_eq_false (by omega), decide_eq_false (by omega)]) h
    have e1 : X * (t : Int) = ((X.natAbs * t : Nat) : Int) := by rw [Int.natCast_mul]; congr 1; omega
    have e2 : s * (D : Int) = -((s.natAbs * D : Nat) : Int) := by rw [Int.natCast_mul, ← Int.neg_mul]; congr 1; omega
    unfold dl; rw [e1, e2]; omega
theorem dl_same {X s : Int} {D t : Nat} (h : decide (X < 0) = decide (s < 0)) :
    (X.natAbs * t < s.natAbs * D → s.natAbs * D - X.natAbs * t = dl X D s t) ∧ (s.natAbs * D ≤ X.natAbs * t → X.natAbs * t - s.natAbs * D = dl X D s t) := by
  rcases Int.lt_or_ge' X 0 with hX | hX
  · have hs : s < 0 := by
      rw [decide_eq_true hX] at h; exact of_decide_eq_true h.symm
    exact ⟨fun k => dl_nn' hX hs (by omega), fun k => dl_nn hX hs k⟩
  · have hs : ¬ s < 0 := by
      rw [decide_eq_false (by omega)] at h; exact of_decide_eq_false h.symm
    exact ⟨fun k => dl_pp' (by omega) hs (by omega), fun k => dl_pp (by omega) hs k⟩
theorem dl_len {X s : Int} {D t : Nat} (h1 : (dg 4294967296 X.natAbs).length ≤ 128) (h2 : (dg 4294967296 D).length ≤ 128) (h3 : (dg 4294967296 s.natAbs).length ≤ 128) (h4 : (dg 4294967296 t).length ≤ 128) : (dg 4294967296 (dl X D s t)).length ≤ 257 := by
  have l1 := mul_len (B := 4294967296) (by omega) h1 h4
  have l2 := mul_len (B := 4294967296) (by omega) h3 h2
  have l3 := add_len (B := 4294967296) (by omega) l1 l2
  refine Nat.le_trans (dg_len_mono (by omega) ?_) l3
  unfold dl
  have e1 : (X * (t : Int)).natAbs = X.natAbs * t := by rw [Int.natAbs_mul, Int.natAbs_natCast]
  have e2 : (s * (D : Int)).natAbs = s.natAbs * D := by rw [Int.natAbs_mul, Int.natAbs_natCast]
  omega
def clP (X : Int) (D : Nat) (s : Int) (t : Nat) (s' : Int) (t' : Nat) : Prop := dl X D s t * t' < dl X D s' t' * t ∨ (dl X D s t * t' = dl X D s' t' * t ∧ (t < t' ∨ (t = t' ∧ s * t' < s' * t)))
theorem cmp3_z (m n : Nat) : cmp3 m n = 0 ↔ m = n := by unfold cmp3; (repeat' split) <;> omega
theorem cmpZ_lt (m n : Int) : cmpZ m n < 0 ↔ m < n := by unfold cmpZ; (repeat' split) <;> omega
end Go.Proofs.NatL
namespace Go.Proofs.YtlflfhcfljiciaaGreat
set_option linter.unusedSimpArgs false
set_option linter.unusedVariables false
open Go.Abs Go.Proofs.NatL

theorem nCmp6_ret (m n : Nat) (lm : (dg 4294967296 m).length ≤ 600) (ln : (dg 4294967296 n).length ≤ 600) :
    Ret Tryz.prog 74 false [.inl (.ints .u32 (dg 4294967296 m)), .inl (.ints .u32 (dg 4294967296 n))] (rCmpN m n) := by
  have h1 := okN_dg' (n := m) (by omega)
  have h2 := okN_dg' (n := n) (by omega)
  have := Cmp_ret _ _ (okN_LB h1) (okN_LB h2) (InB_dg _ (by omega) m) (InB_dg _ (by omega) n)
  rw [(chkC_zero h1 h2).1, (chkC_zero h1 h2).2, if_neg (by simp), V32, V32] at this
  exact this
def cmp6CT : CT := mkCT [nU, nU] false fun l K => match l with
  | [.inl (.ints .u32 xs), .inl (.ints .u32 ys)] => (InB 4294967296 xs ∧ Trd xs ∧ xs.length ≤ 600 ∧ InB 4294967296 ys ∧ Trd ys ∧ ys.length ≤ 600) ∧ K (rCmpN (V 4294967296 xs) (V 4294967296 ys))
  | _ => False
def qt12 : Cfg := addT 74 cmp6CT qt11
theorem qt12_ok : TblOk Tryz.prog qt12 := q_I qt11_ok Tryz.func74 fun l K h => by
  split at h
  · rename_i xs ys
    obtain ⟨⟨h1, h2, h3, h4, h5, h6⟩, h⟩ := h
    have e1 := dg_V 4294967296 (by omega) xs h1 h2
    have e2 := dg_V 4294967296 (by omega) ys h4 h5
    have := nCmp6_ret (V 4294967296 xs) (V 4294967296 ys) (by rw [e1]; exact h3) (by rw [e2]; exact h6)
    rw [e1, e2] at this
    exact ⟨_, this, h⟩
  · exact h.elim
attribute [go_sem] cmp6CT
def qb6 : Cfg := listT [(88, (natCT tr2 rMulN)), (90, (natCT tr2 rAddN)), (91, (natCT le2 rSubN)), (74, cmp6CT)] [28]
theorem qb6_ok : TblOk Tryz.prog qb6 := listE_ok (by simp only [List.mem_singleton, forall_eq]; exact flt) ⟨⟨qn6, qn6_ok, rfl⟩, ⟨qn6, qn6_ok, rfl⟩, ⟨qn6, qn6_ok, rfl⟩, ⟨qt12, qt12_ok, rfl⟩, trivial⟩
attribute [go_sem] qb6
abbrev aQ (z : Int) (d : Nat) : List AV := [.c (.b (decide (z < 0))), .c (.ints .u32 (dg 4294967296 z.natAbs)), .c (.b false), .c (.ints .u32 (dg 4294967296 d))]
set_option maxHeartbeats 1600000 in
theorem gap_ret (X s : Int) (D t : Nat) (hX : RT X D) (hs : RT s t) :
    RetG Tryz.prog 92 ⟨[(0, aQ X D)], [], []⟩ [.g (gQ s t), .bx 0 0] ⟨[(0, aQ X D)], [], []⟩ [.c (.ints .u32 (dg 4294967296 (dl X D s t))), .c (.ints .u32 (dg 4294967296 t))] := by
  obtain ⟨hD, lX, lD⟩ := RT_parts hX
  obtain ⟨ht, ls, lt⟩ := RT_parts hs
  have l1 := mul_len (B := 4294967296) (by omega) lX lt
  have l2 := mul_len (B := 4294967296) (by omega) ls lD
  clear hX hs
  have d0 := dl_same (X := X) (s := s) (D := D) (t := t)
  have d3 := dl_pn (X := X) (s := s) (D := D) (t := t)
  generalize dl X D s t = G at *
  generalize hM : X.natAbs * t = M at *
  generalize hN : s.natAbs * D = N at *
  by_cases hsg : decide (X < 0) = decide (s < 0)
  · obtain ⟨d1, d2⟩ := d0 hsg
    have hbn : (decide (s < 0) != decide (s < 0)) = false := bne_self_eq_false _
    clear d0 d3
    rcases Nat.lt_or_ge M N with k | k
    · rw [← d1 k]
      have hc := (cmp3_lt M N).2 k
      clear d1 d2
      (refine ret_ge Tryz.func92 (fun F bs => ?_); simp only [avSl,ancs,hnx,Nat.reduceAdd,Nat.reduceLeDiff,if_true,if_false,List.length_cons,List.length_nil,List.cons_append,List.nil_append,Tryz.ntmps92,Tryz.results92])
      repeat' (first|(with_reducible first|apply q_a|apply q_b|apply q_c|apply q_d|apply q_e|apply q_f|apply q_g|apply q_h|apply q_i|apply q_j|apply q_k|apply q_m|apply q_n|apply q_o|apply q_p|refine q_l ?_)|((with_reducible first|refine q_q qb6_ok fun K hK=>?_|refine q_r qb6_ok fun K hK=>?_);simp (maxSteps:=2000000) only [go_sem,↓reduceIte,reduceCtorEq,Nat.reduceLeDiff,Nat.reduceLT,Nat.reduceBEq,Nat.reduceAdd,V32, hsg, hbn, hM, hN];(repeat1' with_reducible first|apply And.intro|(intro _;try exact q_v)|(refine hK _ ?_;clear hK K))<;>(try (clear hK K;exact q_u)))|(with_reducible refine q_s ?_;(first|apply q_J|apply q_K|apply q_L|apply q_M|apply q_N|apply q_O)<;>try (intro _;try exact q_v)))
      all_goals first | omega | exact ends_g [(3, .c (.ints .u32 (dg 4294967296 (N - M)))), (4, .c (.ints .u32 (dg 4294967296 t)))] 1 (by exact q_D) rfl | skip
    · rw [← d2 k]
      have hc : ¬ cmp3 M N < 0 := fun h2 => by have := (cmp3_lt _ _).1 h2; omega
      clear d1 d2
      (refine ret_ge Tryz.func92 (fun F bs => ?_); simp only [avSl,ancs,hnx,Nat.reduceAdd,Nat.reduceLeDiff,if_true,if_false,List.length_cons,List.length_nil,List.cons_append,List.nil_append,Tryz.ntmps92,Tryz.results92])
      repeat' (first|(with_reducible first|apply q_a|apply q_b|apply q_c|apply q_d|apply q_e|apply q_f|apply q_g|apply q_h|apply q_i|apply q_j|apply q_k|apply q_m|apply q_n|apply q_o|apply q_p|refine q_l ?_)|((with_reducible first|refine q_q qb6_ok fun K hK=>?_|refine q_r qb6_ok fun K hK=>?_);simp (maxSteps:=2000000) only [go_sem,↓reduceIte,reduceCtorEq,Nat.reduceLeDiff,Nat.reduceLT,Nat.reduceBEq,Nat.reduceAdd,V32, hsg, hbn, hM, hN];(repeat1' with_reducible first|apply And.intro|(intro _;try exact q_v)|(refine hK _ ?_;clear hK K))<;>(try (clear hK K;exact q_u)))|(with_reducible refine q_s ?_;(first|apply q_J|apply q_K|apply q_L|apply q_M|apply q_N|apply q_O)<;>try (intro _;try exact q_v)))
      all_goals first | omega | exact ends_g [(3, .c (.ints .u32 (dg 4294967296 (M - N)))), (4, .c (.ints .u32 (dg 4294967296 t)))] 1 (by exact q_D) rfl | skip
  · rw [← d3 hsg]
    have hne : (decide (X < 0) != decide (s < 0)) = true := by simpa using hsg
    clear d0 d3
    (refine ret_ge Tryz.func92 (fun F bs => ?_); simp only [avSl,ancs,hnx,Nat.reduceAdd,Nat.reduceLeDiff,if_true,if_false,List.length_cons,List.length_nil,List.cons_append,List.nil_append,Tryz.ntmps92,Tryz.results92])
    repeat' (first|(with_reducible first|apply q_a|apply q_b|apply q_c|apply q_d|apply q_e|apply q_f|apply q_g|apply q_h|apply q_i|apply q_j|apply q_k|apply q_m|apply q_n|apply q_o|apply q_p|refine q_l ?_)|((with_reducible first|refine q_q qb6_ok fun K hK=>?_|refine q_r qb6_ok fun K hK=>?_);simp (maxSteps:=2000000) only [go_sem,↓reduceIte,reduceCtorEq,Nat.reduceLeDiff,Nat.reduceLT,Nat.reduceBEq,Nat.reduceAdd,V32, hne, hM, hN];(repeat1' with_reducible first|apply And.intro|(intro _;try exact q_v)|(refine hK _ ?_;clear hK K))<;>(try (clear hK K;exact q_u)))|(with_reducible refine q_s ?_;(first|apply q_J|apply q_K|apply q_L|apply q_M|apply q_N|apply q_O)<;>try (intro _;try exact q_v)))
    all_goals first | omega | exact ends_g [(3, .c (.ints .u32 (dg 4294967296 (M + N)))), (4, .c (.ints .u32 (dg 4294967296 t)))] 1 (by exact q_D) rfl | skip
end Go.Proofs.YtlflfhcfljiciaaGreat

namespace Go.Proofs.NatL
set_option linter.unusedSimpArgs false
set_option linter.unusedVariables false
instance decClP (X : Int) (D : Nat) (s : Int) (t : Nat) (s' : Int) (t' : Nat) : Decidable (clP X D s t s' t') := by unfold clP; infer_instance
end Go.Proofs.NatL
namespace Go.Proofs.YtlflfhcfljiciaaGreat
set_option linter.unusedSimpArgs false
set_option linter.unusedVariables false
open Go.Abs Go.Proofs.NatL

def gapCT : CT := mkCTG fun H al K => match H, al with
  | ⟨[(0, [.c (.b p), .c (.ints .u32 xs), .c (.b q), .c (.ints .u32 ys)])], [], []⟩, [.g [.b s, .ints .u32 zs, .b r, .ints .u32 ws], .bx 0 0] =>
      (okQ p xs q ys = true ∧ okQ s zs r ws = true ∧ InB 4294967296 xs ∧ InB 4294967296 ys ∧ InB 4294967296 zs ∧ InB 4294967296 ws) ∧
      K ⟨[(0, [.c (.b p), .c (.ints .u32 xs), .c (.b q), .c (.ints .u32 ys)])], [], []⟩ [.c (.ints .u32 (dg 4294967296 (dl (sv 4294967296 p xs) (V 4294967296 ys) (sv 4294967296 s zs) (V 4294967296 ws)))), .c (.ints .u32 (dg 4294967296 (V 4294967296 ws)))]
  | _, _ => False
def qt13 : Cfg := addT 92 gapCT qt12
theorem qt13_ok : TblOk Tryz.prog qt13 := ctg_ok qt12_ok Tryz.func92 fun H al K h => by
  split at h
  · rename_i p xs q ys s zs r ws
    obtain ⟨⟨h1, h2, b1, b2, b3, b4⟩, h⟩ := h
    obtain ⟨e1, r1⟩ := gQ_of h1 b1 b2
    obtain ⟨e2, r2⟩ := gQ_of h2 b3 b4
    have := gap_ret _ _ _ _ r1 r2
    rw [← e2] at this
    simp only [gQ, List.cons.injEq, C.b.injEq, C.ints.injEq, true_and, and_true] at e1
    obtain ⟨e3, e4, e5, e6⟩ := e1
    rw [aQ, ← e3, ← e4, ← e6, ← e5] at this
    exact ⟨_, _, this, h⟩
  · exact h.elim
attribute [go_sem] gapCT
def qb7 : Cfg := listT [(92, gapCT), (88, (natCT tr2 rMulN)), (74, cmp6CT), (93, (qtot2 qgCmp [.inl (.i .i64 0)]))] [28]
theorem qb7_ok : TblOk Tryz.prog qb7 := listE_ok (by simp only [List.mem_singleton, forall_eq]; exact flt) ⟨⟨qt13, qt13_ok, rfl⟩, ⟨qn6, qn6_ok, rfl⟩, ⟨qt12, qt12_ok, rfl⟩, ⟨qt9, qt9_ok, rfl⟩, trivial⟩
attribute [go_sem] qb7
set_option maxHeartbeats 3200000 in
theorem closer_ret (X s s' : Int) (D t t' : Nat) (hX : RT X D) (hs : RT s t) (hs' : RT s' t') :
    Ret Tryz.prog 80 false [.inr (gQ X D), .inr (gQ s t), .inr (gQ s' t')] (.g (if clP X D s t s' t' then gQ s t else gQ s' t')) := by
  have o0 := okQ_g hX
  have o1 := okQ_g hs
  have o2 := okQ_g hs'
  obtain ⟨hD, lX, lD⟩ := RT_parts hX
  obtain ⟨ht, ls, lt⟩ := RT_parts hs
  obtain ⟨ht', ls', lt'⟩ := RT_parts hs'
  have k1 := dl_len lX lD ls lt
  have k2 := dl_len lX lD ls' lt'
  have l1 := mul_len (B := 4294967296) (by omega) k1 lt'
  have l2 := mul_len (B := 4294967296) (by omega) k2 lt
  clear hX hs hs'
  have c1 := cmp3_lt (dl X D s t * t') (dl X D s' t' * t)
  have c2 := cmp3_z (dl X D s t * t') (dl X D s' t' * t)
  have c3 := cmp3_lt t t'
  have c4 := cmp3_z t t'
  have c5 := cmpZ_lt (s * t') (s' * t)
  have hcl : clP X D s t s' t' ↔ (dl X D s t * t' < dl X D s' t' * t ∨ (dl X D s t * t' = dl X D s' t' * t ∧ (t < t' ∨ (t = t' ∧ s * t' < s' * t)))) := Iff.rfl
  generalize hM : cmp3 (dl X D s t * t') (dl X D s' t' * t) = M at *
  generalize hN : cmp3 t t' = N at *
  generalize hC : cmpZ (s * t') (s' * t) = Q at *
  by_cases hh : clP X D s t s' t'
  · rw [if_pos hh]
    rw [hcl] at hh
    clear hcl
    by_cases z1 : M = 0
    · by_cases z2 : N = 0
      · have z3 : Q < 0 := c5.2 (by omega)
        (refine q_H Tryz.func80 (fun F => ?_); simp only [q_z,q_y,Tryz.ntmps80,Tryz.results80])
        repeat' (first|(with_reducible first|apply q_a|apply q_b|apply q_c|apply q_d|apply q_e|apply q_f|apply q_g|apply q_h|apply q_i|apply q_j|apply q_k|apply q_m|apply q_n|apply q_o|apply q_p|refine q_l ?_)|((with_reducible first|refine q_q qb7_ok fun K hK=>?_|refine q_r qb7_ok fun K hK=>?_);simp (maxSteps:=2000000) only [go_sem,↓reduceIte,reduceCtorEq,Nat.reduceLeDiff,Nat.reduceLT,Nat.reduceBEq,Nat.reduceAdd,V32, sv32, sv32d, sg_self, o0, o1, o2, hM, hN, hC];(repeat1' with_reducible first|apply And.intro|(intro _;try exact q_v)|(refine hK _ ?_;clear hK K))<;>(try (clear hK K;exact q_u)))|(with_reducible refine q_s ?_;(first|apply q_J|apply q_K|apply q_L|apply q_M|apply q_N|apply q_O)<;>try (intro _;try exact q_v))|with_reducible refine q_t ?_)
        all_goals first | omega | exact q_A rfl | skip
      · (refine q_H Tryz.func80 (fun F => ?_); simp only [q_z,q_y,Tryz.ntmps80,Tryz.results80])
        repeat' (first|(with_reducible first|apply q_a|apply q_b|apply q_c|apply q_d|apply q_e|apply q_f|apply q_g|apply q_h|apply q_i|apply q_j|apply q_k|apply q_m|apply q_n|apply q_o|apply q_p|refine q_l ?_)|((with_reducible first|refine q_q qb7_ok fun K hK=>?_|refine q_r qb7_ok fun K hK=>?_);simp (maxSteps:=2000000) only [go_sem,↓reduceIte,reduceCtorEq,Nat.reduceLeDiff,Nat.reduceLT,Nat.reduceBEq,Nat.reduceAdd,V32, sv32, sv32d, sg_self, o0, o1, o2, hM, hN, hC];(repeat1' with_reducible first|apply And.intro|(intro _;try exact q_v)|(refine hK _ ?_;clear hK K))<;>(try (clear hK K;exact q_u)))|(with_reducible refine q_s ?_;(first|apply q_J|apply q_K|apply q_L|apply q_M|apply q_N|apply q_O)<;>try (intro _;try exact q_v))|with_reducible refine q_t ?_)
        all_goals first | omega | exact q_A rfl | skip
    · have z3 : M < 0 := c1.2 (by omega)
      (refine q_H Tryz.func80 (fun F => ?_); simp only [q_z,q_y,Tryz.ntmps80,Tryz.results80])
      repeat' (first|(with_reducible first|apply q_a|apply q_b|apply q_c|apply q_d|apply q_e|apply q_f|apply q_g|apply q_h|apply q_i|apply q_j|apply q_k|apply q_m|apply q_n|apply q_o|apply q_p|refine q_l ?_)|((with_reducible first|refine q_q qb7_ok fun K hK=>?_|refine q_r qb7_ok fun K hK=>?_);simp (maxSteps:=2000000) only [go_sem,↓reduceIte,reduceCtorEq,Nat.reduceLeDiff,Nat.reduceLT,Nat.reduceBEq,Nat.reduceAdd,V32, sv32, sv32d, sg_self, o0, o1, o2, hM, hN, hC];(repeat1' with_reducible first|apply And.intro|(intro _;try exact q_v)|(refine hK _ ?_;clear hK K))<;>(try (clear hK K;exact q_u)))|(with_reducible refine q_s ?_;(first|apply q_J|apply q_K|apply q_L|apply q_M|apply q_N|apply q_O)<;>try (intro _;try exact q_v))|with_reducible refine q_t ?_)
      all_goals first | omega | exact q_A rfl | skip
  · rw [if_neg hh]
    rw [hcl] at hh
    clear hcl
    by_cases z1 : M = 0
    · by_cases z2 : N = 0
      · have z3 : ¬ Q < 0 := fun h => by have := c5.1 h; omega
        (refine q_H Tryz.func80 (fun F => ?_); simp only [q_z,q_y,Tryz.ntmps80,Tryz.results80])
        repeat' (first|(with_reducible first|apply q_a|apply q_b|apply q_c|apply q_d|apply q_e|apply q_f|apply q_g|apply q_h|apply q_i|apply q_j|apply q_k|apply q_m|apply q_n|apply q_o|apply q_p|refine q_l ?_)|((with_reducible first|refine q_q qb7_ok fun K hK=>?_|refine q_r qb7_ok fun K hK=>?_);simp (maxSteps:=2000000) only [go_sem,↓reduceIte,reduceCtorEq,Nat.reduceLeDiff,Nat.reduceLT,Nat.reduceBEq,Nat.reduceAdd,V32, sv32, sv32d, sg_self, o0, o1, o2, hM, hN, hC];(repeat1' with_reducible first|apply And.intro|(intro _;try exact q_v)|(refine hK _ ?_;clear hK K))<;>(try (clear hK K;exact q_u)))|(with_reducible refine q_s ?_;(first|apply q_J|apply q_K|apply q_L|apply q_M|apply q_N|apply q_O)<;>try (intro _;try exact q_v))|with_reducible refine q_t ?_)
        all_goals first | omega | exact q_A rfl | skip
      · (refine q_H Tryz.func80 (fun F => ?_); simp only [q_z,q_y,Tryz.ntmps80,Tryz.results80])
        repeat' (first|(with_reducible first|apply q_a|apply q_b|apply q_c|apply q_d|apply q_e|apply q_f|apply q_g|apply q_h|apply q_i|apply q_j|apply q_k|apply q_m|apply q_n|apply q_o|apply q_p|refine q_l ?_)|((with_reducible first|refine q_q qb7_ok fun K hK=>?_|refine q_r qb7_ok fun K hK=>?_);simp (maxSteps:=2000000) only [go_sem,↓reduceIte,reduceCtorEq,Nat.reduceLeDiff,Nat.reduceLT,Nat.reduceBEq,Nat.reduceAdd,V32, sv32, sv32d, sg_self, o0, o1, o2, hM, hN, hC];(repeat1' with_reducible first|apply And.intro|(intro _;try exact q_v)|(refine hK _ ?_;clear hK K))<;>(try (clear hK K;exact q_u)))|(with_reducible refine q_s ?_;(first|apply q_J|apply q_K|apply q_L|apply q_M|apply q_N|apply q_O)<;>try (intro _;try exact q_v))|with_reducible refine q_t ?_)
        all_goals first | omega | exact q_A rfl | skip
    · (refine q_H Tryz.func80 (fun F => ?_); simp only [q_z,q_y,Tryz.ntmps80,Tryz.results80])
      repeat' (first|(with_reducible first|apply q_a|apply q_b|apply q_c|apply q_d|apply q_e|apply q_f|apply q_g|apply q_h|apply q_i|apply q_j|apply q_k|apply q_m|apply q_n|apply q_o|apply q_p|refine q_l ?_)|((with_reducible first|refine q_q qb7_ok fun K hK=>?_|refine q_r qb7_ok fun K hK=>?_);simp (maxSteps:=2000000) only [go_sem,↓reduceIte,reduceCtorEq,Nat.reduceLeDiff,Nat.reduceLT,Nat.reduceBEq,Nat.reduceAdd,V32, sv32, sv32d, sg_self, o0, o1, o2, hM, hN, hC];(repeat1' with_reducible first|apply And.intro|(intro _;try exact q_v)|(refine hK _ ?_;clear hK K))<;>(try (clear hK K;exact q_u)))|(with_reducible refine q_s ?_;(first|apply q_J|apply q_K|apply q_L|apply q_M|apply q_N|apply q_O)<;>try (intro _;try exact q_v))|with_reducible refine q_t ?_)
      all_goals first | omega | exact q_A rfl | skip
end Go.Proofs.YtlflfhcfljiciaaGreat

namespace Go.Proofs.NatL
set_option linter.unusedSimpArgs false
set_option linter.unusedVariables false
structure Nr (X : Int) (D m : Nat) where
  a : Int
  b : Int
  p : Int
  q : Int
  u : Int
  v : Int
  hX : X = p * u + a * v
  hD : (D : Int) = q * u + b * v
  det : p * b - a * q = 1 ∨ p * b - a * q = -1
  v0 : 0 < v
  vD : v ≤ D
  uX : u = X ∨ (0 < u ∧ u ≤ D)
  b0 : 0 ≤ b ∧ b ≤ m
  q0 : 0 ≤ q ∧ q ≤ m
  aX : a.natAbs ≤ X.natAbs
  pX : p.natAbs ≤ X.natAbs
  one : (q = 0 ∧ b = 1 ∧ p = 1 ∧ u = X ∧ v = D) ∨ (1 ≤ q ∧ v < u ∧ u ≤ D)
theorem Nr.x0 {X : Int} {D m : Nat} (hm : 0 < m) (hD : m < D) (hg : Nat.gcd X.natAbs D = 1) : 1 ≤ X.natAbs := by
  rcases Nat.eq_zero_or_pos X.natAbs with h | h
  · rw [h, Nat.gcd_zero_left] at hg; omega
  · exact h
def Nr.start {X : Int} {D m : Nat} (hm : 0 < m) (hD : m < D) (hg : Nat.gcd X.natAbs D = 1) : Nr X D m :=
  ⟨0, 1, 1, 0, X, D, by omega, by omega, .inl (by omega), by omega, by omega, .inl rfl, by omega, by omega, by simp, by simpa using Nr.x0 hm hD hg, .inl ⟨rfl, rfl, rfl, rfl, rfl⟩⟩
section
variable {X : Int} {D m : Nat}
theorem Nr.quo (e : Nr X D m) : e.u = e.u.fdiv e.v * e.v + e.u.fmod e.v ∧ 0 ≤ e.u.fmod e.v ∧ e.u.fmod e.v < e.v := by
  have h0 := e.v0
  refine ⟨?_, ?_, ?_⟩
  · have := Int.mul_fdiv_add_fmod e.u e.v
    rw [Int.mul_comm]; omega
  · exact Int.fmod_nonneg_of_pos _ h0
  · exact Int.fmod_lt_of_pos _ h0
theorem Nr.cross (e : Nr X D m) (k : Int) : X * (e.b + e.q * k) - (e.a + e.p * k) * D = (e.u - k * e.v) * (e.p * e.b - e.a * e.q) := by
  have h1 := e.hX
  have h2 := e.hD
  obtain ⟨a, b, p, q, u, v, _, _, _, _, _, _, _, _, _, _, _⟩ := e
  simp only at h1 h2 ⊢
  rw [h1, h2]
  simp only [Int.mul_add, Int.add_mul, Int.sub_mul, Int.mul_sub]
  have r1 : p * u * b = u * (p * b) := by ac_rfl
  have r2 : p * u * (q * k) = p * k * (q * u) := by ac_rfl
  have r3 : a * v * (q * k) = k * v * (a * q) := by ac_rfl
  have r4 : p * k * (b * v) = k * v * (p * b) := by ac_rfl
  have r5 : a * v * b = a * (b * v) := by ac_rfl
  have r6 : a * (q * u) = u * (a * q) := by ac_rfl
  rw [r1, r2, r3, r4, r5, r6]
  omega
theorem Nr.cross0 (e : Nr X D m) : X * e.q - e.p * D = -(e.v * (e.p * e.b - e.a * e.q)) := by
  have h1 := e.cross 0
  have h2 := e.cross 1
  simp only [Int.mul_zero, Int.add_zero, Int.zero_mul, Int.sub_zero, Int.mul_one, Int.one_mul] at h1 h2
  rw [Int.mul_add, Int.add_mul, Int.sub_mul] at h2
  omega
theorem abs_one {s w : Int} (h : s = 1 ∨ s = -1) : (w * s).natAbs = w.natAbs := by
  rcases h with rfl | rfl <;> simp
theorem Nr.bound {P Q w : Int} (hm : m < D) (hx : 1 ≤ X.natAbs) (hQ : 0 ≤ Q) (hQm : Q ≤ m) (h : (X * Q - P * D).natAbs = w.natAbs) (hw : w.natAbs ≤ D) : P.natAbs ≤ X.natAbs := by
  have h1 : (P * D).natAbs ≤ (X * Q).natAbs + D := by omega
  rw [Int.natAbs_mul, Int.natAbs_mul, Int.natAbs_natCast] at h1
  have h2 : X.natAbs * Q.natAbs ≤ X.natAbs * (D - 1) := Nat.mul_le_mul_left _ (by omega)
  have h3 : X.natAbs * (D - 1) + X.natAbs = X.natAbs * D := by
    rw [← Nat.mul_succ]; congr 1; omega
  have h4 : P.natAbs * D < (X.natAbs + 1) * D := by rw [Nat.add_mul, Nat.one_mul]; omega
  have := Nat.lt_of_mul_lt_mul_right h4
  omega
theorem mul_le_two {a b c : Int} (h : a ≤ b) (hc : 0 ≤ c) : a * c ≤ b * c := Int.mul_le_mul_of_nonneg_right h hc
theorem Nr.fits (e : Nr X D m) (hm : m < D) (hx : 1 ≤ X.natAbs) {k : Int} (hk : (e.q = 0 ∧ k = e.u.fdiv e.v) ∨ (0 ≤ k ∧ k ≤ e.u.fdiv e.v)) (hQ : e.b + e.q * k ≤ m) :
    0 ≤ e.b + e.q * k ∧ (e.a + e.p * k).natAbs ≤ X.natAbs ∧ (e.p * k).natAbs ≤ X.natAbs := by
  obtain ⟨d1, d2, d3⟩ := e.quo
  have hv := e.v0
  rcases e.one with ⟨z1, z2, z3, z4, z5⟩ | ⟨z1, z2, z3⟩
  · -- the first step
    have hk : k = e.u.fdiv e.v ∨ (0 ≤ k ∧ k ≤ e.u.fdiv e.v) := by omega
    have ha : e.a = 0 := by
      have := e.hX
      rw [z3, z4, z5, Int.one_mul] at this
      have h2 : e.a * (D : Int) = 0 := by omega
      rcases Int.mul_eq_zero.1 h2 with h | h
      · exact h
      · omega
    have hq : (e.u.fdiv e.v).natAbs ≤ X.natAbs := by
      rw [z4] at d1 d2 d3 ⊢
      generalize X.fdiv e.v = f at *
      rcases Int.lt_or_ge' f 0 with hf | hf
      · have h1 : f * e.v ≤ f * 1 := by
          have := Int.mul_le_mul_of_nonpos_left (a := f) (b := e.v) (c := 1) (by omega) (by omega)
          exact this
        rcases Int.lt_or_ge' (f + 1) 0 with h2 | h2
        · have h3 : (f + 1) * e.v ≤ (f + 1) * 1 := Int.mul_le_mul_of_nonpos_left (a := f + 1) (b := e.v) (c := 1) (by omega) (by omega)
          rw [Int.add_mul, Int.one_mul] at h3
          omega
        · omega
      · have h1 : f * 1 ≤ f * e.v := Int.mul_le_mul_of_nonneg_left (by omega) hf
        omega
    have hkk : k.natAbs ≤ X.natAbs := by omega
    rw [z1, z2, z3, ha, Int.zero_mul, Int.one_mul]
    omega
  · have hk : 0 ≤ k ∧ k ≤ e.u.fdiv e.v := by omega
    obtain ⟨k0, k1⟩ := hk
    have hb := e.b0
    have hkv : k * e.v ≤ e.u := by
      have := mul_le_two k1 (show 0 ≤ e.v by omega)
      omega
    have hkv0 : 0 ≤ k * e.v := Int.mul_nonneg k0 (by omega)
    have hqk : 0 ≤ e.q * k := Int.mul_nonneg (by omega) k0
    have c := e.cross k
    have c0 := e.cross0
    refine ⟨by omega, ?_, ?_⟩
    · refine Nr.bound (w := e.u - k * e.v) hm hx (by omega) hQ ?_ (by omega)
      rw [c, abs_one e.det]
    · have e1 : X * (e.q * k) - e.p * k * D = -(k * e.v) * (e.p * e.b - e.a * e.q) := by
        have : X * (e.q * k) - e.p * k * D = (X * e.q - e.p * D) * k := by
          rw [Int.sub_mul]
          have r1 : X * (e.q * k) = X * e.q * k := by ac_rfl
          have r2 : e.p * k * (D : Int) = e.p * D * k := by ac_rfl
          rw [r1, r2]
        rw [this, c0, Int.neg_mul, Int.neg_mul]
        congr 1
        ac_rfl
      refine Nr.bound (Q := e.q * k) (w := -(k * e.v)) hm hx hqk (by omega) ?_ (by omega)
      rw [e1, abs_one e.det]
theorem Nr.next (e : Nr X D m) (h0 : 0 < m) (hm : m < D) (hg : Nat.gcd X.natAbs D = 1) (hQ : e.b + e.q * e.u.fdiv e.v ≤ m) :
    ∃ e' : Nr X D m, e'.a = e.p ∧ e'.b = e.q ∧ e'.p = e.a + e.p * e.u.fdiv e.v ∧ e'.q = e.b + e.q * e.u.fdiv e.v ∧ e'.u = e.v ∧ e'.v = e.u.fmod e.v ∧ e'.v < e.v := by
  have hx := Nr.x0 h0 hm hg
  obtain ⟨d1, d2, d3⟩ := e.quo
  have hv := e.v0
  have hk : (e.q = 0 ∧ e.u.fdiv e.v = e.u.fdiv e.v) ∨ (0 ≤ e.u.fdiv e.v ∧ e.u.fdiv e.v ≤ e.u.fdiv e.v) := by
    rcases e.one with ⟨z1, _⟩ | ⟨z1, z2, z3⟩
    · exact .inl ⟨z1, rfl⟩
    · refine .inr ⟨?_, Int.le_refl _⟩
      exact Int.fdiv_nonneg (by omega) (by omega)
  obtain ⟨f1, f2, f3⟩ := e.fits hm hx hk hQ
  have hq1 : 1 ≤ e.b + e.q * e.u.fdiv e.v := by
    rcases e.one with ⟨z1, z2, _⟩ | ⟨z1, z2, z3⟩
    · rw [z1, z2, Int.zero_mul]; omega
    · have : 1 ≤ e.u.fdiv e.v := by
        rcases Int.lt_or_ge' (e.u.fdiv e.v) 1 with h | h
        · have := mul_le_two (show e.u.fdiv e.v ≤ 0 by omega) (show 0 ≤ e.v by omega)
          omega
        · exact h
      have h2 : 1 * 1 ≤ e.q * e.u.fdiv e.v := Int.mul_le_mul z1 this (by omega) (by omega)
      have := e.b0
      omega
  generalize hf : e.u.fdiv e.v = f at *
  generalize hr : e.u.fmod e.v = r at *
  have hX : X = (e.a + e.p * f) * e.v + e.p * r := by
    have := e.hX
    rw [d1] at this
    refine this.trans ?_
    rw [Int.add_mul, Int.mul_add]
    have r1 : e.p * (f * e.v) = e.p * f * e.v := by ac_rfl
    rw [r1]; omega
  have hD : (D : Int) = (e.b + e.q * f) * e.v + e.q * r := by
    have := e.hD
    rw [d1] at this
    refine this.trans ?_
    rw [Int.add_mul, Int.mul_add]
    have r1 : e.q * (f * e.v) = e.q * f * e.v := by ac_rfl
    rw [r1]; omega
  have r0 : 0 < r := by
    rcases Int.lt_or_ge' 0 r with h | h
    · exact h
    · exfalso
      have hr0 : r = 0 := by omega
      rw [hr0, Int.mul_zero, Int.add_zero] at hX hD
      have v1 : e.v.natAbs ∣ X.natAbs := ⟨(e.a + e.p * f).natAbs, by
        have := congrArg Int.natAbs hX
        rw [Int.natAbs_mul] at this
        exact this.trans (Nat.mul_comm ..)⟩
      have v2 : e.v.natAbs ∣ D := ⟨(e.b + e.q * f).natAbs, by
        have := congrArg Int.natAbs hD
        rw [Int.natAbs_natCast, Int.natAbs_mul] at this
        exact this.trans (Nat.mul_comm ..)⟩
      have := Nat.dvd_gcd v1 v2
      rw [hg, Nat.dvd_one] at this
      have hv1 : e.v = 1 := by omega
      rw [hv1, Int.mul_one] at hD
      omega
  refine ⟨⟨e.p, e.q, e.a + e.p * f, e.b + e.q * f, e.v, r, hX, hD, ?_, r0, by have := e.vD; omega, .inr ⟨hv, e.vD⟩, e.q0, ⟨f1, hQ⟩, e.pX, f2, .inr ⟨hq1, d3, e.vD⟩⟩, rfl, rfl, rfl, rfl, rfl, rfl, d3⟩
  have h1 : (e.a + e.p * f) * e.q - e.p * (e.b + e.q * f) = -(e.p * e.b - e.a * e.q) := by
    rw [Int.add_mul, Int.mul_add]
    have r1 : e.p * f * e.q = e.p * (e.q * f) := by ac_rfl
    rw [r1]; omega
  rw [h1]
  rcases e.det with h | h <;> rw [h] <;> simp
theorem Nr.stop (e : Nr X D m) (h0 : 0 < m) (hQ : ¬ e.b + e.q * e.u.fdiv e.v ≤ m) :
    1 ≤ e.q ∧ 0 ≤ (m - e.b).fdiv e.q ∧ (m - e.b).fdiv e.q < e.u.fdiv e.v ∧ e.b + e.q * (m - e.b).fdiv e.q ≤ m ∧ m < e.b + e.q * (m - e.b).fdiv e.q + e.q ∧ 0 < e.b + e.q * (m - e.b).fdiv e.q := by
  have hb := e.b0
  have q1 : 1 ≤ e.q := by
    rcases e.one with ⟨z1, z2, _⟩ | ⟨z1, _⟩
    · rw [z1, z2, Int.zero_mul] at hQ; omega
    · exact z1
  have h1 := Int.mul_fdiv_add_fmod ((m : Int) - e.b) e.q
  have h2 := Int.fmod_nonneg_of_pos ((m : Int) - e.b) (show 0 < e.q by omega)
  have h3 := Int.fmod_lt_of_pos ((m : Int) - e.b) (show 0 < e.q by omega)
  have h4 : 0 ≤ ((m : Int) - e.b).fdiv e.q := Int.fdiv_nonneg (by omega) (by omega)
  have hqm := e.q0
  refine ⟨q1, h4, ?_, by omega, by omega, by omega⟩
  rcases Int.lt_or_ge' (((m : Int) - e.b).fdiv e.q) (e.u.fdiv e.v) with h | h
  · exact h
  · exfalso
    have := Int.mul_le_mul_of_nonneg_left h (show 0 ≤ e.q by omega)
    omega
theorem Nr.best (e : Nr X D m) (hm : m < D) {k : Int} (hk0 : 0 ≤ k) (hk : k < e.u.fdiv e.v) (q1 : 1 ≤ e.q) (hQ : e.b + e.q * k ≤ m) (hQ2 : m < e.b + e.q * k + e.q) (hQ0 : 0 < e.b + e.q * k) {q Q : Nat} (hq : e.q = q) (hQQ : e.b + e.q * k = Q) :
    Nat.gcd e.p.natAbs q = 1 ∧ Nat.gcd (e.a + e.p * k).natAbs Q = 1 ∧
    (clP X D e.p q (e.a + e.p * k) Q → Best X D m e.p q) ∧ (¬ clP X D e.p q (e.a + e.p * k) Q → Best X D m (e.a + e.p * k) Q) := by
  obtain ⟨d1, d2, d3⟩ := e.quo
  have hv := e.v0
  have c := e.cross k
  have c0 := e.cross0
  have hqm := e.q0
  have hpos : 0 < e.u - k * e.v := by
    have := mul_le_two (show k + 1 ≤ e.u.fdiv e.v by omega) (show 0 ≤ e.v by omega)
    rw [Int.add_mul, Int.one_mul] at this
    omega
  have hdet0 := e.det
  generalize hS : e.p * e.b - e.a * e.q = S at *
  rw [hQQ] at c hQ hQ2 hQ0
  rw [hq] at c0 hQ2 q1 hqm
  generalize hP : e.a + e.p * k = P at *
  have hdet : e.p * Q - P * q = S := by
    rw [← hS, ← hP, ← hQQ, ← hq, Int.mul_add, Int.add_mul]
    have r1 : e.p * k * e.q = e.p * (e.q * k) := by ac_rfl
    rw [r1]; omega
  rcases hdet0 with h | h
  · rw [h] at c c0 hdet
    rw [Int.mul_one] at c c0
    have g := cop_det (a := P) (b := Q) (c := e.p) (d := q) hdet
    have hl : P * D ≤ X * Q := by omega
    have hu : X * q ≤ e.p * D := by omega
    refine ⟨g.2, g.1, fun hc => ?_, fun hc => ?_⟩
    · refine best_up (a := P) (b := Q) (by omega) (by omega) (by omega) hdet (by omega) (by omega) hl hu ?_
      unfold lowB; unfold clP at hc
      have : ¬ e.p * Q < P * q := by omega
      omega
    · refine best_low (c := e.p) (d := q) (by omega) (by omega) (by omega) hdet (by omega) (by omega) hl hu ?_
      unfold lowB; unfold clP at hc
      omega
  · rw [h] at c c0 hdet
    have hdet' : P * q - e.p * Q = 1 := by omega
    have g := cop_det (a := e.p) (b := q) (c := P) (d := Q) hdet'
    have hl : e.p * D ≤ X * q := by omega
    have hu : X * Q ≤ P * D := by omega
    refine ⟨g.1, g.2, fun hc => ?_, fun hc => ?_⟩
    · refine best_low (c := P) (d := Q) (by omega) (by omega) (by omega) hdet' (by omega) (by omega) hl hu ?_
      unfold lowB; unfold clP at hc
      omega
    · refine best_up (a := e.p) (b := q) (by omega) (by omega) (by omega) hdet' (by omega) (by omega) hl hu ?_
      unfold lowB; unfold clP at hc
      have : e.p * Q < P * q := by omega
      omega
end
end Go.Proofs.NatL
