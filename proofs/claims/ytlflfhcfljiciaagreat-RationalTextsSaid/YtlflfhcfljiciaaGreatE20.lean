import Derived.Test.YtlflfhcfljiciaaGreatE18
import Derived.Test.YtlflfhcfljiciaaGreatE19
namespace Go.Proofs.YtlflfhcfljiciaaGreat
set_option linter.unusedSimpArgs false
set_option linter.unusedVariables false
open Go.Abs Go.Proofs.NatL

def txQ (z : Int) (d : Nat) : ByteArray := if d = 1 then strOf (textI z 10) else strOf (textI z 10) ++ { data := #[47] } ++ strOf (textI (d : Int) 10)
def qb11 : Cfg := listT [(20, qcheckCT), (21, iTextCT)] [28]
theorem qb11_ok : TblOk Tryz.prog qb11 := listE_ok (by simp only [List.mem_singleton, forall_eq]; exact flt) ⟨⟨qt3, qt3_ok, rfl⟩, ⟨iu2, iu2_ok, rfl⟩, trivial⟩
attribute [go_sem] qb11
set_option maxHeartbeats 1600000 in
theorem qtext_ok (z : Int) (d : Nat) (h : RT z d) : Ret Tryz.prog 4 false [.inr (gQ z d)] (.t [.inl (.str (txQ z d)), fltQ 0 0]) := by
  have oX := okQ_g h
  obtain ⟨hd, lz, ld⟩ := RT_parts h
  have o1 := (okZ_g z).trans (decide_eq_true lz)
  have o2 := (okZ_n d).trans (decide_eq_true ld)
  have ten : (10 : Int).toNat = 10 := rfl
  have e3 : sv 4294967296 false (dg 4294967296 d) = (d : Int) := by rw [sv32d, sgf]
  have s1 : (strOf (textI z 10)).size ≤ 4097 := by rw [str_size, text_bytes z 10 (by omega) (by omega)]; exact textI_len z 10 (by omega) lz
  have s2 : (strOf (textI (d : Int) 10)).size ≤ 4097 := by rw [str_size, text_bytes (d : Int) 10 (by omega) (by omega)]; exact textI_len (d : Int) 10 (by omega) (by rw [Int.natAbs_natCast]; exact ld)
  have s3 : ({ data := #[47] } : ByteArray).size = 1 := rfl
  have s4 : (strOf (textI z 10) ++ { data := #[47] }).size = (strOf (textI z 10)).size + 1 := by rw [ByteArray.size_append, s3]
  clear h
  unfold txQ
  by_cases hl : (dg 4294967296 d).length = 1
  · have e1 := dg_is1 (B := 4294967296) (by omega) hl
    by_cases h1 : d = 1
    · rw [if_pos h1]
      subst h1
      (refine q_H Tryz.func4 (fun F => ?_); simp only [q_z,q_y,Tryz.ntmps4,Tryz.results4])
      repeat' (first|(with_reducible first|apply q_a|apply q_b|apply q_c|apply q_d|apply q_e|apply q_f|apply q_g|apply q_h|apply q_i|apply q_j|apply q_k|apply q_m|apply q_n|apply q_o|apply q_p|refine q_l ?_)|((with_reducible first|refine q_q qb11_ok fun K hK=>?_|refine q_r qb11_ok fun K hK=>?_);simp (maxSteps:=2000000) only [go_sem,↓reduceIte,reduceCtorEq,Nat.reduceLeDiff,Nat.reduceLT,Nat.reduceBEq,Nat.reduceAdd,oX, o1, o2, sv32, e3, ten, hl, e1];(repeat1' with_reducible first|apply And.intro|(intro _;try exact q_v)|(refine hK _ ?_;clear hK K))<;>(try (clear hK K;exact q_u)))|(with_reducible refine q_s ?_;(first|apply q_J|apply q_K|apply q_L|apply q_M|apply q_N|apply q_O)<;>try (intro _;try exact q_v))|with_reducible refine q_t ?_)
      all_goals first | omega | exact q_A rfl | skip
    · rw [if_neg h1]
      (refine q_H Tryz.func4 (fun F => ?_); simp only [q_z,q_y,Tryz.ntmps4,Tryz.results4])
      repeat' (first|(with_reducible first|apply q_a|apply q_b|apply q_c|apply q_d|apply q_e|apply q_f|apply q_g|apply q_h|apply q_i|apply q_j|apply q_k|apply q_m|apply q_n|apply q_o|apply q_p|refine q_l ?_)|((with_reducible first|refine q_q qb11_ok fun K hK=>?_|refine q_r qb11_ok fun K hK=>?_);simp (maxSteps:=2000000) only [go_sem,↓reduceIte,reduceCtorEq,Nat.reduceLeDiff,Nat.reduceLT,Nat.reduceBEq,Nat.reduceAdd,oX, o1, o2, sv32, e3, ten, hl, e1, s3, s4];(repeat1' with_reducible first|apply And.intro|(intro _;try exact q_v)|(refine hK _ ?_;clear hK K))<;>(try (clear hK K;exact q_u)))|(with_reducible refine q_s ?_;(first|apply q_J|apply q_K|apply q_L|apply q_M|apply q_N|apply q_O)<;>try (intro _;try exact q_v))|with_reducible refine q_t ?_)
      all_goals first | omega | exact q_A rfl | skip
  · have h1 : d ≠ 1 := fun h => hl (by rw [h, dg_one _ (by omega)]; rfl)
    have hl' : (((dg 4294967296 d).length : Int) = 1) = False := eq_false (by omega)
    rw [if_neg h1]
    (refine q_H Tryz.func4 (fun F => ?_); simp only [q_z,q_y,Tryz.ntmps4,Tryz.results4])
    repeat' (first|(with_reducible first|apply q_a|apply q_b|apply q_c|apply q_d|apply q_e|apply q_f|apply q_g|apply q_h|apply q_i|apply q_j|apply q_k|apply q_m|apply q_n|apply q_o|apply q_p|refine q_l ?_)|((with_reducible first|refine q_q qb11_ok fun K hK=>?_|refine q_r qb11_ok fun K hK=>?_);simp (maxSteps:=2000000) only [go_sem,↓reduceIte,reduceCtorEq,Nat.reduceLeDiff,Nat.reduceLT,Nat.reduceBEq,Nat.reduceAdd,oX, o1, o2, sv32, e3, ten, hl', s3, s4];(repeat1' with_reducible first|apply And.intro|(intro _;try exact q_v)|(refine hK _ ?_;clear hK K))<;>(try (clear hK K;exact q_u)))|(with_reducible refine q_s ?_;(first|apply q_J|apply q_K|apply q_L|apply q_M|apply q_N|apply q_O)<;>try (intro _;try exact q_v))|with_reducible refine q_t ?_)
    all_goals first | omega | exact q_A rfl | skip
set_option maxHeartbeats 1600000 in
theorem qtext_bad (s t : Bool) (xs ys : List Int) (h1 : xs.length ≤ 140737488355328) (h2 : ys.length ≤ 140737488355328) (b1 : InB 4294967296 xs) (b2 : InB 4294967296 ys) (h : okQ s xs t ys = false) :
    Ret Tryz.prog 4 false [.inr [.b s, .ints .u32 xs, .b t, .ints .u32 ys]] (.t [.inl (.str { data := #[] }), fltQ 6 (-1)]) := by
  (refine q_H Tryz.func4 (fun F => ?_); simp only [q_z,q_y,Tryz.ntmps4,Tryz.results4])
  repeat' (first|(with_reducible first|apply q_a|apply q_b|apply q_c|apply q_d|apply q_e|apply q_f|apply q_g|apply q_h|apply q_i|apply q_j|apply q_k|apply q_m|apply q_n|apply q_o|apply q_p|refine q_l ?_)|((with_reducible first|refine q_q qb11_ok fun K hK=>?_|refine q_r qb11_ok fun K hK=>?_);simp (maxSteps:=2000000) only [go_sem,↓reduceIte,reduceCtorEq,Nat.reduceLeDiff,Nat.reduceLT,Nat.reduceBEq,Nat.reduceAdd,h];(repeat1' with_reducible first|apply And.intro|(intro _;try exact q_v)|(refine hK _ ?_;clear hK K))<;>(try (clear hK K;exact q_u)))|(with_reducible refine q_s ?_;(first|apply q_J|apply q_K|apply q_L|apply q_M|apply q_N|apply q_O)<;>try (intro _;try exact q_v))|with_reducible refine q_t ?_)
  all_goals first | omega | assumption | exact q_A rfl | skip
def qtextCT : CT := mkCT [nQ] true fun l K => match l with
  | [.inr [.b s, .ints .u32 xs, .b t, .ints .u32 ys]] => (xs.length ≤ 140737488355328 ∧ ys.length ≤ 140737488355328 ∧ InB 4294967296 xs ∧ InB 4294967296 ys) ∧
      (if okQ s xs t ys = true then K (.t [.inl (.str (txQ (sv 4294967296 s xs) (V 4294967296 ys))), fltQ 0 0]) else K (.t [.inl (.str { data := #[] }), fltQ 6 (-1)]))
  | _ => False
def qt18 : Cfg := addT 4 qtextCT qt17
theorem qt18_ok : TblOk Tryz.prog qt18 := q_I qt17_ok Tryz.func4 fun l K h => by
  split at h
  · rename_i s xs t ys
    obtain ⟨⟨h1, h2, b1, b2⟩, h⟩ := h
    split at h
    · rename_i o1
      obtain ⟨e1, r1⟩ := gQ_of o1 b1 b2
      rw [e1]
      exact ⟨_, (qtext_ok _ _ r1).plain rfl, h⟩
    · rename_i o1
      exact ⟨_, (qtext_bad s t xs ys h1 h2 b1 b2 (by simpa using o1)).plain rfl, h⟩
  · exact h.elim
attribute [go_sem] qtextCT
def nrN (X : Int) (D : Nat) (m : Int) : Int := if (D : Int) ≤ m then X else bN X D m.natAbs
def nrD (X : Int) (D : Nat) (m : Int) : Nat := if (D : Int) ≤ m then D else bD X D m.natAbs
theorem nr_ge {X : Int} {D : Nat} {m : Int} (h : (D : Int) ≤ m) : nrN X D m = X ∧ nrD X D m = D := by simp [nrN, nrD, h]
theorem nr_lt {X : Int} {D : Nat} {m : Int} (h : m < (D : Int)) : nrN X D m = bN X D m.natAbs ∧ nrD X D m = bD X D m.natAbs := by
  have : ¬ (D : Int) ≤ m := by omega
  simp [nrN, nrD, this]
def nearCT : CT := mkCT [nQ, nP] false fun l K => match l with
  | [.inr [.b s, .ints .u32 xs, .b t, .ints .u32 ys], .inr [.b r, .ints .u32 ms]] =>
      (xs.length ≤ 140737488355328 ∧ ys.length ≤ 140737488355328 ∧ ms.length ≤ 140737488355328 ∧ InB 4294967296 xs ∧ InB 4294967296 ys ∧ InB 4294967296 ms) ∧
      (if okQ s xs t ys = true then (if okZ r ms = true then (if 0 < sv 4294967296 r ms then K (.t [.inr (gQ (nrN (sv 4294967296 s xs) (V 4294967296 ys) (sv 4294967296 r ms)) (nrD (sv 4294967296 s xs) (V 4294967296 ys) (sv 4294967296 r ms))), fltQ 0 0])
        else K (.t [zQ, fltQ 4 (-2)])) else K (.t [zQ, fltQ 6 (-2)])) else K (.t [zQ, fltQ 6 (-1)]))
  | _ => False
def qt19 : Cfg := addT 28 nearCT qt18
theorem qt19_ok : TblOk Tryz.prog qt19 := q_I qt18_ok Tryz.func28 fun l K h => by
  split at h
  · rename_i s xs t ys r ms
    obtain ⟨⟨h1, h2, h3, b1, b2, b3⟩, h⟩ := h
    split at h
    · rename_i o1
      split at h
      · rename_i o2
        obtain ⟨e1, r1⟩ := gQ_of o1 b1 b2
        obtain ⟨e2, f2, l2⟩ := gI_ofQ' o2 b3
        split at h
        · rename_i o3
          have e3 : [C.b r, C.ints .u32 ms] = gI (sv 4294967296 r ms) := by rw [gI, ← e2, ← f2]
          rw [e1, e3]
          clear e1 e2 e3 f2
          generalize sv 4294967296 s xs = X at *
          generalize V 4294967296 ys = D at *
          generalize sv 4294967296 r ms = m at *
          rcases Int.lt_or_ge' m D with hm | hm
          · obtain ⟨k1, k2⟩ := nr_lt (X := X) hm
            rw [k1, k2] at h
            exact ⟨_, nearest_lt X D m r1 l2 o3 hm, h⟩
          · obtain ⟨k1, k2⟩ := nr_ge (X := X) hm
            rw [k1, k2] at h
            exact ⟨_, nearest_le X D m r1 l2 o3 hm, h⟩
        · rename_i o3
          have h4 : r = true ∨ ms = [] := by
            rcases Int.lt_or_ge' (sv 4294967296 r ms) 0 with hz | hz
            · left; rw [e2]; exact decide_eq_true hz
            · right
              have : sv 4294967296 r ms = 0 := by omega
              rw [this] at f2
              rw [f2]; rfl
          have := nearest_bad s t r xs ys ms h1 h2 h3 b1 b2 (.inr (.inr ⟨o1, o2, h4⟩))
          rw [if_pos ⟨o1, o2⟩, if_pos o1] at this
          exact ⟨_, this, h⟩
      · rename_i o2
        have := nearest_bad s t r xs ys ms h1 h2 h3 b1 b2 (.inr (.inl ⟨o1, by simpa using o2⟩))
        rw [if_neg (fun h => o2 h.2), if_pos o1] at this
        exact ⟨_, this, h⟩
    · rename_i o1
      have := nearest_bad s t r xs ys ms h1 h2 h3 b1 b2 (.inl (by simpa using o1))
      rw [if_neg (fun h => o1 h.1), if_neg o1] at this
      exact ⟨_, this, h⟩
  · exact h.elim
attribute [go_sem] nearCT
theorem small_len {n k : Nat} (h : n < 4294967296) (hk : 1 ≤ k) : (dg 4294967296 n).length ≤ k := Nat.le_trans (dg_len_le (by omega) n 1 (by rw [Nat.pow_one]; exact h)) hk
theorem small_len65 {n k : Nat} (h : n < 65536) (hk : 1 ≤ k) : (dg 65536 n).length ≤ k := Nat.le_trans (dg_len_le (by omega) n 1 (by rw [Nat.pow_one]; exact h)) hk
theorem best355 : bN 355 113 10 = 22 ∧ bD 355 113 10 = 7 := best_is (by omega) (by omega) (by decide) (best_up (a := 25) (b := 8) (c := 22) (d := 7) (by omega) (by omega) (by omega) (by omega) (by omega) (by omega) (by decide) (by decide) (by unfold lowB; decide))
theorem nr355 : nrN 355 113 10 = 22 ∧ nrD 355 113 10 = 7 := by
  obtain ⟨h1, h2⟩ := nr_lt (X := 355) (D := 113) (m := 10) (by omega)
  obtain ⟨h3, h4⟩ := best355
  exact ⟨h1.trans h3, h2.trans h4⟩
theorem ex22 : ((txQ 22 7).toList == ({ data := #[50, 50, 47, 55] } : ByteArray).toList) = true := by decide +kernel
theorem exN2 : Nrm false (dg 4294967296 2) := of_eq_true (Nrm_g (2 : Int))
theorem exM1 : rdN (6 * tn (-4) 1) (-4 : Int).natAbs = -3 ∧ rdD (6 * tn (-4) 1) (-4 : Int).natAbs = 2 := by decide
theorem exM2 : rdN (355 * tn 113 1) (113 : Int).natAbs = 355 ∧ rdD (355 * tn 113 1) (113 : Int).natAbs = 113 := by decide
theorem exF1 : fN (-3) 2 = -3 ∧ fD (-3) 2 = 2 ∧ fC (-3) 2 = 0 ∧ fI (-3) 2 = 0 := by decide +kernel
theorem exF2 : fN 355 113 = 355 ∧ fD 355 113 = 113 ∧ fC 355 113 = 0 ∧ fI 355 113 = 0 := by decide +kernel
theorem exO1 : okQ (decide ((355 : Int) < 0)) (dg 4294967296 (355 : Int).natAbs) false (dg 4294967296 113) = true := by decide +kernel
theorem exO2 : okQ (decide ((22 : Int) < 0)) (dg 4294967296 (22 : Int).natAbs) false (dg 4294967296 7) = true := by decide +kernel
def qb12 : Cfg := listT [(27, iOfCT), (26, qmakeCT), (28, nearCT), (4, qtextCT), (29, sameIntCT), (16, numberCT)] [28]
theorem qb12_ok : TblOk Tryz.prog qb12 := listE_ok (by simp only [List.mem_singleton, forall_eq]; exact flt) ⟨⟨iu1, iu1_ok, rfl⟩, ⟨qt11, qt11_ok, rfl⟩, ⟨qt19, qt19_ok, rfl⟩, ⟨qt18, qt18_ok, rfl⟩, ⟨jt15, jt15_ok, rfl⟩, ⟨jt12, jt12_ok, rfl⟩, trivial⟩
attribute [go_sem] qb12
set_option maxRecDepth 100000 in
set_option maxHeartbeats 3200000 in
theorem parts_ret : Ret Tryz.prog 6 false [] (.c (.b true)) := by
  obtain ⟨a1, a2⟩ := exM1
  obtain ⟨a3, a4⟩ := exM2
  obtain ⟨a5, a6, a7, a8⟩ := exF1
  obtain ⟨a9, a10, a11, a12⟩ := exF2
  obtain ⟨a13, a14⟩ := nr355
  have a15 := exO1
  have a16 := exO2
  have a17 := ex22
  have a18 := exN2
  have a19 : sv 4294967296 false (dg 4294967296 2) = 2 := by rw [sv32d, sgf]; rfl
  have d1 : (dg 4294967296 (6 : Int).natAbs).length ≤ 128 := small_len (by decide) (by omega)
  have d2 : (dg 4294967296 (-4 : Int).natAbs).length ≤ 128 := small_len (by decide) (by omega)
  have d3 : (dg 4294967296 (355 : Int).natAbs).length ≤ 128 := small_len (by decide) (by omega)
  have d4 : (dg 4294967296 (113 : Int).natAbs).length ≤ 128 := small_len (by decide) (by omega)
  have d5 : (dg 4294967296 (10 : Int).natAbs).length ≤ 128 := small_len (by decide) (by omega)
  have d6 : (0 : Int) < 10 := by omega
  (refine q_H Tryz.func6 (fun F => ?_); simp only [q_z,q_y,Tryz.ntmps6,Tryz.results6])
  repeat' (first|(with_reducible first|apply q_a|apply q_b|apply q_c|apply q_d|apply q_e|apply q_f|apply q_g|apply q_h|apply q_i|apply q_j|apply q_k|apply q_m|apply q_n|apply q_o|apply q_p|refine q_l ?_)|((with_reducible first|refine q_q qb12_ok fun K hK=>?_|refine q_r qb12_ok fun K hK=>?_);simp (maxSteps:=2000000) only [go_sem,↓reduceIte,reduceCtorEq,Nat.reduceLeDiff,Nat.reduceLT,Nat.reduceBEq,Nat.reduceAdd,sv32, okZ_g, a1, a2, a3, a4, a5, a6, a7, a8, a9, a10, a11, a12, a13, a14, a15, a16, a17, a19, d1, d2, d3, d4, d5, d6];(repeat1' with_reducible first|apply And.intro|intro _|(refine hK _ ?_;clear hK K))<;>(try (clear hK K;exact q_u)))|(with_reducible refine q_s ?_;(first|apply q_J|apply q_K|apply q_L|apply q_M|apply q_N|apply q_O)<;>try intro _)|with_reducible refine q_t ?_)
  all_goals first
    | exact small_len (by decide) (by omega)
    | exact small_len65 (by decide) (by omega)
    | omega
    | assumption
    | skip
  all_goals first | exact q_A rfl | skip
def partsCT : CT := mkCT [] true fun l K => match l with
  | [] => K (.c (.b true))
  | _ => False
def qt20 : Cfg := addT 6 partsCT qt19
theorem qt20_ok : TblOk Tryz.prog qt20 := q_I qt19_ok Tryz.func6 fun l K h => by
  split at h
  · exact ⟨_, parts_ret.plain rfl, h⟩
  · exact h.elim
attribute [go_sem] partsCT
end Go.Proofs.YtlflfhcfljiciaaGreat

namespace Go.Proofs.NatL
set_option linter.unusedSimpArgs false
set_option linter.unusedVariables false
theorem fN_len (z : Int) (d : Nat) : (dg 4294967296 (fN z d).natAbs).length ≤ 128 := by
  unfold fN; split
  · rename_i h; exact h.1
  · exact Nat.zero_le _
theorem RT_len65 {z : Int} {d : Nat} (h : RT z d) : (dg 65536 z.natAbs).length ≤ 256 ∧ (dg 65536 d).length ≤ 256 :=
  ⟨(dg_half' _ 128).2 h.2.2.1, (dg_half' _ 128).2 h.2.2.2⟩
theorem fQ_65 (z : Int) (d : Nat) : fQ z d ↔ (dg 65536 z.natAbs).length ≤ 256 ∧ (dg 65536 d).length ≤ 256 :=
  ⟨fun h => ⟨(dg_half' _ 128).2 h.1, (dg_half' _ 128).2 h.2⟩, fun h => ⟨(dg_half' _ 128).1 h.1, (dg_half' _ 128).1 h.2⟩⟩
end Go.Proofs.NatL
namespace Go.Proofs.YtlflfhcfljiciaaGreat
set_option linter.unusedSimpArgs false
set_option linter.unusedVariables false
open Go.Abs Go.Proofs.NatL

theorem Nrm_n (d : Nat) : Nrm false (dg 4294967296 d) = True := by
  have e := Nrm_g (d : Int)
  rwa [Int.natAbs_natCast, show decide ((d : Int) < 0) = false from decide_eq_false (by omega)] at e
theorem sv32n (d : Nat) : sv 4294967296 false (dg 4294967296 d) = (d : Int) := by rw [sv32d, sgf]
theorem sv65n (d : Nat) : sv 65536 false (dg 65536 d) = (d : Int) := by rw [sv65d, sgf]
def qb13 : Cfg := listT [(30, validQCT), (14, atCT), (12, sameRatioCT), (35, noRatioCT), (34, qfitsCT)] [28]
theorem qb13_ok : TblOk Tryz.prog qb13 := listE_ok (by simp only [List.mem_singleton, forall_eq]; exact flt) ⟨⟨rq1, rq1_ok, rfl⟩, ⟨jt15, jt15_ok, rfl⟩, ⟨rq14, rq14_ok, rfl⟩, ⟨rq14, rq14_ok, rfl⟩, ⟨rq14, rq14_ok, rfl⟩, trivial⟩
attribute [go_sem] qb13
set_option maxHeartbeats 1600000 in
theorem ratioFaults_ret (l : List (Bool × List Int × Bool × List Int)) (hn : l.length ≤ 1000) (hl : allQ 140737488355328 l) :
    Ret Tryz.prog 7 false [.inl (.sl 4 (l.map rowQ))] (.g [.i .i64 (qbC l), .i .i64 (qbX 0 l)]) := by
  (refine q_H Tryz.func7 (fun F => ?_); simp only [q_z,q_y,Tryz.ntmps7,Tryz.results7])
  repeat' (first|(with_reducible first|apply q_a|apply q_b|apply q_c|apply q_d|apply q_e|apply q_f|apply q_g|apply q_h|apply q_i|apply q_j|apply q_k|apply q_m|apply q_n|apply q_o|apply q_p|refine q_l ?_)|((with_reducible first|refine q_q qb13_ok fun K hK=>?_|refine q_r qb13_ok fun K hK=>?_);simp (maxSteps:=2000000) only [go_sem,↓reduceIte,reduceCtorEq,Nat.reduceLeDiff,Nat.reduceLT,Nat.reduceBEq,Nat.reduceAdd,List.length_map];(repeat1' with_reducible first|apply And.intro|intro _|(refine hK _ ?_;clear hK K))<;>(try (clear hK K;exact q_u)))|(with_reducible refine q_s ?_;(first|apply q_J|apply q_K|apply q_L|apply q_M|apply q_N|apply q_O)<;>try intro _)|with_reducible refine q_t ?_)
  refine q_G (ι := { i : Nat // i ≤ l.length ∧ qbC (l.drop i) = qbC l ∧ qbX i (l.drop i) = qbX 0 l }) (fun i => ⟨20, [(0, .c (.sl 4 (l.map rowQ))), (2, .bx 0 0), (3, .c (.i .i64 (i.1 : Nat)))], ⟨[(0, [.c (.i .i64 0), .c (.i .i64 0)])], [], []⟩, 1⟩) (fun i => l.length - i.1) ⟨0, by simp, rfl, rfl⟩ ?_ ?_
  · exact q_D
  rintro ⟨i, g1, g2, g3⟩
  simp only at g1 g2 g3 ⊢
  obtain ⟨n1, n2, n3, n4⟩ := allQ_get (i := i) hl
  rcases Nat.lt_or_ge i l.length with hi | hi
  · have hr := rowQ_get l i hi
    rw [drop_getQ l i hi, qbC] at g2
    rw [drop_getQ l i hi, qbX] at g3
    cases ho : okQ (l.getD i q0).1 (l.getD i q0).2.1 (l.getD i q0).2.2.1 (l.getD i q0).2.2.2
    · simp only [ho, Bool.false_eq_true, if_false] at g2 g3
      repeat' (first|(with_reducible first|apply q_a|apply q_b|apply q_c|apply q_d|apply q_e|apply q_f|apply q_g|apply q_h|apply q_i|apply q_j|apply q_k|apply q_m|apply q_n|apply q_o|apply q_p|refine q_l ?_)|((with_reducible first|refine q_q qb13_ok fun K hK=>?_|refine q_r qb13_ok fun K hK=>?_);simp (maxSteps:=2000000) only [go_sem,↓reduceIte,reduceCtorEq,Nat.reduceLeDiff,Nat.reduceLT,Nat.reduceBEq,Nat.reduceAdd,hr, ho, List.length_map];(repeat1' with_reducible first|apply And.intro|(intro _;try exact q_v)|(refine hK _ ?_;clear hK K))<;>(try (clear hK K;exact q_u)))|(with_reducible refine q_s ?_;(first|apply q_J|apply q_K|apply q_L|apply q_M|apply q_N|apply q_O)<;>try (intro _;try exact q_v))|with_reducible refine q_t ?_)
      all_goals first | omega | assumption | exact q_A (by rw [← g2, ← g3]; rfl) | skip
    · simp only [ho, if_true] at g2 g3
      repeat' (first|(with_reducible first|apply q_a|apply q_b|apply q_c|apply q_d|apply q_e|apply q_f|apply q_g|apply q_h|apply q_i|apply q_j|apply q_k|apply q_m|apply q_n|apply q_o|apply q_p|refine q_l ?_)|((with_reducible first|refine q_q qb13_ok fun K hK=>?_|refine q_r qb13_ok fun K hK=>?_);simp (maxSteps:=2000000) only [go_sem,↓reduceIte,reduceCtorEq,Nat.reduceLeDiff,Nat.reduceLT,Nat.reduceBEq,Nat.reduceAdd,hr, ho, List.length_map];(repeat1' with_reducible first|apply And.intro|(intro _;try exact q_v)|(refine hK _ ?_;clear hK K))<;>(try (clear hK K;exact q_u)))|(with_reducible refine q_s ?_;(first|apply q_J|apply q_K|apply q_L|apply q_M|apply q_N|apply q_O)<;>try (intro _;try exact q_v))|with_reducible refine q_t ?_)
      all_goals first | omega | assumption | skip
      refine q_F ⟨i + 1, hi, g2, by push_cast; exact g3⟩ ?_ (by simp only; omega)
      exact q_D
  · have hi' : i = l.length := by omega
    subst hi'
    rw [List.drop_length] at g2 g3
    repeat' (first|(with_reducible first|apply q_a|apply q_b|apply q_c|apply q_d|apply q_e|apply q_f|apply q_g|apply q_h|apply q_i|apply q_j|apply q_k|apply q_m|apply q_n|apply q_o|apply q_p|refine q_l ?_)|((with_reducible first|refine q_q qb13_ok fun K hK=>?_|refine q_r qb13_ok fun K hK=>?_);simp (maxSteps:=2000000) only [go_sem,↓reduceIte,reduceCtorEq,Nat.reduceLeDiff,Nat.reduceLT,Nat.reduceBEq,Nat.reduceAdd,List.length_map];(repeat1' with_reducible first|apply And.intro|(intro _;try exact q_v)|(refine hK _ ?_;clear hK K))<;>(try (clear hK K;exact q_u)))|(with_reducible refine q_s ?_;(first|apply q_J|apply q_K|apply q_L|apply q_M|apply q_N|apply q_O)<;>try (intro _;try exact q_v))|with_reducible refine q_t ?_)
    all_goals first | omega | exact q_A (by rw [← g2, ← g3]; rfl) | skip
def rq15 : Cfg := addT 7 qcheckCT rq14
theorem rq15_ok : TblOk Tryz.prog rq15 := q_I rq14_ok Tryz.func7 fun l K h => by
  split at h
  · split at h
    · rename_i l hl
      rw [unQ_some hl]
      exact ⟨_, (ratioFaults_ret l h.1.1 h.1.2).plain rfl, h.2⟩
    · exact h.elim
  · exact h.elim

set_option maxHeartbeats 1600000 in
theorem gives_fit (s t r : Bool) (xs ys zs ws : List Int) (n1 : Nrm s xs) (n2 : Nrm t ys) (l1 : xs.length ≤ 16777216) (l2 : ys.length ≤ 16777216) (b3 : InB 65536 zs) (t3 : Trd zs) (l3 : zs.length ≤ 256) (b4 : InB 65536 ws) (t4 : Trd ws) (l4 : ws.length ≤ 256)
    (h1 : sv 4294967296 s xs = sv 65536 r zs) (h2 : sv 4294967296 t ys = (V 65536 ws : Int)) :
    Ret Tryz.prog 13 false [.inr [.b s, .ints .u32 xs, .b t, .ints .u32 ys], .inr [.i .i64 0, .i .i64 0], .inr [.b r, .ints .i64 zs, .ints .i64 ws], .inr [.i .i64 0, .i .i64 0]] (.c (.b true)) := by
  have e1 : decide (sv 4294967296 s xs = sv 65536 r zs) = true := decide_eq_true h1
  have e2 : decide (sv 4294967296 t ys = (V 65536 ws : Int)) = true := decide_eq_true h2
  have e3 : decide ((zs.length : Int) ≤ 256) = true := decide_eq_true (by omega)
  have e4 : decide ((ws.length : Int) ≤ 256) = true := decide_eq_true (by omega)
  (refine q_H Tryz.func13 (fun F => ?_); simp only [q_z,q_y,Tryz.ntmps13,Tryz.results13])
  repeat' (first|(with_reducible first|apply q_a|apply q_b|apply q_c|apply q_d|apply q_e|apply q_f|apply q_g|apply q_h|apply q_i|apply q_j|apply q_k|apply q_m|apply q_n|apply q_o|apply q_p|refine q_l ?_)|((with_reducible first|refine q_q qb13_ok fun K hK=>?_|refine q_r qb13_ok fun K hK=>?_);simp (maxSteps:=2000000) only [go_sem,↓reduceIte,reduceCtorEq,Nat.reduceLeDiff,Nat.reduceLT,Nat.reduceBEq,Nat.reduceAdd,e1, e2, e3, e4];(repeat1' with_reducible first|apply And.intro|(intro _;try exact q_v)|(refine hK _ ?_;clear hK K))<;>(try (clear hK K;exact q_u)))|(with_reducible refine q_s ?_;(first|apply q_J|apply q_K|apply q_L|apply q_M|apply q_N|apply q_O)<;>try (intro _;try exact q_v))|with_reducible refine q_t ?_)
  all_goals first | omega | assumption | exact q_A rfl | exact q_A (by simp [resAV, q_y]) | skip
set_option maxHeartbeats 1600000 in
theorem gives_big (r : Bool) (zs ws : List Int) (h : ¬ (zs.length ≤ 256 ∧ ws.length ≤ 256)) :
    Ret Tryz.prog 13 false [zQ, .inr [.i .i64 14, .i .i64 (-1)], .inr [.b r, .ints .i64 zs, .ints .i64 ws], .inr [.i .i64 0, .i .i64 0]] (.c (.b true)) := by
  have e3 : (decide ((zs.length : Int) ≤ 256) && decide ((ws.length : Int) ≤ 256)) = false := by
    rw [← Bool.decide_and]; exact decide_eq_false (by omega)
  have n1 : Nrm false [] := of_eq_true (Nrm_n 0)
  have v1 : sv 4294967296 false [] = 0 := sv32n 0
  (refine q_H Tryz.func13 (fun F => ?_); simp only [q_z,q_y,Tryz.ntmps13,Tryz.results13])
  repeat' (first|(with_reducible first|apply q_a|apply q_b|apply q_c|apply q_d|apply q_e|apply q_f|apply q_g|apply q_h|apply q_i|apply q_j|apply q_k|apply q_m|apply q_n|apply q_o|apply q_p|refine q_l ?_)|((with_reducible first|refine q_q qb13_ok fun K hK=>?_|refine q_r qb13_ok fun K hK=>?_);simp (maxSteps:=2000000) only [go_sem,↓reduceIte,reduceCtorEq,Nat.reduceLeDiff,Nat.reduceLT,Nat.reduceBEq,Nat.reduceAdd,e3, v1];(repeat1' with_reducible first|apply And.intro|(intro _;try exact q_v)|(refine hK _ ?_;clear hK K))<;>(try (clear hK K;exact q_u)))|(with_reducible refine q_s ?_;(first|apply q_J|apply q_K|apply q_L|apply q_M|apply q_N|apply q_O)<;>try (intro _;try exact q_v))|with_reducible refine q_t ?_)
  all_goals first | omega | assumption | exact q_A rfl | exact q_A (by simp [resAV, q_y]) | skip
set_option maxHeartbeats 1600000 in
theorem gives_bad (r : Bool) (zs ws : List Int) (c i : Int) (h : c ≠ 0) :
    Ret Tryz.prog 13 false [zQ, .inr [.i .i64 c, .i .i64 i], .inr [.b r, .ints .i64 zs, .ints .i64 ws], .inr [.i .i64 c, .i .i64 i]] (.c (.b true)) := by
  have e3 : (c = 0) = False := eq_false h
  have n1 : Nrm false [] := of_eq_true (Nrm_n 0)
  have v1 : sv 4294967296 false [] = 0 := sv32n 0
  (refine q_H Tryz.func13 (fun F => ?_); simp only [q_z,q_y,Tryz.ntmps13,Tryz.results13])
  repeat' (first|(with_reducible first|apply q_a|apply q_b|apply q_c|apply q_d|apply q_e|apply q_f|apply q_g|apply q_h|apply q_i|apply q_j|apply q_k|apply q_m|apply q_n|apply q_o|apply q_p|refine q_l ?_)|((with_reducible first|refine q_q qb13_ok fun K hK=>?_|refine q_r qb13_ok fun K hK=>?_);simp (maxSteps:=2000000) only [go_sem,↓reduceIte,reduceCtorEq,Nat.reduceLeDiff,Nat.reduceLT,Nat.reduceBEq,Nat.reduceAdd,e3, v1];(repeat1' with_reducible first|apply And.intro|(intro _;try exact q_v)|(refine hK _ ?_;clear hK K))<;>(try (clear hK K;exact q_u)))|(with_reducible refine q_s ?_;(first|apply q_J|apply q_K|apply q_L|apply q_M|apply q_N|apply q_O)<;>try (intro _;try exact q_v))|with_reducible refine q_t ?_)
  all_goals first | omega | assumption | exact q_A rfl | exact q_A (by simp [resAV, q_y]) | skip
def givesCT : CT := mkCT [nQ, .inr [none, none], nT, .inr [none, none]] true fun l K => match l with
  | [.inr [.b s, .ints .u32 xs, .b t, .ints .u32 ys], .inr [.i .i64 c, .i .i64 i], .inr [.b r, .ints .i64 zs, .ints .i64 ws], .inr [.i .i64 wc, .i .i64 wi]] =>
      ((wc = 0 → (wi = 0 ∧ Nrm s xs ∧ Nrm t ys ∧ xs.length ≤ 16777216 ∧ ys.length ≤ 16777216 ∧ InB 65536 zs ∧ Trd zs ∧ InB 65536 ws ∧ Trd ws) ∧
        sv 4294967296 s xs = fN (sv 65536 r zs) (V 65536 ws) ∧ sv 4294967296 t ys = (fD (sv 65536 r zs) (V 65536 ws) : Int) ∧ c = fC (sv 65536 r zs) (V 65536 ws) ∧ i = fI (sv 65536 r zs) (V 65536 ws)) ∧
       (wc ≠ 0 → s = false ∧ xs = [] ∧ t = false ∧ ys = [] ∧ c = wc ∧ i = wi)) ∧ K (.c (.b true))
  | _ => False
def rq16 : Cfg := addT 13 givesCT rq15
theorem rq16_ok : TblOk Tryz.prog rq16 := q_I rq15_ok Tryz.func13 fun l K h => by
  split at h
  · rename_i s xs t ys c i r zs ws wc wi
    obtain ⟨⟨k1, k2⟩, h⟩ := h
    by_cases hw : wc = 0
    · subst hw
      obtain ⟨⟨rfl, n1, n2, l1, l2, b3, t3, b4, t4⟩, e1, e2, e3, e4⟩ := k1 rfl
      obtain ⟨y1, y2⟩ := sv_ys (s := r) b3 t3
      have y3 := dg_V 65536 (by omega) ws b4 t4
      have hq := fQ_65 (sv 65536 r zs) (V 65536 ws)
      rw [y3] at hq
      have y4 : dg 65536 (sv 65536 r zs).natAbs = zs := by rw [sv_abs]; exact dg_V 65536 (by omega) zs b3 t3
      rw [y4] at hq
      by_cases hf : fQ (sv 65536 r zs) (V 65536 ws)
      · obtain ⟨f1, f2, f3, f4⟩ := f_fit hf
        rw [f1] at e1; rw [f2] at e2; rw [f3] at e3; rw [f4] at e4
        subst e3 e4
        exact ⟨_, (gives_fit s t r xs ys zs ws n1 n2 l1 l2 b3 t3 (hq.1 hf).1 b4 t4 (hq.1 hf).2 e1 e2).plain rfl, h⟩
      · obtain ⟨f1, f2, f3, f4⟩ := f_big hf
        rw [f1] at e1; rw [f2] at e2; rw [f3] at e3; rw [f4] at e4
        subst e3 e4
        obtain ⟨p1, p2⟩ := Nrm_eq n1
        obtain ⟨p3, p4⟩ := Nrm_eq n2
        rw [e1] at p1 p2
        rw [e2] at p3 p4
        have p1 : s = false := p1
        have p3 : t = false := p3
        have p2 : xs = [] := p2
        have p4 : ys = [] := p4
        subst p1 p2 p3 p4
        exact ⟨_, (gives_big r zs ws (fun z => hf (hq.2 z))).plain rfl, h⟩
    · obtain ⟨rfl, rfl, rfl, rfl, rfl, rfl⟩ := k2 hw
      exact ⟨_, (gives_bad r zs ws _ _ hw).plain rfl, h⟩
  · exact h.elim
attribute [go_sem] givesCT
end Go.Proofs.YtlflfhcfljiciaaGreat

namespace Go.Proofs.YtlflfhcfljiciaaGreat
set_option linter.unusedSimpArgs false
set_option linter.unusedVariables false
open Go.Abs Go.Proofs.NatL

theorem Digits_base (xs : List Int) (b : Int) (ho : okN xs = true) (h : b < 2 ∨ 36 < b) :
    Ret Tryz.prog 43 false [.inl (.ints .u32 xs), .inl (.i .i64 b)] (.t [.inl (.ints .i64 []), .inr [.i .i64 4, .i .i64 (-2)]]) := by
  (refine q_H Tryz.func43 (fun F => ?_); simp only [q_z,q_y,Tryz.ntmps43,Tryz.results43])
  repeat' (first|(with_reducible first|apply q_a|apply q_b|apply q_c|apply q_d|apply q_e|apply q_f|apply q_g|apply q_h|apply q_i|apply q_j|apply q_k|apply q_m|apply q_n|apply q_o|apply q_p|refine q_l ?_)|((with_reducible first|refine q_q tb21_ok fun K hK=>?_|refine q_r tb21_ok fun K hK=>?_);simp (maxSteps:=2000000) only [go_sem,↓reduceIte,reduceCtorEq,Nat.reduceLeDiff,Nat.reduceLT,Nat.reduceBEq,Nat.reduceAdd];(repeat1' with_reducible first|apply And.intro|(intro _;try exact q_v)|(refine hK _ ?_;clear hK K))<;>(try (clear hK K;exact q_u)))|(with_reducible refine q_s ?_;(first|apply q_J|apply q_K|apply q_L|apply q_M|apply q_N|apply q_O)<;>try (intro _;try exact q_v))|with_reducible refine q_t ?_)
  all_goals exact q_B [.inl (some (.ints .i64 []))] rfl rfl
def digBCT : CT := mkCT [.inl (some (.ints .u32 []))] false fun l K => match l with
  | [.inl (.ints .u32 xs), .inl (.i .i64 b)] => (okN xs = true ∧ (b < 2 ∨ 36 < b)) ∧ K (.t [.inl (.ints .i64 []), .inr [.i .i64 4, .i .i64 (-2)]])
  | _ => False
def iu4 : Cfg := addT 43 digBCT it5
theorem iu4_ok : TblOk Tryz.prog iu4 := q_I it5_ok Tryz.func43 fun l K h => by
  split at h
  · exact ⟨_, Digits_base _ _ h.1.1 h.1.2, h.2⟩
  · exact h.elim
attribute [go_sem] digBCT
def ibu : Cfg := listT [(42, icheckCT), (43, digBCT)] [28]
theorem ibu_ok : TblOk Tryz.prog ibu := listT_ok (big := iu4) iu4_ok ⟨rfl, rfl, trivial⟩
attribute [go_sem] ibu
set_option maxHeartbeats 1600000 in
theorem iText_bad (s : Bool) (xs : List Int) (b : Int) (hx : xs.length ≤ 140737488355328) (ho : okZ s xs = false) :
    Ret Tryz.prog 21 false [.inr [.b s, .ints .u32 xs], .inl (.i .i64 b)] (.t [.inl (.str ByteArray.empty), .inr [.i .i64 6, .i .i64 (-1)]]) := by
  (refine q_H Tryz.func21 (fun F => ?_); simp only [q_z,q_y,Tryz.ntmps21,Tryz.results21])
  repeat' (first|(with_reducible first|apply q_a|apply q_b|apply q_c|apply q_d|apply q_e|apply q_f|apply q_g|apply q_h|apply q_i|apply q_j|apply q_k|apply q_m|apply q_n|apply q_o|apply q_p|refine q_l ?_)|((with_reducible first|refine q_q ibu_ok fun K hK=>?_|refine q_r ibu_ok fun K hK=>?_);simp (maxSteps:=2000000) only [go_sem,↓reduceIte,reduceCtorEq,Nat.reduceLeDiff,Nat.reduceLT,Nat.reduceBEq,Nat.reduceAdd,ho];(repeat1' with_reducible first|apply And.intro|(intro _;try exact q_v)|(refine hK _ ?_;clear hK K))<;>(try (clear hK K;exact q_u)))|(with_reducible refine q_s ?_;(first|apply q_J|apply q_K|apply q_L|apply q_M|apply q_N|apply q_O)<;>try (intro _;try exact q_v))|with_reducible refine q_t ?_)
  all_goals exact q_A rfl
set_option maxHeartbeats 1600000 in
theorem iText_base (s : Bool) (xs : List Int) (b : Int) (ho : okZ s xs = true) (hb : b < 2 ∨ 36 < b) (hx : xs.length ≤ 140737488355328) (hk : okN xs = true) :
    Ret Tryz.prog 21 false [.inr [.b s, .ints .u32 xs], .inl (.i .i64 b)] (.t [.inl (.str ByteArray.empty), .inr [.i .i64 4, .i .i64 (-2)]]) := by
  (refine q_H Tryz.func21 (fun F => ?_); simp only [q_z,q_y,Tryz.ntmps21,Tryz.results21])
  repeat' (first|(with_reducible first|apply q_a|apply q_b|apply q_c|apply q_d|apply q_e|apply q_f|apply q_g|apply q_h|apply q_i|apply q_j|apply q_k|apply q_m|apply q_n|apply q_o|apply q_p|refine q_l ?_)|((with_reducible first|refine q_q ibu_ok fun K hK=>?_|refine q_r ibu_ok fun K hK=>?_);simp (maxSteps:=2000000) only [go_sem,↓reduceIte,reduceCtorEq,Nat.reduceLeDiff,Nat.reduceLT,Nat.reduceBEq,Nat.reduceAdd,ho, hk];(repeat1' with_reducible first|apply And.intro|(intro _;try exact q_v)|(refine hK _ ?_;clear hK K))<;>(try (clear hK K;exact q_u)))|(with_reducible refine q_s ?_;(first|apply q_J|apply q_K|apply q_L|apply q_M|apply q_N|apply q_O)<;>try (intro _;try exact q_v))|with_reducible refine q_t ?_)
  all_goals first | omega | exact q_A rfl
def iTextFCT : CT := mkCT [nP] true fun l K => match l with
  | [.inr [.b s, .ints .u32 xs], .inl (.i .i64 b)] => (xs.length ≤ 140737488355328 ∧ InB 4294967296 xs) ∧ (okZ s xs = false → K (.t [.inl (.str ByteArray.empty), .inr [.i .i64 6, .i .i64 (-1)]])) ∧
      (okZ s xs = true → ((b < 2 ∨ 36 < b) → K (.t [.inl (.str ByteArray.empty), .inr [.i .i64 4, .i .i64 (-2)]])) ∧
        (2 ≤ b ∧ b ≤ 36 → K (.t [.inl (.str (strOf (textI (sv 4294967296 s xs) b.toNat))), .inr [.i .i64 0, .i .i64 0]])))
  | _ => False
def iu5 : Cfg := addT 21 iTextFCT iu2
theorem iu5_ok : TblOk Tryz.prog iu5 := q_I iu2_ok Tryz.func21 fun l K h => by
  split at h
  · rename_i s xs b
    obtain ⟨⟨h1, h2⟩, hbad, hok⟩ := h
    cases ho : okZ s xs
    · exact ⟨_, (iText_bad s xs b h1 ho).plain rfl, hbad ho⟩
    · obtain ⟨e1, e2, e3⟩ := okZ_eq ho h2
      by_cases hb : b < 2 ∨ 36 < b
      · exact ⟨_, (iText_base s xs b ho hb h1 (by rw [e2]; exact okN_128 (by rw [← e2]; exact e3))).plain rfl, (hok ho).1 hb⟩
      · obtain ⟨n, rfl⟩ : ∃ n : Nat, b = n := ⟨b.toNat, by omega⟩
        have := iText_ok (sv 4294967296 s xs) n (by omega) (by omega) (by rw [← e2]; exact e3)
        simp only [gI, ← e1, ← e2] at this
        exact ⟨_, this.plain rfl, by simpa using (hok ho).2 (by omega)⟩
  · exact h.elim
attribute [go_sem] iTextFCT
end Go.Proofs.YtlflfhcfljiciaaGreat
