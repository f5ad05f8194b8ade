import Derived.Test.YtlefdhkjbbdijaaG21
import Derived.Test.YtlefdhkjbbdijaaG23
import Derived.Test.YtlefdhkjbbdijaaG26
namespace Go.Proofs.NatL
set_option linter.unusedSimpArgs false
set_option linter.unusedVariables false
theorem left_rd {z : Int} {d : Nat} (hd : 0 < d) (hg : Nat.gcd z.natAbs d = 1) : rdN (z * ((1 : Nat) : Int) - z.fdiv d * d) (d * 1) = z.fmod d ∧ rdD (z * ((1 : Nat) : Int) - z.fdiv d * d) (d * 1) = d := by
  obtain ⟨h1, _, _, _⟩ := flo_facts (z := z) hd
  have e : z * ((1 : Nat) : Int) - z.fdiv d * d = z.fmod d := by
    rw [show ((1 : Nat) : Int) = 1 from rfl, Int.mul_one]; omega
  rw [e, Nat.mul_one]
  exact rd_self ((fmod_gcd z d).trans hg)
theorem gcd_swap {z : Int} {d : Nat} (hg : Nat.gcd z.natAbs d = 1) : Nat.gcd d (z.fmod d).natAbs = 1 := by
  rw [Nat.gcd_comm, fmod_gcd, hg]
end Go.Proofs.NatL
namespace Go.Proofs.Ytlefdhkjbbdijaa
set_option linter.unusedSimpArgs false
set_option linter.unusedVariables false
open Go.Abs Go.Proofs.NatL

def qv3 : Cfg := listT [(20, qfloorCT), (21, qroundCT), (22, qtermsCT), (10, partsCT), (23, qcheckCT), (24, noIntCT), (25, noRatioCT), (30, sameIntCT), (31, sameRatioCT), (32, atCT), (14, ratioOfCT), (26, (qT 20000 dpos floT)), (27, wholeCT), (15, (qT2 20000 dpos2 lesT)), (18, numberCT), (28, smallCT), (17, (qT2 20000 dany2 ordT)), (29, (rI2CT 1048576 addF)), (33, tTurnedCT)] [30]
theorem qv3_ok : TblOk Try.prog qv3 := listE_ok (by simp only [List.mem_singleton, forall_eq]; exact flt) ⟨⟨qf1, qf1_ok, rfl⟩, ⟨qf2, qf2_ok, rfl⟩, ⟨qf3, qf3_ok, rfl⟩, ⟨qt20, qt20_ok, rfl⟩, ⟨rq15, rq15_ok, rfl⟩, ⟨jt15, jt15_ok, rfl⟩, ⟨rq13, rq13_ok, rfl⟩, ⟨jt15, jt15_ok, rfl⟩, ⟨rq12, rq12_ok, rfl⟩, ⟨jt15, jt15_ok, rfl⟩, ⟨rq2, rq2_ok, rfl⟩, ⟨rq8, rq8_ok, rfl⟩, ⟨rq11, rq11_ok, rfl⟩, ⟨rq7, rq7_ok, rfl⟩, ⟨jt12, jt12_ok, rfl⟩, ⟨jt15, jt15_ok, rfl⟩, ⟨rq6, rq6_ok, rfl⟩, ⟨jt12, jt12_ok, rfl⟩, ⟨rq9, rq9_ok, rfl⟩, trivial⟩
attribute [go_sem] qv3
set_option maxRecDepth 100000 in
set_option maxHeartbeats 6400000 in
theorem qrounds_bad (s t : Bool) (xs ys : List Int) (h1 : xs.length ≤ 140737488355328) (h2 : ys.length ≤ 140737488355328) (b1 : InB 4294967296 xs) (b2 : InB 4294967296 ys) (h : okQ s xs t ys = false) :
    Ret Try.prog 4 false [.inr [.b s, .ints .u32 xs, .b t, .ints .u32 ys]] (.c (.b true)) := by
  have n1 : Nrm false [] := of_eq_true (Nrm_n 0)
  have v1 : sv 4294967296 false [] = 0 := sv32n 0
  (refine q_H Try.func4 (fun F => ?_); simp only [q_z,q_y,Try.ntmps4,Try.results4])
  repeat' (first|(with_reducible first|apply q_a|apply q_b|apply q_c|apply q_d|apply q_e|apply q_f|apply q_g|apply q_h|apply q_i|apply q_j|apply q_k|apply q_m|apply q_n|apply q_o|apply q_p|refine q_l ?_)|((with_reducible first|refine q_q qv3_ok fun K hK=>?_|refine q_r qv3_ok fun K hK=>?_);simp (maxSteps:=2000000) only [go_sem,↓reduceIte,reduceCtorEq,Nat.reduceLeDiff,Nat.reduceLT,Nat.reduceBEq,Nat.reduceAdd,h, v1];(repeat1' with_reducible first|apply And.intro|(intro _;try exact q_v)|(refine hK _ ?_;clear hK K))<;>(try (clear hK K;exact q_u)))|(with_reducible refine q_s ?_;(first|apply q_J|apply q_K|apply q_L|apply q_M|apply q_N|apply q_O)<;>try (intro _;try exact q_v))|with_reducible refine q_t ?_)
  all_goals first | omega | assumption | exact q_A rfl | exact q_A (by simp [resAV, q_y]) | skip
theorem odd_dg65 {n : Nat} (h : 0 < (dg 65536 n).length) : ((dg 65536 n).getD 0 0) % 2 = ((n % 2 : Nat) : Int) := by
  have h0 := (dg_len_pos 65536 n (by omega)).1 h
  rw [dg_pos _ _ (by omega) h0]
  show (((n % 65536 : Nat) : Int)) % 2 = _
  omega
theorem dg0_nn65 (n : Nat) : 0 ≤ (dg 65536 n).getD 0 0 ∧ (dg 65536 n).getD 0 0 < 65536 := by
  rcases Nat.eq_zero_or_pos n with h | h
  · rw [h]; exact ⟨Int.le_refl _, by decide⟩
  · rw [dg_pos _ _ (by omega) h]
    show 0 ≤ (((n % 65536 : Nat) : Int)) ∧ (((n % 65536 : Nat) : Int)) < 65536
    omega
theorem drop_cons {L M : List Int} {i : Nat} {q : Int} (h : L.drop i = q :: M) : i < L.length ∧ L.getD i 0 = q ∧ L.drop (i + 1) = M := by
  have h1 : i < L.length := by
    rcases Nat.lt_or_ge i L.length with k | k
    · exact k
    · rw [List.drop_eq_nil_of_le k] at h; cases h
  refine ⟨h1, ?_, ?_⟩
  · have := congrArg (·.head?) h
    simp at this
    simp [List.getD_eq_getElem?_getD, this]
  · have := congrArg List.tail h
    simpa using this
abbrev uQ (u : Int) (v : Nat) : List AV := [.c (.b (decide (u < 0))), .c (.ints .i64 (dg 65536 u.natAbs)), .c (.ints .i64 (dg 65536 v))]
set_option maxRecDepth 100000 in
set_option maxHeartbeats 12800000 in
theorem qrounds_ok (z : Int) (d : Nat) (h : RT z d) : Ret Try.prog 4 false [.inr (gQ z d)] (.c (.b true)) := by
  have o1 := okQ_g h
  obtain ⟨hd, lz, ld⟩ := RT_parts h
  obtain ⟨mz, md⟩ := RT_len65 h
  have hg := h.2.1
  obtain ⟨lr1, lr2⟩ := left_rd (z := z) hd hg
  obtain ⟨f1, f2, f3, f4⟩ := flo_facts (z := z) hd
  have mq : (dg 65536 (z.fdiv d).natAbs).length ≤ 256 := Nat.le_trans (dg_len_mono (by omega) f4) mz
  have mr : (dg 65536 (z.fmod d).natAbs).length ≤ 256 := Nat.le_trans (dg_len_mono (by omega) (by omega)) md
  have lq : (dg 4294967296 (z.fdiv d).natAbs).length ≤ 128 := Nat.le_trans (dg_len_mono (by omega) f4) lz
  have lr : (dg 4294967296 (z.fmod d).natAbs).length ≤ 128 := Nat.le_trans (dg_len_mono (by omega) (by omega)) ld
  have d1 : (dg 65536 1).length ≤ 1 := by decide
  have d2 : (dg 65536 2).length ≤ 1 := by decide
  have d3 : (dg 65536 (1 : Int).natAbs).length ≤ 1 := by decide
  have two : Int.toNat 2 = 2 := rfl
  have mp : (dg 65536 (z.fdiv d + 1).natAbs).length ≤ 257 := zadd_len (by omega) mq (Nat.le_trans d3 (by omega))
  have lp : (dg 4294967296 (rndI z d).natAbs).length ≤ 128 := by
    unfold rndI
    split
    · rename_i hk
      rcases rnd_len hd hk with k | k
      · exact Nat.le_trans (dg_len_mono (by omega) k) lz
      · exact Nat.le_trans (dg_len_mono (by omega) k) (by decide)
    · exact lq
  clear h
  (refine q_H Try.func4 (fun F => ?_); simp only [q_z,q_y,Try.ntmps4,Try.results4])
  refine seq_cut13 (ι := Unit) (fun _ => ⟨187, [(2, .c (.b false)), (8, .c (.sl 2 (tmS z d))), (9, .bx 6 0), (11, .bx 8 0), (12, .bx 9 0), (13, .bx 10 0)],
    ⟨[(10, [.u, .u, .u]), (9, [.u, .u]), (8, uQ z d), (6, [.c (.i .i64 (tmC z d)), .c (.i .i64 (tmI z d))])], [], []⟩, 12⟩) (fun Y hY => ?_) ?_
  · have c1 := cmpZ_gt (z.fmod d * ((2 : Nat) : Int)) (1 * (d : Int))
    have c2 : cmpZ (z.fmod d * ((2 : Nat) : Int)) (1 * (d : Int)) = 0 ↔ z.fmod d * ((2 : Nat) : Int) = 1 * (d : Int) := by unfold cmpZ; (repeat' split) <;> omega
    have ho := odd_dg65 (n := (z.fdiv d).natAbs)
    have hp := dg_len_pos 65536 (z.fdiv d).natAbs (by omega)
    have hnn := dg0_nn65 (z.fdiv d).natAbs
    have hrnd : rndI z d = if (d : Int) < z.fmod d + z.fmod d ∨ (z.fmod d + z.fmod d = d ∧ (z.fdiv d).natAbs % 2 = 1) then z.fdiv d + 1 else z.fdiv d := rfl
    generalize hM : cmpZ (z.fmod d * ((2 : Nat) : Int)) (1 * (d : Int)) = M at *
    by_cases hk : (d : Int) < z.fmod d + z.fmod d ∨ (z.fmod d + z.fmod d = d ∧ (z.fdiv d).natAbs % 2 = 1)
    · rw [if_pos hk] at hrnd
      rw [hrnd] at lp
      rcases Int.lt_or_ge' (d : Int) (z.fmod d + z.fmod d) with k1 | k1
      · have hM1 : 0 < M := c1.2 (by omega)
        repeat' (first|(with_reducible first|apply q_a|apply q_b|apply q_c|apply q_d|apply q_e|apply q_f|apply q_g|apply q_h|apply q_i|apply q_j|apply q_k|apply q_m|apply q_n|apply q_o|apply q_p|refine q_l ?_)|((with_reducible first|refine q_q qv3_ok fun K hK=>?_|refine q_r qv3_ok fun K hK=>?_);simp (maxSteps:=2000000) only [go_sem,↓reduceIte,reduceCtorEq,Nat.reduceLeDiff,Nat.reduceLT,Nat.reduceBEq,Nat.reduceAdd,o1, sv32, V32, sv65, V65, svz65, lr1, lr2, hM, hrnd, Nrm_g, Nrm_n, sv32n, two, toNat_one];(repeat1' with_reducible first|apply And.intro|(intro _;try exact q_v)|(refine hK _ ?_;clear hK K))<;>(try (clear hK K;exact q_u)))|(with_reducible refine q_s ?_;(first|apply q_J|apply q_K|apply q_L|apply q_M|apply q_N|apply q_O)<;>try (intro _;try exact q_v))|with_reducible refine q_t ?_)
        all_goals first | omega | assumption | exact cut_fit hY () q_D | skip
      · have hM1 : M = 0 := c2.2 (by omega)
        have hq : (z.fdiv d).natAbs % 2 = 1 := by omega
        have hq2 : 0 < (dg 65536 (z.fdiv d).natAbs).length := hp.2 (by omega)
        have ho := ho hq2
        repeat' (first|(with_reducible first|apply q_a|apply q_b|apply q_c|apply q_d|apply q_e|apply q_f|apply q_g|apply q_h|apply q_i|apply q_j|apply q_k|apply q_m|apply q_n|apply q_o|apply q_p|refine q_l ?_)|((with_reducible first|refine q_q qv3_ok fun K hK=>?_|refine q_r qv3_ok fun K hK=>?_);simp (maxSteps:=2000000) only [go_sem,↓reduceIte,reduceCtorEq,Nat.reduceLeDiff,Nat.reduceLT,Nat.reduceBEq,Nat.reduceAdd,o1, sv32, V32, sv65, V65, svz65, lr1, lr2, hM, hrnd, Nrm_g, Nrm_n, sv32n, two, toNat_one];(repeat1' with_reducible first|apply And.intro|(intro _;try exact q_v)|(refine hK _ ?_;clear hK K))<;>(try (clear hK K;exact q_u)))|(with_reducible refine q_s ?_;(first|apply q_J|apply q_K|apply q_L|apply q_M|apply q_N|apply q_O)<;>try (intro _;try exact q_v))|with_reducible refine q_t ?_)
        all_goals first | omega | assumption | exact cut_fit hY () q_D | skip
    · rw [if_neg hk] at hrnd
      by_cases hM1 : M = 0
      · have hq : (z.fdiv d).natAbs % 2 ≠ 1 := fun h => hk (.inr ⟨by omega, h⟩)
        repeat' (first|(with_reducible first|apply q_a|apply q_b|apply q_c|apply q_d|apply q_e|apply q_f|apply q_g|apply q_h|apply q_i|apply q_j|apply q_k|apply q_m|apply q_n|apply q_o|apply q_p|refine q_l ?_)|((with_reducible first|refine q_q qv3_ok fun K hK=>?_|refine q_r qv3_ok fun K hK=>?_);simp (maxSteps:=2000000) only [go_sem,↓reduceIte,reduceCtorEq,Nat.reduceLeDiff,Nat.reduceLT,Nat.reduceBEq,Nat.reduceAdd,o1, sv32, V32, sv65, V65, svz65, lr1, lr2, hM, hrnd, Nrm_g, Nrm_n, sv32n, two, toNat_one];(repeat1' with_reducible first|apply And.intro|(intro _;try exact q_v)|(refine hK _ ?_;clear hK K))<;>(try (clear hK K;exact q_u)))|(with_reducible refine q_s ?_;(first|apply q_J|apply q_K|apply q_L|apply q_M|apply q_N|apply q_O)<;>try (intro _;try exact q_v))|with_reducible refine q_t ?_)
        all_goals first | omega | assumption | exact cut_fit hY () q_D | skip
      · have hM2 : ¬ 0 < M := fun h => hk (.inl (by omega))
        repeat' (first|(with_reducible first|apply q_a|apply q_b|apply q_c|apply q_d|apply q_e|apply q_f|apply q_g|apply q_h|apply q_i|apply q_j|apply q_k|apply q_m|apply q_n|apply q_o|apply q_p|refine q_l ?_)|((with_reducible first|refine q_q qv3_ok fun K hK=>?_|refine q_r qv3_ok fun K hK=>?_);simp (maxSteps:=2000000) only [go_sem,↓reduceIte,reduceCtorEq,Nat.reduceLeDiff,Nat.reduceLT,Nat.reduceBEq,Nat.reduceAdd,o1, sv32, V32, sv65, V65, svz65, lr1, lr2, hM, hrnd, Nrm_g, Nrm_n, sv32n, two, toNat_one];(repeat1' with_reducible first|apply And.intro|(intro _;try exact q_v)|(refine hK _ ?_;clear hK K))<;>(try (clear hK K;exact q_u)))|(with_reducible refine q_s ?_;(first|apply q_J|apply q_K|apply q_L|apply q_M|apply q_N|apply q_O)<;>try (intro _;try exact q_v))|with_reducible refine q_t ?_)
        all_goals first | omega | assumption | exact cut_fit hY () q_D | skip
  · intro _
    clear lr1 lr2 f1 f2 f3 f4 mq mr lq lr mp lp
    cases hcf : cfN 400 z d with
    | some L =>
      obtain ⟨t1, t2, t3⟩ := tm_some hcf
      rw [t1, t2, t3]
      have tl := tmR_len L
      have hL := cfN_len _ _ _ _ hcf
      repeat' (first|(with_reducible first|apply q_a|apply q_b|apply q_c|apply q_d|apply q_e|apply q_f|apply q_g|apply q_h|apply q_i|apply q_j|apply q_k|apply q_m|apply q_n|apply q_o|apply q_p|refine q_l ?_)|((with_reducible first|refine q_q qv3_ok fun K hK=>?_|refine q_r qv3_ok fun K hK=>?_);simp (maxSteps:=2000000) only [go_sem,↓reduceIte,reduceCtorEq,Nat.reduceLeDiff,Nat.reduceLT,Nat.reduceBEq,Nat.reduceAdd];(repeat1' with_reducible first|apply And.intro|(intro _;try exact q_v)|(refine hK _ ?_;clear hK K))<;>(try (clear hK K;exact q_u)))|(with_reducible refine q_s ?_;(first|apply q_J|apply q_K|apply q_L|apply q_M|apply q_N|apply q_O)<;>try (intro _;try exact q_v))|with_reducible refine q_t ?_)
      refine q_G (ι := { p : Nat × Int × Nat // p.1 ≤ L.length ∧ 0 < p.2.2 ∧ Nat.gcd p.2.1.natAbs p.2.2 = 1 ∧ (dg 65536 p.2.1.natAbs).length ≤ 256 ∧ (dg 65536 p.2.2).length ≤ 256 ∧ cfN (400 - p.1) p.2.1 p.2.2 = some (L.drop p.1) })
        (fun p => ⟨187, [(2, .c (.b false)), (8, .c (.sl 2 (tmR L))), (9, .bx 6 0), (11, .bx 8 0), (12, .bx 9 0), (13, .bx 10 0), (16, .c (.i .i64 (p.1.1 : Nat)))], ⟨[(10, [.u, .u, .u]), (9, [.u, .u]), (8, uQ p.1.2.1 p.1.2.2), (6, [.c (.i .i64 0), .c (.i .i64 0)])], [], []⟩, 12⟩) (fun p => 400 - p.1.1) ⟨(0, z, d), by omega, hd, hg, mz, md, by simpa using hcf⟩ ?_ ?_
      · exact q_D
      rintro ⟨⟨i, u, v⟩, g1, g2, g3, g4, g5, g6⟩
      simp only at g1 g2 g3 g4 g5 g6 ⊢
      obtain ⟨n, hn⟩ : ∃ n, 400 - i = n + 1 := by
        rcases Nat.eq_zero_or_pos (400 - i) with k | k
        · rw [k, cfN_none (by omega)] at g6; cases g6
        · exact ⟨400 - i - 1, by omega⟩
      rw [hn, cfN_succ (by omega)] at g6
      obtain ⟨M, k1, k2⟩ := Option.map_eq_some_iff.1 g6
      obtain ⟨k3, k4, k5⟩ := drop_cons k2.symm
      obtain ⟨f1, f2, f3, f4⟩ := flo_facts (z := u) g2
      obtain ⟨lr1, lr2⟩ := left_rd (z := u) g2 g3
      have hrow := tmR_get L i k3
      rw [k4] at hrow
      have mq : (dg 65536 (u.fdiv v).natAbs).length ≤ 256 := Nat.le_trans (dg_len_mono (by omega) f4) g4
      have mr : (dg 65536 (u.fmod v).natAbs).length ≤ 256 := Nat.le_trans (dg_len_mono (by omega) (by omega)) g5
      have lq : (dg 4294967296 (u.fdiv v).natAbs).length ≤ 128 := (dg_half' _ 128).1 mq
      have hp := dg_len_pos 65536 (u.fmod v).natAbs (by omega)
      by_cases hr : u.fmod v = 0
      · rw [hr, cfN_zero] at k1
        cases k1
        have hlen : L.length = i + 1 := by
          have := congrArg List.length k5
          rw [List.length_drop] at this
          simp at this; omega
        have hr0 : (dg 65536 (u.fmod v).natAbs).length = 0 := by rw [hr]; rfl
        repeat' (first|(with_reducible first|apply q_a|apply q_b|apply q_c|apply q_d|apply q_e|apply q_f|apply q_g|apply q_h|apply q_i|apply q_j|apply q_k|apply q_m|apply q_n|apply q_o|apply q_p|refine q_l ?_)|((with_reducible first|refine q_q qv3_ok fun K hK=>?_|refine q_r qv3_ok fun K hK=>?_);simp (maxSteps:=2000000) only [go_sem,↓reduceIte,reduceCtorEq,Nat.reduceLeDiff,Nat.reduceLT,Nat.reduceBEq,Nat.reduceAdd,tl, hrow, sv32, V65, sv65, svz65, lr1, lr2, Nrm_g, Nrm_n, sv32n, toNat_one];(repeat1' with_reducible first|apply And.intro|(intro _;try exact q_v)|(refine hK _ ?_;clear hK K))<;>(try (clear hK K;exact q_u)))|(with_reducible refine q_s ?_;(first|apply q_J|apply q_K|apply q_L|apply q_M|apply q_N|apply q_O)<;>try (intro _;try exact q_v))|with_reducible refine q_t ?_)
        all_goals first | omega | assumption | exact q_A rfl | exact q_A (by simp [resAV, q_y]; omega) | skip
      · have hr0 : 0 < (dg 65536 (u.fmod v).natAbs).length := hp.2 (by omega)
        have hsg : ∀ b, sgz (u.fmod v) b = false := fun b => by rw [sgz_ne hr]; exact decide_eq_false (by omega)
        have hi : i < 400 := by omega
        repeat' (first|(with_reducible first|apply q_a|apply q_b|apply q_c|apply q_d|apply q_e|apply q_f|apply q_g|apply q_h|apply q_i|apply q_j|apply q_k|apply q_m|apply q_n|apply q_o|apply q_p|refine q_l ?_)|((with_reducible first|refine q_q qv3_ok fun K hK=>?_|refine q_r qv3_ok fun K hK=>?_);simp (maxSteps:=2000000) only [go_sem,↓reduceIte,reduceCtorEq,Nat.reduceLeDiff,Nat.reduceLT,Nat.reduceBEq,Nat.reduceAdd,tl, hrow, sv32, V65, sv65, svz65, lr1, lr2, Nrm_g, Nrm_n, sv32n, toNat_one, hsg];(repeat1' with_reducible first|apply And.intro|(intro _;try exact q_v)|(refine hK _ ?_;clear hK K))<;>(try (clear hK K;exact q_u)))|(with_reducible refine q_s ?_;(first|apply q_J|apply q_K|apply q_L|apply q_M|apply q_N|apply q_O)<;>try (intro _;try exact q_v))|with_reducible refine q_t ?_)
        all_goals first | omega | assumption | skip
        all_goals
          have dn : decide ((v : Int) < 0) = false := decide_eq_false (by omega)
          refine q_F ⟨(i + 1, (v : Int), (u.fmod v).natAbs), k3, by show 0 < (u.fmod v).natAbs; omega, gcd_swap g3, g5, mr, ?_⟩ (by simp only [dn, Int.natAbs_natCast]; exact q_D) (by simp only; omega)
          show cfN (400 - (i + 1)) (v : Int) (((u.fmod v).natAbs : Nat) : Int) = some (L.drop (i + 1))
          rw [show 400 - (i + 1) = n by omega, show (((u.fmod v).natAbs : Nat) : Int) = u.fmod v by omega, k1, k5]
    | none =>
      obtain ⟨t1, t2, t3⟩ := tm_none hcf
      rw [t1, t2, t3]
      repeat' (first|(with_reducible first|apply q_a|apply q_b|apply q_c|apply q_d|apply q_e|apply q_f|apply q_g|apply q_h|apply q_i|apply q_j|apply q_k|apply q_m|apply q_n|apply q_o|apply q_p|refine q_l ?_)|((with_reducible first|refine q_q qv3_ok fun K hK=>?_|refine q_r qv3_ok fun K hK=>?_);simp (maxSteps:=2000000) only [go_sem,↓reduceIte,reduceCtorEq,Nat.reduceLeDiff,Nat.reduceLT,Nat.reduceBEq,Nat.reduceAdd];(repeat1' with_reducible first|apply And.intro|(intro _;try exact q_v)|(refine hK _ ?_;clear hK K))<;>(try (clear hK K;exact q_u)))|(with_reducible refine q_s ?_;(first|apply q_J|apply q_K|apply q_L|apply q_M|apply q_N|apply q_O)<;>try (intro _;try exact q_v))|with_reducible refine q_t ?_)
      refine q_G (ι := { p : Nat × Int × Nat // p.1 ≤ 400 ∧ 0 < p.2.2 ∧ Nat.gcd p.2.1.natAbs p.2.2 = 1 ∧ (dg 65536 p.2.1.natAbs).length ≤ 256 ∧ (dg 65536 p.2.2).length ≤ 256 ∧ cfN (400 - p.1) p.2.1 p.2.2 = none })
        (fun p => ⟨187, [(2, .c (.b false)), (8, .c (.sl 2 [])), (9, .bx 6 0), (11, .bx 8 0), (12, .bx 9 0), (13, .bx 10 0), (16, .c (.i .i64 (p.1.1 : Nat)))], ⟨[(10, [.u, .u, .u]), (9, [.u, .u]), (8, uQ p.1.2.1 p.1.2.2), (6, [.c (.i .i64 2), .c (.i .i64 (-1))])], [], []⟩, 12⟩) (fun p => 400 - p.1.1) ⟨(0, z, d), by omega, hd, hg, mz, md, by simpa using hcf⟩ ?_ ?_
      · exact q_D
      rintro ⟨⟨i, u, v⟩, g1, g2, g3, g4, g5, g6⟩
      simp only at g1 g2 g3 g4 g5 g6 ⊢
      by_cases hi : i = 400
      · repeat' (first|(with_reducible first|apply q_a|apply q_b|apply q_c|apply q_d|apply q_e|apply q_f|apply q_g|apply q_h|apply q_i|apply q_j|apply q_k|apply q_m|apply q_n|apply q_o|apply q_p|refine q_l ?_)|((with_reducible first|refine q_q qv3_ok fun K hK=>?_|refine q_r qv3_ok fun K hK=>?_);simp (maxSteps:=2000000) only [go_sem,↓reduceIte,reduceCtorEq,Nat.reduceLeDiff,Nat.reduceLT,Nat.reduceBEq,Nat.reduceAdd];(repeat1' with_reducible first|apply And.intro|(intro _;try exact q_v)|(refine hK _ ?_;clear hK K))<;>(try (clear hK K;exact q_u)))|(with_reducible refine q_s ?_;(first|apply q_J|apply q_K|apply q_L|apply q_M|apply q_N|apply q_O)<;>try (intro _;try exact q_v))|with_reducible refine q_t ?_)
        all_goals first | omega | assumption | exact q_A rfl | exact q_A (by simp [resAV, q_y]) | skip
      · obtain ⟨n, hn⟩ : ∃ n, 400 - i = n + 1 := ⟨400 - i - 1, by omega⟩
        rw [hn, cfN_succ (by omega)] at g6
        have k1 : cfN n v (u.fmod v) = none := by
          cases hx : cfN n v (u.fmod v) with
          | none => rfl
          | some M => rw [hx] at g6; cases g6
        obtain ⟨f1, f2, f3, f4⟩ := flo_facts (z := u) g2
        obtain ⟨lr1, lr2⟩ := left_rd (z := u) g2 g3
        have mq : (dg 65536 (u.fdiv v).natAbs).length ≤ 256 := Nat.le_trans (dg_len_mono (by omega) f4) g4
        have mr : (dg 65536 (u.fmod v).natAbs).length ≤ 256 := Nat.le_trans (dg_len_mono (by omega) (by omega)) g5
        have hp := dg_len_pos 65536 (u.fmod v).natAbs (by omega)
        have hr : u.fmod v ≠ 0 := fun h => by rw [h, cfN_zero] at k1; cases k1
        have hr0 : 0 < (dg 65536 (u.fmod v).natAbs).length := hp.2 (by omega)
        have hsg : ∀ b, sgz (u.fmod v) b = false := fun b => by rw [sgz_ne hr]; exact decide_eq_false (by omega)
        repeat' (first|(with_reducible first|apply q_a|apply q_b|apply q_c|apply q_d|apply q_e|apply q_f|apply q_g|apply q_h|apply q_i|apply q_j|apply q_k|apply q_m|apply q_n|apply q_o|apply q_p|refine q_l ?_)|((with_reducible first|refine q_q qv3_ok fun K hK=>?_|refine q_r qv3_ok fun K hK=>?_);simp (maxSteps:=2000000) only [go_sem,↓reduceIte,reduceCtorEq,Nat.reduceLeDiff,Nat.reduceLT,Nat.reduceBEq,Nat.reduceAdd,V65, sv65, svz65, lr1, lr2, toNat_one, hsg];(repeat1' with_reducible first|apply And.intro|(intro _;try exact q_v)|(refine hK _ ?_;clear hK K))<;>(try (clear hK K;exact q_u)))|(with_reducible refine q_s ?_;(first|apply q_J|apply q_K|apply q_L|apply q_M|apply q_N|apply q_O)<;>try (intro _;try exact q_v))|with_reducible refine q_t ?_)
        all_goals first | omega | assumption | skip
        all_goals
          have dn : decide ((v : Int) < 0) = false := decide_eq_false (by omega)
          refine q_F ⟨(i + 1, (v : Int), (u.fmod v).natAbs), by show i + 1 ≤ 400; omega, by show 0 < (u.fmod v).natAbs; omega, gcd_swap g3, g5, mr, ?_⟩ (by simp only [dn, Int.natAbs_natCast]; exact q_D) (by simp only; omega)
          show cfN (400 - (i + 1)) (v : Int) (((u.fmod v).natAbs : Nat) : Int) = none
          rw [show 400 - (i + 1) = n by omega, show (((u.fmod v).natAbs : Nat) : Int) = u.fmod v by omega, k1]
end Go.Proofs.Ytlefdhkjbbdijaa
