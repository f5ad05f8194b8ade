import Derived.Test.YtgogdabniebplaaS13
import Derived.Test.YtgogdabniebplaaS11
namespace Go.Proofs.Ytgogdabniebplaa
set_option linter.unusedSimpArgs false
set_option linter.unusedVariables false
open Go.Abs Go.Proofs.NatL

def slv : Cfg := listT [(21, cutsCT), (27, takeCT), (18, indexSCT), (19, resCT), (28, iOfCT)] [28]
theorem slv_ok : TblOk Try.prog slv := listE_ok (by simp only [List.mem_singleton, forall_eq]; exact flt) ⟨⟨sw2, sw2_ok, rfl⟩, ⟨sv1, sv1_ok, rfl⟩, ⟨su8, su8_ok, rfl⟩, ⟨su8, su8_ok, rfl⟩, ⟨iu1, iu1_ok, rfl⟩, trivial⟩
attribute [go_sem] slv
set_option maxRecDepth 100000 in
set_option maxHeartbeats 12800000 in
theorem rev_bad (xs : List Int) (s0 s1 s2 g0 g1 g2 : Bool) (x0 x1 x2 : List Int) (k F : Int) (l0 : x0.length ≤ 140737488355328) (l1 : x1.length ≤ 140737488355328) (l2 : x2.length ≤ 140737488355328) (b0 : InB 4294967296 x0) (b1 : InB 4294967296 x1) (b2 : InB 4294967296 x2)
    (hF : slF (prt s0 x0 g0) (prt s1 x1 g1) (prt s2 x2 g2) g2 x2.length = F) (hn : F ≠ 0) :
    Ret Try.prog 4 false [.inl (.ints .i64 xs), .inr [.b s0, .ints .u32 x0, .b s1, .ints .u32 x1, .b s2, .ints .u32 x2, .b g0, .b g1, .b g2], .inl (.i .i64 k)] (.c (.b true)) := by
  (refine q_H Try.func4 (fun F => ?_); simp only [q_z,q_y,Try.ntmps4,Try.results4])
  repeat' (first|(with_reducible first|apply q_a|apply q_b|apply q_c|apply q_d|apply q_e|apply q_f|apply q_g|apply q_h|apply q_i|apply q_j|apply q_k|apply q_m|apply q_n|apply q_o|apply q_p|refine q_l ?_)|((with_reducible first|refine q_q slv_ok fun K hK=>?_|refine q_r slv_ok fun K hK=>?_);simp (maxSteps:=2000000) only [go_sem,↓reduceIte,reduceCtorEq,Nat.reduceLeDiff,Nat.reduceLT,Nat.reduceBEq,Nat.reduceAdd,hF];(repeat1' with_reducible first|apply And.intro|(intro _;try exact q_v)|(refine hK _ ?_;clear hK K))<;>(try (clear hK K;exact q_u)))|(with_reducible refine q_s ?_;(first|apply q_J|apply q_K|apply q_L|apply q_M|apply q_N|apply q_O)<;>try (intro _;try exact q_v))|with_reducible refine q_t ?_)
  all_goals first | contradiction | omega | exact q_A rfl | exact q_A (by simp [resAV, q_y])
theorem dg_small {z : Int} (h : -8000 ≤ z ∧ z ≤ 8000) : (dg 4294967296 z.natAbs).length ≤ 1 := dg_len_le (by omega) _ _ (by omega)
theorem tmod_nat {k : Int} {c : Nat} (hk : 0 ≤ k) (hc : 0 < c) : ∃ q : Nat, k.tmod (c : Int) = q ∧ q < c := by
  obtain ⟨m, rfl⟩ : ∃ m : Nat, k = m := ⟨k.toNat, by omega⟩
  exact ⟨m % c, by rw [Int.tmod_eq_emod_of_nonneg hk]; rfl, Nat.mod_lt _ hc⟩
set_option maxRecDepth 100000 in
set_option maxHeartbeats 12800000 in
theorem rev_good (xs : List Int) (s0 s1 s2 g0 g1 g2 : Bool) (x0 x1 x2 : List Int) (k : Int) (hk : -9223372036854775808 ≤ k ∧ k ≤ 9223372036854775807) (l0 : x0.length ≤ 140737488355328) (l1 : x1.length ≤ 140737488355328) (l2 : x2.length ≤ 140737488355328) (b0 : InB 4294967296 x0) (b1 : InB 4294967296 x1) (b2 : InB 4294967296 x2)
    (hF : slF (prt s0 x0 g0) (prt s1 x1 g1) (prt s2 x2 g2) g2 x2.length = 0) (hl : xs.length ≤ 4000) (st sp : Int) (c : Nat) (hst : rSt s0 x0 g0 xs.length (rSp s2 x2 g2) = st) (hsp : rSp s2 x2 g2 = sp)
    (hc : slCnt (rSt s0 x0 g0 xs.length (rSp s2 x2 g2)) (rSo s1 x1 g1 xs.length (rSp s2 x2 g2)) (rSp s2 x2 g2) = c) :
    Ret Try.prog 4 false [.inl (.ints .i64 xs), .inr [.b s0, .ints .u32 x0, .b s1, .ints .u32 x1, .b s2, .ints .u32 x2, .b g0, .b g1, .b g2], .inl (.i .i64 k)] (.c (.b true)) := by
  obtain ⟨r1, r2, r3, r4, r5, r6, r7⟩ := r_facts (s0 := s0) (s1 := s1) (g0 := g0) (g1 := g1) (x0 := x0) (x1 := x1) b2 hF (n := xs.length) (by omega)
  have r6 := r6 _ rfl
  rw [hc] at r5 r6
  rw [hst, hsp] at r5
  rw [hst] at r3 r7
  rw [hsp] at r1 r2 r7
  have hc' := hc
  rw [hsp] at hst hc'
  rw [hst] at hc'
  have tl := takeL_len xs st sp c
  have hg := fun k h => takeL_get (xs := xs) (st := st) (sp := sp) (c := c) (k := k) h
  generalize hA : takeL xs st sp c = a at *
  have f2 : rSp (decide ((-1 : Int) < 0)) (dg 4294967296 (-1 : Int).natAbs) true = -1 := by kernel_rfl
  have f3 : rSt false [] false (c : Int) (-1) = (c : Int) - 1 := rfl
  have f4 : rSo false [] false (c : Int) (-1) = -1 := rfl
  have f5 : slF (prt false [] false) (prt false [] false) (prt (decide ((-1 : Int) < 0)) (dg 4294967296 (-1 : Int).natAbs) true) true (dg 4294967296 (-1 : Int).natAbs).length = 0 := by kernel_rfl
  have f6 := turn_cnt c
  have f7 : (dg 4294967296 (-1 : Int).natAbs).length ≤ 140737488355328 := by decide +kernel
  have tl2 := takeL_len a ((c : Int) - 1) (-1) c
  have hg2 := fun i hi => turn_get (a := a) (c := c) (i := i) tl hi
  obtain ⟨b, hB⟩ : ∃ b, takeL a ((c : Int) - 1) (-1) c = b := ⟨_, rfl⟩
  rw [hB] at tl2
  simp only [hB] at hg2
  (refine q_H Try.func4 (fun F => ?_); simp only [q_z,q_y,Try.ntmps4,Try.results4])
  repeat' (first|(with_reducible first|apply q_a|apply q_b|apply q_c|apply q_d|apply q_e|apply q_f|apply q_g|apply q_h|apply q_i|apply q_j|apply q_k|apply q_m|apply q_n|apply q_o|apply q_p|refine q_l ?_)|((with_reducible first|refine q_q slv_ok fun K hK=>?_|refine q_r slv_ok fun K hK=>?_);simp (maxSteps:=2000000) only [go_sem,↓reduceIte,reduceCtorEq,Nat.reduceLeDiff,Nat.reduceLT,Nat.reduceBEq,Nat.reduceAdd,hF, hsp, hst, hc', hA, tl, f2, f3, f4, f5, f6, hB, tl2];(repeat1' with_reducible first|apply And.intro|(intro _;try exact q_v)|(refine hK _ ?_;clear hK K))<;>(try (clear hK K;exact q_u)))|(with_reducible refine q_s ?_;(first|apply q_J|apply q_K|apply q_L|apply q_M|apply q_N|apply q_O)<;>try (intro _;try exact q_v))|with_reducible refine q_t ?_)
  refine q_G (ι := { i : Nat // i ≤ c }) (fun i => ⟨156, [(0, .c (.ints .i64 xs)), (2, .c (.i .i64 k)), (4, .bx 0 0), (7, .c (.ints .i64 a)), (9, .c (.ints .i64 b)), (11, .c (.i .i64 (i.1 : Nat)))], ⟨[(0, [.c (.b s0), .c (.ints .u32 x0), .c (.b s1), .c (.ints .u32 x1), .c (.b s2), .c (.ints .u32 x2), .c (.b g0), .c (.b g1), .c (.b g2)])], [], []⟩, 3⟩) (fun i => c - i.1) ⟨0, by omega⟩ ?_ ?_
  · exact q_D
  rintro ⟨i, i1⟩
  simp only at i1 ⊢
  rcases Nat.lt_or_ge i c with hi | hi
  · have hgi := hg2 i hi
    have e1 : ((c : Int) - 1 - (i : Int)).toNat = c - 1 - i := by omega
    repeat' (first|(with_reducible first|apply q_a|apply q_b|apply q_c|apply q_d|apply q_e|apply q_f|apply q_g|apply q_h|apply q_i|apply q_j|apply q_k|apply q_m|apply q_n|apply q_o|apply q_p|refine q_l ?_)|((with_reducible first|refine q_q slv_ok fun K hK=>?_|refine q_r slv_ok fun K hK=>?_);simp (maxSteps:=2000000) only [go_sem,↓reduceIte,reduceCtorEq,Nat.reduceLeDiff,Nat.reduceLT,Nat.reduceBEq,Nat.reduceAdd,tl, tl2, e1, hgi];(repeat1' with_reducible first|apply And.intro|(intro _;try exact q_v)|(refine hK _ ?_;clear hK K))<;>(try (clear hK K;exact q_u)))|(with_reducible refine q_s ?_;(first|apply q_J|apply q_K|apply q_L|apply q_M|apply q_N|apply q_O)<;>try (intro _;try exact q_v))|with_reducible refine q_t ?_)
    all_goals try omega
    all_goals
      refine q_F ⟨i + 1, hi⟩ ?_ (by simp only; omega)
      exact q_D
  · have hi' : i = c := by omega
    subst hi'
    by_cases hz : i = 0
    · repeat' (first|(with_reducible first|apply q_a|apply q_b|apply q_c|apply q_d|apply q_e|apply q_f|apply q_g|apply q_h|apply q_i|apply q_j|apply q_k|apply q_m|apply q_n|apply q_o|apply q_p|refine q_l ?_)|((with_reducible first|refine q_q slv_ok fun K hK=>?_|refine q_r slv_ok fun K hK=>?_);simp (maxSteps:=2000000) only [go_sem,↓reduceIte,reduceCtorEq,Nat.reduceLeDiff,Nat.reduceLT,Nat.reduceBEq,Nat.reduceAdd,tl, tl2, hF, hsp, hst, hc'];(repeat1' with_reducible first|apply And.intro|(intro _;try exact q_v)|(refine hK _ ?_;clear hK K))<;>(try (clear hK K;exact q_u)))|(with_reducible refine q_s ?_;(first|apply q_J|apply q_K|apply q_L|apply q_M|apply q_N|apply q_O)<;>try (intro _;try exact q_v))|with_reducible refine q_t ?_)
      all_goals first | contradiction | omega | exact q_A rfl
    by_cases hk0 : k < 0
    · repeat' (first|(with_reducible first|apply q_a|apply q_b|apply q_c|apply q_d|apply q_e|apply q_f|apply q_g|apply q_h|apply q_i|apply q_j|apply q_k|apply q_m|apply q_n|apply q_o|apply q_p|refine q_l ?_)|((with_reducible first|refine q_q slv_ok fun K hK=>?_|refine q_r slv_ok fun K hK=>?_);simp (maxSteps:=2000000) only [go_sem,↓reduceIte,reduceCtorEq,Nat.reduceLeDiff,Nat.reduceLT,Nat.reduceBEq,Nat.reduceAdd,tl, tl2, hF, hsp, hst, hc'];(repeat1' with_reducible first|apply And.intro|(intro _;try exact q_v)|(refine hK _ ?_;clear hK K))<;>(try (clear hK K;exact q_u)))|(with_reducible refine q_s ?_;(first|apply q_J|apply q_K|apply q_L|apply q_M|apply q_N|apply q_O)<;>try (intro _;try exact q_v))|with_reducible refine q_t ?_)
      all_goals first | contradiction | omega | exact q_A rfl
    obtain ⟨q, hq, hqc⟩ := tmod_nat (k := k) (c := i) (by omega) (by omega)
    have hr := r5 q hqc
    have hgq := hg q hqc
    generalize hp : (q : Int) * sp = p at *
    have d1 := dg_small (z := st + p) (by omega)
    have d2 := dg_small (z := st + p - xs.length) (by omega)
    have o1 := (okZ_g (st + p)).trans (decide_eq_true (by omega))
    have o2 := (okZ_g (st + p - xs.length)).trans (decide_eq_true (by omega))
    have v1 : ixZ (st + p) xs.length = st + p := if_neg (by omega)
    have v2 : ixZ (st + p - xs.length) xs.length = st + p := by unfold ixZ; rw [if_pos (by omega)]; omega
    repeat' (first|(with_reducible first|apply q_a|apply q_b|apply q_c|apply q_d|apply q_e|apply q_f|apply q_g|apply q_h|apply q_i|apply q_j|apply q_k|apply q_m|apply q_n|apply q_o|apply q_p|refine q_l ?_)|((with_reducible first|refine q_q slv_ok fun K hK=>?_|refine q_r slv_ok fun K hK=>?_);simp (maxSteps:=2000000) only [go_sem,↓reduceIte,reduceCtorEq,Nat.reduceLeDiff,Nat.reduceLT,Nat.reduceBEq,Nat.reduceAdd,tl, tl2, hF, hsp, hst, hc', hq, hp, sg_self, o1, o2, v1, v2, hgq, Int.toNat_natCast];(repeat1' with_reducible first|apply And.intro|(intro _;try exact q_v)|(refine hK _ ?_;clear hK K))<;>(try (clear hK K;exact q_u)))|(with_reducible refine q_s ?_;(first|apply q_J|apply q_K|apply q_L|apply q_M|apply q_N|apply q_O)<;>try (intro _;try exact q_v))|with_reducible refine q_t ?_)
    all_goals first | contradiction | omega | exact q_A rfl | exact q_A (by simp [resAV, q_y, hgq])

theorem rev_ret (xs : List Int) (s0 s1 s2 g0 g1 g2 : Bool) (x0 x1 x2 : List Int) (k : Int) (l : x0.length ≤ 140737488355328 ∧ x1.length ≤ 140737488355328 ∧ x2.length ≤ 140737488355328) (b : InB 4294967296 x0 ∧ InB 4294967296 x1 ∧ InB 4294967296 x2) (hk : -9223372036854775808 ≤ k ∧ k ≤ 9223372036854775807) :
    Ret Try.prog 4 false [.inl (.ints .i64 xs), .inr [.b s0, .ints .u32 x0, .b s1, .ints .u32 x1, .b s2, .ints .u32 x2, .b g0, .b g1, .b g2], .inl (.i .i64 k)] (.c (.b true)) := by
  obtain ⟨l0, l1, l2⟩ := l
  obtain ⟨b0, b1, b2⟩ := b
  by_cases hF : slF (prt s0 x0 g0) (prt s1 x1 g1) (prt s2 x2 g2) g2 x2.length = 0
  · by_cases hl : xs.length ≤ 4000
    · exact rev_good xs s0 s1 s2 g0 g1 g2 x0 x1 x2 k hk l0 l1 l2 b0 b1 b2 hF hl _ _ _ rfl rfl rfl
    · (refine q_H Try.func4 (fun F => ?_); simp only [q_z,q_y,Try.ntmps4,Try.results4])
      repeat' (first|(with_reducible first|apply q_a|apply q_b|apply q_c|apply q_d|apply q_e|apply q_f|apply q_g|apply q_h|apply q_i|apply q_j|apply q_k|apply q_m|apply q_n|apply q_o|apply q_p|refine q_l ?_)|((with_reducible first|refine q_q slv_ok fun K hK=>?_|refine q_r slv_ok fun K hK=>?_);simp (maxSteps:=2000000) only [go_sem,↓reduceIte,reduceCtorEq,Nat.reduceLeDiff,Nat.reduceLT,Nat.reduceBEq,Nat.reduceAdd];(repeat1' with_reducible first|apply And.intro|(intro _;try exact q_v)|(refine hK _ ?_;clear hK K))<;>(try (clear hK K;exact q_u)))|(with_reducible refine q_s ?_;(first|apply q_J|apply q_K|apply q_L|apply q_M|apply q_N|apply q_O)<;>try (intro _;try exact q_v))|with_reducible refine q_t ?_)
      all_goals first | contradiction | omega | exact q_A rfl
  · exact rev_bad xs s0 s1 s2 g0 g1 g2 x0 x1 x2 k _ l0 l1 l2 b0 b1 b2 rfl hF
end Go.Proofs.Ytgogdabniebplaa
