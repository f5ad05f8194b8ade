import Derived.Test.YtlefdhkjbbdijaaH19
namespace Go.Proofs.Ytlefdhkjbbdijaa
set_option linter.unusedSimpArgs false
set_option linter.unusedVariables false
open Go.Abs Go.Proofs.NatL

def sr4 : Cfg := listT [(95, nearCT), (96, endAtCT), (47, intOfCT)] [30]
theorem sr4_ok : TblOk Try.prog sr4 := listE_ok (by simp only [List.mem_singleton, forall_eq]; exact flt) ⟨⟨sj4, sj4_ok, rfl⟩, ⟨sj4, sj4_ok, rfl⟩, ⟨jt12, jt12_ok, rfl⟩, trivial⟩
attribute [go_sem] sr4
set_option maxRecDepth 100000 in
set_option maxHeartbeats 3200000 in
theorem places_true_true_true_neg (s0 s1 s2 : Bool) (x0 x1 x2 : List Int) (n sp st so : Int) (c : Nat) (b0 : InB 4294967296 x0) (b1 : InB 4294967296 x1) (b2 : InB 4294967296 x2)
    (hF : slF (prt s0 x0 true) (prt s1 x1 true) (prt s2 x2 true) true x2.length = 0) (hn : 0 ≤ n) (hn2 : n ≤ 4000) (hneg : sp < 0)
    (hsp : slStep true (sv 4294967296 s2 x2) = sp) (hst : slSta true (sv 4294967296 s0 x0) n sp = st) (hso : slSto true (sv 4294967296 s1 x1) n sp = so) (hcn : slCnt st so sp = c) :
    Ret Try.prog 56 false [.inr [.b s0, .ints .u32 x0, .b s1, .ints .u32 x1, .b s2, .ints .u32 x2, .b true, .b true, .b true], .inl (.i .i64 n)]
      (.t [.inl (.i .i64 st), .inl (.i .i64 sp), .inl (.ints .i64 (slPos st sp c))]) := by
  obtain ⟨p0, p1, p2, pz⟩ := slF_ok hF
  have o0 := prt_ok p0
  have o1 := prt_ok p1
  have o2 := prt_ok p2
  have hz : sp ≠ 0 := by rw [← hsp]; exact step_ne fun hg => pos_len o2 b2 (pz hg)
  have hs := step_in true (sv 4294967296 s2 x2)
  rw [hsp] at hs
  have hti := sta_in (g := true) (z := sv 4294967296 s0 x0) (sp := sp) hn
  have hto := sto_in (g := true) (z := sv 4294967296 s1 x1) (sp := sp) hn
  have hlh := lo_hi (sp := sp) hn
  have hin := fun k hk => pos_in (g0 := true) (g1 := true) (z0 := sv 4294967296 s0 x0) (z1 := sv 4294967296 s1 x1) hn hz k hk
  have hit := cnt_iff (st := st) (so := so) hz
  have hcl := cnt_le (g0 := true) (g1 := true) (z0 := sv 4294967296 s0 x0) (z1 := sv 4294967296 s1 x1) (n := n.toNat) hz
  rw [show ((n.toNat : Nat) : Int) = n by omega, hst, hso, hcn] at hcl
  rw [hst] at hti hin
  rw [hso] at hto hin
  rw [hcn] at hin hit
  have hlx := (okZ_eq o2 b2).2.2
  have hl2 := of_len hlx b2
  have hv2 : sv 65536 s2 (dg 65536 (V 4294967296 x2)) = sv 4294967296 s2 x2 := by rw [sv_d (by omega)]; rfl
  unfold slSta at hst
  unfold slSto at hso
  unfold slStep at hsp
  simp only [Bool.false_eq_true, if_true, if_false] at hst hso hsp
  obtain ⟨e1, e2⟩ : slLo sp = (if sp < 0 then -1 else 0) ∧ slHi sp n = (if sp < 0 then n - 1 else n) := ⟨rfl, rfl⟩
  rw [e1, e2] at hti hto hst hso
  first | simp only [if_pos hneg] at hti hto hst hso | simp only [if_neg hneg] at hti hto hst hso
  have hstx : st = st := by first | rfl | exact hst | omega
  have hsox : so = so := by first | rfl | exact hso | omega
  have hspx : sp = sp := by first | rfl | exact hsp | omega
  (refine q_H Try.func56 (fun F => ?_); simp only [q_z,q_y,Try.ntmps56,Try.results56])
  repeat' (first|(with_reducible first|apply q_a|apply q_b|apply q_c|apply q_d|apply q_e|apply q_f|apply q_g|apply q_h|apply q_i|apply q_j|apply q_k|apply q_m|apply q_n|apply q_o|apply q_p|refine q_l ?_)|((with_reducible first|refine q_q sr4_ok fun K hK=>?_|refine q_r sr4_ok fun K hK=>?_);simp (maxSteps:=2000000) only [go_sem,↓reduceIte,reduceCtorEq,Nat.reduceLeDiff,Nat.reduceLT,Nat.reduceBEq,Nat.reduceAdd,hsp, hst, hso, o0, o1, o2, hv2];(repeat1' with_reducible first|apply And.intro|(intro _;try exact q_v)|(refine hK _ ?_;clear hK K))<;>(try (clear hK K;exact q_u)))|(with_reducible refine q_s ?_;(first|apply q_J|apply q_K|apply q_L|apply q_M|apply q_N|apply q_O)<;>try (intro _;try exact q_v))|with_reducible refine q_t ?_)
  all_goals try omega
  refine q_G (ι := { k : Nat // k ≤ c }) (fun k => ⟨71, [(4, .c (.i .i64 st)), (5, .c (.i .i64 sp)), (6, .own 1 0), (9, .c (.i .i64 so)), (10, .c (.i .i64 (st + (k.1 : Int) * sp)))], ⟨[], [(1, ⟨0, 3, 1, .ints .i64 (slPos st sp k.1)⟩)], []⟩, 2⟩) (fun k => c - k.1) ⟨0, by omega⟩ ?_ ?_
  · have e0 : st + ((0 : Nat) : Int) * sp = st := by rw [show ((0 : Nat) : Int) = 0 from rfl, Int.zero_mul]; omega
    have e9 : slPos st sp 0 = [] := rfl
    simp only [e0, e9]
    ((simp only [go_sem,↓reduceIte,reduceCtorEq,Nat.reduceLeDiff,Nat.reduceLT,Nat.reduceBEq,Nat.reduceAdd])<;>(try (simp;done))<;>(try ((simp only [C.i.injEq,C.b.injEq,C.ints.injEq,C.bools.injEq,List.append_cancel_left_eq,List.cons.injEq,true_and,and_true]);(repeat' with_reducible apply And.intro)<;>(first|rfl|assumption|omega|(simp;omega)|(congr 1;omega)|(congr 2;omega)))))
  rintro ⟨k, k1⟩
  simp only at k1 ⊢
  have tl := slPos_len st sp k
  have hik := hit k
  have hmul : ((k + 1 : Nat) : Int) * sp = (k : Int) * sp + sp := by rw [Int.natCast_add, Int.add_mul]; omega
  have hkc : k < c → 0 ≤ st + (k : Int) * sp ∧ st + (k : Int) * sp < n := fun h => hin k h
  have hsu := slPos_succ st sp k
  generalize (k : Int) * sp = p at *
  rcases Nat.lt_or_ge k c with hk | hk
  · have hkc := hkc hk
    have hik := hik.1 hk
    repeat' (first|(with_reducible first|apply q_a|apply q_b|apply q_c|apply q_d|apply q_e|apply q_f|apply q_g|apply q_h|apply q_i|apply q_j|apply q_k|apply q_m|apply q_n|apply q_o|apply q_p|refine q_l ?_)|((with_reducible first|refine q_q sr4_ok fun K hK=>?_|refine q_r sr4_ok fun K hK=>?_);simp (maxSteps:=2000000) only [go_sem,↓reduceIte,reduceCtorEq,Nat.reduceLeDiff,Nat.reduceLT,Nat.reduceBEq,Nat.reduceAdd,tl];(repeat1' with_reducible first|apply And.intro|(intro _;try exact q_v)|(refine hK _ ?_;clear hK K))<;>(try (clear hK K;exact q_u)))|(with_reducible refine q_s ?_;(first|apply q_J|apply q_K|apply q_L|apply q_M|apply q_N|apply q_O)<;>try (intro _;try exact q_v))|with_reducible refine q_t ?_)
    all_goals try omega
    all_goals
      refine q_F ⟨k + 1, hk⟩ ?_ (by simp only; omega)
      simp only [hsu, hmul]
      ((simp only [go_sem,↓reduceIte,reduceCtorEq,Nat.reduceLeDiff,Nat.reduceLT,Nat.reduceBEq,Nat.reduceAdd])<;>(try (simp;done))<;>(try ((simp only [C.i.injEq,C.b.injEq,C.ints.injEq,C.bools.injEq,List.append_cancel_left_eq,List.cons.injEq,true_and,and_true]);(repeat' with_reducible apply And.intro)<;>(first|rfl|assumption|omega|(simp;omega)|(congr 1;omega)|(congr 2;omega)))))
  · have hk' : k = c := by omega
    subst hk'
    have hik : ¬ (0 < sp ∧ st + p < so ∨ sp < 0 ∧ so < st + p) := fun h => absurd (hik.2 h) (Nat.lt_irrefl _)
    repeat' (first|(with_reducible first|apply q_a|apply q_b|apply q_c|apply q_d|apply q_e|apply q_f|apply q_g|apply q_h|apply q_i|apply q_j|apply q_k|apply q_m|apply q_n|apply q_o|apply q_p|refine q_l ?_)|((with_reducible first|refine q_q sr4_ok fun K hK=>?_|refine q_r sr4_ok fun K hK=>?_);simp (maxSteps:=2000000) only [go_sem,↓reduceIte,reduceCtorEq,Nat.reduceLeDiff,Nat.reduceLT,Nat.reduceBEq,Nat.reduceAdd,tl];(repeat1' with_reducible first|apply And.intro|(intro _;try exact q_v)|(refine hK _ ?_;clear hK K))<;>(try (clear hK K;exact q_u)))|(with_reducible refine q_s ?_;(first|apply q_J|apply q_K|apply q_L|apply q_M|apply q_N|apply q_O)<;>try (intro _;try exact q_v))|with_reducible refine q_t ?_)
    all_goals first
      | omega
      | exact q_B [.inl none, .inl none, .inl (some (.ints .i64 []))] rfl rfl
      | exact q_A rfl
      | (exfalso; apply hik; omega)
set_option maxRecDepth 100000 in
set_option maxHeartbeats 3200000 in
theorem places_true_true_true_pos (s0 s1 s2 : Bool) (x0 x1 x2 : List Int) (n sp st so : Int) (c : Nat) (b0 : InB 4294967296 x0) (b1 : InB 4294967296 x1) (b2 : InB 4294967296 x2)
    (hF : slF (prt s0 x0 true) (prt s1 x1 true) (prt s2 x2 true) true x2.length = 0) (hn : 0 ≤ n) (hn2 : n ≤ 4000) (hneg : ¬ sp < 0)
    (hsp : slStep true (sv 4294967296 s2 x2) = sp) (hst : slSta true (sv 4294967296 s0 x0) n sp = st) (hso : slSto true (sv 4294967296 s1 x1) n sp = so) (hcn : slCnt st so sp = c) :
    Ret Try.prog 56 false [.inr [.b s0, .ints .u32 x0, .b s1, .ints .u32 x1, .b s2, .ints .u32 x2, .b true, .b true, .b true], .inl (.i .i64 n)]
      (.t [.inl (.i .i64 st), .inl (.i .i64 sp), .inl (.ints .i64 (slPos st sp c))]) := by
  obtain ⟨p0, p1, p2, pz⟩ := slF_ok hF
  have o0 := prt_ok p0
  have o1 := prt_ok p1
  have o2 := prt_ok p2
  have hz : sp ≠ 0 := by rw [← hsp]; exact step_ne fun hg => pos_len o2 b2 (pz hg)
  have hs := step_in true (sv 4294967296 s2 x2)
  rw [hsp] at hs
  have hti := sta_in (g := true) (z := sv 4294967296 s0 x0) (sp := sp) hn
  have hto := sto_in (g := true) (z := sv 4294967296 s1 x1) (sp := sp) hn
  have hlh := lo_hi (sp := sp) hn
  have hin := fun k hk => pos_in (g0 := true) (g1 := true) (z0 := sv 4294967296 s0 x0) (z1 := sv 4294967296 s1 x1) hn hz k hk
  have hit := cnt_iff (st := st) (so := so) hz
  have hcl := cnt_le (g0 := true) (g1 := true) (z0 := sv 4294967296 s0 x0) (z1 := sv 4294967296 s1 x1) (n := n.toNat) hz
  rw [show ((n.toNat : Nat) : Int) = n by omega, hst, hso, hcn] at hcl
  rw [hst] at hti hin
  rw [hso] at hto hin
  rw [hcn] at hin hit
  have hlx := (okZ_eq o2 b2).2.2
  have hl2 := of_len hlx b2
  have hv2 : sv 65536 s2 (dg 65536 (V 4294967296 x2)) = sv 4294967296 s2 x2 := by rw [sv_d (by omega)]; rfl
  unfold slSta at hst
  unfold slSto at hso
  unfold slStep at hsp
  simp only [Bool.false_eq_true, if_true, if_false] at hst hso hsp
  obtain ⟨e1, e2⟩ : slLo sp = (if sp < 0 then -1 else 0) ∧ slHi sp n = (if sp < 0 then n - 1 else n) := ⟨rfl, rfl⟩
  rw [e1, e2] at hti hto hst hso
  first | simp only [if_pos hneg] at hti hto hst hso | simp only [if_neg hneg] at hti hto hst hso
  have hstx : st = st := by first | rfl | exact hst | omega
  have hsox : so = so := by first | rfl | exact hso | omega
  have hspx : sp = sp := by first | rfl | exact hsp | omega
  (refine q_H Try.func56 (fun F => ?_); simp only [q_z,q_y,Try.ntmps56,Try.results56])
  repeat' (first|(with_reducible first|apply q_a|apply q_b|apply q_c|apply q_d|apply q_e|apply q_f|apply q_g|apply q_h|apply q_i|apply q_j|apply q_k|apply q_m|apply q_n|apply q_o|apply q_p|refine q_l ?_)|((with_reducible first|refine q_q sr4_ok fun K hK=>?_|refine q_r sr4_ok fun K hK=>?_);simp (maxSteps:=2000000) only [go_sem,↓reduceIte,reduceCtorEq,Nat.reduceLeDiff,Nat.reduceLT,Nat.reduceBEq,Nat.reduceAdd,hsp, hst, hso, o0, o1, o2, hv2];(repeat1' with_reducible first|apply And.intro|(intro _;try exact q_v)|(refine hK _ ?_;clear hK K))<;>(try (clear hK K;exact q_u)))|(with_reducible refine q_s ?_;(first|apply q_J|apply q_K|apply q_L|apply q_M|apply q_N|apply q_O)<;>try (intro _;try exact q_v))|with_reducible refine q_t ?_)
  all_goals try omega
  refine q_G (ι := { k : Nat // k ≤ c }) (fun k => ⟨71, [(4, .c (.i .i64 st)), (5, .c (.i .i64 sp)), (6, .own 1 0), (9, .c (.i .i64 so)), (10, .c (.i .i64 (st + (k.1 : Int) * sp)))], ⟨[], [(1, ⟨0, 3, 1, .ints .i64 (slPos st sp k.1)⟩)], []⟩, 2⟩) (fun k => c - k.1) ⟨0, by omega⟩ ?_ ?_
  · have e0 : st + ((0 : Nat) : Int) * sp = st := by rw [show ((0 : Nat) : Int) = 0 from rfl, Int.zero_mul]; omega
    have e9 : slPos st sp 0 = [] := rfl
    simp only [e0, e9]
    ((simp only [go_sem,↓reduceIte,reduceCtorEq,Nat.reduceLeDiff,Nat.reduceLT,Nat.reduceBEq,Nat.reduceAdd])<;>(try (simp;done))<;>(try ((simp only [C.i.injEq,C.b.injEq,C.ints.injEq,C.bools.injEq,List.append_cancel_left_eq,List.cons.injEq,true_and,and_true]);(repeat' with_reducible apply And.intro)<;>(first|rfl|assumption|omega|(simp;omega)|(congr 1;omega)|(congr 2;omega)))))
  rintro ⟨k, k1⟩
  simp only at k1 ⊢
  have tl := slPos_len st sp k
  have hik := hit k
  have hmul : ((k + 1 : Nat) : Int) * sp = (k : Int) * sp + sp := by rw [Int.natCast_add, Int.add_mul]; omega
  have hkc : k < c → 0 ≤ st + (k : Int) * sp ∧ st + (k : Int) * sp < n := fun h => hin k h
  have hsu := slPos_succ st sp k
  generalize (k : Int) * sp = p at *
  rcases Nat.lt_or_ge k c with hk | hk
  · have hkc := hkc hk
    have hik := hik.1 hk
    repeat' (first|(with_reducible first|apply q_a|apply q_b|apply q_c|apply q_d|apply q_e|apply q_f|apply q_g|apply q_h|apply q_i|apply q_j|apply q_k|apply q_m|apply q_n|apply q_o|apply q_p|refine q_l ?_)|((with_reducible first|refine q_q sr4_ok fun K hK=>?_|refine q_r sr4_ok fun K hK=>?_);simp (maxSteps:=2000000) only [go_sem,↓reduceIte,reduceCtorEq,Nat.reduceLeDiff,Nat.reduceLT,Nat.reduceBEq,Nat.reduceAdd,tl];(repeat1' with_reducible first|apply And.intro|(intro _;try exact q_v)|(refine hK _ ?_;clear hK K))<;>(try (clear hK K;exact q_u)))|(with_reducible refine q_s ?_;(first|apply q_J|apply q_K|apply q_L|apply q_M|apply q_N|apply q_O)<;>try (intro _;try exact q_v))|with_reducible refine q_t ?_)
    all_goals try omega
    all_goals
      refine q_F ⟨k + 1, hk⟩ ?_ (by simp only; omega)
      simp only [hsu, hmul]
      ((simp only [go_sem,↓reduceIte,reduceCtorEq,Nat.reduceLeDiff,Nat.reduceLT,Nat.reduceBEq,Nat.reduceAdd])<;>(try (simp;done))<;>(try ((simp only [C.i.injEq,C.b.injEq,C.ints.injEq,C.bools.injEq,List.append_cancel_left_eq,List.cons.injEq,true_and,and_true]);(repeat' with_reducible apply And.intro)<;>(first|rfl|assumption|omega|(simp;omega)|(congr 1;omega)|(congr 2;omega)))))
  · have hk' : k = c := by omega
    subst hk'
    have hik : ¬ (0 < sp ∧ st + p < so ∨ sp < 0 ∧ so < st + p) := fun h => absurd (hik.2 h) (Nat.lt_irrefl _)
    repeat' (first|(with_reducible first|apply q_a|apply q_b|apply q_c|apply q_d|apply q_e|apply q_f|apply q_g|apply q_h|apply q_i|apply q_j|apply q_k|apply q_m|apply q_n|apply q_o|apply q_p|refine q_l ?_)|((with_reducible first|refine q_q sr4_ok fun K hK=>?_|refine q_r sr4_ok fun K hK=>?_);simp (maxSteps:=2000000) only [go_sem,↓reduceIte,reduceCtorEq,Nat.reduceLeDiff,Nat.reduceLT,Nat.reduceBEq,Nat.reduceAdd,tl];(repeat1' with_reducible first|apply And.intro|(intro _;try exact q_v)|(refine hK _ ?_;clear hK K))<;>(try (clear hK K;exact q_u)))|(with_reducible refine q_s ?_;(first|apply q_J|apply q_K|apply q_L|apply q_M|apply q_N|apply q_O)<;>try (intro _;try exact q_v))|with_reducible refine q_t ?_)
    all_goals first
      | omega
      | exact q_B [.inl none, .inl none, .inl (some (.ints .i64 []))] rfl rfl
      | exact q_A rfl
      | (exfalso; apply hik; omega)
set_option maxRecDepth 100000 in
set_option maxHeartbeats 3200000 in
theorem places_true_true_false_pos (s0 s1 s2 : Bool) (x0 x1 x2 : List Int) (n sp st so : Int) (c : Nat) (b0 : InB 4294967296 x0) (b1 : InB 4294967296 x1) (b2 : InB 4294967296 x2)
    (hF : slF (prt s0 x0 true) (prt s1 x1 true) (prt s2 x2 false) false x2.length = 0) (hn : 0 ≤ n) (hn2 : n ≤ 4000) (hneg : ¬ sp < 0)
    (hsp : slStep false (sv 4294967296 s2 x2) = sp) (hst : slSta true (sv 4294967296 s0 x0) n sp = st) (hso : slSto true (sv 4294967296 s1 x1) n sp = so) (hcn : slCnt st so sp = c) :
    Ret Try.prog 56 false [.inr [.b s0, .ints .u32 x0, .b s1, .ints .u32 x1, .b s2, .ints .u32 x2, .b true, .b true, .b false], .inl (.i .i64 n)]
      (.t [.inl (.i .i64 st), .inl (.i .i64 sp), .inl (.ints .i64 (slPos st sp c))]) := by
  obtain ⟨p0, p1, p2, pz⟩ := slF_ok hF
  have o0 := prt_ok p0
  have o1 := prt_ok p1
  have o2 := prt_ok p2
  have hz : sp ≠ 0 := by rw [← hsp]; exact step_ne fun hg => pos_len o2 b2 (pz hg)
  have hs := step_in false (sv 4294967296 s2 x2)
  rw [hsp] at hs
  have hti := sta_in (g := true) (z := sv 4294967296 s0 x0) (sp := sp) hn
  have hto := sto_in (g := true) (z := sv 4294967296 s1 x1) (sp := sp) hn
  have hlh := lo_hi (sp := sp) hn
  have hin := fun k hk => pos_in (g0 := true) (g1 := true) (z0 := sv 4294967296 s0 x0) (z1 := sv 4294967296 s1 x1) hn hz k hk
  have hit := cnt_iff (st := st) (so := so) hz
  have hcl := cnt_le (g0 := true) (g1 := true) (z0 := sv 4294967296 s0 x0) (z1 := sv 4294967296 s1 x1) (n := n.toNat) hz
  rw [show ((n.toNat : Nat) : Int) = n by omega, hst, hso, hcn] at hcl
  rw [hst] at hti hin
  rw [hso] at hto hin
  rw [hcn] at hin hit
  have hlx := (okZ_eq o2 b2).2.2
  have hl2 := of_len hlx b2
  have hv2 : sv 65536 s2 (dg 65536 (V 4294967296 x2)) = sv 4294967296 s2 x2 := by rw [sv_d (by omega)]; rfl
  unfold slSta at hst
  unfold slSto at hso
  unfold slStep at hsp
  simp only [Bool.false_eq_true, if_true, if_false] at hst hso hsp
  obtain ⟨e1, e2⟩ : slLo sp = (if sp < 0 then -1 else 0) ∧ slHi sp n = (if sp < 0 then n - 1 else n) := ⟨rfl, rfl⟩
  rw [e1, e2] at hti hto hst hso
  first | simp only [if_pos hneg] at hti hto hst hso | simp only [if_neg hneg] at hti hto hst hso
  have hstx : st = st := by first | rfl | exact hst | omega
  have hsox : so = so := by first | rfl | exact hso | omega
  have hspx : 1 = sp := by first | rfl | exact hsp | omega
  (refine q_H Try.func56 (fun F => ?_); simp only [q_z,q_y,Try.ntmps56,Try.results56])
  repeat' (first|(with_reducible first|apply q_a|apply q_b|apply q_c|apply q_d|apply q_e|apply q_f|apply q_g|apply q_h|apply q_i|apply q_j|apply q_k|apply q_m|apply q_n|apply q_o|apply q_p|refine q_l ?_)|((with_reducible first|refine q_q sr4_ok fun K hK=>?_|refine q_r sr4_ok fun K hK=>?_);simp (maxSteps:=2000000) only [go_sem,↓reduceIte,reduceCtorEq,Nat.reduceLeDiff,Nat.reduceLT,Nat.reduceBEq,Nat.reduceAdd,hz, hst, hso, o0, o1, o2, hv2];(repeat1' with_reducible first|apply And.intro|(intro _;try exact q_v)|(refine hK _ ?_;clear hK K))<;>(try (clear hK K;exact q_u)))|(with_reducible refine q_s ?_;(first|apply q_J|apply q_K|apply q_L|apply q_M|apply q_N|apply q_O)<;>try (intro _;try exact q_v))|with_reducible refine q_t ?_)
  all_goals try omega
  refine q_G (ι := { k : Nat // k ≤ c }) (fun k => ⟨71, [(4, .c (.i .i64 st)), (5, .c (.i .i64 sp)), (6, .own 1 0), (9, .c (.i .i64 so)), (10, .c (.i .i64 (st + (k.1 : Int) * sp)))], ⟨[], [(1, ⟨0, 3, 1, .ints .i64 (slPos st sp k.1)⟩)], []⟩, 2⟩) (fun k => c - k.1) ⟨0, by omega⟩ ?_ ?_
  · have e0 : st + ((0 : Nat) : Int) * sp = st := by rw [show ((0 : Nat) : Int) = 0 from rfl, Int.zero_mul]; omega
    have e9 : slPos st sp 0 = [] := rfl
    simp only [e0, e9]
    ((simp only [go_sem,↓reduceIte,reduceCtorEq,Nat.reduceLeDiff,Nat.reduceLT,Nat.reduceBEq,Nat.reduceAdd])<;>(try (simp;done))<;>(try ((simp only [C.i.injEq,C.b.injEq,C.ints.injEq,C.bools.injEq,List.append_cancel_left_eq,List.cons.injEq,true_and,and_true]);(repeat' with_reducible apply And.intro)<;>(first|rfl|assumption|omega|(simp;omega)|(congr 1;omega)|(congr 2;omega)))))
  rintro ⟨k, k1⟩
  simp only at k1 ⊢
  have tl := slPos_len st sp k
  have hik := hit k
  have hmul : ((k + 1 : Nat) : Int) * sp = (k : Int) * sp + sp := by rw [Int.natCast_add, Int.add_mul]; omega
  have hkc : k < c → 0 ≤ st + (k : Int) * sp ∧ st + (k : Int) * sp < n := fun h => hin k h
  have hsu := slPos_succ st sp k
  generalize (k : Int) * sp = p at *
  rcases Nat.lt_or_ge k c with hk | hk
  · have hkc := hkc hk
    have hik := hik.1 hk
    repeat' (first|(with_reducible first|apply q_a|apply q_b|apply q_c|apply q_d|apply q_e|apply q_f|apply q_g|apply q_h|apply q_i|apply q_j|apply q_k|apply q_m|apply q_n|apply q_o|apply q_p|refine q_l ?_)|((with_reducible first|refine q_q sr4_ok fun K hK=>?_|refine q_r sr4_ok fun K hK=>?_);simp (maxSteps:=2000000) only [go_sem,↓reduceIte,reduceCtorEq,Nat.reduceLeDiff,Nat.reduceLT,Nat.reduceBEq,Nat.reduceAdd,tl];(repeat1' with_reducible first|apply And.intro|(intro _;try exact q_v)|(refine hK _ ?_;clear hK K))<;>(try (clear hK K;exact q_u)))|(with_reducible refine q_s ?_;(first|apply q_J|apply q_K|apply q_L|apply q_M|apply q_N|apply q_O)<;>try (intro _;try exact q_v))|with_reducible refine q_t ?_)
    all_goals try omega
    all_goals
      refine q_F ⟨k + 1, hk⟩ ?_ (by simp only; omega)
      simp only [hsu, hmul]
      ((simp only [go_sem,↓reduceIte,reduceCtorEq,Nat.reduceLeDiff,Nat.reduceLT,Nat.reduceBEq,Nat.reduceAdd])<;>(try (simp;done))<;>(try ((simp only [C.i.injEq,C.b.injEq,C.ints.injEq,C.bools.injEq,List.append_cancel_left_eq,List.cons.injEq,true_and,and_true]);(repeat' with_reducible apply And.intro)<;>(first|rfl|assumption|omega|(simp;omega)|(congr 1;omega)|(congr 2;omega)))))
  · have hk' : k = c := by omega
    subst hk'
    have hik : ¬ (0 < sp ∧ st + p < so ∨ sp < 0 ∧ so < st + p) := fun h => absurd (hik.2 h) (Nat.lt_irrefl _)
    repeat' (first|(with_reducible first|apply q_a|apply q_b|apply q_c|apply q_d|apply q_e|apply q_f|apply q_g|apply q_h|apply q_i|apply q_j|apply q_k|apply q_m|apply q_n|apply q_o|apply q_p|refine q_l ?_)|((with_reducible first|refine q_q sr4_ok fun K hK=>?_|refine q_r sr4_ok fun K hK=>?_);simp (maxSteps:=2000000) only [go_sem,↓reduceIte,reduceCtorEq,Nat.reduceLeDiff,Nat.reduceLT,Nat.reduceBEq,Nat.reduceAdd,tl];(repeat1' with_reducible first|apply And.intro|(intro _;try exact q_v)|(refine hK _ ?_;clear hK K))<;>(try (clear hK K;exact q_u)))|(with_reducible refine q_s ?_;(first|apply q_J|apply q_K|apply q_L|apply q_M|apply q_N|apply q_O)<;>try (intro _;try exact q_v))|with_reducible refine q_t ?_)
    all_goals first
      | omega
      | exact q_B [.inl none, .inl none, .inl (some (.ints .i64 []))] rfl rfl
      | exact q_A rfl
      | (exfalso; apply hik; omega)
set_option maxRecDepth 100000 in
set_option maxHeartbeats 3200000 in
theorem places_true_false_true_neg (s0 s1 s2 : Bool) (x0 x1 x2 : List Int) (n sp st so : Int) (c : Nat) (b0 : InB 4294967296 x0) (b1 : InB 4294967296 x1) (b2 : InB 4294967296 x2)
    (hF : slF (prt s0 x0 true) (prt s1 x1 false) (prt s2 x2 true) true x2.length = 0) (hn : 0 ≤ n) (hn2 : n ≤ 4000) (hneg : sp < 0)
    (hsp : slStep true (sv 4294967296 s2 x2) = sp) (hst : slSta true (sv 4294967296 s0 x0) n sp = st) (hso : slSto false (sv 4294967296 s1 x1) n sp = so) (hcn : slCnt st so sp = c) :
    Ret Try.prog 56 false [.inr [.b s0, .ints .u32 x0, .b s1, .ints .u32 x1, .b s2, .ints .u32 x2, .b true, .b false, .b true], .inl (.i .i64 n)]
      (.t [.inl (.i .i64 st), .inl (.i .i64 sp), .inl (.ints .i64 (slPos st sp c))]) := by
  obtain ⟨p0, p1, p2, pz⟩ := slF_ok hF
  have o0 := prt_ok p0
  have o1 := prt_ok p1
  have o2 := prt_ok p2
  have hz : sp ≠ 0 := by rw [← hsp]; exact step_ne fun hg => pos_len o2 b2 (pz hg)
  have hs := step_in true (sv 4294967296 s2 x2)
  rw [hsp] at hs
  have hti := sta_in (g := true) (z := sv 4294967296 s0 x0) (sp := sp) hn
  have hto := sto_in (g := false) (z := sv 4294967296 s1 x1) (sp := sp) hn
  have hlh := lo_hi (sp := sp) hn
  have hin := fun k hk => pos_in (g0 := true) (g1 := false) (z0 := sv 4294967296 s0 x0) (z1 := sv 4294967296 s1 x1) hn hz k hk
  have hit := cnt_iff (st := st) (so := so) hz
  have hcl := cnt_le (g0 := true) (g1 := false) (z0 := sv 4294967296 s0 x0) (z1 := sv 4294967296 s1 x1) (n := n.toNat) hz
  rw [show ((n.toNat : Nat) : Int) = n by omega, hst, hso, hcn] at hcl
  rw [hst] at hti hin
  rw [hso] at hto hin
  rw [hcn] at hin hit
  have hlx := (okZ_eq o2 b2).2.2
  have hl2 := of_len hlx b2
  have hv2 : sv 65536 s2 (dg 65536 (V 4294967296 x2)) = sv 4294967296 s2 x2 := by rw [sv_d (by omega)]; rfl
  unfold slSta at hst
  unfold slSto at hso
  unfold slStep at hsp
  simp only [Bool.false_eq_true, if_true, if_false] at hst hso hsp
  obtain ⟨e1, e2⟩ : slLo sp = (if sp < 0 then -1 else 0) ∧ slHi sp n = (if sp < 0 then n - 1 else n) := ⟨rfl, rfl⟩
  rw [e1, e2] at hti hto hst hso
  first | simp only [if_pos hneg] at hti hto hst hso | simp only [if_neg hneg] at hti hto hst hso
  have hstx : st = st := by first | rfl | exact hst | omega
  have hsox : (-1) = so := by first | rfl | exact hso | omega
  have hspx : sp = sp := by first | rfl | exact hsp | omega
  (refine q_H Try.func56 (fun F => ?_); simp only [q_z,q_y,Try.ntmps56,Try.results56])
  repeat' (first|(with_reducible first|apply q_a|apply q_b|apply q_c|apply q_d|apply q_e|apply q_f|apply q_g|apply q_h|apply q_i|apply q_j|apply q_k|apply q_m|apply q_n|apply q_o|apply q_p|refine q_l ?_)|((with_reducible first|refine q_q sr4_ok fun K hK=>?_|refine q_r sr4_ok fun K hK=>?_);simp (maxSteps:=2000000) only [go_sem,↓reduceIte,reduceCtorEq,Nat.reduceLeDiff,Nat.reduceLT,Nat.reduceBEq,Nat.reduceAdd,hsp, hst, hz, o0, o1, o2, hv2];(repeat1' with_reducible first|apply And.intro|(intro _;try exact q_v)|(refine hK _ ?_;clear hK K))<;>(try (clear hK K;exact q_u)))|(with_reducible refine q_s ?_;(first|apply q_J|apply q_K|apply q_L|apply q_M|apply q_N|apply q_O)<;>try (intro _;try exact q_v))|with_reducible refine q_t ?_)
  all_goals try omega
  refine q_G (ι := { k : Nat // k ≤ c }) (fun k => ⟨71, [(4, .c (.i .i64 st)), (5, .c (.i .i64 sp)), (6, .own 1 0), (9, .c (.i .i64 so)), (10, .c (.i .i64 (st + (k.1 : Int) * sp)))], ⟨[], [(1, ⟨0, 3, 1, .ints .i64 (slPos st sp k.1)⟩)], []⟩, 2⟩) (fun k => c - k.1) ⟨0, by omega⟩ ?_ ?_
  · have e0 : st + ((0 : Nat) : Int) * sp = st := by rw [show ((0 : Nat) : Int) = 0 from rfl, Int.zero_mul]; omega
    have e9 : slPos st sp 0 = [] := rfl
    simp only [e0, e9]
    ((simp only [go_sem,↓reduceIte,reduceCtorEq,Nat.reduceLeDiff,Nat.reduceLT,Nat.reduceBEq,Nat.reduceAdd])<;>(try (simp;done))<;>(try ((simp only [C.i.injEq,C.b.injEq,C.ints.injEq,C.bools.injEq,List.append_cancel_left_eq,List.cons.injEq,true_and,and_true]);(repeat' with_reducible apply And.intro)<;>(first|rfl|assumption|omega|(simp;omega)|(congr 1;omega)|(congr 2;omega)))))
  rintro ⟨k, k1⟩
  simp only at k1 ⊢
  have tl := slPos_len st sp k
  have hik := hit k
  have hmul : ((k + 1 : Nat) : Int) * sp = (k : Int) * sp + sp := by rw [Int.natCast_add, Int.add_mul]; omega
  have hkc : k < c → 0 ≤ st + (k : Int) * sp ∧ st + (k : Int) * sp < n := fun h => hin k h
  have hsu := slPos_succ st sp k
  generalize (k : Int) * sp = p at *
  rcases Nat.lt_or_ge k c with hk | hk
  · have hkc := hkc hk
    have hik := hik.1 hk
    repeat' (first|(with_reducible first|apply q_a|apply q_b|apply q_c|apply q_d|apply q_e|apply q_f|apply q_g|apply q_h|apply q_i|apply q_j|apply q_k|apply q_m|apply q_n|apply q_o|apply q_p|refine q_l ?_)|((with_reducible first|refine q_q sr4_ok fun K hK=>?_|refine q_r sr4_ok fun K hK=>?_);simp (maxSteps:=2000000) only [go_sem,↓reduceIte,reduceCtorEq,Nat.reduceLeDiff,Nat.reduceLT,Nat.reduceBEq,Nat.reduceAdd,tl];(repeat1' with_reducible first|apply And.intro|(intro _;try exact q_v)|(refine hK _ ?_;clear hK K))<;>(try (clear hK K;exact q_u)))|(with_reducible refine q_s ?_;(first|apply q_J|apply q_K|apply q_L|apply q_M|apply q_N|apply q_O)<;>try (intro _;try exact q_v))|with_reducible refine q_t ?_)
    all_goals try omega
    all_goals
      refine q_F ⟨k + 1, hk⟩ ?_ (by simp only; omega)
      simp only [hsu, hmul]
      ((simp only [go_sem,↓reduceIte,reduceCtorEq,Nat.reduceLeDiff,Nat.reduceLT,Nat.reduceBEq,Nat.reduceAdd])<;>(try (simp;done))<;>(try ((simp only [C.i.injEq,C.b.injEq,C.ints.injEq,C.bools.injEq,List.append_cancel_left_eq,List.cons.injEq,true_and,and_true]);(repeat' with_reducible apply And.intro)<;>(first|rfl|assumption|omega|(simp;omega)|(congr 1;omega)|(congr 2;omega)))))
  · have hk' : k = c := by omega
    subst hk'
    have hik : ¬ (0 < sp ∧ st + p < so ∨ sp < 0 ∧ so < st + p) := fun h => absurd (hik.2 h) (Nat.lt_irrefl _)
    repeat' (first|(with_reducible first|apply q_a|apply q_b|apply q_c|apply q_d|apply q_e|apply q_f|apply q_g|apply q_h|apply q_i|apply q_j|apply q_k|apply q_m|apply q_n|apply q_o|apply q_p|refine q_l ?_)|((with_reducible first|refine q_q sr4_ok fun K hK=>?_|refine q_r sr4_ok fun K hK=>?_);simp (maxSteps:=2000000) only [go_sem,↓reduceIte,reduceCtorEq,Nat.reduceLeDiff,Nat.reduceLT,Nat.reduceBEq,Nat.reduceAdd,tl];(repeat1' with_reducible first|apply And.intro|(intro _;try exact q_v)|(refine hK _ ?_;clear hK K))<;>(try (clear hK K;exact q_u)))|(with_reducible refine q_s ?_;(first|apply q_J|apply q_K|apply q_L|apply q_M|apply q_N|apply q_O)<;>try (intro _;try exact q_v))|with_reducible refine q_t ?_)
    all_goals first
      | omega
      | exact q_B [.inl none, .inl none, .inl (some (.ints .i64 []))] rfl rfl
      | exact q_A rfl
      | (exfalso; apply hik; omega)
set_option maxRecDepth 100000 in
set_option maxHeartbeats 3200000 in
theorem places_true_false_true_pos (s0 s1 s2 : Bool) (x0 x1 x2 : List Int) (n sp st so : Int) (c : Nat) (b0 : InB 4294967296 x0) (b1 : InB 4294967296 x1) (b2 : InB 4294967296 x2)
    (hF : slF (prt s0 x0 true) (prt s1 x1 false) (prt s2 x2 true) true x2.length = 0) (hn : 0 ≤ n) (hn2 : n ≤ 4000) (hneg : ¬ sp < 0)
    (hsp : slStep true (sv 4294967296 s2 x2) = sp) (hst : slSta true (sv 4294967296 s0 x0) n sp = st) (hso : slSto false (sv 4294967296 s1 x1) n sp = so) (hcn : slCnt st so sp = c) :
    Ret Try.prog 56 false [.inr [.b s0, .ints .u32 x0, .b s1, .ints .u32 x1, .b s2, .ints .u32 x2, .b true, .b false, .b true], .inl (.i .i64 n)]
      (.t [.inl (.i .i64 st), .inl (.i .i64 sp), .inl (.ints .i64 (slPos st sp c))]) := by
  obtain ⟨p0, p1, p2, pz⟩ := slF_ok hF
  have o0 := prt_ok p0
  have o1 := prt_ok p1
  have o2 := prt_ok p2
  have hz : sp ≠ 0 := by rw [← hsp]; exact step_ne fun hg => pos_len o2 b2 (pz hg)
  have hs := step_in true (sv 4294967296 s2 x2)
  rw [hsp] at hs
  have hti := sta_in (g := true) (z := sv 4294967296 s0 x0) (sp := sp) hn
  have hto := sto_in (g := false) (z := sv 4294967296 s1 x1) (sp := sp) hn
  have hlh := lo_hi (sp := sp) hn
  have hin := fun k hk => pos_in (g0 := true) (g1 := false) (z0 := sv 4294967296 s0 x0) (z1 := sv 4294967296 s1 x1) hn hz k hk
  have hit := cnt_iff (st := st) (so := so) hz
  have hcl := cnt_le (g0 := true) (g1 := false) (z0 := sv 4294967296 s0 x0) (z1 := sv 4294967296 s1 x1) (n := n.toNat) hz
  rw [show ((n.toNat : Nat) : Int) = n by omega, hst, hso, hcn] at hcl
  rw [hst] at hti hin
  rw [hso] at hto hin
  rw [hcn] at hin hit
  have hlx := (okZ_eq o2 b2).2.2
  have hl2 := of_len hlx b2
  have hv2 : sv 65536 s2 (dg 65536 (V 4294967296 x2)) = sv 4294967296 s2 x2 := by rw [sv_d (by omega)]; rfl
  unfold slSta at hst
  unfold slSto at hso
  unfold slStep at hsp
  simp only [Bool.false_eq_true, if_true, if_false] at hst hso hsp
  obtain ⟨e1, e2⟩ : slLo sp = (if sp < 0 then -1 else 0) ∧ slHi sp n = (if sp < 0 then n - 1 else n) := ⟨rfl, rfl⟩
  rw [e1, e2] at hti hto hst hso
  first | simp only [if_pos hneg] at hti hto hst hso | simp only [if_neg hneg] at hti hto hst hso
  have hstx : st = st := by first | rfl | exact hst | omega
  have hsox : n = so := by first | rfl | exact hso | omega
  have hspx : sp = sp := by first | rfl | exact hsp | omega
  (refine q_H Try.func56 (fun F => ?_); simp only [q_z,q_y,Try.ntmps56,Try.results56])
  repeat' (first|(with_reducible first|apply q_a|apply q_b|apply q_c|apply q_d|apply q_e|apply q_f|apply q_g|apply q_h|apply q_i|apply q_j|apply q_k|apply q_m|apply q_n|apply q_o|apply q_p|refine q_l ?_)|((with_reducible first|refine q_q sr4_ok fun K hK=>?_|refine q_r sr4_ok fun K hK=>?_);simp (maxSteps:=2000000) only [go_sem,↓reduceIte,reduceCtorEq,Nat.reduceLeDiff,Nat.reduceLT,Nat.reduceBEq,Nat.reduceAdd,hsp, hst, hz, o0, o1, o2, hv2];(repeat1' with_reducible first|apply And.intro|(intro _;try exact q_v)|(refine hK _ ?_;clear hK K))<;>(try (clear hK K;exact q_u)))|(with_reducible refine q_s ?_;(first|apply q_J|apply q_K|apply q_L|apply q_M|apply q_N|apply q_O)<;>try (intro _;try exact q_v))|with_reducible refine q_t ?_)
  all_goals try omega
  refine q_G (ι := { k : Nat // k ≤ c }) (fun k => ⟨71, [(4, .c (.i .i64 st)), (5, .c (.i .i64 sp)), (6, .own 1 0), (9, .c (.i .i64 so)), (10, .c (.i .i64 (st + (k.1 : Int) * sp)))], ⟨[], [(1, ⟨0, 3, 1, .ints .i64 (slPos st sp k.1)⟩)], []⟩, 2⟩) (fun k => c - k.1) ⟨0, by omega⟩ ?_ ?_
  · have e0 : st + ((0 : Nat) : Int) * sp = st := by rw [show ((0 : Nat) : Int) = 0 from rfl, Int.zero_mul]; omega
    have e9 : slPos st sp 0 = [] := rfl
    simp only [e0, e9]
    ((simp only [go_sem,↓reduceIte,reduceCtorEq,Nat.reduceLeDiff,Nat.reduceLT,Nat.reduceBEq,Nat.reduceAdd])<;>(try (simp;done))<;>(try ((simp only [C.i.injEq,C.b.injEq,C.ints.injEq,C.bools.injEq,List.append_cancel_left_eq,List.cons.injEq,true_and,and_true]);(repeat' with_reducible apply And.intro)<;>(first|rfl|assumption|omega|(simp;omega)|(congr 1;omega)|(congr 2;omega)))))
  rintro ⟨k, k1⟩
  simp only at k1 ⊢
  have tl := slPos_len st sp k
  have hik := hit k
  have hmul : ((k + 1 : Nat) : Int) * sp = (k : Int) * sp + sp := by rw [Int.natCast_add, Int.add_mul]; omega
  have hkc : k < c → 0 ≤ st + (k : Int) * sp ∧ st + (k : Int) * sp < n := fun h => hin k h
  have hsu := slPos_succ st sp k
  generalize (k : Int) * sp = p at *
  rcases Nat.lt_or_ge k c with hk | hk
  · have hkc := hkc hk
    have hik := hik.1 hk
    repeat' (first|(with_reducible first|apply q_a|apply q_b|apply q_c|apply q_d|apply q_e|apply q_f|apply q_g|apply q_h|apply q_i|apply q_j|apply q_k|apply q_m|apply q_n|apply q_o|apply q_p|refine q_l ?_)|((with_reducible first|refine q_q sr4_ok fun K hK=>?_|refine q_r sr4_ok fun K hK=>?_);simp (maxSteps:=2000000) only [go_sem,↓reduceIte,reduceCtorEq,Nat.reduceLeDiff,Nat.reduceLT,Nat.reduceBEq,Nat.reduceAdd,tl];(repeat1' with_reducible first|apply And.intro|(intro _;try exact q_v)|(refine hK _ ?_;clear hK K))<;>(try (clear hK K;exact q_u)))|(with_reducible refine q_s ?_;(first|apply q_J|apply q_K|apply q_L|apply q_M|apply q_N|apply q_O)<;>try (intro _;try exact q_v))|with_reducible refine q_t ?_)
    all_goals try omega
    all_goals
      refine q_F ⟨k + 1, hk⟩ ?_ (by simp only; omega)
      simp only [hsu, hmul]
      ((simp only [go_sem,↓reduceIte,reduceCtorEq,Nat.reduceLeDiff,Nat.reduceLT,Nat.reduceBEq,Nat.reduceAdd])<;>(try (simp;done))<;>(try ((simp only [C.i.injEq,C.b.injEq,C.ints.injEq,C.bools.injEq,List.append_cancel_left_eq,List.cons.injEq,true_and,and_true]);(repeat' with_reducible apply And.intro)<;>(first|rfl|assumption|omega|(simp;omega)|(congr 1;omega)|(congr 2;omega)))))
  · have hk' : k = c := by omega
    subst hk'
    have hik : ¬ (0 < sp ∧ st + p < so ∨ sp < 0 ∧ so < st + p) := fun h => absurd (hik.2 h) (Nat.lt_irrefl _)
    repeat' (first|(with_reducible first|apply q_a|apply q_b|apply q_c|apply q_d|apply q_e|apply q_f|apply q_g|apply q_h|apply q_i|apply q_j|apply q_k|apply q_m|apply q_n|apply q_o|apply q_p|refine q_l ?_)|((with_reducible first|refine q_q sr4_ok fun K hK=>?_|refine q_r sr4_ok fun K hK=>?_);simp (maxSteps:=2000000) only [go_sem,↓reduceIte,reduceCtorEq,Nat.reduceLeDiff,Nat.reduceLT,Nat.reduceBEq,Nat.reduceAdd,tl];(repeat1' with_reducible first|apply And.intro|(intro _;try exact q_v)|(refine hK _ ?_;clear hK K))<;>(try (clear hK K;exact q_u)))|(with_reducible refine q_s ?_;(first|apply q_J|apply q_K|apply q_L|apply q_M|apply q_N|apply q_O)<;>try (intro _;try exact q_v))|with_reducible refine q_t ?_)
    all_goals first
      | omega
      | exact q_B [.inl none, .inl none, .inl (some (.ints .i64 []))] rfl rfl
      | exact q_A rfl
      | (exfalso; apply hik; omega)
set_option maxRecDepth 100000 in
set_option maxHeartbeats 3200000 in
theorem places_true_false_false_pos (s0 s1 s2 : Bool) (x0 x1 x2 : List Int) (n sp st so : Int) (c : Nat) (b0 : InB 4294967296 x0) (b1 : InB 4294967296 x1) (b2 : InB 4294967296 x2)
    (hF : slF (prt s0 x0 true) (prt s1 x1 false) (prt s2 x2 false) false x2.length = 0) (hn : 0 ≤ n) (hn2 : n ≤ 4000) (hneg : ¬ sp < 0)
    (hsp : slStep false (sv 4294967296 s2 x2) = sp) (hst : slSta true (sv 4294967296 s0 x0) n sp = st) (hso : slSto false (sv 4294967296 s1 x1) n sp = so) (hcn : slCnt st so sp = c) :
    Ret Try.prog 56 false [.inr [.b s0, .ints .u32 x0, .b s1, .ints .u32 x1, .b s2, .ints .u32 x2, .b true, .b false, .b false], .inl (.i .i64 n)]
      (.t [.inl (.i .i64 st), .inl (.i .i64 sp), .inl (.ints .i64 (slPos st sp c))]) := by
  obtain ⟨p0, p1, p2, pz⟩ := slF_ok hF
  have o0 := prt_ok p0
  have o1 := prt_ok p1
  have o2 := prt_ok p2
  have hz : sp ≠ 0 := by rw [← hsp]; exact step_ne fun hg => pos_len o2 b2 (pz hg)
  have hs := step_in false (sv 4294967296 s2 x2)
  rw [hsp] at hs
  have hti := sta_in (g := true) (z := sv 4294967296 s0 x0) (sp := sp) hn
  have hto := sto_in (g := false) (z := sv 4294967296 s1 x1) (sp := sp) hn
  have hlh := lo_hi (sp := sp) hn
  have hin := fun k hk => pos_in (g0 := true) (g1 := false) (z0 := sv 4294967296 s0 x0) (z1 := sv 4294967296 s1 x1) hn hz k hk
  have hit := cnt_iff (st := st) (so := so) hz
  have hcl := cnt_le (g0 := true) (g1 := false) (z0 := sv 4294967296 s0 x0) (z1 := sv 4294967296 s1 x1) (n := n.toNat) hz
  rw [show ((n.toNat : Nat) : Int) = n by omega, hst, hso, hcn] at hcl
  rw [hst] at hti hin
  rw [hso] at hto hin
  rw [hcn] at hin hit
  have hlx := (okZ_eq o2 b2).2.2
  have hl2 := of_len hlx b2
  have hv2 : sv 65536 s2 (dg 65536 (V 4294967296 x2)) = sv 4294967296 s2 x2 := by rw [sv_d (by omega)]; rfl
  unfold slSta at hst
  unfold slSto at hso
  unfold slStep at hsp
  simp only [Bool.false_eq_true, if_true, if_false] at hst hso hsp
  obtain ⟨e1, e2⟩ : slLo sp = (if sp < 0 then -1 else 0) ∧ slHi sp n = (if sp < 0 then n - 1 else n) := ⟨rfl, rfl⟩
  rw [e1, e2] at hti hto hst hso
  first | simp only [if_pos hneg] at hti hto hst hso | simp only [if_neg hneg] at hti hto hst hso
  have hstx : st = st := by first | rfl | exact hst | omega
  have hsox : n = so := by first | rfl | exact hso | omega
  have hspx : 1 = sp := by first | rfl | exact hsp | omega
  (refine q_H Try.func56 (fun F => ?_); simp only [q_z,q_y,Try.ntmps56,Try.results56])
  repeat' (first|(with_reducible first|apply q_a|apply q_b|apply q_c|apply q_d|apply q_e|apply q_f|apply q_g|apply q_h|apply q_i|apply q_j|apply q_k|apply q_m|apply q_n|apply q_o|apply q_p|refine q_l ?_)|((with_reducible first|refine q_q sr4_ok fun K hK=>?_|refine q_r sr4_ok fun K hK=>?_);simp (maxSteps:=2000000) only [go_sem,↓reduceIte,reduceCtorEq,Nat.reduceLeDiff,Nat.reduceLT,Nat.reduceBEq,Nat.reduceAdd,hz, hst, hz, o0, o1, o2, hv2];(repeat1' with_reducible first|apply And.intro|(intro _;try exact q_v)|(refine hK _ ?_;clear hK K))<;>(try (clear hK K;exact q_u)))|(with_reducible refine q_s ?_;(first|apply q_J|apply q_K|apply q_L|apply q_M|apply q_N|apply q_O)<;>try (intro _;try exact q_v))|with_reducible refine q_t ?_)
  all_goals try omega
  refine q_G (ι := { k : Nat // k ≤ c }) (fun k => ⟨71, [(4, .c (.i .i64 st)), (5, .c (.i .i64 sp)), (6, .own 1 0), (9, .c (.i .i64 so)), (10, .c (.i .i64 (st + (k.1 : Int) * sp)))], ⟨[], [(1, ⟨0, 3, 1, .ints .i64 (slPos st sp k.1)⟩)], []⟩, 2⟩) (fun k => c - k.1) ⟨0, by omega⟩ ?_ ?_
  · have e0 : st + ((0 : Nat) : Int) * sp = st := by rw [show ((0 : Nat) : Int) = 0 from rfl, Int.zero_mul]; omega
    have e9 : slPos st sp 0 = [] := rfl
    simp only [e0, e9]
    ((simp only [go_sem,↓reduceIte,reduceCtorEq,Nat.reduceLeDiff,Nat.reduceLT,Nat.reduceBEq,Nat.reduceAdd])<;>(try (simp;done))<;>(try ((simp only [C.i.injEq,C.b.injEq,C.ints.injEq,C.bools.injEq,List.append_cancel_left_eq,List.cons.injEq,true_and,and_true]);(repeat' with_reducible apply And.intro)<;>(first|rfl|assumption|omega|(simp;omega)|(congr 1;omega)|(congr 2;omega)))))
  rintro ⟨k, k1⟩
  simp only at k1 ⊢
  have tl := slPos_len st sp k
  have hik := hit k
  have hmul : ((k + 1 : Nat) : Int) * sp = (k : Int) * sp + sp := by rw [Int.natCast_add, Int.add_mul]; omega
  have hkc : k < c → 0 ≤ st + (k : Int) * sp ∧ st + (k : Int) * sp < n := fun h => hin k h
  have hsu := slPos_succ st sp k
  generalize (k : Int) * sp = p at *
  rcases Nat.lt_or_ge k c with hk | hk
  · have hkc := hkc hk
    have hik := hik.1 hk
    repeat' (first|(with_reducible first|apply q_a|apply q_b|apply q_c|apply q_d|apply q_e|apply q_f|apply q_g|apply q_h|apply q_i|apply q_j|apply q_k|apply q_m|apply q_n|apply q_o|apply q_p|refine q_l ?_)|((with_reducible first|refine q_q sr4_ok fun K hK=>?_|refine q_r sr4_ok fun K hK=>?_);simp (maxSteps:=2000000) only [go_sem,↓reduceIte,reduceCtorEq,Nat.reduceLeDiff,Nat.reduceLT,Nat.reduceBEq,Nat.reduceAdd,tl];(repeat1' with_reducible first|apply And.intro|(intro _;try exact q_v)|(refine hK _ ?_;clear hK K))<;>(try (clear hK K;exact q_u)))|(with_reducible refine q_s ?_;(first|apply q_J|apply q_K|apply q_L|apply q_M|apply q_N|apply q_O)<;>try (intro _;try exact q_v))|with_reducible refine q_t ?_)
    all_goals try omega
    all_goals
      refine q_F ⟨k + 1, hk⟩ ?_ (by simp only; omega)
      simp only [hsu, hmul]
      ((simp only [go_sem,↓reduceIte,reduceCtorEq,Nat.reduceLeDiff,Nat.reduceLT,Nat.reduceBEq,Nat.reduceAdd])<;>(try (simp;done))<;>(try ((simp only [C.i.injEq,C.b.injEq,C.ints.injEq,C.bools.injEq,List.append_cancel_left_eq,List.cons.injEq,true_and,and_true]);(repeat' with_reducible apply And.intro)<;>(first|rfl|assumption|omega|(simp;omega)|(congr 1;omega)|(congr 2;omega)))))
  · have hk' : k = c := by omega
    subst hk'
    have hik : ¬ (0 < sp ∧ st + p < so ∨ sp < 0 ∧ so < st + p) := fun h => absurd (hik.2 h) (Nat.lt_irrefl _)
    repeat' (first|(with_reducible first|apply q_a|apply q_b|apply q_c|apply q_d|apply q_e|apply q_f|apply q_g|apply q_h|apply q_i|apply q_j|apply q_k|apply q_m|apply q_n|apply q_o|apply q_p|refine q_l ?_)|((with_reducible first|refine q_q sr4_ok fun K hK=>?_|refine q_r sr4_ok fun K hK=>?_);simp (maxSteps:=2000000) only [go_sem,↓reduceIte,reduceCtorEq,Nat.reduceLeDiff,Nat.reduceLT,Nat.reduceBEq,Nat.reduceAdd,tl];(repeat1' with_reducible first|apply And.intro|(intro _;try exact q_v)|(refine hK _ ?_;clear hK K))<;>(try (clear hK K;exact q_u)))|(with_reducible refine q_s ?_;(first|apply q_J|apply q_K|apply q_L|apply q_M|apply q_N|apply q_O)<;>try (intro _;try exact q_v))|with_reducible refine q_t ?_)
    all_goals first
      | omega
      | exact q_B [.inl none, .inl none, .inl (some (.ints .i64 []))] rfl rfl
      | exact q_A rfl
      | (exfalso; apply hik; omega)
set_option maxRecDepth 100000 in
set_option maxHeartbeats 3200000 in
theorem places_false_true_true_neg (s0 s1 s2 : Bool) (x0 x1 x2 : List Int) (n sp st so : Int) (c : Nat) (b0 : InB 4294967296 x0) (b1 : InB 4294967296 x1) (b2 : InB 4294967296 x2)
    (hF : slF (prt s0 x0 false) (prt s1 x1 true) (prt s2 x2 true) true x2.length = 0) (hn : 0 ≤ n) (hn2 : n ≤ 4000) (hneg : sp < 0)
    (hsp : slStep true (sv 4294967296 s2 x2) = sp) (hst : slSta false (sv 4294967296 s0 x0) n sp = st) (hso : slSto true (sv 4294967296 s1 x1) n sp = so) (hcn : slCnt st so sp = c) :
    Ret Try.prog 56 false [.inr [.b s0, .ints .u32 x0, .b s1, .ints .u32 x1, .b s2, .ints .u32 x2, .b false, .b true, .b true], .inl (.i .i64 n)]
      (.t [.inl (.i .i64 st), .inl (.i .i64 sp), .inl (.ints .i64 (slPos st sp c))]) := by
  obtain ⟨p0, p1, p2, pz⟩ := slF_ok hF
  have o0 := prt_ok p0
  have o1 := prt_ok p1
  have o2 := prt_ok p2
  have hz : sp ≠ 0 := by rw [← hsp]; exact step_ne fun hg => pos_len o2 b2 (pz hg)
  have hs := step_in true (sv 4294967296 s2 x2)
  rw [hsp] at hs
  have hti := sta_in (g := false) (z := sv 4294967296 s0 x0) (sp := sp) hn
  have hto := sto_in (g := true) (z := sv 4294967296 s1 x1) (sp := sp) hn
  have hlh := lo_hi (sp := sp) hn
  have hin := fun k hk => pos_in (g0 := false) (g1 := true) (z0 := sv 4294967296 s0 x0) (z1 := sv 4294967296 s1 x1) hn hz k hk
  have hit := cnt_iff (st := st) (so := so) hz
  have hcl := cnt_le (g0 := false) (g1 := true) (z0 := sv 4294967296 s0 x0) (z1 := sv 4294967296 s1 x1) (n := n.toNat) hz
  rw [show ((n.toNat : Nat) : Int) = n by omega, hst, hso, hcn] at hcl
  rw [hst] at hti hin
  rw [hso] at hto hin
  rw [hcn] at hin hit
  have hlx := (okZ_eq o2 b2).2.2
  have hl2 := of_len hlx b2
  have hv2 : sv 65536 s2 (dg 65536 (V 4294967296 x2)) = sv 4294967296 s2 x2 := by rw [sv_d (by omega)]; rfl
  unfold slSta at hst
  unfold slSto at hso
  unfold slStep at hsp
  simp only [Bool.false_eq_true, if_true, if_false] at hst hso hsp
  obtain ⟨e1, e2⟩ : slLo sp = (if sp < 0 then -1 else 0) ∧ slHi sp n = (if sp < 0 then n - 1 else n) := ⟨rfl, rfl⟩
  rw [e1, e2] at hti hto hst hso
  first | simp only [if_pos hneg] at hti hto hst hso | simp only [if_neg hneg] at hti hto hst hso
  have hstx : (n - 1) = st := by first | rfl | exact hst | omega
  have hsox : so = so := by first | rfl | exact hso | omega
  have hspx : sp = sp := by first | rfl | exact hsp | omega
  (refine q_H Try.func56 (fun F => ?_); simp only [q_z,q_y,Try.ntmps56,Try.results56])
  repeat' (first|(with_reducible first|apply q_a|apply q_b|apply q_c|apply q_d|apply q_e|apply q_f|apply q_g|apply q_h|apply q_i|apply q_j|apply q_k|apply q_m|apply q_n|apply q_o|apply q_p|refine q_l ?_)|((with_reducible first|refine q_q sr4_ok fun K hK=>?_|refine q_r sr4_ok fun K hK=>?_);simp (maxSteps:=2000000) only [go_sem,↓reduceIte,reduceCtorEq,Nat.reduceLeDiff,Nat.reduceLT,Nat.reduceBEq,Nat.reduceAdd,hsp, hz, hso, o0, o1, o2, hv2];(repeat1' with_reducible first|apply And.intro|(intro _;try exact q_v)|(refine hK _ ?_;clear hK K))<;>(try (clear hK K;exact q_u)))|(with_reducible refine q_s ?_;(first|apply q_J|apply q_K|apply q_L|apply q_M|apply q_N|apply q_O)<;>try (intro _;try exact q_v))|with_reducible refine q_t ?_)
  all_goals try omega
  refine q_G (ι := { k : Nat // k ≤ c }) (fun k => ⟨71, [(4, .c (.i .i64 st)), (5, .c (.i .i64 sp)), (6, .own 1 0), (9, .c (.i .i64 so)), (10, .c (.i .i64 (st + (k.1 : Int) * sp)))], ⟨[], [(1, ⟨0, 3, 1, .ints .i64 (slPos st sp k.1)⟩)], []⟩, 2⟩) (fun k => c - k.1) ⟨0, by omega⟩ ?_ ?_
  · have e0 : st + ((0 : Nat) : Int) * sp = st := by rw [show ((0 : Nat) : Int) = 0 from rfl, Int.zero_mul]; omega
    have e9 : slPos st sp 0 = [] := rfl
    simp only [e0, e9]
    ((simp only [go_sem,↓reduceIte,reduceCtorEq,Nat.reduceLeDiff,Nat.reduceLT,Nat.reduceBEq,Nat.reduceAdd])<;>(try (simp;done))<;>(try ((simp only [C.i.injEq,C.b.injEq,C.ints.injEq,C.bools.injEq,List.append_cancel_left_eq,List.cons.injEq,true_and,and_true]);(repeat' with_reducible apply And.intro)<;>(first|rfl|assumption|omega|(simp;omega)|(congr 1;omega)|(congr 2;omega)))))
  rintro ⟨k, k1⟩
  simp only at k1 ⊢
  have tl := slPos_len st sp k
  have hik := hit k
  have hmul : ((k + 1 : Nat) : Int) * sp = (k : Int) * sp + sp := by rw [Int.natCast_add, Int.add_mul]; omega
  have hkc : k < c → 0 ≤ st + (k : Int) * sp ∧ st + (k : Int) * sp < n := fun h => hin k h
  have hsu := slPos_succ st sp k
  generalize (k : Int) * sp = p at *
  rcases Nat.lt_or_ge k c with hk | hk
  · have hkc := hkc hk
    have hik := hik.1 hk
    repeat' (first|(with_reducible first|apply q_a|apply q_b|apply q_c|apply q_d|apply q_e|apply q_f|apply q_g|apply q_h|apply q_i|apply q_j|apply q_k|apply q_m|apply q_n|apply q_o|apply q_p|refine q_l ?_)|((with_reducible first|refine q_q sr4_ok fun K hK=>?_|refine q_r sr4_ok fun K hK=>?_);simp (maxSteps:=2000000) only [go_sem,↓reduceIte,reduceCtorEq,Nat.reduceLeDiff,Nat.reduceLT,Nat.reduceBEq,Nat.reduceAdd,tl];(repeat1' with_reducible first|apply And.intro|(intro _;try exact q_v)|(refine hK _ ?_;clear hK K))<;>(try (clear hK K;exact q_u)))|(with_reducible refine q_s ?_;(first|apply q_J|apply q_K|apply q_L|apply q_M|apply q_N|apply q_O)<;>try (intro _;try exact q_v))|with_reducible refine q_t ?_)
    all_goals try omega
    all_goals
      refine q_F ⟨k + 1, hk⟩ ?_ (by simp only; omega)
      simp only [hsu, hmul]
      ((simp only [go_sem,↓reduceIte,reduceCtorEq,Nat.reduceLeDiff,Nat.reduceLT,Nat.reduceBEq,Nat.reduceAdd])<;>(try (simp;done))<;>(try ((simp only [C.i.injEq,C.b.injEq,C.ints.injEq,C.bools.injEq,List.append_cancel_left_eq,List.cons.injEq,true_and,and_true]);(repeat' with_reducible apply And.intro)<;>(first|rfl|assumption|omega|(simp;omega)|(congr 1;omega)|(congr 2;omega)))))
  · have hk' : k = c := by omega
    subst hk'
    have hik : ¬ (0 < sp ∧ st + p < so ∨ sp < 0 ∧ so < st + p) := fun h => absurd (hik.2 h) (Nat.lt_irrefl _)
    repeat' (first|(with_reducible first|apply q_a|apply q_b|apply q_c|apply q_d|apply q_e|apply q_f|apply q_g|apply q_h|apply q_i|apply q_j|apply q_k|apply q_m|apply q_n|apply q_o|apply q_p|refine q_l ?_)|((with_reducible first|refine q_q sr4_ok fun K hK=>?_|refine q_r sr4_ok fun K hK=>?_);simp (maxSteps:=2000000) only [go_sem,↓reduceIte,reduceCtorEq,Nat.reduceLeDiff,Nat.reduceLT,Nat.reduceBEq,Nat.reduceAdd,tl];(repeat1' with_reducible first|apply And.intro|(intro _;try exact q_v)|(refine hK _ ?_;clear hK K))<;>(try (clear hK K;exact q_u)))|(with_reducible refine q_s ?_;(first|apply q_J|apply q_K|apply q_L|apply q_M|apply q_N|apply q_O)<;>try (intro _;try exact q_v))|with_reducible refine q_t ?_)
    all_goals first
      | omega
      | exact q_B [.inl none, .inl none, .inl (some (.ints .i64 []))] rfl rfl
      | exact q_A rfl
      | (exfalso; apply hik; omega)
set_option maxRecDepth 100000 in
set_option maxHeartbeats 3200000 in
theorem places_false_true_true_pos (s0 s1 s2 : Bool) (x0 x1 x2 : List Int) (n sp st so : Int) (c : Nat) (b0 : InB 4294967296 x0) (b1 : InB 4294967296 x1) (b2 : InB 4294967296 x2)
    (hF : slF (prt s0 x0 false) (prt s1 x1 true) (prt s2 x2 true) true x2.length = 0) (hn : 0 ≤ n) (hn2 : n ≤ 4000) (hneg : ¬ sp < 0)
    (hsp : slStep true (sv 4294967296 s2 x2) = sp) (hst : slSta false (sv 4294967296 s0 x0) n sp = st) (hso : slSto true (sv 4294967296 s1 x1) n sp = so) (hcn : slCnt st so sp = c) :
    Ret Try.prog 56 false [.inr [.b s0, .ints .u32 x0, .b s1, .ints .u32 x1, .b s2, .ints .u32 x2, .b false, .b true, .b true], .inl (.i .i64 n)]
      (.t [.inl (.i .i64 st), .inl (.i .i64 sp), .inl (.ints .i64 (slPos st sp c))]) := by
  obtain ⟨p0, p1, p2, pz⟩ := slF_ok hF
  have o0 := prt_ok p0
  have o1 := prt_ok p1
  have o2 := prt_ok p2
  have hz : sp ≠ 0 := by rw [← hsp]; exact step_ne fun hg => pos_len o2 b2 (pz hg)
  have hs := step_in true (sv 4294967296 s2 x2)
  rw [hsp] at hs
  have hti := sta_in (g := false) (z := sv 4294967296 s0 x0) (sp := sp) hn
  have hto := sto_in (g := true) (z := sv 4294967296 s1 x1) (sp := sp) hn
  have hlh := lo_hi (sp := sp) hn
  have hin := fun k hk => pos_in (g0 := false) (g1 := true) (z0 := sv 4294967296 s0 x0) (z1 := sv 4294967296 s1 x1) hn hz k hk
  have hit := cnt_iff (st := st) (so := so) hz
  have hcl := cnt_le (g0 := false) (g1 := true) (z0 := sv 4294967296 s0 x0) (z1 := sv 4294967296 s1 x1) (n := n.toNat) hz
  rw [show ((n.toNat : Nat) : Int) = n by omega, hst, hso, hcn] at hcl
  rw [hst] at hti hin
  rw [hso] at hto hin
  rw [hcn] at hin hit
  have hlx := (okZ_eq o2 b2).2.2
  have hl2 := of_len hlx b2
  have hv2 : sv 65536 s2 (dg 65536 (V 4294967296 x2)) = sv 4294967296 s2 x2 := by rw [sv_d (by omega)]; rfl
  unfold slSta at hst
  unfold slSto at hso
  unfold slStep at hsp
  simp only [Bool.false_eq_true, if_true, if_false] at hst hso hsp
  obtain ⟨e1, e2⟩ : slLo sp = (if sp < 0 then -1 else 0) ∧ slHi sp n = (if sp < 0 then n - 1 else n) := ⟨rfl, rfl⟩
  rw [e1, e2] at hti hto hst hso
  first | simp only [if_pos hneg] at hti hto hst hso | simp only [if_neg hneg] at hti hto hst hso
  have hstx : 0 = st := by first | rfl | exact hst | omega
  have hsox : so = so := by first | rfl | exact hso | omega
  have hspx : sp = sp := by first | rfl | exact hsp | omega
  (refine q_H Try.func56 (fun F => ?_); simp only [q_z,q_y,Try.ntmps56,Try.results56])
  repeat' (first|(with_reducible first|apply q_a|apply q_b|apply q_c|apply q_d|apply q_e|apply q_f|apply q_g|apply q_h|apply q_i|apply q_j|apply q_k|apply q_m|apply q_n|apply q_o|apply q_p|refine q_l ?_)|((with_reducible first|refine q_q sr4_ok fun K hK=>?_|refine q_r sr4_ok fun K hK=>?_);simp (maxSteps:=2000000) only [go_sem,↓reduceIte,reduceCtorEq,Nat.reduceLeDiff,Nat.reduceLT,Nat.reduceBEq,Nat.reduceAdd,hsp, hz, hso, o0, o1, o2, hv2];(repeat1' with_reducible first|apply And.intro|(intro _;try exact q_v)|(refine hK _ ?_;clear hK K))<;>(try (clear hK K;exact q_u)))|(with_reducible refine q_s ?_;(first|apply q_J|apply q_K|apply q_L|apply q_M|apply q_N|apply q_O)<;>try (intro _;try exact q_v))|with_reducible refine q_t ?_)
  all_goals try omega
  refine q_G (ι := { k : Nat // k ≤ c }) (fun k => ⟨71, [(4, .c (.i .i64 st)), (5, .c (.i .i64 sp)), (6, .own 1 0), (9, .c (.i .i64 so)), (10, .c (.i .i64 (st + (k.1 : Int) * sp)))], ⟨[], [(1, ⟨0, 3, 1, .ints .i64 (slPos st sp k.1)⟩)], []⟩, 2⟩) (fun k => c - k.1) ⟨0, by omega⟩ ?_ ?_
  · have e0 : st + ((0 : Nat) : Int) * sp = st := by rw [show ((0 : Nat) : Int) = 0 from rfl, Int.zero_mul]; omega
    have e9 : slPos st sp 0 = [] := rfl
    simp only [e0, e9]
    ((simp only [go_sem,↓reduceIte,reduceCtorEq,Nat.reduceLeDiff,Nat.reduceLT,Nat.reduceBEq,Nat.reduceAdd])<;>(try (simp;done))<;>(try ((simp only [C.i.injEq,C.b.injEq,C.ints.injEq,C.bools.injEq,List.append_cancel_left_eq,List.cons.injEq,true_and,and_true]);(repeat' with_reducible apply And.intro)<;>(first|rfl|assumption|omega|(simp;omega)|(congr 1;omega)|(congr 2;omega)))))
  rintro ⟨k, k1⟩
  simp only at k1 ⊢
  have tl := slPos_len st sp k
  have hik := hit k
  have hmul : ((k + 1 : Nat) : Int) * sp = (k : Int) * sp + sp := by rw [Int.natCast_add, Int.add_mul]; omega
  have hkc : k < c → 0 ≤ st + (k : Int) * sp ∧ st + (k : Int) * sp < n := fun h => hin k h
  have hsu := slPos_succ st sp k
  generalize (k : Int) * sp = p at *
  rcases Nat.lt_or_ge k c with hk | hk
  · have hkc := hkc hk
    have hik := hik.1 hk
    repeat' (first|(with_reducible first|apply q_a|apply q_b|apply q_c|apply q_d|apply q_e|apply q_f|apply q_g|apply q_h|apply q_i|apply q_j|apply q_k|apply q_m|apply q_n|apply q_o|apply q_p|refine q_l ?_)|((with_reducible first|refine q_q sr4_ok fun K hK=>?_|refine q_r sr4_ok fun K hK=>?_);simp (maxSteps:=2000000) only [go_sem,↓reduceIte,reduceCtorEq,Nat.reduceLeDiff,Nat.reduceLT,Nat.reduceBEq,Nat.reduceAdd,tl];(repeat1' with_reducible first|apply And.intro|(intro _;try exact q_v)|(refine hK _ ?_;clear hK K))<;>(try (clear hK K;exact q_u)))|(with_reducible refine q_s ?_;(first|apply q_J|apply q_K|apply q_L|apply q_M|apply q_N|apply q_O)<;>try (intro _;try exact q_v))|with_reducible refine q_t ?_)
    all_goals try omega
    all_goals
      refine q_F ⟨k + 1, hk⟩ ?_ (by simp only; omega)
      simp only [hsu, hmul]
      ((simp only [go_sem,↓reduceIte,reduceCtorEq,Nat.reduceLeDiff,Nat.reduceLT,Nat.reduceBEq,Nat.reduceAdd])<;>(try (simp;done))<;>(try ((simp only [C.i.injEq,C.b.injEq,C.ints.injEq,C.bools.injEq,List.append_cancel_left_eq,List.cons.injEq,true_and,and_true]);(repeat' with_reducible apply And.intro)<;>(first|rfl|assumption|omega|(simp;omega)|(congr 1;omega)|(congr 2;omega)))))
  · have hk' : k = c := by omega
    subst hk'
    have hik : ¬ (0 < sp ∧ st + p < so ∨ sp < 0 ∧ so < st + p) := fun h => absurd (hik.2 h) (Nat.lt_irrefl _)
    repeat' (first|(with_reducible first|apply q_a|apply q_b|apply q_c|apply q_d|apply q_e|apply q_f|apply q_g|apply q_h|apply q_i|apply q_j|apply q_k|apply q_m|apply q_n|apply q_o|apply q_p|refine q_l ?_)|((with_reducible first|refine q_q sr4_ok fun K hK=>?_|refine q_r sr4_ok fun K hK=>?_);simp (maxSteps:=2000000) only [go_sem,↓reduceIte,reduceCtorEq,Nat.reduceLeDiff,Nat.reduceLT,Nat.reduceBEq,Nat.reduceAdd,tl];(repeat1' with_reducible first|apply And.intro|(intro _;try exact q_v)|(refine hK _ ?_;clear hK K))<;>(try (clear hK K;exact q_u)))|(with_reducible refine q_s ?_;(first|apply q_J|apply q_K|apply q_L|apply q_M|apply q_N|apply q_O)<;>try (intro _;try exact q_v))|with_reducible refine q_t ?_)
    all_goals first
      | omega
      | exact q_B [.inl none, .inl none, .inl (some (.ints .i64 []))] rfl rfl
      | exact q_A rfl
      | (exfalso; apply hik; omega)
set_option maxRecDepth 100000 in
set_option maxHeartbeats 3200000 in
theorem places_false_true_false_pos (s0 s1 s2 : Bool) (x0 x1 x2 : List Int) (n sp st so : Int) (c : Nat) (b0 : InB 4294967296 x0) (b1 : InB 4294967296 x1) (b2 : InB 4294967296 x2)
    (hF : slF (prt s0 x0 false) (prt s1 x1 true) (prt s2 x2 false) false x2.length = 0) (hn : 0 ≤ n) (hn2 : n ≤ 4000) (hneg : ¬ sp < 0)
    (hsp : slStep false (sv 4294967296 s2 x2) = sp) (hst : slSta false (sv 4294967296 s0 x0) n sp = st) (hso : slSto true (sv 4294967296 s1 x1) n sp = so) (hcn : slCnt st so sp = c) :
    Ret Try.prog 56 false [.inr [.b s0, .ints .u32 x0, .b s1, .ints .u32 x1, .b s2, .ints .u32 x2, .b false, .b true, .b false], .inl (.i .i64 n)]
      (.t [.inl (.i .i64 st), .inl (.i .i64 sp), .inl (.ints .i64 (slPos st sp c))]) := by
  obtain ⟨p0, p1, p2, pz⟩ := slF_ok hF
  have o0 := prt_ok p0
  have o1 := prt_ok p1
  have o2 := prt_ok p2
  have hz : sp ≠ 0 := by rw [← hsp]; exact step_ne fun hg => pos_len o2 b2 (pz hg)
  have hs := step_in false (sv 4294967296 s2 x2)
  rw [hsp] at hs
  have hti := sta_in (g := false) (z := sv 4294967296 s0 x0) (sp := sp) hn
  have hto := sto_in (g := true) (z := sv 4294967296 s1 x1) (sp := sp) hn
  have hlh := lo_hi (sp := sp) hn
  have hin := fun k hk => pos_in (g0 := false) (g1 := true) (z0 := sv 4294967296 s0 x0) (z1 := sv 4294967296 s1 x1) hn hz k hk
  have hit := cnt_iff (st := st) (so := so) hz
  have hcl := cnt_le (g0 := false) (g1 := true) (z0 := sv 4294967296 s0 x0) (z1 := sv 4294967296 s1 x1) (n := n.toNat) hz
  rw [show ((n.toNat : Nat) : Int) = n by omega, hst, hso, hcn] at hcl
  rw [hst] at hti hin
  rw [hso] at hto hin
  rw [hcn] at hin hit
  have hlx := (okZ_eq o2 b2).2.2
  have hl2 := of_len hlx b2
  have hv2 : sv 65536 s2 (dg 65536 (V 4294967296 x2)) = sv 4294967296 s2 x2 := by rw [sv_d (by omega)]; rfl
  unfold slSta at hst
  unfold slSto at hso
  unfold slStep at hsp
  simp only [Bool.false_eq_true, if_true, if_false] at hst hso hsp
  obtain ⟨e1, e2⟩ : slLo sp = (if sp < 0 then -1 else 0) ∧ slHi sp n = (if sp < 0 then n - 1 else n) := ⟨rfl, rfl⟩
  rw [e1, e2] at hti hto hst hso
  first | simp only [if_pos hneg] at hti hto hst hso | simp only [if_neg hneg] at hti hto hst hso
  have hstx : 0 = st := by first | rfl | exact hst | omega
  have hsox : so = so := by first | rfl | exact hso | omega
  have hspx : 1 = sp := by first | rfl | exact hsp | omega
  (refine q_H Try.func56 (fun F => ?_); simp only [q_z,q_y,Try.ntmps56,Try.results56])
  repeat' (first|(with_reducible first|apply q_a|apply q_b|apply q_c|apply q_d|apply q_e|apply q_f|apply q_g|apply q_h|apply q_i|apply q_j|apply q_k|apply q_m|apply q_n|apply q_o|apply q_p|refine q_l ?_)|((with_reducible first|refine q_q sr4_ok fun K hK=>?_|refine q_r sr4_ok fun K hK=>?_);simp (maxSteps:=2000000) only [go_sem,↓reduceIte,reduceCtorEq,Nat.reduceLeDiff,Nat.reduceLT,Nat.reduceBEq,Nat.reduceAdd,hz, hz, hso, o0, o1, o2, hv2];(repeat1' with_reducible first|apply And.intro|(intro _;try exact q_v)|(refine hK _ ?_;clear hK K))<;>(try (clear hK K;exact q_u)))|(with_reducible refine q_s ?_;(first|apply q_J|apply q_K|apply q_L|apply q_M|apply q_N|apply q_O)<;>try (intro _;try exact q_v))|with_reducible refine q_t ?_)
  all_goals try omega
  refine q_G (ι := { k : Nat // k ≤ c }) (fun k => ⟨71, [(4, .c (.i .i64 st)), (5, .c (.i .i64 sp)), (6, .own 1 0), (9, .c (.i .i64 so)), (10, .c (.i .i64 (st + (k.1 : Int) * sp)))], ⟨[], [(1, ⟨0, 3, 1, .ints .i64 (slPos st sp k.1)⟩)], []⟩, 2⟩) (fun k => c - k.1) ⟨0, by omega⟩ ?_ ?_
  · have e0 : st + ((0 : Nat) : Int) * sp = st := by rw [show ((0 : Nat) : Int) = 0 from rfl, Int.zero_mul]; omega
    have e9 : slPos st sp 0 = [] := rfl
    simp only [e0, e9]
    ((simp only [go_sem,↓reduceIte,reduceCtorEq,Nat.reduceLeDiff,Nat.reduceLT,Nat.reduceBEq,Nat.reduceAdd])<;>(try (simp;done))<;>(try ((simp only [C.i.injEq,C.b.injEq,C.ints.injEq,C.bools.injEq,List.append_cancel_left_eq,List.cons.injEq,true_and,and_true]);(repeat' with_reducible apply And.intro)<;>(first|rfl|assumption|omega|(simp;omega)|(congr 1;omega)|(congr 2;omega)))))
  rintro ⟨k, k1⟩
  simp only at k1 ⊢
  have tl := slPos_len st sp k
  have hik := hit k
  have hmul : ((k + 1 : Nat) : Int) * sp = (k : Int) * sp + sp := by rw [Int.natCast_add, Int.add_mul]; omega
  have hkc : k < c → 0 ≤ st + (k : Int) * sp ∧ st + (k : Int) * sp < n := fun h => hin k h
  have hsu := slPos_succ st sp k
  generalize (k : Int) * sp = p at *
  rcases Nat.lt_or_ge k c with hk | hk
  · have hkc := hkc hk
    have hik := hik.1 hk
    repeat' (first|(with_reducible first|apply q_a|apply q_b|apply q_c|apply q_d|apply q_e|apply q_f|apply q_g|apply q_h|apply q_i|apply q_j|apply q_k|apply q_m|apply q_n|apply q_o|apply q_p|refine q_l ?_)|((with_reducible first|refine q_q sr4_ok fun K hK=>?_|refine q_r sr4_ok fun K hK=>?_);simp (maxSteps:=2000000) only [go_sem,↓reduceIte,reduceCtorEq,Nat.reduceLeDiff,Nat.reduceLT,Nat.reduceBEq,Nat.reduceAdd,tl];(repeat1' with_reducible first|apply And.intro|(intro _;try exact q_v)|(refine hK _ ?_;clear hK K))<;>(try (clear hK K;exact q_u)))|(with_reducible refine q_s ?_;(first|apply q_J|apply q_K|apply q_L|apply q_M|apply q_N|apply q_O)<;>try (intro _;try exact q_v))|with_reducible refine q_t ?_)
    all_goals try omega
    all_goals
      refine q_F ⟨k + 1, hk⟩ ?_ (by simp only; omega)
      simp only [hsu, hmul]
      ((simp only [go_sem,↓reduceIte,reduceCtorEq,Nat.reduceLeDiff,Nat.reduceLT,Nat.reduceBEq,Nat.reduceAdd])<;>(try (simp;done))<;>(try ((simp only [C.i.injEq,C.b.injEq,C.ints.injEq,C.bools.injEq,List.append_cancel_left_eq,List.cons.injEq,true_and,and_true]);(repeat' with_reducible apply And.intro)<;>(first|rfl|assumption|omega|(simp;omega)|(congr 1;omega)|(congr 2;omega)))))
  · have hk' : k = c := by omega
    subst hk'
    have hik : ¬ (0 < sp ∧ st + p < so ∨ sp < 0 ∧ so < st + p) := fun h => absurd (hik.2 h) (Nat.lt_irrefl _)
    repeat' (first|(with_reducible first|apply q_a|apply q_b|apply q_c|apply q_d|apply q_e|apply q_f|apply q_g|apply q_h|apply q_i|apply q_j|apply q_k|apply q_m|apply q_n|apply q_o|apply q_p|refine q_l ?_)|((with_reducible first|refine q_q sr4_ok fun K hK=>?_|refine q_r sr4_ok fun K hK=>?_);simp (maxSteps:=2000000) only [go_sem,↓reduceIte,reduceCtorEq,Nat.reduceLeDiff,Nat.reduceLT,Nat.reduceBEq,Nat.reduceAdd,tl];(repeat1' with_reducible first|apply And.intro|(intro _;try exact q_v)|(refine hK _ ?_;clear hK K))<;>(try (clear hK K;exact q_u)))|(with_reducible refine q_s ?_;(first|apply q_J|apply q_K|apply q_L|apply q_M|apply q_N|apply q_O)<;>try (intro _;try exact q_v))|with_reducible refine q_t ?_)
    all_goals first
      | omega
      | exact q_B [.inl none, .inl none, .inl (some (.ints .i64 []))] rfl rfl
      | exact q_A rfl
      | (exfalso; apply hik; omega)
set_option maxRecDepth 100000 in
set_option maxHeartbeats 3200000 in
theorem places_false_false_true_neg (s0 s1 s2 : Bool) (x0 x1 x2 : List Int) (n sp st so : Int) (c : Nat) (b0 : InB 4294967296 x0) (b1 : InB 4294967296 x1) (b2 : InB 4294967296 x2)
    (hF : slF (prt s0 x0 false) (prt s1 x1 false) (prt s2 x2 true) true x2.length = 0) (hn : 0 ≤ n) (hn2 : n ≤ 4000) (hneg : sp < 0)
    (hsp : slStep true (sv 4294967296 s2 x2) = sp) (hst : slSta false (sv 4294967296 s0 x0) n sp = st) (hso : slSto false (sv 4294967296 s1 x1) n sp = so) (hcn : slCnt st so sp = c) :
    Ret Try.prog 56 false [.inr [.b s0, .ints .u32 x0, .b s1, .ints .u32 x1, .b s2, .ints .u32 x2, .b false, .b false, .b true], .inl (.i .i64 n)]
      (.t [.inl (.i .i64 st), .inl (.i .i64 sp), .inl (.ints .i64 (slPos st sp c))]) := by
  obtain ⟨p0, p1, p2, pz⟩ := slF_ok hF
  have o0 := prt_ok p0
  have o1 := prt_ok p1
  have o2 := prt_ok p2
  have hz : sp ≠ 0 := by rw [← hsp]; exact step_ne fun hg => pos_len o2 b2 (pz hg)
  have hs := step_in true (sv 4294967296 s2 x2)
  rw [hsp] at hs
  have hti := sta_in (g := false) (z := sv 4294967296 s0 x0) (sp := sp) hn
  have hto := sto_in (g := false) (z := sv 4294967296 s1 x1) (sp := sp) hn
  have hlh := lo_hi (sp := sp) hn
  have hin := fun k hk => pos_in (g0 := false) (g1 := false) (z0 := sv 4294967296 s0 x0) (z1 := sv 4294967296 s1 x1) hn hz k hk
  have hit := cnt_iff (st := st) (so := so) hz
  have hcl := cnt_le (g0 := false) (g1 := false) (z0 := sv 4294967296 s0 x0) (z1 := sv 4294967296 s1 x1) (n := n.toNat) hz
  rw [show ((n.toNat : Nat) : Int) = n by omega, hst, hso, hcn] at hcl
  rw [hst] at hti hin
  rw [hso] at hto hin
  rw [hcn] at hin hit
  have hlx := (okZ_eq o2 b2).2.2
  have hl2 := of_len hlx b2
  have hv2 : sv 65536 s2 (dg 65536 (V 4294967296 x2)) = sv 4294967296 s2 x2 := by rw [sv_d (by omega)]; rfl
  unfold slSta at hst
  unfold slSto at hso
  unfold slStep at hsp
  simp only [Bool.false_eq_true, if_true, if_false] at hst hso hsp
  obtain ⟨e1, e2⟩ : slLo sp = (if sp < 0 then -1 else 0) ∧ slHi sp n = (if sp < 0 then n - 1 else n) := ⟨rfl, rfl⟩
  rw [e1, e2] at hti hto hst hso
  first | simp only [if_pos hneg] at hti hto hst hso | simp only [if_neg hneg] at hti hto hst hso
  have hstx : (n - 1) = st := by first | rfl | exact hst | omega
  have hsox : (-1) = so := by first | rfl | exact hso | omega
  have hspx : sp = sp := by first | rfl | exact hsp | omega
  (refine q_H Try.func56 (fun F => ?_); simp only [q_z,q_y,Try.ntmps56,Try.results56])
  repeat' (first|(with_reducible first|apply q_a|apply q_b|apply q_c|apply q_d|apply q_e|apply q_f|apply q_g|apply q_h|apply q_i|apply q_j|apply q_k|apply q_m|apply q_n|apply q_o|apply q_p|refine q_l ?_)|((with_reducible first|refine q_q sr4_ok fun K hK=>?_|refine q_r sr4_ok fun K hK=>?_);simp (maxSteps:=2000000) only [go_sem,↓reduceIte,reduceCtorEq,Nat.reduceLeDiff,Nat.reduceLT,Nat.reduceBEq,Nat.reduceAdd,hsp, hz, hz, o0, o1, o2, hv2];(repeat1' with_reducible first|apply And.intro|(intro _;try exact q_v)|(refine hK _ ?_;clear hK K))<;>(try (clear hK K;exact q_u)))|(with_reducible refine q_s ?_;(first|apply q_J|apply q_K|apply q_L|apply q_M|apply q_N|apply q_O)<;>try (intro _;try exact q_v))|with_reducible refine q_t ?_)
  all_goals try omega
  refine q_G (ι := { k : Nat // k ≤ c }) (fun k => ⟨71, [(4, .c (.i .i64 st)), (5, .c (.i .i64 sp)), (6, .own 1 0), (9, .c (.i .i64 so)), (10, .c (.i .i64 (st + (k.1 : Int) * sp)))], ⟨[], [(1, ⟨0, 3, 1, .ints .i64 (slPos st sp k.1)⟩)], []⟩, 2⟩) (fun k => c - k.1) ⟨0, by omega⟩ ?_ ?_
  · have e0 : st + ((0 : Nat) : Int) * sp = st := by rw [show ((0 : Nat) : Int) = 0 from rfl, Int.zero_mul]; omega
    have e9 : slPos st sp 0 = [] := rfl
    simp only [e0, e9]
    ((simp only [go_sem,↓reduceIte,reduceCtorEq,Nat.reduceLeDiff,Nat.reduceLT,Nat.reduceBEq,Nat.reduceAdd])<;>(try (simp;done))<;>(try ((simp only [C.i.injEq,C.b.injEq,C.ints.injEq,C.bools.injEq,List.append_cancel_left_eq,List.cons.injEq,true_and,and_true]);(repeat' with_reducible apply And.intro)<;>(first|rfl|assumption|omega|(simp;omega)|(congr 1;omega)|(congr 2;omega)))))
  rintro ⟨k, k1⟩
  simp only at k1 ⊢
  have tl := slPos_len st sp k
  have hik := hit k
  have hmul : ((k + 1 : Nat) : Int) * sp = (k : Int) * sp + sp := by rw [Int.natCast_add, Int.add_mul]; omega
  have hkc : k < c → 0 ≤ st + (k : Int) * sp ∧ st + (k : Int) * sp < n := fun h => hin k h
  have hsu := slPos_succ st sp k
  generalize (k : Int) * sp = p at *
  rcases Nat.lt_or_ge k c with hk | hk
  · have hkc := hkc hk
    have hik := hik.1 hk
    repeat' (first|(with_reducible first|apply q_a|apply q_b|apply q_c|apply q_d|apply q_e|apply q_f|apply q_g|apply q_h|apply q_i|apply q_j|apply q_k|apply q_m|apply q_n|apply q_o|apply q_p|refine q_l ?_)|((with_reducible first|refine q_q sr4_ok fun K hK=>?_|refine q_r sr4_ok fun K hK=>?_);simp (maxSteps:=2000000) only [go_sem,↓reduceIte,reduceCtorEq,Nat.reduceLeDiff,Nat.reduceLT,Nat.reduceBEq,Nat.reduceAdd,tl];(repeat1' with_reducible first|apply And.intro|(intro _;try exact q_v)|(refine hK _ ?_;clear hK K))<;>(try (clear hK K;exact q_u)))|(with_reducible refine q_s ?_;(first|apply q_J|apply q_K|apply q_L|apply q_M|apply q_N|apply q_O)<;>try (intro _;try exact q_v))|with_reducible refine q_t ?_)
    all_goals try omega
    all_goals
      refine q_F ⟨k + 1, hk⟩ ?_ (by simp only; omega)
      simp only [hsu, hmul]
      ((simp only [go_sem,↓reduceIte,reduceCtorEq,Nat.reduceLeDiff,Nat.reduceLT,Nat.reduceBEq,Nat.reduceAdd])<;>(try (simp;done))<;>(try ((simp only [C.i.injEq,C.b.injEq,C.ints.injEq,C.bools.injEq,List.append_cancel_left_eq,List.cons.injEq,true_and,and_true]);(repeat' with_reducible apply And.intro)<;>(first|rfl|assumption|omega|(simp;omega)|(congr 1;omega)|(congr 2;omega)))))
  · have hk' : k = c := by omega
    subst hk'
    have hik : ¬ (0 < sp ∧ st + p < so ∨ sp < 0 ∧ so < st + p) := fun h => absurd (hik.2 h) (Nat.lt_irrefl _)
    repeat' (first|(with_reducible first|apply q_a|apply q_b|apply q_c|apply q_d|apply q_e|apply q_f|apply q_g|apply q_h|apply q_i|apply q_j|apply q_k|apply q_m|apply q_n|apply q_o|apply q_p|refine q_l ?_)|((with_reducible first|refine q_q sr4_ok fun K hK=>?_|refine q_r sr4_ok fun K hK=>?_);simp (maxSteps:=2000000) only [go_sem,↓reduceIte,reduceCtorEq,Nat.reduceLeDiff,Nat.reduceLT,Nat.reduceBEq,Nat.reduceAdd,tl];(repeat1' with_reducible first|apply And.intro|(intro _;try exact q_v)|(refine hK _ ?_;clear hK K))<;>(try (clear hK K;exact q_u)))|(with_reducible refine q_s ?_;(first|apply q_J|apply q_K|apply q_L|apply q_M|apply q_N|apply q_O)<;>try (intro _;try exact q_v))|with_reducible refine q_t ?_)
    all_goals first
      | omega
      | exact q_B [.inl none, .inl none, .inl (some (.ints .i64 []))] rfl rfl
      | exact q_A rfl
      | (exfalso; apply hik; omega)
set_option maxRecDepth 100000 in
set_option maxHeartbeats 3200000 in
theorem places_false_false_true_pos (s0 s1 s2 : Bool) (x0 x1 x2 : List Int) (n sp st so : Int) (c : Nat) (b0 : InB 4294967296 x0) (b1 : InB 4294967296 x1) (b2 : InB 4294967296 x2)
    (hF : slF (prt s0 x0 false) (prt s1 x1 false) (prt s2 x2 true) true x2.length = 0) (hn : 0 ≤ n) (hn2 : n ≤ 4000) (hneg : ¬ sp < 0)
    (hsp : slStep true (sv 4294967296 s2 x2) = sp) (hst : slSta false (sv 4294967296 s0 x0) n sp = st) (hso : slSto false (sv 4294967296 s1 x1) n sp = so) (hcn : slCnt st so sp = c) :
    Ret Try.prog 56 false [.inr [.b s0, .ints .u32 x0, .b s1, .ints .u32 x1, .b s2, .ints .u32 x2, .b false, .b false, .b true], .inl (.i .i64 n)]
      (.t [.inl (.i .i64 st), .inl (.i .i64 sp), .inl (.ints .i64 (slPos st sp c))]) := by
  obtain ⟨p0, p1, p2, pz⟩ := slF_ok hF
  have o0 := prt_ok p0
  have o1 := prt_ok p1
  have o2 := prt_ok p2
  have hz : sp ≠ 0 := by rw [← hsp]; exact step_ne fun hg => pos_len o2 b2 (pz hg)
  have hs := step_in true (sv 4294967296 s2 x2)
  rw [hsp] at hs
  have hti := sta_in (g := false) (z := sv 4294967296 s0 x0) (sp := sp) hn
  have hto := sto_in (g := false) (z := sv 4294967296 s1 x1) (sp := sp) hn
  have hlh := lo_hi (sp := sp) hn
  have hin := fun k hk => pos_in (g0 := false) (g1 := false) (z0 := sv 4294967296 s0 x0) (z1 := sv 4294967296 s1 x1) hn hz k hk
  have hit := cnt_iff (st := st) (so := so) hz
  have hcl := cnt_le (g0 := false) (g1 := false) (z0 := sv 4294967296 s0 x0) (z1 := sv 4294967296 s1 x1) (n := n.toNat) hz
  rw [show ((n.toNat : Nat) : Int) = n by omega, hst, hso, hcn] at hcl
  rw [hst] at hti hin
  rw [hso] at hto hin
  rw [hcn] at hin hit
  have hlx := (okZ_eq o2 b2).2.2
  have hl2 := of_len hlx b2
  have hv2 : sv 65536 s2 (dg 65536 (V 4294967296 x2)) = sv 4294967296 s2 x2 := by rw [sv_d (by omega)]; rfl
  unfold slSta at hst
  unfold slSto at hso
  unfold slStep at hsp
  simp only [Bool.false_eq_true, if_true, if_false] at hst hso hsp
  obtain ⟨e1, e2⟩ : slLo sp = (if sp < 0 then -1 else 0) ∧ slHi sp n = (if sp < 0 then n - 1 else n) := ⟨rfl, rfl⟩
  rw [e1, e2] at hti hto hst hso
  first | simp only [if_pos hneg] at hti hto hst hso | simp only [if_neg hneg] at hti hto hst hso
  have hstx : 0 = st := by first | rfl | exact hst | omega
  have hsox : n = so := by first | rfl | exact hso | omega
  have hspx : sp = sp := by first | rfl | exact hsp | omega
  (refine q_H Try.func56 (fun F => ?_); simp only [q_z,q_y,Try.ntmps56,Try.results56])
  repeat' (first|(with_reducible first|apply q_a|apply q_b|apply q_c|apply q_d|apply q_e|apply q_f|apply q_g|apply q_h|apply q_i|apply q_j|apply q_k|apply q_m|apply q_n|apply q_o|apply q_p|refine q_l ?_)|((with_reducible first|refine q_q sr4_ok fun K hK=>?_|refine q_r sr4_ok fun K hK=>?_);simp (maxSteps:=2000000) only [go_sem,↓reduceIte,reduceCtorEq,Nat.reduceLeDiff,Nat.reduceLT,Nat.reduceBEq,Nat.reduceAdd,hsp, hz, hz, o0, o1, o2, hv2];(repeat1' with_reducible first|apply And.intro|(intro _;try exact q_v)|(refine hK _ ?_;clear hK K))<;>(try (clear hK K;exact q_u)))|(with_reducible refine q_s ?_;(first|apply q_J|apply q_K|apply q_L|apply q_M|apply q_N|apply q_O)<;>try (intro _;try exact q_v))|with_reducible refine q_t ?_)
  all_goals try omega
  refine q_G (ι := { k : Nat // k ≤ c }) (fun k => ⟨71, [(4, .c (.i .i64 st)), (5, .c (.i .i64 sp)), (6, .own 1 0), (9, .c (.i .i64 so)), (10, .c (.i .i64 (st + (k.1 : Int) * sp)))], ⟨[], [(1, ⟨0, 3, 1, .ints .i64 (slPos st sp k.1)⟩)], []⟩, 2⟩) (fun k => c - k.1) ⟨0, by omega⟩ ?_ ?_
  · have e0 : st + ((0 : Nat) : Int) * sp = st := by rw [show ((0 : Nat) : Int) = 0 from rfl, Int.zero_mul]; omega
    have e9 : slPos st sp 0 = [] := rfl
    simp only [e0, e9]
    ((simp only [go_sem,↓reduceIte,reduceCtorEq,Nat.reduceLeDiff,Nat.reduceLT,Nat.reduceBEq,Nat.reduceAdd])<;>(try (simp;done))<;>(try ((simp only [C.i.injEq,C.b.injEq,C.ints.injEq,C.bools.injEq,List.append_cancel_left_eq,List.cons.injEq,true_and,and_true]);(repeat' with_reducible apply And.intro)<;>(first|rfl|assumption|omega|(simp;omega)|(congr 1;omega)|(congr 2;omega)))))
  rintro ⟨k, k1⟩
  simp only at k1 ⊢
  have tl := slPos_len st sp k
  have hik := hit k
  have hmul : ((k + 1 : Nat) : Int) * sp = (k : Int) * sp + sp := by rw [Int.natCast_add, Int.add_mul]; omega
  have hkc : k < c → 0 ≤ st + (k : Int) * sp ∧ st + (k : Int) * sp < n := fun h => hin k h
  have hsu := slPos_succ st sp k
  generalize (k : Int) * sp = p at *
  rcases Nat.lt_or_ge k c with hk | hk
  · have hkc := hkc hk
    have hik := hik.1 hk
    repeat' (first|(with_reducible first|apply q_a|apply q_b|apply q_c|apply q_d|apply q_e|apply q_f|apply q_g|apply q_h|apply q_i|apply q_j|apply q_k|apply q_m|apply q_n|apply q_o|apply q_p|refine q_l ?_)|((with_reducible first|refine q_q sr4_ok fun K hK=>?_|refine q_r sr4_ok fun K hK=>?_);simp (maxSteps:=2000000) only [go_sem,↓reduceIte,reduceCtorEq,Nat.reduceLeDiff,Nat.reduceLT,Nat.reduceBEq,Nat.reduceAdd,tl];(repeat1' with_reducible first|apply And.intro|(intro _;try exact q_v)|(refine hK _ ?_;clear hK K))<;>(try (clear hK K;exact q_u)))|(with_reducible refine q_s ?_;(first|apply q_J|apply q_K|apply q_L|apply q_M|apply q_N|apply q_O)<;>try (intro _;try exact q_v))|with_reducible refine q_t ?_)
    all_goals try omega
    all_goals
      refine q_F ⟨k + 1, hk⟩ ?_ (by simp only; omega)
      simp only [hsu, hmul]
      ((simp only [go_sem,↓reduceIte,reduceCtorEq,Nat.reduceLeDiff,Nat.reduceLT,Nat.reduceBEq,Nat.reduceAdd])<;>(try (simp;done))<;>(try ((simp only [C.i.injEq,C.b.injEq,C.ints.injEq,C.bools.injEq,List.append_cancel_left_eq,List.cons.injEq,true_and,and_true]);(repeat' with_reducible apply And.intro)<;>(first|rfl|assumption|omega|(simp;omega)|(congr 1;omega)|(congr 2;omega)))))
  · have hk' : k = c := by omega
    subst hk'
    have hik : ¬ (0 < sp ∧ st + p < so ∨ sp < 0 ∧ so < st + p) := fun h => absurd (hik.2 h) (Nat.lt_irrefl _)
    repeat' (first|(with_reducible first|apply q_a|apply q_b|apply q_c|apply q_d|apply q_e|apply q_f|apply q_g|apply q_h|apply q_i|apply q_j|apply q_k|apply q_m|apply q_n|apply q_o|apply q_p|refine q_l ?_)|((with_reducible first|refine q_q sr4_ok fun K hK=>?_|refine q_r sr4_ok fun K hK=>?_);simp (maxSteps:=2000000) only [go_sem,↓reduceIte,reduceCtorEq,Nat.reduceLeDiff,Nat.reduceLT,Nat.reduceBEq,Nat.reduceAdd,tl];(repeat1' with_reducible first|apply And.intro|(intro _;try exact q_v)|(refine hK _ ?_;clear hK K))<;>(try (clear hK K;exact q_u)))|(with_reducible refine q_s ?_;(first|apply q_J|apply q_K|apply q_L|apply q_M|apply q_N|apply q_O)<;>try (intro _;try exact q_v))|with_reducible refine q_t ?_)
    all_goals first
      | omega
      | exact q_B [.inl none, .inl none, .inl (some (.ints .i64 []))] rfl rfl
      | exact q_A rfl
      | (exfalso; apply hik; omega)
set_option maxRecDepth 100000 in
set_option maxHeartbeats 3200000 in
theorem places_false_false_false_pos (s0 s1 s2 : Bool) (x0 x1 x2 : List Int) (n sp st so : Int) (c : Nat) (b0 : InB 4294967296 x0) (b1 : InB 4294967296 x1) (b2 : InB 4294967296 x2)
    (hF : slF (prt s0 x0 false) (prt s1 x1 false) (prt s2 x2 false) false x2.length = 0) (hn : 0 ≤ n) (hn2 : n ≤ 4000) (hneg : ¬ sp < 0)
    (hsp : slStep false (sv 4294967296 s2 x2) = sp) (hst : slSta false (sv 4294967296 s0 x0) n sp = st) (hso : slSto false (sv 4294967296 s1 x1) n sp = so) (hcn : slCnt st so sp = c) :
    Ret Try.prog 56 false [.inr [.b s0, .ints .u32 x0, .b s1, .ints .u32 x1, .b s2, .ints .u32 x2, .b false, .b false, .b false], .inl (.i .i64 n)]
      (.t [.inl (.i .i64 st), .inl (.i .i64 sp), .inl (.ints .i64 (slPos st sp c))]) := by
  obtain ⟨p0, p1, p2, pz⟩ := slF_ok hF
  have o0 := prt_ok p0
  have o1 := prt_ok p1
  have o2 := prt_ok p2
  have hz : sp ≠ 0 := by rw [← hsp]; exact step_ne fun hg => pos_len o2 b2 (pz hg)
  have hs := step_in false (sv 4294967296 s2 x2)
  rw [hsp] at hs
  have hti := sta_in (g := false) (z := sv 4294967296 s0 x0) (sp := sp) hn
  have hto := sto_in (g := false) (z := sv 4294967296 s1 x1) (sp := sp) hn
  have hlh := lo_hi (sp := sp) hn
  have hin := fun k hk => pos_in (g0 := false) (g1 := false) (z0 := sv 4294967296 s0 x0) (z1 := sv 4294967296 s1 x1) hn hz k hk
  have hit := cnt_iff (st := st) (so := so) hz
  have hcl := cnt_le (g0 := false) (g1 := false) (z0 := sv 4294967296 s0 x0) (z1 := sv 4294967296 s1 x1) (n := n.toNat) hz
  rw [show ((n.toNat : Nat) : Int) = n by omega, hst, hso, hcn] at hcl
  rw [hst] at hti hin
  rw [hso] at hto hin
  rw [hcn] at hin hit
  have hlx := (okZ_eq o2 b2).2.2
  have hl2 := of_len hlx b2
  have hv2 : sv 65536 s2 (dg 65536 (V 4294967296 x2)) = sv 4294967296 s2 x2 := by rw [sv_d (by omega)]; rfl
  unfold slSta at hst
  unfold slSto at hso
  unfold slStep at hsp
  simp only [Bool.false_eq_true, if_true, if_false] at hst hso hsp
  obtain ⟨e1, e2⟩ : slLo sp = (if sp < 0 then -1 else 0) ∧ slHi sp n = (if sp < 0 then n - 1 else n) := ⟨rfl, rfl⟩
  rw [e1, e2] at hti hto hst hso
  first | simp only [if_pos hneg] at hti hto hst hso | simp only [if_neg hneg] at hti hto hst hso
  have hstx : 0 = st := by first | rfl | exact hst | omega
  have hsox : n = so := by first | rfl | exact hso | omega
  have hspx : 1 = sp := by first | rfl | exact hsp | omega
  (refine q_H Try.func56 (fun F => ?_); simp only [q_z,q_y,Try.ntmps56,Try.results56])
  repeat' (first|(with_reducible first|apply q_a|apply q_b|apply q_c|apply q_d|apply q_e|apply q_f|apply q_g|apply q_h|apply q_i|apply q_j|apply q_k|apply q_m|apply q_n|apply q_o|apply q_p|refine q_l ?_)|((with_reducible first|refine q_q sr4_ok fun K hK=>?_|refine q_r sr4_ok fun K hK=>?_);simp (maxSteps:=2000000) only [go_sem,↓reduceIte,reduceCtorEq,Nat.reduceLeDiff,Nat.reduceLT,Nat.reduceBEq,Nat.reduceAdd,hz, hz, hz, o0, o1, o2, hv2];(repeat1' with_reducible first|apply And.intro|(intro _;try exact q_v)|(refine hK _ ?_;clear hK K))<;>(try (clear hK K;exact q_u)))|(with_reducible refine q_s ?_;(first|apply q_J|apply q_K|apply q_L|apply q_M|apply q_N|apply q_O)<;>try (intro _;try exact q_v))|with_reducible refine q_t ?_)
  all_goals try omega
  refine q_G (ι := { k : Nat // k ≤ c }) (fun k => ⟨71, [(4, .c (.i .i64 st)), (5, .c (.i .i64 sp)), (6, .own 1 0), (9, .c (.i .i64 so)), (10, .c (.i .i64 (st + (k.1 : Int) * sp)))], ⟨[], [(1, ⟨0, 3, 1, .ints .i64 (slPos st sp k.1)⟩)], []⟩, 2⟩) (fun k => c - k.1) ⟨0, by omega⟩ ?_ ?_
  · have e0 : st + ((0 : Nat) : Int) * sp = st := by rw [show ((0 : Nat) : Int) = 0 from rfl, Int.zero_mul]; omega
    have e9 : slPos st sp 0 = [] := rfl
    simp only [e0, e9]
    ((simp only [go_sem,↓reduceIte,reduceCtorEq,Nat.reduceLeDiff,Nat.reduceLT,Nat.reduceBEq,Nat.reduceAdd])<;>(try (simp;done))<;>(try ((simp only [C.i.injEq,C.b.injEq,C.ints.injEq,C.bools.injEq,List.append_cancel_left_eq,List.cons.injEq,true_and,and_true]);(repeat' with_reducible apply And.intro)<;>(first|rfl|assumption|omega|(simp;omega)|(congr 1;omega)|(congr 2;omega)))))
  rintro ⟨k, k1⟩
  simp only at k1 ⊢
  have tl := slPos_len st sp k
  have hik := hit k
  have hmul : ((k + 1 : Nat) : Int) * sp = (k : Int) * sp + sp := by rw [Int.natCast_add, Int.add_mul]; omega
  have hkc : k < c → 0 ≤ st + (k : Int) * sp ∧ st + (k : Int) * sp < n := fun h => hin k h
  have hsu := slPos_succ st sp k
  generalize (k : Int) * sp = p at *
  rcases Nat.lt_or_ge k c with hk | hk
  · have hkc := hkc hk
    have hik := hik.1 hk
    repeat' (first|(with_reducible first|apply q_a|apply q_b|apply q_c|apply q_d|apply q_e|apply q_f|apply q_g|apply q_h|apply q_i|apply q_j|apply q_k|apply q_m|apply q_n|apply q_o|apply q_p|refine q_l ?_)|((with_reducible first|refine q_q sr4_ok fun K hK=>?_|refine q_r sr4_ok fun K hK=>?_);simp (maxSteps:=2000000) only [go_sem,↓reduceIte,reduceCtorEq,Nat.reduceLeDiff,Nat.reduceLT,Nat.reduceBEq,Nat.reduceAdd,tl];(repeat1' with_reducible first|apply And.intro|(intro _;try exact q_v)|(refine hK _ ?_;clear hK K))<;>(try (clear hK K;exact q_u)))|(with_reducible refine q_s ?_;(first|apply q_J|apply q_K|apply q_L|apply q_M|apply q_N|apply q_O)<;>try (intro _;try exact q_v))|with_reducible refine q_t ?_)
    all_goals try omega
    all_goals
      refine q_F ⟨k + 1, hk⟩ ?_ (by simp only; omega)
      simp only [hsu, hmul]
      ((simp only [go_sem,↓reduceIte,reduceCtorEq,Nat.reduceLeDiff,Nat.reduceLT,Nat.reduceBEq,Nat.reduceAdd])<;>(try (simp;done))<;>(try ((simp only [C.i.injEq,C.b.injEq,C.ints.injEq,C.bools.injEq,List.append_cancel_left_eq,List.cons.injEq,true_and,and_true]);(repeat' with_reducible apply And.intro)<;>(first|rfl|assumption|omega|(simp;omega)|(congr 1;omega)|(congr 2;omega)))))
  · have hk' : k = c := by omega
    subst hk'
    have hik : ¬ (0 < sp ∧ st + p < so ∨ sp < 0 ∧ so < st + p) := fun h => absurd (hik.2 h) (Nat.lt_irrefl _)
    repeat' (first|(with_reducible first|apply q_a|apply q_b|apply q_c|apply q_d|apply q_e|apply q_f|apply q_g|apply q_h|apply q_i|apply q_j|apply q_k|apply q_m|apply q_n|apply q_o|apply q_p|refine q_l ?_)|((with_reducible first|refine q_q sr4_ok fun K hK=>?_|refine q_r sr4_ok fun K hK=>?_);simp (maxSteps:=2000000) only [go_sem,↓reduceIte,reduceCtorEq,Nat.reduceLeDiff,Nat.reduceLT,Nat.reduceBEq,Nat.reduceAdd,tl];(repeat1' with_reducible first|apply And.intro|(intro _;try exact q_v)|(refine hK _ ?_;clear hK K))<;>(try (clear hK K;exact q_u)))|(with_reducible refine q_s ?_;(first|apply q_J|apply q_K|apply q_L|apply q_M|apply q_N|apply q_O)<;>try (intro _;try exact q_v))|with_reducible refine q_t ?_)
    all_goals first
      | omega
      | exact q_B [.inl none, .inl none, .inl (some (.ints .i64 []))] rfl rfl
      | exact q_A rfl
      | (exfalso; apply hik; omega)
theorem places_ok (s0 s1 s2 g0 g1 g2 : Bool) (x0 x1 x2 : List Int) (n : Int) (b0 : InB 4294967296 x0) (b1 : InB 4294967296 x1) (b2 : InB 4294967296 x2)
    (hF : slF (prt s0 x0 g0) (prt s1 x1 g1) (prt s2 x2 g2) g2 x2.length = 0) (hn : 0 ≤ n) (hn2 : n ≤ 4000) :
    Ret Try.prog 56 false [.inr [.b s0, .ints .u32 x0, .b s1, .ints .u32 x1, .b s2, .ints .u32 x2, .b g0, .b g1, .b g2], .inl (.i .i64 n)]
      (.t [.inl (.i .i64 (rSt s0 x0 g0 n (rSp s2 x2 g2))), .inl (.i .i64 (rSp s2 x2 g2)), .inl (.ints .i64 (slPos (rSt s0 x0 g0 n (rSp s2 x2 g2)) (rSp s2 x2 g2) (slCnt (rSt s0 x0 g0 n (rSp s2 x2 g2)) (rSo s1 x1 g1 n (rSp s2 x2 g2)) (rSp s2 x2 g2))))]) := by
  by_cases hneg : rSp s2 x2 g2 < 0
  · cases g2
    · exact absurd hneg (by unfold rSp slStep; simp)
    · cases g0 <;> cases g1
      · exact places_false_false_true_neg s0 s1 s2 x0 x1 x2 n _ _ _ _ b0 b1 b2 hF hn hn2 hneg rfl rfl rfl rfl
      · exact places_false_true_true_neg s0 s1 s2 x0 x1 x2 n _ _ _ _ b0 b1 b2 hF hn hn2 hneg rfl rfl rfl rfl
      · exact places_true_false_true_neg s0 s1 s2 x0 x1 x2 n _ _ _ _ b0 b1 b2 hF hn hn2 hneg rfl rfl rfl rfl
      · exact places_true_true_true_neg s0 s1 s2 x0 x1 x2 n _ _ _ _ b0 b1 b2 hF hn hn2 hneg rfl rfl rfl rfl
  · cases g0 <;> cases g1 <;> cases g2
    · exact places_false_false_false_pos s0 s1 s2 x0 x1 x2 n _ _ _ _ b0 b1 b2 hF hn hn2 hneg rfl rfl rfl rfl
    · exact places_false_false_true_pos s0 s1 s2 x0 x1 x2 n _ _ _ _ b0 b1 b2 hF hn hn2 hneg rfl rfl rfl rfl
    · exact places_false_true_false_pos s0 s1 s2 x0 x1 x2 n _ _ _ _ b0 b1 b2 hF hn hn2 hneg rfl rfl rfl rfl
    · exact places_false_true_true_pos s0 s1 s2 x0 x1 x2 n _ _ _ _ b0 b1 b2 hF hn hn2 hneg rfl rfl rfl rfl
    · exact places_true_false_false_pos s0 s1 s2 x0 x1 x2 n _ _ _ _ b0 b1 b2 hF hn hn2 hneg rfl rfl rfl rfl
    · exact places_true_false_true_pos s0 s1 s2 x0 x1 x2 n _ _ _ _ b0 b1 b2 hF hn hn2 hneg rfl rfl rfl rfl
    · exact places_true_true_false_pos s0 s1 s2 x0 x1 x2 n _ _ _ _ b0 b1 b2 hF hn hn2 hneg rfl rfl rfl rfl
    · exact places_true_true_true_pos s0 s1 s2 x0 x1 x2 n _ _ _ _ b0 b1 b2 hF hn hn2 hneg rfl rfl rfl rfl
def placesCT : CT := mkCT [.inr [none, some (.ints .u32 []), none, some (.ints .u32 []), none, some (.ints .u32 []), none, none, none]] false fun l K => match l with
  | [.inr [.b s0, .ints .u32 x0, .b s1, .ints .u32 x1, .b s2, .ints .u32 x2, .b g0, .b g1, .b g2], .inl (.i .i64 n)] => ((InB 4294967296 x0 ∧ InB 4294967296 x1 ∧ InB 4294967296 x2) ∧ slF (prt s0 x0 g0) (prt s1 x1 g1) (prt s2 x2 g2) g2 x2.length = 0 ∧ 0 ≤ n ∧ n ≤ 4000) ∧
      K (.t [.inl (.i .i64 (rSt s0 x0 g0 n (rSp s2 x2 g2))), .inl (.i .i64 (rSp s2 x2 g2)), .inl (.ints .i64 (slPos (rSt s0 x0 g0 n (rSp s2 x2 g2)) (rSp s2 x2 g2) (slCnt (rSt s0 x0 g0 n (rSp s2 x2 g2)) (rSo s1 x1 g1 n (rSp s2 x2 g2)) (rSp s2 x2 g2))))])
  | _ => False
def sj5 : Cfg := addT 56 placesCT sj4
theorem sj5_ok : TblOk Try.prog sj5 := q_I sj4_ok Try.func56 fun l K h => by
  split at h
  · obtain ⟨⟨⟨b0, b1, b2⟩, hF, h0, h1⟩, h⟩ := h
    exact ⟨_, places_ok _ _ _ _ _ _ _ _ _ _ b0 b1 b2 hF h0 h1, h⟩
  · exact h.elim
attribute [go_sem] placesCT
end Go.Proofs.Ytlefdhkjbbdijaa
