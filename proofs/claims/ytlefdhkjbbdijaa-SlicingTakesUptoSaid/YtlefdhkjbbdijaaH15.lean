import Derived.Test.YtlefdhkjbbdijaaH14
namespace Go.Proofs.Ytlefdhkjbbdijaa
set_option linter.unusedSimpArgs false
set_option linter.unusedVariables false
open Go.Abs Go.Proofs.NatL

def sb4 : Cfg := listT [(118, boundedCT), (119, endCT), (117, chkCT), (92, atCT)] [30]
theorem sb4_ok : TblOk Try.prog sb4 := listT_ok (big := su7) su7_ok ⟨rfl, rfl, rfl, rfl, trivial⟩
attribute [go_sem] sb4
set_option maxRecDepth 100000 in
set_option maxHeartbeats 3200000 in
theorem resolve_bad (s0 s1 s2 g0 g1 g2 : Bool) (x0 x1 x2 : List Int) (n : Int) (l0 : x0.length ≤ 140737488355328) (l1 : x1.length ≤ 140737488355328) (l2 : x2.length ≤ 140737488355328)
    (hF : slF (prt s0 x0 g0) (prt s1 x1 g1) (prt s2 x2 g2) g2 x2.length ≠ 0) :
    Ret Try.prog 91 false [.inr [.b s0, .ints .u32 x0, .b s1, .ints .u32 x1, .b s2, .ints .u32 x2, .b g0, .b g1, .b g2], .inl (.i .i64 n)]
      (.t [.inl (.i .i64 0), .inl (.i .i64 0), .inl (.i .i64 0), .inr [.i .i64 (slF (prt s0 x0 g0) (prt s1 x1 g1) (prt s2 x2 g2) g2 x2.length), .i .i64 (-1)]]) := by
  have e : slI (prt s0 x0 g0) (prt s1 x1 g1) (prt s2 x2 g2) g2 x2.length = -1 := if_neg hF
  (refine q_H Try.func91 (fun F => ?_); simp only [q_z,q_y,Try.ntmps91,Try.results91])
  repeat' (first|(with_reducible first|apply q_a|apply q_b|apply q_c|apply q_d|apply q_e|apply q_f|apply q_g|apply q_h|apply q_i|apply q_j|apply q_k|apply q_m|apply q_n|apply q_o|apply q_p|refine q_l ?_)|((with_reducible first|refine q_q sb4_ok fun K hK=>?_|refine q_r sb4_ok fun K hK=>?_);simp (maxSteps:=2000000) only [go_sem,↓reduceIte,reduceCtorEq,Nat.reduceLeDiff,Nat.reduceLT,Nat.reduceBEq,Nat.reduceAdd,e];(repeat1' with_reducible first|apply And.intro|(intro _;try exact q_v)|(refine hK _ ?_;clear hK K))<;>(try (clear hK K;exact q_u)))|(with_reducible refine q_s ?_;(first|apply q_J|apply q_K|apply q_L|apply q_M|apply q_N|apply q_O)<;>try (intro _;try exact q_v))|with_reducible refine q_t ?_)
  all_goals first | contradiction | exact q_A rfl
theorem prt_ok {s : Bool} {xs : List Int} {g : Bool} (h : prt s xs g = true) : okZ s xs = true := by
  unfold prt at h
  simp only [Bool.and_eq_true] at h
  exact h.1
theorem slF_ok {p0 p1 p2 g2 : Bool} {n : Nat} (h : slF p0 p1 p2 g2 n = 0) : p0 = true ∧ p1 = true ∧ p2 = true ∧ (g2 = true → n ≠ 0) := by
  unfold slF at h
  split at h
  · rename_i q
    refine ⟨q.1, q.2.1, q.2.2, fun hg hn => ?_⟩
    rw [if_pos ⟨hg, hn⟩] at h; omega
  · omega
theorem resolve_n (s0 s1 s2 g0 g1 g2 : Bool) (x0 x1 x2 : List Int) (n : Int) (l0 : x0.length ≤ 140737488355328) (l1 : x1.length ≤ 140737488355328) (l2 : x2.length ≤ 140737488355328)
    (hF : slF (prt s0 x0 g0) (prt s1 x1 g1) (prt s2 x2 g2) g2 x2.length = 0) (hn : n < 0 ∨ 4000 < n) :
    Ret Try.prog 91 false [.inr [.b s0, .ints .u32 x0, .b s1, .ints .u32 x1, .b s2, .ints .u32 x2, .b g0, .b g1, .b g2], .inl (.i .i64 n)]
      (.t [.inl (.i .i64 0), .inl (.i .i64 0), .inl (.i .i64 0), .inr [.i .i64 4, .i .i64 (-2)]]) := by
  (refine q_H Try.func91 (fun F => ?_); simp only [q_z,q_y,Try.ntmps91,Try.results91])
  repeat' (first|(with_reducible first|apply q_a|apply q_b|apply q_c|apply q_d|apply q_e|apply q_f|apply q_g|apply q_h|apply q_i|apply q_j|apply q_k|apply q_m|apply q_n|apply q_o|apply q_p|refine q_l ?_)|((with_reducible first|refine q_q sb4_ok fun K hK=>?_|refine q_r sb4_ok fun K hK=>?_);simp (maxSteps:=2000000) only [go_sem,↓reduceIte,reduceCtorEq,Nat.reduceLeDiff,Nat.reduceLT,Nat.reduceBEq,Nat.reduceAdd,hF];(repeat1' with_reducible first|apply And.intro|(intro _;try exact q_v)|(refine hK _ ?_;clear hK K))<;>(try (clear hK K;exact q_u)))|(with_reducible refine q_s ?_;(first|apply q_J|apply q_K|apply q_L|apply q_M|apply q_N|apply q_O)<;>try (intro _;try exact q_v))|with_reducible refine q_t ?_)
  all_goals first | contradiction | omega | exact q_A rfl
theorem pos_len {s : Bool} {xs : List Int} (ho : okZ s xs = true) (hb : InB 4294967296 xs) (h : xs.length ≠ 0) : sv 4294967296 s xs ≠ 0 := fun e => by
  obtain ⟨e1, e2, e3⟩ := okZ_eq ho hb
  rw [e] at e2
  rw [e2] at h
  exact h rfl
set_option maxRecDepth 100000 in
set_option maxHeartbeats 3200000 in
theorem resolve_true_true_true_neg (s0 s1 s2 : Bool) (x0 x1 x2 : List Int) (n sp st so : Int) (l0 : x0.length ≤ 140737488355328) (l1 : x1.length ≤ 140737488355328) (l2 : x2.length ≤ 140737488355328) (b0 : InB 4294967296 x0) (b1 : InB 4294967296 x1) (b2 : InB 4294967296 x2)
    (hF : slF (prt s0 x0 true) (prt s1 x1 true) (prt s2 x2 true) true x2.length = 0) (hn : 0 ≤ n) (hn2 : n ≤ 4000) (hneg : sp < 0)
    (hsp : slStep true (sv 4294967296 s2 x2) = sp) (hst : slSta true (sv 4294967296 s0 x0) n sp = st) (hso : slSto true (sv 4294967296 s1 x1) n sp = so) :
    Ret Try.prog 91 false [.inr [.b s0, .ints .u32 x0, .b s1, .ints .u32 x1, .b s2, .ints .u32 x2, .b true, .b true, .b true], .inl (.i .i64 n)]
      (.t [.inl (.i .i64 st), .inl (.i .i64 sp), .inl (.i .i64 (slCnt st so sp)), .inr [.i .i64 0, .i .i64 0]]) := by
  obtain ⟨p0, p1, p2, pz⟩ := slF_ok hF
  have o0 := prt_ok p0
  have o1 := prt_ok p1
  have o2 := prt_ok p2
  have hz : sp ≠ 0 := by rw [← hsp]; exact step_ne fun hg => pos_len o2 b2 (pz hg)
  have hs := step_in true (sv 4294967296 s2 x2)
  rw [hsp] at hs
  have hti := sta_in (g := true) (z := sv 4294967296 s0 x0) (sp := sp) hn
  have hto := sto_in (g := true) (z := sv 4294967296 s1 x1) (sp := sp) hn
  have hlh := lo_hi (sp := sp) hn
  have hc := cnt_go (st := st) (so := so) hz
  rw [hst] at hti
  rw [hso] at hto
  unfold slSta at hst
  unfold slSto at hso
  unfold slStep at hsp
  simp only [Bool.false_eq_true, if_true, if_false] at hst hso hsp
  obtain ⟨e1, e2⟩ : slLo sp = (if sp < 0 then -1 else 0) ∧ slHi sp n = (if sp < 0 then n - 1 else n) := ⟨rfl, rfl⟩
  rw [e1, e2] at hti hto hst hso
  first | simp only [if_pos hneg] at hti hto hst hso hc | simp only [if_neg hneg] at hti hto hst hso hc
  try rw [show -sp = 0 - sp by omega] at hc
  have hq := tdiv_bd (st - so - sp - 1) (0 - sp)
  obtain ⟨q, hq1⟩ : ∃ q, (st - so - sp - 1).tdiv (0 - sp) = q := ⟨_, rfl⟩
  rw [hq1] at hc hq
  have hstx : st = st := by first | rfl | exact hst | omega
  have hsox : so = so := by first | rfl | exact hso | omega
  have hspx : sp = sp := by first | rfl | exact hsp | omega
  have hq2 : (st - so - sp - 1).tdiv (0 - sp) = q := by first | exact hq1 | (rw [← hq1]; congr 1 <;> omega)
  (refine q_H Try.func91 (fun F => ?_); simp only [q_z,q_y,Try.ntmps91,Try.results91])
  repeat' (first|(with_reducible first|apply q_a|apply q_b|apply q_c|apply q_d|apply q_e|apply q_f|apply q_g|apply q_h|apply q_i|apply q_j|apply q_k|apply q_m|apply q_n|apply q_o|apply q_p|refine q_l ?_)|((with_reducible first|refine q_q sb4_ok fun K hK=>?_|refine q_r sb4_ok fun K hK=>?_);simp (maxSteps:=2000000) only [go_sem,↓reduceIte,reduceCtorEq,Nat.reduceLeDiff,Nat.reduceLT,Nat.reduceBEq,Nat.reduceAdd,hF, hsp, hst, hso, o0, o1, o2, hq2];(repeat1' with_reducible first|apply And.intro|(intro _;try exact q_v)|(refine hK _ ?_;clear hK K))<;>(try (clear hK K;exact q_u)))|(with_reducible refine q_s ?_;(first|apply q_J|apply q_K|apply q_L|apply q_M|apply q_N|apply q_O)<;>try (intro _;try exact q_v))|with_reducible refine q_t ?_)
  all_goals first | contradiction | omega | exact q_A (by rw [hc, ← hstx, ← hspx] <;> rfl)
set_option maxRecDepth 100000 in
set_option maxHeartbeats 3200000 in
theorem resolve_true_true_true_pos (s0 s1 s2 : Bool) (x0 x1 x2 : List Int) (n sp st so : Int) (l0 : x0.length ≤ 140737488355328) (l1 : x1.length ≤ 140737488355328) (l2 : x2.length ≤ 140737488355328) (b0 : InB 4294967296 x0) (b1 : InB 4294967296 x1) (b2 : InB 4294967296 x2)
    (hF : slF (prt s0 x0 true) (prt s1 x1 true) (prt s2 x2 true) true x2.length = 0) (hn : 0 ≤ n) (hn2 : n ≤ 4000) (hneg : ¬ sp < 0)
    (hsp : slStep true (sv 4294967296 s2 x2) = sp) (hst : slSta true (sv 4294967296 s0 x0) n sp = st) (hso : slSto true (sv 4294967296 s1 x1) n sp = so) :
    Ret Try.prog 91 false [.inr [.b s0, .ints .u32 x0, .b s1, .ints .u32 x1, .b s2, .ints .u32 x2, .b true, .b true, .b true], .inl (.i .i64 n)]
      (.t [.inl (.i .i64 st), .inl (.i .i64 sp), .inl (.i .i64 (slCnt st so sp)), .inr [.i .i64 0, .i .i64 0]]) := by
  obtain ⟨p0, p1, p2, pz⟩ := slF_ok hF
  have o0 := prt_ok p0
  have o1 := prt_ok p1
  have o2 := prt_ok p2
  have hz : sp ≠ 0 := by rw [← hsp]; exact step_ne fun hg => pos_len o2 b2 (pz hg)
  have hs := step_in true (sv 4294967296 s2 x2)
  rw [hsp] at hs
  have hti := sta_in (g := true) (z := sv 4294967296 s0 x0) (sp := sp) hn
  have hto := sto_in (g := true) (z := sv 4294967296 s1 x1) (sp := sp) hn
  have hlh := lo_hi (sp := sp) hn
  have hc := cnt_go (st := st) (so := so) hz
  rw [hst] at hti
  rw [hso] at hto
  unfold slSta at hst
  unfold slSto at hso
  unfold slStep at hsp
  simp only [Bool.false_eq_true, if_true, if_false] at hst hso hsp
  obtain ⟨e1, e2⟩ : slLo sp = (if sp < 0 then -1 else 0) ∧ slHi sp n = (if sp < 0 then n - 1 else n) := ⟨rfl, rfl⟩
  rw [e1, e2] at hti hto hst hso
  first | simp only [if_pos hneg] at hti hto hst hso hc | simp only [if_neg hneg] at hti hto hst hso hc
  try rw [show -sp = 0 - sp by omega] at hc
  have hq := tdiv_bd (so - st + sp - 1) sp
  obtain ⟨q, hq1⟩ : ∃ q, (so - st + sp - 1).tdiv sp = q := ⟨_, rfl⟩
  rw [hq1] at hc hq
  have hstx : st = st := by first | rfl | exact hst | omega
  have hsox : so = so := by first | rfl | exact hso | omega
  have hspx : sp = sp := by first | rfl | exact hsp | omega
  have hq2 : (so - st + sp - 1).tdiv sp = q := by first | exact hq1 | (rw [← hq1]; congr 1 <;> omega)
  (refine q_H Try.func91 (fun F => ?_); simp only [q_z,q_y,Try.ntmps91,Try.results91])
  repeat' (first|(with_reducible first|apply q_a|apply q_b|apply q_c|apply q_d|apply q_e|apply q_f|apply q_g|apply q_h|apply q_i|apply q_j|apply q_k|apply q_m|apply q_n|apply q_o|apply q_p|refine q_l ?_)|((with_reducible first|refine q_q sb4_ok fun K hK=>?_|refine q_r sb4_ok fun K hK=>?_);simp (maxSteps:=2000000) only [go_sem,↓reduceIte,reduceCtorEq,Nat.reduceLeDiff,Nat.reduceLT,Nat.reduceBEq,Nat.reduceAdd,hF, hsp, hst, hso, o0, o1, o2, hq2];(repeat1' with_reducible first|apply And.intro|(intro _;try exact q_v)|(refine hK _ ?_;clear hK K))<;>(try (clear hK K;exact q_u)))|(with_reducible refine q_s ?_;(first|apply q_J|apply q_K|apply q_L|apply q_M|apply q_N|apply q_O)<;>try (intro _;try exact q_v))|with_reducible refine q_t ?_)
  all_goals first | contradiction | omega | exact q_A (by rw [hc, ← hstx, ← hspx] <;> rfl)
set_option maxRecDepth 100000 in
set_option maxHeartbeats 3200000 in
theorem resolve_true_true_false_pos (s0 s1 s2 : Bool) (x0 x1 x2 : List Int) (n sp st so : Int) (l0 : x0.length ≤ 140737488355328) (l1 : x1.length ≤ 140737488355328) (l2 : x2.length ≤ 140737488355328) (b0 : InB 4294967296 x0) (b1 : InB 4294967296 x1) (b2 : InB 4294967296 x2)
    (hF : slF (prt s0 x0 true) (prt s1 x1 true) (prt s2 x2 false) false x2.length = 0) (hn : 0 ≤ n) (hn2 : n ≤ 4000) (hneg : ¬ sp < 0)
    (hsp : slStep false (sv 4294967296 s2 x2) = sp) (hst : slSta true (sv 4294967296 s0 x0) n sp = st) (hso : slSto true (sv 4294967296 s1 x1) n sp = so) :
    Ret Try.prog 91 false [.inr [.b s0, .ints .u32 x0, .b s1, .ints .u32 x1, .b s2, .ints .u32 x2, .b true, .b true, .b false], .inl (.i .i64 n)]
      (.t [.inl (.i .i64 st), .inl (.i .i64 sp), .inl (.i .i64 (slCnt st so sp)), .inr [.i .i64 0, .i .i64 0]]) := by
  obtain ⟨p0, p1, p2, pz⟩ := slF_ok hF
  have o0 := prt_ok p0
  have o1 := prt_ok p1
  have o2 := prt_ok p2
  have hz : sp ≠ 0 := by rw [← hsp]; exact step_ne fun hg => pos_len o2 b2 (pz hg)
  have hs := step_in false (sv 4294967296 s2 x2)
  rw [hsp] at hs
  have hti := sta_in (g := true) (z := sv 4294967296 s0 x0) (sp := sp) hn
  have hto := sto_in (g := true) (z := sv 4294967296 s1 x1) (sp := sp) hn
  have hlh := lo_hi (sp := sp) hn
  have hc := cnt_go (st := st) (so := so) hz
  rw [hst] at hti
  rw [hso] at hto
  unfold slSta at hst
  unfold slSto at hso
  unfold slStep at hsp
  simp only [Bool.false_eq_true, if_true, if_false] at hst hso hsp
  obtain ⟨e1, e2⟩ : slLo sp = (if sp < 0 then -1 else 0) ∧ slHi sp n = (if sp < 0 then n - 1 else n) := ⟨rfl, rfl⟩
  rw [e1, e2] at hti hto hst hso
  first | simp only [if_pos hneg] at hti hto hst hso hc | simp only [if_neg hneg] at hti hto hst hso hc
  try rw [show -sp = 0 - sp by omega] at hc
  have hq := tdiv_bd (so - st + sp - 1) sp
  obtain ⟨q, hq1⟩ : ∃ q, (so - st + sp - 1).tdiv sp = q := ⟨_, rfl⟩
  rw [hq1] at hc hq
  have hstx : st = st := by first | rfl | exact hst | omega
  have hsox : so = so := by first | rfl | exact hso | omega
  have hspx : 1 = sp := by first | rfl | exact hsp | omega
  have hq2 : (so - st + 1 - 1).tdiv 1 = q := by first | exact hq1 | (rw [← hq1]; congr 1 <;> omega)
  (refine q_H Try.func91 (fun F => ?_); simp only [q_z,q_y,Try.ntmps91,Try.results91])
  repeat' (first|(with_reducible first|apply q_a|apply q_b|apply q_c|apply q_d|apply q_e|apply q_f|apply q_g|apply q_h|apply q_i|apply q_j|apply q_k|apply q_m|apply q_n|apply q_o|apply q_p|refine q_l ?_)|((with_reducible first|refine q_q sb4_ok fun K hK=>?_|refine q_r sb4_ok fun K hK=>?_);simp (maxSteps:=2000000) only [go_sem,↓reduceIte,reduceCtorEq,Nat.reduceLeDiff,Nat.reduceLT,Nat.reduceBEq,Nat.reduceAdd,hF, hz, hst, hso, o0, o1, o2, hq2];(repeat1' with_reducible first|apply And.intro|(intro _;try exact q_v)|(refine hK _ ?_;clear hK K))<;>(try (clear hK K;exact q_u)))|(with_reducible refine q_s ?_;(first|apply q_J|apply q_K|apply q_L|apply q_M|apply q_N|apply q_O)<;>try (intro _;try exact q_v))|with_reducible refine q_t ?_)
  all_goals first | contradiction | omega | exact q_A (by rw [hc, ← hstx, ← hspx] <;> rfl)
set_option maxRecDepth 100000 in
set_option maxHeartbeats 3200000 in
theorem resolve_true_false_true_neg (s0 s1 s2 : Bool) (x0 x1 x2 : List Int) (n sp st so : Int) (l0 : x0.length ≤ 140737488355328) (l1 : x1.length ≤ 140737488355328) (l2 : x2.length ≤ 140737488355328) (b0 : InB 4294967296 x0) (b1 : InB 4294967296 x1) (b2 : InB 4294967296 x2)
    (hF : slF (prt s0 x0 true) (prt s1 x1 false) (prt s2 x2 true) true x2.length = 0) (hn : 0 ≤ n) (hn2 : n ≤ 4000) (hneg : sp < 0)
    (hsp : slStep true (sv 4294967296 s2 x2) = sp) (hst : slSta true (sv 4294967296 s0 x0) n sp = st) (hso : slSto false (sv 4294967296 s1 x1) n sp = so) :
    Ret Try.prog 91 false [.inr [.b s0, .ints .u32 x0, .b s1, .ints .u32 x1, .b s2, .ints .u32 x2, .b true, .b false, .b true], .inl (.i .i64 n)]
      (.t [.inl (.i .i64 st), .inl (.i .i64 sp), .inl (.i .i64 (slCnt st so sp)), .inr [.i .i64 0, .i .i64 0]]) := by
  obtain ⟨p0, p1, p2, pz⟩ := slF_ok hF
  have o0 := prt_ok p0
  have o1 := prt_ok p1
  have o2 := prt_ok p2
  have hz : sp ≠ 0 := by rw [← hsp]; exact step_ne fun hg => pos_len o2 b2 (pz hg)
  have hs := step_in true (sv 4294967296 s2 x2)
  rw [hsp] at hs
  have hti := sta_in (g := true) (z := sv 4294967296 s0 x0) (sp := sp) hn
  have hto := sto_in (g := false) (z := sv 4294967296 s1 x1) (sp := sp) hn
  have hlh := lo_hi (sp := sp) hn
  have hc := cnt_go (st := st) (so := so) hz
  rw [hst] at hti
  rw [hso] at hto
  unfold slSta at hst
  unfold slSto at hso
  unfold slStep at hsp
  simp only [Bool.false_eq_true, if_true, if_false] at hst hso hsp
  obtain ⟨e1, e2⟩ : slLo sp = (if sp < 0 then -1 else 0) ∧ slHi sp n = (if sp < 0 then n - 1 else n) := ⟨rfl, rfl⟩
  rw [e1, e2] at hti hto hst hso
  first | simp only [if_pos hneg] at hti hto hst hso hc | simp only [if_neg hneg] at hti hto hst hso hc
  try rw [show -sp = 0 - sp by omega] at hc
  have hq := tdiv_bd (st - so - sp - 1) (0 - sp)
  obtain ⟨q, hq1⟩ : ∃ q, (st - so - sp - 1).tdiv (0 - sp) = q := ⟨_, rfl⟩
  rw [hq1] at hc hq
  have hstx : st = st := by first | rfl | exact hst | omega
  have hsox : (-1) = so := by first | rfl | exact hso | omega
  have hspx : sp = sp := by first | rfl | exact hsp | omega
  have hq2 : (st - (-1) - sp - 1).tdiv (0 - sp) = q := by first | exact hq1 | (rw [← hq1]; congr 1 <;> omega)
  (refine q_H Try.func91 (fun F => ?_); simp only [q_z,q_y,Try.ntmps91,Try.results91])
  repeat' (first|(with_reducible first|apply q_a|apply q_b|apply q_c|apply q_d|apply q_e|apply q_f|apply q_g|apply q_h|apply q_i|apply q_j|apply q_k|apply q_m|apply q_n|apply q_o|apply q_p|refine q_l ?_)|((with_reducible first|refine q_q sb4_ok fun K hK=>?_|refine q_r sb4_ok fun K hK=>?_);simp (maxSteps:=2000000) only [go_sem,↓reduceIte,reduceCtorEq,Nat.reduceLeDiff,Nat.reduceLT,Nat.reduceBEq,Nat.reduceAdd,hF, hsp, hst, hz, o0, o1, o2, hq2];(repeat1' with_reducible first|apply And.intro|(intro _;try exact q_v)|(refine hK _ ?_;clear hK K))<;>(try (clear hK K;exact q_u)))|(with_reducible refine q_s ?_;(first|apply q_J|apply q_K|apply q_L|apply q_M|apply q_N|apply q_O)<;>try (intro _;try exact q_v))|with_reducible refine q_t ?_)
  all_goals first | contradiction | omega | exact q_A (by rw [hc, ← hstx, ← hspx] <;> rfl)
set_option maxRecDepth 100000 in
set_option maxHeartbeats 3200000 in
theorem resolve_true_false_true_pos (s0 s1 s2 : Bool) (x0 x1 x2 : List Int) (n sp st so : Int) (l0 : x0.length ≤ 140737488355328) (l1 : x1.length ≤ 140737488355328) (l2 : x2.length ≤ 140737488355328) (b0 : InB 4294967296 x0) (b1 : InB 4294967296 x1) (b2 : InB 4294967296 x2)
    (hF : slF (prt s0 x0 true) (prt s1 x1 false) (prt s2 x2 true) true x2.length = 0) (hn : 0 ≤ n) (hn2 : n ≤ 4000) (hneg : ¬ sp < 0)
    (hsp : slStep true (sv 4294967296 s2 x2) = sp) (hst : slSta true (sv 4294967296 s0 x0) n sp = st) (hso : slSto false (sv 4294967296 s1 x1) n sp = so) :
    Ret Try.prog 91 false [.inr [.b s0, .ints .u32 x0, .b s1, .ints .u32 x1, .b s2, .ints .u32 x2, .b true, .b false, .b true], .inl (.i .i64 n)]
      (.t [.inl (.i .i64 st), .inl (.i .i64 sp), .inl (.i .i64 (slCnt st so sp)), .inr [.i .i64 0, .i .i64 0]]) := by
  obtain ⟨p0, p1, p2, pz⟩ := slF_ok hF
  have o0 := prt_ok p0
  have o1 := prt_ok p1
  have o2 := prt_ok p2
  have hz : sp ≠ 0 := by rw [← hsp]; exact step_ne fun hg => pos_len o2 b2 (pz hg)
  have hs := step_in true (sv 4294967296 s2 x2)
  rw [hsp] at hs
  have hti := sta_in (g := true) (z := sv 4294967296 s0 x0) (sp := sp) hn
  have hto := sto_in (g := false) (z := sv 4294967296 s1 x1) (sp := sp) hn
  have hlh := lo_hi (sp := sp) hn
  have hc := cnt_go (st := st) (so := so) hz
  rw [hst] at hti
  rw [hso] at hto
  unfold slSta at hst
  unfold slSto at hso
  unfold slStep at hsp
  simp only [Bool.false_eq_true, if_true, if_false] at hst hso hsp
  obtain ⟨e1, e2⟩ : slLo sp = (if sp < 0 then -1 else 0) ∧ slHi sp n = (if sp < 0 then n - 1 else n) := ⟨rfl, rfl⟩
  rw [e1, e2] at hti hto hst hso
  first | simp only [if_pos hneg] at hti hto hst hso hc | simp only [if_neg hneg] at hti hto hst hso hc
  try rw [show -sp = 0 - sp by omega] at hc
  have hq := tdiv_bd (so - st + sp - 1) sp
  obtain ⟨q, hq1⟩ : ∃ q, (so - st + sp - 1).tdiv sp = q := ⟨_, rfl⟩
  rw [hq1] at hc hq
  have hstx : st = st := by first | rfl | exact hst | omega
  have hsox : n = so := by first | rfl | exact hso | omega
  have hspx : sp = sp := by first | rfl | exact hsp | omega
  have hq2 : (n - st + sp - 1).tdiv sp = q := by first | exact hq1 | (rw [← hq1]; congr 1 <;> omega)
  (refine q_H Try.func91 (fun F => ?_); simp only [q_z,q_y,Try.ntmps91,Try.results91])
  repeat' (first|(with_reducible first|apply q_a|apply q_b|apply q_c|apply q_d|apply q_e|apply q_f|apply q_g|apply q_h|apply q_i|apply q_j|apply q_k|apply q_m|apply q_n|apply q_o|apply q_p|refine q_l ?_)|((with_reducible first|refine q_q sb4_ok fun K hK=>?_|refine q_r sb4_ok fun K hK=>?_);simp (maxSteps:=2000000) only [go_sem,↓reduceIte,reduceCtorEq,Nat.reduceLeDiff,Nat.reduceLT,Nat.reduceBEq,Nat.reduceAdd,hF, hsp, hst, hz, o0, o1, o2, hq2];(repeat1' with_reducible first|apply And.intro|(intro _;try exact q_v)|(refine hK _ ?_;clear hK K))<;>(try (clear hK K;exact q_u)))|(with_reducible refine q_s ?_;(first|apply q_J|apply q_K|apply q_L|apply q_M|apply q_N|apply q_O)<;>try (intro _;try exact q_v))|with_reducible refine q_t ?_)
  all_goals first | contradiction | omega | exact q_A (by rw [hc, ← hstx, ← hspx] <;> rfl)
set_option maxRecDepth 100000 in
set_option maxHeartbeats 3200000 in
theorem resolve_true_false_false_pos (s0 s1 s2 : Bool) (x0 x1 x2 : List Int) (n sp st so : Int) (l0 : x0.length ≤ 140737488355328) (l1 : x1.length ≤ 140737488355328) (l2 : x2.length ≤ 140737488355328) (b0 : InB 4294967296 x0) (b1 : InB 4294967296 x1) (b2 : InB 4294967296 x2)
    (hF : slF (prt s0 x0 true) (prt s1 x1 false) (prt s2 x2 false) false x2.length = 0) (hn : 0 ≤ n) (hn2 : n ≤ 4000) (hneg : ¬ sp < 0)
    (hsp : slStep false (sv 4294967296 s2 x2) = sp) (hst : slSta true (sv 4294967296 s0 x0) n sp = st) (hso : slSto false (sv 4294967296 s1 x1) n sp = so) :
    Ret Try.prog 91 false [.inr [.b s0, .ints .u32 x0, .b s1, .ints .u32 x1, .b s2, .ints .u32 x2, .b true, .b false, .b false], .inl (.i .i64 n)]
      (.t [.inl (.i .i64 st), .inl (.i .i64 sp), .inl (.i .i64 (slCnt st so sp)), .inr [.i .i64 0, .i .i64 0]]) := by
  obtain ⟨p0, p1, p2, pz⟩ := slF_ok hF
  have o0 := prt_ok p0
  have o1 := prt_ok p1
  have o2 := prt_ok p2
  have hz : sp ≠ 0 := by rw [← hsp]; exact step_ne fun hg => pos_len o2 b2 (pz hg)
  have hs := step_in false (sv 4294967296 s2 x2)
  rw [hsp] at hs
  have hti := sta_in (g := true) (z := sv 4294967296 s0 x0) (sp := sp) hn
  have hto := sto_in (g := false) (z := sv 4294967296 s1 x1) (sp := sp) hn
  have hlh := lo_hi (sp := sp) hn
  have hc := cnt_go (st := st) (so := so) hz
  rw [hst] at hti
  rw [hso] at hto
  unfold slSta at hst
  unfold slSto at hso
  unfold slStep at hsp
  simp only [Bool.false_eq_true, if_true, if_false] at hst hso hsp
  obtain ⟨e1, e2⟩ : slLo sp = (if sp < 0 then -1 else 0) ∧ slHi sp n = (if sp < 0 then n - 1 else n) := ⟨rfl, rfl⟩
  rw [e1, e2] at hti hto hst hso
  first | simp only [if_pos hneg] at hti hto hst hso hc | simp only [if_neg hneg] at hti hto hst hso hc
  try rw [show -sp = 0 - sp by omega] at hc
  have hq := tdiv_bd (so - st + sp - 1) sp
  obtain ⟨q, hq1⟩ : ∃ q, (so - st + sp - 1).tdiv sp = q := ⟨_, rfl⟩
  rw [hq1] at hc hq
  have hstx : st = st := by first | rfl | exact hst | omega
  have hsox : n = so := by first | rfl | exact hso | omega
  have hspx : 1 = sp := by first | rfl | exact hsp | omega
  have hq2 : (n - st + 1 - 1).tdiv 1 = q := by first | exact hq1 | (rw [← hq1]; congr 1 <;> omega)
  (refine q_H Try.func91 (fun F => ?_); simp only [q_z,q_y,Try.ntmps91,Try.results91])
  repeat' (first|(with_reducible first|apply q_a|apply q_b|apply q_c|apply q_d|apply q_e|apply q_f|apply q_g|apply q_h|apply q_i|apply q_j|apply q_k|apply q_m|apply q_n|apply q_o|apply q_p|refine q_l ?_)|((with_reducible first|refine q_q sb4_ok fun K hK=>?_|refine q_r sb4_ok fun K hK=>?_);simp (maxSteps:=2000000) only [go_sem,↓reduceIte,reduceCtorEq,Nat.reduceLeDiff,Nat.reduceLT,Nat.reduceBEq,Nat.reduceAdd,hF, hz, hst, hz, o0, o1, o2, hq2];(repeat1' with_reducible first|apply And.intro|(intro _;try exact q_v)|(refine hK _ ?_;clear hK K))<;>(try (clear hK K;exact q_u)))|(with_reducible refine q_s ?_;(first|apply q_J|apply q_K|apply q_L|apply q_M|apply q_N|apply q_O)<;>try (intro _;try exact q_v))|with_reducible refine q_t ?_)
  all_goals first | contradiction | omega | exact q_A (by rw [hc, ← hstx, ← hspx] <;> rfl)
set_option maxRecDepth 100000 in
set_option maxHeartbeats 3200000 in
theorem resolve_false_true_true_neg (s0 s1 s2 : Bool) (x0 x1 x2 : List Int) (n sp st so : Int) (l0 : x0.length ≤ 140737488355328) (l1 : x1.length ≤ 140737488355328) (l2 : x2.length ≤ 140737488355328) (b0 : InB 4294967296 x0) (b1 : InB 4294967296 x1) (b2 : InB 4294967296 x2)
    (hF : slF (prt s0 x0 false) (prt s1 x1 true) (prt s2 x2 true) true x2.length = 0) (hn : 0 ≤ n) (hn2 : n ≤ 4000) (hneg : sp < 0)
    (hsp : slStep true (sv 4294967296 s2 x2) = sp) (hst : slSta false (sv 4294967296 s0 x0) n sp = st) (hso : slSto true (sv 4294967296 s1 x1) n sp = so) :
    Ret Try.prog 91 false [.inr [.b s0, .ints .u32 x0, .b s1, .ints .u32 x1, .b s2, .ints .u32 x2, .b false, .b true, .b true], .inl (.i .i64 n)]
      (.t [.inl (.i .i64 st), .inl (.i .i64 sp), .inl (.i .i64 (slCnt st so sp)), .inr [.i .i64 0, .i .i64 0]]) := by
  obtain ⟨p0, p1, p2, pz⟩ := slF_ok hF
  have o0 := prt_ok p0
  have o1 := prt_ok p1
  have o2 := prt_ok p2
  have hz : sp ≠ 0 := by rw [← hsp]; exact step_ne fun hg => pos_len o2 b2 (pz hg)
  have hs := step_in true (sv 4294967296 s2 x2)
  rw [hsp] at hs
  have hti := sta_in (g := false) (z := sv 4294967296 s0 x0) (sp := sp) hn
  have hto := sto_in (g := true) (z := sv 4294967296 s1 x1) (sp := sp) hn
  have hlh := lo_hi (sp := sp) hn
  have hc := cnt_go (st := st) (so := so) hz
  rw [hst] at hti
  rw [hso] at hto
  unfold slSta at hst
  unfold slSto at hso
  unfold slStep at hsp
  simp only [Bool.false_eq_true, if_true, if_false] at hst hso hsp
  obtain ⟨e1, e2⟩ : slLo sp = (if sp < 0 then -1 else 0) ∧ slHi sp n = (if sp < 0 then n - 1 else n) := ⟨rfl, rfl⟩
  rw [e1, e2] at hti hto hst hso
  first | simp only [if_pos hneg] at hti hto hst hso hc | simp only [if_neg hneg] at hti hto hst hso hc
  try rw [show -sp = 0 - sp by omega] at hc
  have hq := tdiv_bd (st - so - sp - 1) (0 - sp)
  obtain ⟨q, hq1⟩ : ∃ q, (st - so - sp - 1).tdiv (0 - sp) = q := ⟨_, rfl⟩
  rw [hq1] at hc hq
  have hstx : (n - 1) = st := by first | rfl | exact hst | omega
  have hsox : so = so := by first | rfl | exact hso | omega
  have hspx : sp = sp := by first | rfl | exact hsp | omega
  have hq2 : ((n - 1) - so - sp - 1).tdiv (0 - sp) = q := by first | exact hq1 | (rw [← hq1]; congr 1 <;> omega)
  (refine q_H Try.func91 (fun F => ?_); simp only [q_z,q_y,Try.ntmps91,Try.results91])
  repeat' (first|(with_reducible first|apply q_a|apply q_b|apply q_c|apply q_d|apply q_e|apply q_f|apply q_g|apply q_h|apply q_i|apply q_j|apply q_k|apply q_m|apply q_n|apply q_o|apply q_p|refine q_l ?_)|((with_reducible first|refine q_q sb4_ok fun K hK=>?_|refine q_r sb4_ok fun K hK=>?_);simp (maxSteps:=2000000) only [go_sem,↓reduceIte,reduceCtorEq,Nat.reduceLeDiff,Nat.reduceLT,Nat.reduceBEq,Nat.reduceAdd,hF, hsp, hz, hso, o0, o1, o2, hq2];(repeat1' with_reducible first|apply And.intro|(intro _;try exact q_v)|(refine hK _ ?_;clear hK K))<;>(try (clear hK K;exact q_u)))|(with_reducible refine q_s ?_;(first|apply q_J|apply q_K|apply q_L|apply q_M|apply q_N|apply q_O)<;>try (intro _;try exact q_v))|with_reducible refine q_t ?_)
  all_goals first | contradiction | omega | exact q_A (by rw [hc, ← hstx, ← hspx] <;> rfl)
set_option maxRecDepth 100000 in
set_option maxHeartbeats 3200000 in
theorem resolve_false_true_true_pos (s0 s1 s2 : Bool) (x0 x1 x2 : List Int) (n sp st so : Int) (l0 : x0.length ≤ 140737488355328) (l1 : x1.length ≤ 140737488355328) (l2 : x2.length ≤ 140737488355328) (b0 : InB 4294967296 x0) (b1 : InB 4294967296 x1) (b2 : InB 4294967296 x2)
    (hF : slF (prt s0 x0 false) (prt s1 x1 true) (prt s2 x2 true) true x2.length = 0) (hn : 0 ≤ n) (hn2 : n ≤ 4000) (hneg : ¬ sp < 0)
    (hsp : slStep true (sv 4294967296 s2 x2) = sp) (hst : slSta false (sv 4294967296 s0 x0) n sp = st) (hso : slSto true (sv 4294967296 s1 x1) n sp = so) :
    Ret Try.prog 91 false [.inr [.b s0, .ints .u32 x0, .b s1, .ints .u32 x1, .b s2, .ints .u32 x2, .b false, .b true, .b true], .inl (.i .i64 n)]
      (.t [.inl (.i .i64 st), .inl (.i .i64 sp), .inl (.i .i64 (slCnt st so sp)), .inr [.i .i64 0, .i .i64 0]]) := by
  obtain ⟨p0, p1, p2, pz⟩ := slF_ok hF
  have o0 := prt_ok p0
  have o1 := prt_ok p1
  have o2 := prt_ok p2
  have hz : sp ≠ 0 := by rw [← hsp]; exact step_ne fun hg => pos_len o2 b2 (pz hg)
  have hs := step_in true (sv 4294967296 s2 x2)
  rw [hsp] at hs
  have hti := sta_in (g := false) (z := sv 4294967296 s0 x0) (sp := sp) hn
  have hto := sto_in (g := true) (z := sv 4294967296 s1 x1) (sp := sp) hn
  have hlh := lo_hi (sp := sp) hn
  have hc := cnt_go (st := st) (so := so) hz
  rw [hst] at hti
  rw [hso] at hto
  unfold slSta at hst
  unfold slSto at hso
  unfold slStep at hsp
  simp only [Bool.false_eq_true, if_true, if_false] at hst hso hsp
  obtain ⟨e1, e2⟩ : slLo sp = (if sp < 0 then -1 else 0) ∧ slHi sp n = (if sp < 0 then n - 1 else n) := ⟨rfl, rfl⟩
  rw [e1, e2] at hti hto hst hso
  first | simp only [if_pos hneg] at hti hto hst hso hc | simp only [if_neg hneg] at hti hto hst hso hc
  try rw [show -sp = 0 - sp by omega] at hc
  have hq := tdiv_bd (so - st + sp - 1) sp
  obtain ⟨q, hq1⟩ : ∃ q, (so - st + sp - 1).tdiv sp = q := ⟨_, rfl⟩
  rw [hq1] at hc hq
  have hstx : 0 = st := by first | rfl | exact hst | omega
  have hsox : so = so := by first | rfl | exact hso | omega
  have hspx : sp = sp := by first | rfl | exact hsp | omega
  have hq2 : (so - 0 + sp - 1).tdiv sp = q := by first | exact hq1 | (rw [← hq1]; congr 1 <;> omega)
  (refine q_H Try.func91 (fun F => ?_); simp only [q_z,q_y,Try.ntmps91,Try.results91])
  repeat' (first|(with_reducible first|apply q_a|apply q_b|apply q_c|apply q_d|apply q_e|apply q_f|apply q_g|apply q_h|apply q_i|apply q_j|apply q_k|apply q_m|apply q_n|apply q_o|apply q_p|refine q_l ?_)|((with_reducible first|refine q_q sb4_ok fun K hK=>?_|refine q_r sb4_ok fun K hK=>?_);simp (maxSteps:=2000000) only [go_sem,↓reduceIte,reduceCtorEq,Nat.reduceLeDiff,Nat.reduceLT,Nat.reduceBEq,Nat.reduceAdd,hF, hsp, hz, hso, o0, o1, o2, hq2];(repeat1' with_reducible first|apply And.intro|(intro _;try exact q_v)|(refine hK _ ?_;clear hK K))<;>(try (clear hK K;exact q_u)))|(with_reducible refine q_s ?_;(first|apply q_J|apply q_K|apply q_L|apply q_M|apply q_N|apply q_O)<;>try (intro _;try exact q_v))|with_reducible refine q_t ?_)
  all_goals first | contradiction | omega | exact q_A (by rw [hc, ← hstx, ← hspx] <;> rfl)
set_option maxRecDepth 100000 in
set_option maxHeartbeats 3200000 in
theorem resolve_false_true_false_pos (s0 s1 s2 : Bool) (x0 x1 x2 : List Int) (n sp st so : Int) (l0 : x0.length ≤ 140737488355328) (l1 : x1.length ≤ 140737488355328) (l2 : x2.length ≤ 140737488355328) (b0 : InB 4294967296 x0) (b1 : InB 4294967296 x1) (b2 : InB 4294967296 x2)
    (hF : slF (prt s0 x0 false) (prt s1 x1 true) (prt s2 x2 false) false x2.length = 0) (hn : 0 ≤ n) (hn2 : n ≤ 4000) (hneg : ¬ sp < 0)
    (hsp : slStep false (sv 4294967296 s2 x2) = sp) (hst : slSta false (sv 4294967296 s0 x0) n sp = st) (hso : slSto true (sv 4294967296 s1 x1) n sp = so) :
    Ret Try.prog 91 false [.inr [.b s0, .ints .u32 x0, .b s1, .ints .u32 x1, .b s2, .ints .u32 x2, .b false, .b true, .b false], .inl (.i .i64 n)]
      (.t [.inl (.i .i64 st), .inl (.i .i64 sp), .inl (.i .i64 (slCnt st so sp)), .inr [.i .i64 0, .i .i64 0]]) := by
  obtain ⟨p0, p1, p2, pz⟩ := slF_ok hF
  have o0 := prt_ok p0
  have o1 := prt_ok p1
  have o2 := prt_ok p2
  have hz : sp ≠ 0 := by rw [← hsp]; exact step_ne fun hg => pos_len o2 b2 (pz hg)
  have hs := step_in false (sv 4294967296 s2 x2)
  rw [hsp] at hs
  have hti := sta_in (g := false) (z := sv 4294967296 s0 x0) (sp := sp) hn
  have hto := sto_in (g := true) (z := sv 4294967296 s1 x1) (sp := sp) hn
  have hlh := lo_hi (sp := sp) hn
  have hc := cnt_go (st := st) (so := so) hz
  rw [hst] at hti
  rw [hso] at hto
  unfold slSta at hst
  unfold slSto at hso
  unfold slStep at hsp
  simp only [Bool.false_eq_true, if_true, if_false] at hst hso hsp
  obtain ⟨e1, e2⟩ : slLo sp = (if sp < 0 then -1 else 0) ∧ slHi sp n = (if sp < 0 then n - 1 else n) := ⟨rfl, rfl⟩
  rw [e1, e2] at hti hto hst hso
  first | simp only [if_pos hneg] at hti hto hst hso hc | simp only [if_neg hneg] at hti hto hst hso hc
  try rw [show -sp = 0 - sp by omega] at hc
  have hq := tdiv_bd (so - st + sp - 1) sp
  obtain ⟨q, hq1⟩ : ∃ q, (so - st + sp - 1).tdiv sp = q := ⟨_, rfl⟩
  rw [hq1] at hc hq
  have hstx : 0 = st := by first | rfl | exact hst | omega
  have hsox : so = so := by first | rfl | exact hso | omega
  have hspx : 1 = sp := by first | rfl | exact hsp | omega
  have hq2 : (so - 0 + 1 - 1).tdiv 1 = q := by first | exact hq1 | (rw [← hq1]; congr 1 <;> omega)
  (refine q_H Try.func91 (fun F => ?_); simp only [q_z,q_y,Try.ntmps91,Try.results91])
  repeat' (first|(with_reducible first|apply q_a|apply q_b|apply q_c|apply q_d|apply q_e|apply q_f|apply q_g|apply q_h|apply q_i|apply q_j|apply q_k|apply q_m|apply q_n|apply q_o|apply q_p|refine q_l ?_)|((with_reducible first|refine q_q sb4_ok fun K hK=>?_|refine q_r sb4_ok fun K hK=>?_);simp (maxSteps:=2000000) only [go_sem,↓reduceIte,reduceCtorEq,Nat.reduceLeDiff,Nat.reduceLT,Nat.reduceBEq,Nat.reduceAdd,hF, hz, hz, hso, o0, o1, o2, hq2];(repeat1' with_reducible first|apply And.intro|(intro _;try exact q_v)|(refine hK _ ?_;clear hK K))<;>(try (clear hK K;exact q_u)))|(with_reducible refine q_s ?_;(first|apply q_J|apply q_K|apply q_L|apply q_M|apply q_N|apply q_O)<;>try (intro _;try exact q_v))|with_reducible refine q_t ?_)
  all_goals first | contradiction | omega | exact q_A (by rw [hc, ← hstx, ← hspx] <;> rfl)
set_option maxRecDepth 100000 in
set_option maxHeartbeats 3200000 in
theorem resolve_false_false_true_neg (s0 s1 s2 : Bool) (x0 x1 x2 : List Int) (n sp st so : Int) (l0 : x0.length ≤ 140737488355328) (l1 : x1.length ≤ 140737488355328) (l2 : x2.length ≤ 140737488355328) (b0 : InB 4294967296 x0) (b1 : InB 4294967296 x1) (b2 : InB 4294967296 x2)
    (hF : slF (prt s0 x0 false) (prt s1 x1 false) (prt s2 x2 true) true x2.length = 0) (hn : 0 ≤ n) (hn2 : n ≤ 4000) (hneg : sp < 0)
    (hsp : slStep true (sv 4294967296 s2 x2) = sp) (hst : slSta false (sv 4294967296 s0 x0) n sp = st) (hso : slSto false (sv 4294967296 s1 x1) n sp = so) :
    Ret Try.prog 91 false [.inr [.b s0, .ints .u32 x0, .b s1, .ints .u32 x1, .b s2, .ints .u32 x2, .b false, .b false, .b true], .inl (.i .i64 n)]
      (.t [.inl (.i .i64 st), .inl (.i .i64 sp), .inl (.i .i64 (slCnt st so sp)), .inr [.i .i64 0, .i .i64 0]]) := by
  obtain ⟨p0, p1, p2, pz⟩ := slF_ok hF
  have o0 := prt_ok p0
  have o1 := prt_ok p1
  have o2 := prt_ok p2
  have hz : sp ≠ 0 := by rw [← hsp]; exact step_ne fun hg => pos_len o2 b2 (pz hg)
  have hs := step_in true (sv 4294967296 s2 x2)
  rw [hsp] at hs
  have hti := sta_in (g := false) (z := sv 4294967296 s0 x0) (sp := sp) hn
  have hto := sto_in (g := false) (z := sv 4294967296 s1 x1) (sp := sp) hn
  have hlh := lo_hi (sp := sp) hn
  have hc := cnt_go (st := st) (so := so) hz
  rw [hst] at hti
  rw [hso] at hto
  unfold slSta at hst
  unfold slSto at hso
  unfold slStep at hsp
  simp only [Bool.false_eq_true, if_true, if_false] at hst hso hsp
  obtain ⟨e1, e2⟩ : slLo sp = (if sp < 0 then -1 else 0) ∧ slHi sp n = (if sp < 0 then n - 1 else n) := ⟨rfl, rfl⟩
  rw [e1, e2] at hti hto hst hso
  first | simp only [if_pos hneg] at hti hto hst hso hc | simp only [if_neg hneg] at hti hto hst hso hc
  try rw [show -sp = 0 - sp by omega] at hc
  have hq := tdiv_bd (st - so - sp - 1) (0 - sp)
  obtain ⟨q, hq1⟩ : ∃ q, (st - so - sp - 1).tdiv (0 - sp) = q := ⟨_, rfl⟩
  rw [hq1] at hc hq
  have hstx : (n - 1) = st := by first | rfl | exact hst | omega
  have hsox : (-1) = so := by first | rfl | exact hso | omega
  have hspx : sp = sp := by first | rfl | exact hsp | omega
  have hq2 : ((n - 1) - (-1) - sp - 1).tdiv (0 - sp) = q := by first | exact hq1 | (rw [← hq1]; congr 1 <;> omega)
  (refine q_H Try.func91 (fun F => ?_); simp only [q_z,q_y,Try.ntmps91,Try.results91])
  repeat' (first|(with_reducible first|apply q_a|apply q_b|apply q_c|apply q_d|apply q_e|apply q_f|apply q_g|apply q_h|apply q_i|apply q_j|apply q_k|apply q_m|apply q_n|apply q_o|apply q_p|refine q_l ?_)|((with_reducible first|refine q_q sb4_ok fun K hK=>?_|refine q_r sb4_ok fun K hK=>?_);simp (maxSteps:=2000000) only [go_sem,↓reduceIte,reduceCtorEq,Nat.reduceLeDiff,Nat.reduceLT,Nat.reduceBEq,Nat.reduceAdd,hF, hsp, hz, hz, o0, o1, o2, hq2];(repeat1' with_reducible first|apply And.intro|(intro _;try exact q_v)|(refine hK _ ?_;clear hK K))<;>(try (clear hK K;exact q_u)))|(with_reducible refine q_s ?_;(first|apply q_J|apply q_K|apply q_L|apply q_M|apply q_N|apply q_O)<;>try (intro _;try exact q_v))|with_reducible refine q_t ?_)
  all_goals first | contradiction | omega | exact q_A (by rw [hc, ← hstx, ← hspx] <;> rfl)
set_option maxRecDepth 100000 in
set_option maxHeartbeats 3200000 in
theorem resolve_false_false_true_pos (s0 s1 s2 : Bool) (x0 x1 x2 : List Int) (n sp st so : Int) (l0 : x0.length ≤ 140737488355328) (l1 : x1.length ≤ 140737488355328) (l2 : x2.length ≤ 140737488355328) (b0 : InB 4294967296 x0) (b1 : InB 4294967296 x1) (b2 : InB 4294967296 x2)
    (hF : slF (prt s0 x0 false) (prt s1 x1 false) (prt s2 x2 true) true x2.length = 0) (hn : 0 ≤ n) (hn2 : n ≤ 4000) (hneg : ¬ sp < 0)
    (hsp : slStep true (sv 4294967296 s2 x2) = sp) (hst : slSta false (sv 4294967296 s0 x0) n sp = st) (hso : slSto false (sv 4294967296 s1 x1) n sp = so) :
    Ret Try.prog 91 false [.inr [.b s0, .ints .u32 x0, .b s1, .ints .u32 x1, .b s2, .ints .u32 x2, .b false, .b false, .b true], .inl (.i .i64 n)]
      (.t [.inl (.i .i64 st), .inl (.i .i64 sp), .inl (.i .i64 (slCnt st so sp)), .inr [.i .i64 0, .i .i64 0]]) := by
  obtain ⟨p0, p1, p2, pz⟩ := slF_ok hF
  have o0 := prt_ok p0
  have o1 := prt_ok p1
  have o2 := prt_ok p2
  have hz : sp ≠ 0 := by rw [← hsp]; exact step_ne fun hg => pos_len o2 b2 (pz hg)
  have hs := step_in true (sv 4294967296 s2 x2)
  rw [hsp] at hs
  have hti := sta_in (g := false) (z := sv 4294967296 s0 x0) (sp := sp) hn
  have hto := sto_in (g := false) (z := sv 4294967296 s1 x1) (sp := sp) hn
  have hlh := lo_hi (sp := sp) hn
  have hc := cnt_go (st := st) (so := so) hz
  rw [hst] at hti
  rw [hso] at hto
  unfold slSta at hst
  unfold slSto at hso
  unfold slStep at hsp
  simp only [Bool.false_eq_true, if_true, if_false] at hst hso hsp
  obtain ⟨e1, e2⟩ : slLo sp = (if sp < 0 then -1 else 0) ∧ slHi sp n = (if sp < 0 then n - 1 else n) := ⟨rfl, rfl⟩
  rw [e1, e2] at hti hto hst hso
  first | simp only [if_pos hneg] at hti hto hst hso hc | simp only [if_neg hneg] at hti hto hst hso hc
  try rw [show -sp = 0 - sp by omega] at hc
  have hq := tdiv_bd (so - st + sp - 1) sp
  obtain ⟨q, hq1⟩ : ∃ q, (so - st + sp - 1).tdiv sp = q := ⟨_, rfl⟩
  rw [hq1] at hc hq
  have hstx : 0 = st := by first | rfl | exact hst | omega
  have hsox : n = so := by first | rfl | exact hso | omega
  have hspx : sp = sp := by first | rfl | exact hsp | omega
  have hq2 : (n - 0 + sp - 1).tdiv sp = q := by first | exact hq1 | (rw [← hq1]; congr 1 <;> omega)
  (refine q_H Try.func91 (fun F => ?_); simp only [q_z,q_y,Try.ntmps91,Try.results91])
  repeat' (first|(with_reducible first|apply q_a|apply q_b|apply q_c|apply q_d|apply q_e|apply q_f|apply q_g|apply q_h|apply q_i|apply q_j|apply q_k|apply q_m|apply q_n|apply q_o|apply q_p|refine q_l ?_)|((with_reducible first|refine q_q sb4_ok fun K hK=>?_|refine q_r sb4_ok fun K hK=>?_);simp (maxSteps:=2000000) only [go_sem,↓reduceIte,reduceCtorEq,Nat.reduceLeDiff,Nat.reduceLT,Nat.reduceBEq,Nat.reduceAdd,hF, hsp, hz, hz, o0, o1, o2, hq2];(repeat1' with_reducible first|apply And.intro|(intro _;try exact q_v)|(refine hK _ ?_;clear hK K))<;>(try (clear hK K;exact q_u)))|(with_reducible refine q_s ?_;(first|apply q_J|apply q_K|apply q_L|apply q_M|apply q_N|apply q_O)<;>try (intro _;try exact q_v))|with_reducible refine q_t ?_)
  all_goals first | contradiction | omega | exact q_A (by rw [hc, ← hstx, ← hspx] <;> rfl)
set_option maxRecDepth 100000 in
set_option maxHeartbeats 3200000 in
theorem resolve_false_false_false_pos (s0 s1 s2 : Bool) (x0 x1 x2 : List Int) (n sp st so : Int) (l0 : x0.length ≤ 140737488355328) (l1 : x1.length ≤ 140737488355328) (l2 : x2.length ≤ 140737488355328) (b0 : InB 4294967296 x0) (b1 : InB 4294967296 x1) (b2 : InB 4294967296 x2)
    (hF : slF (prt s0 x0 false) (prt s1 x1 false) (prt s2 x2 false) false x2.length = 0) (hn : 0 ≤ n) (hn2 : n ≤ 4000) (hneg : ¬ sp < 0)
    (hsp : slStep false (sv 4294967296 s2 x2) = sp) (hst : slSta false (sv 4294967296 s0 x0) n sp = st) (hso : slSto false (sv 4294967296 s1 x1) n sp = so) :
    Ret Try.prog 91 false [.inr [.b s0, .ints .u32 x0, .b s1, .ints .u32 x1, .b s2, .ints .u32 x2, .b false, .b false, .b false], .inl (.i .i64 n)]
      (.t [.inl (.i .i64 st), .inl (.i .i64 sp), .inl (.i .i64 (slCnt st so sp)), .inr [.i .i64 0, .i .i64 0]]) := by
  obtain ⟨p0, p1, p2, pz⟩ := slF_ok hF
  have o0 := prt_ok p0
  have o1 := prt_ok p1
  have o2 := prt_ok p2
  have hz : sp ≠ 0 := by rw [← hsp]; exact step_ne fun hg => pos_len o2 b2 (pz hg)
  have hs := step_in false (sv 4294967296 s2 x2)
  rw [hsp] at hs
  have hti := sta_in (g := false) (z := sv 4294967296 s0 x0) (sp := sp) hn
  have hto := sto_in (g := false) (z := sv 4294967296 s1 x1) (sp := sp) hn
  have hlh := lo_hi (sp := sp) hn
  have hc := cnt_go (st := st) (so := so) hz
  rw [hst] at hti
  rw [hso] at hto
  unfold slSta at hst
  unfold slSto at hso
  unfold slStep at hsp
  simp only [Bool.false_eq_true, if_true, if_false] at hst hso hsp
  obtain ⟨e1, e2⟩ : slLo sp = (if sp < 0 then -1 else 0) ∧ slHi sp n = (if sp < 0 then n - 1 else n) := ⟨rfl, rfl⟩
  rw [e1, e2] at hti hto hst hso
  first | simp only [if_pos hneg] at hti hto hst hso hc | simp only [if_neg hneg] at hti hto hst hso hc
  try rw [show -sp = 0 - sp by omega] at hc
  have hq := tdiv_bd (so - st + sp - 1) sp
  obtain ⟨q, hq1⟩ : ∃ q, (so - st + sp - 1).tdiv sp = q := ⟨_, rfl⟩
  rw [hq1] at hc hq
  have hstx : 0 = st := by first | rfl | exact hst | omega
  have hsox : n = so := by first | rfl | exact hso | omega
  have hspx : 1 = sp := by first | rfl | exact hsp | omega
  have hq2 : (n - 0 + 1 - 1).tdiv 1 = q := by first | exact hq1 | (rw [← hq1]; congr 1 <;> omega)
  (refine q_H Try.func91 (fun F => ?_); simp only [q_z,q_y,Try.ntmps91,Try.results91])
  repeat' (first|(with_reducible first|apply q_a|apply q_b|apply q_c|apply q_d|apply q_e|apply q_f|apply q_g|apply q_h|apply q_i|apply q_j|apply q_k|apply q_m|apply q_n|apply q_o|apply q_p|refine q_l ?_)|((with_reducible first|refine q_q sb4_ok fun K hK=>?_|refine q_r sb4_ok fun K hK=>?_);simp (maxSteps:=2000000) only [go_sem,↓reduceIte,reduceCtorEq,Nat.reduceLeDiff,Nat.reduceLT,Nat.reduceBEq,Nat.reduceAdd,hF, hz, hz, hz, o0, o1, o2, hq2];(repeat1' with_reducible first|apply And.intro|(intro _;try exact q_v)|(refine hK _ ?_;clear hK K))<;>(try (clear hK K;exact q_u)))|(with_reducible refine q_s ?_;(first|apply q_J|apply q_K|apply q_L|apply q_M|apply q_N|apply q_O)<;>try (intro _;try exact q_v))|with_reducible refine q_t ?_)
  all_goals first | contradiction | omega | exact q_A (by rw [hc, ← hstx, ← hspx] <;> rfl)
def rSp (s2 : Bool) (x2 : List Int) (g2 : Bool) : Int := slStep g2 (sv 4294967296 s2 x2)
def rSt (s0 : Bool) (x0 : List Int) (g0 : Bool) (n sp : Int) : Int := slSta g0 (sv 4294967296 s0 x0) n sp
def rSo (s1 : Bool) (x1 : List Int) (g1 : Bool) (n sp : Int) : Int := slSto g1 (sv 4294967296 s1 x1) n sp
theorem resolve_ok (s0 s1 s2 g0 g1 g2 : Bool) (x0 x1 x2 : List Int) (n : Int) (l0 : x0.length ≤ 140737488355328) (l1 : x1.length ≤ 140737488355328) (l2 : x2.length ≤ 140737488355328) (b0 : InB 4294967296 x0) (b1 : InB 4294967296 x1) (b2 : InB 4294967296 x2)
    (hF : slF (prt s0 x0 g0) (prt s1 x1 g1) (prt s2 x2 g2) g2 x2.length = 0) (hn : 0 ≤ n) (hn2 : n ≤ 4000) :
    Ret Try.prog 91 false [.inr [.b s0, .ints .u32 x0, .b s1, .ints .u32 x1, .b s2, .ints .u32 x2, .b g0, .b g1, .b g2], .inl (.i .i64 n)]
      (.t [.inl (.i .i64 (rSt s0 x0 g0 n (rSp s2 x2 g2))), .inl (.i .i64 (rSp s2 x2 g2)), .inl (.i .i64 (slCnt (rSt s0 x0 g0 n (rSp s2 x2 g2)) (rSo s1 x1 g1 n (rSp s2 x2 g2)) (rSp s2 x2 g2))), .inr [.i .i64 0, .i .i64 0]]) := by
  by_cases hneg : rSp s2 x2 g2 < 0
  · cases g2
    · exact absurd hneg (by unfold rSp slStep; simp)
    · cases g0 <;> cases g1
      · exact resolve_false_false_true_neg s0 s1 s2 x0 x1 x2 n _ _ _ l0 l1 l2 b0 b1 b2 hF hn hn2 hneg rfl rfl rfl
      · exact resolve_false_true_true_neg s0 s1 s2 x0 x1 x2 n _ _ _ l0 l1 l2 b0 b1 b2 hF hn hn2 hneg rfl rfl rfl
      · exact resolve_true_false_true_neg s0 s1 s2 x0 x1 x2 n _ _ _ l0 l1 l2 b0 b1 b2 hF hn hn2 hneg rfl rfl rfl
      · exact resolve_true_true_true_neg s0 s1 s2 x0 x1 x2 n _ _ _ l0 l1 l2 b0 b1 b2 hF hn hn2 hneg rfl rfl rfl
  · cases g0 <;> cases g1 <;> cases g2
    · exact resolve_false_false_false_pos s0 s1 s2 x0 x1 x2 n _ _ _ l0 l1 l2 b0 b1 b2 hF hn hn2 hneg rfl rfl rfl
    · exact resolve_false_false_true_pos s0 s1 s2 x0 x1 x2 n _ _ _ l0 l1 l2 b0 b1 b2 hF hn hn2 hneg rfl rfl rfl
    · exact resolve_false_true_false_pos s0 s1 s2 x0 x1 x2 n _ _ _ l0 l1 l2 b0 b1 b2 hF hn hn2 hneg rfl rfl rfl
    · exact resolve_false_true_true_pos s0 s1 s2 x0 x1 x2 n _ _ _ l0 l1 l2 b0 b1 b2 hF hn hn2 hneg rfl rfl rfl
    · exact resolve_true_false_false_pos s0 s1 s2 x0 x1 x2 n _ _ _ l0 l1 l2 b0 b1 b2 hF hn hn2 hneg rfl rfl rfl
    · exact resolve_true_false_true_pos s0 s1 s2 x0 x1 x2 n _ _ _ l0 l1 l2 b0 b1 b2 hF hn hn2 hneg rfl rfl rfl
    · exact resolve_true_true_false_pos s0 s1 s2 x0 x1 x2 n _ _ _ l0 l1 l2 b0 b1 b2 hF hn hn2 hneg rfl rfl rfl
    · exact resolve_true_true_true_pos s0 s1 s2 x0 x1 x2 n _ _ _ l0 l1 l2 b0 b1 b2 hF hn hn2 hneg rfl rfl rfl
def resCT : CT := mkCT [.inr [none, some (.ints .u32 []), none, some (.ints .u32 []), none, some (.ints .u32 []), none, none, none]] true fun l K => match l with
  | [.inr [.b s0, .ints .u32 x0, .b s1, .ints .u32 x1, .b s2, .ints .u32 x2, .b g0, .b g1, .b g2], .inl (.i .i64 n)] => ((x0.length ≤ 140737488355328 ∧ x1.length ≤ 140737488355328 ∧ x2.length ≤ 140737488355328) ∧ InB 4294967296 x0 ∧ InB 4294967296 x1 ∧ InB 4294967296 x2) ∧
      (slF (prt s0 x0 g0) (prt s1 x1 g1) (prt s2 x2 g2) g2 x2.length ≠ 0 → K (.t [.inl (.i .i64 0), .inl (.i .i64 0), .inl (.i .i64 0), .inr [.i .i64 (slF (prt s0 x0 g0) (prt s1 x1 g1) (prt s2 x2 g2) g2 x2.length), .i .i64 (-1)]])) ∧
      (slF (prt s0 x0 g0) (prt s1 x1 g1) (prt s2 x2 g2) g2 x2.length = 0 → ((n < 0 ∨ 4000 < n) → K (.t [.inl (.i .i64 0), .inl (.i .i64 0), .inl (.i .i64 0), .inr [.i .i64 4, .i .i64 (-2)]])) ∧
        (0 ≤ n ∧ n ≤ 4000 → K (.t [.inl (.i .i64 (rSt s0 x0 g0 n (rSp s2 x2 g2))), .inl (.i .i64 (rSp s2 x2 g2)), .inl (.i .i64 (slCnt (rSt s0 x0 g0 n (rSp s2 x2 g2)) (rSo s1 x1 g1 n (rSp s2 x2 g2)) (rSp s2 x2 g2))), .inr [.i .i64 0, .i .i64 0]])))
  | _ => False
def su8 : Cfg := addT 91 resCT su7
theorem su8_ok : TblOk Try.prog su8 := q_I su7_ok Try.func91 fun l K h => by
  split at h
  · rename_i s0 x0 s1 x1 s2 x2 g0 g1 g2 n
    obtain ⟨⟨⟨l0, l1, l2⟩, b0, b1, b2⟩, hbad, hok⟩ := h
    by_cases hF : slF (prt s0 x0 g0) (prt s1 x1 g1) (prt s2 x2 g2) g2 x2.length = 0
    · by_cases hn : n < 0 ∨ 4000 < n
      · exact ⟨_, (resolve_n s0 s1 s2 g0 g1 g2 x0 x1 x2 n l0 l1 l2 hF hn).plain rfl, (hok hF).1 hn⟩
      · exact ⟨_, (resolve_ok s0 s1 s2 g0 g1 g2 x0 x1 x2 n l0 l1 l2 b0 b1 b2 hF (by omega) (by omega)).plain rfl, (hok hF).2 (by omega)⟩
    · exact ⟨_, (resolve_bad s0 s1 s2 g0 g1 g2 x0 x1 x2 n l0 l1 l2 hF).plain rfl, hbad hF⟩
  · exact h.elim
attribute [go_sem] resCT
theorem r_facts {s0 s1 s2 g0 g1 g2 : Bool} {x0 x1 x2 : List Int} {n : Int} (b2 : InB 4294967296 x2) (hF : slF (prt s0 x0 g0) (prt s1 x1 g1) (prt s2 x2 g2) g2 x2.length = 0) (hn : 0 ≤ n) :
    rSp s2 x2 g2 ≠ 0 ∧ (-10000 ≤ rSp s2 x2 g2 ∧ rSp s2 x2 g2 ≤ 10000) ∧ (-1 ≤ rSt s0 x0 g0 n (rSp s2 x2 g2) ∧ rSt s0 x0 g0 n (rSp s2 x2 g2) ≤ n) ∧ (-1 ≤ rSo s1 x1 g1 n (rSp s2 x2 g2) ∧ rSo s1 x1 g1 n (rSp s2 x2 g2) ≤ n) ∧
      (∀ k : Nat, k < slCnt (rSt s0 x0 g0 n (rSp s2 x2 g2)) (rSo s1 x1 g1 n (rSp s2 x2 g2)) (rSp s2 x2 g2) → 0 ≤ rSt s0 x0 g0 n (rSp s2 x2 g2) + k * rSp s2 x2 g2 ∧ rSt s0 x0 g0 n (rSp s2 x2 g2) + k * rSp s2 x2 g2 < n) ∧
      (∀ m : Nat, n = m → slCnt (rSt s0 x0 g0 n (rSp s2 x2 g2)) (rSo s1 x1 g1 n (rSp s2 x2 g2)) (rSp s2 x2 g2) ≤ m) ∧ (rSp s2 x2 g2 = 1 → 0 ≤ rSt s0 x0 g0 n (rSp s2 x2 g2)) := by
  obtain ⟨p0, p1, p2, pz⟩ := slF_ok hF
  have hz : rSp s2 x2 g2 ≠ 0 := step_ne fun hg => pos_len (prt_ok p2) b2 (pz hg)
  have h1 := sta_in (g := g0) (z := sv 4294967296 s0 x0) (sp := rSp s2 x2 g2) hn
  have h2 := sto_in (g := g1) (z := sv 4294967296 s1 x1) (sp := rSp s2 x2 g2) hn
  have h3 := lo_hi (sp := rSp s2 x2 g2) hn
  refine ⟨hz, step_in _ _, ?_, ?_, fun k hk => pos_in hn hz k hk, fun m hm => ?_, fun h => ?_⟩
  · show -1 ≤ slSta _ _ _ _ ∧ slSta _ _ _ _ ≤ _
    omega
  · show -1 ≤ slSto _ _ _ _ ∧ slSto _ _ _ _ ≤ _
    omega
  · subst hm; exact cnt_le hz
  · show 0 ≤ slSta _ _ _ _
    omega
end Go.Proofs.Ytlefdhkjbbdijaa
