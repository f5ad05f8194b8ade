import Derived.Test.YtneecniebhhhlaaH27
import Derived.Test.YtneecniebhhhlaaH29
namespace Go.Proofs.Ytneecniebhhhlaa
set_option linter.unusedSimpArgs false
set_option linter.unusedVariables false
open Go.Abs Go.Proofs.NatL

def rp1 : Cfg := listT [(138, check1CT), (149, (rgCT RB (fun S T D => .g (gG (plS S T D) (plT S T D) (plD S T D)))))] [28]
theorem rp1_ok : TblOk Try.prog rp1 := listE_ok (by simp only [List.mem_singleton, forall_eq]; exact flt) ⟨⟨rd1, rd1_ok, rfl⟩, ⟨rz4, rz4_ok, rfl⟩, trivial⟩
attribute [go_sem] rp1
set_option maxHeartbeats 1600000 in
theorem Plain_ok (S T D : Int) (h : RV S T D) : Ret Try.prog 85 false [.inr (gG S T D)] (.t [.inr (gG (plS S T D) (plT S T D) (plD S T D)), .inr [.i .i64 0, .i .i64 0]]) := by
  have hv := (vR_g S T D).2 h
  have hb := h.rb
  obtain ⟨f1, f2, f3⟩ := rv_fb h
  have l1 := lb_of f1
  have l2 := lb_of f2
  have l3 := lb_of f3
  simp only [gG]
  (refine q_H Try.func85 (fun F => ?_); simp only [q_z,q_y,Try.ntmps85,Try.results85])
  repeat' (first|(with_reducible first|apply q_a|apply q_b|apply q_c|apply q_d|apply q_e|apply q_f|apply q_g|apply q_h|apply q_i|apply q_j|apply q_k|apply q_m|apply q_n|apply q_o|apply q_p|refine q_l ?_)|((with_reducible first|refine q_q rp1_ok fun K hK=>?_|refine q_r rp1_ok fun K hK=>?_);simp (maxSteps:=2000000) only [go_sem,↓reduceIte,reduceCtorEq,Nat.reduceLeDiff,Nat.reduceLT,Nat.reduceBEq,Nat.reduceAdd,hv];(repeat1' with_reducible first|apply And.intro|(intro _;try exact q_v)|(refine hK _ ?_;clear hK K))<;>(try (clear hK K;exact q_u)))|(with_reducible refine q_s ?_;(first|apply q_J|apply q_K|apply q_L|apply q_M|apply q_N|apply q_O)<;>try (intro _;try exact q_v))|with_reducible refine q_t ?_)
  all_goals first | contradiction | omega | exact q_A rfl
theorem Plain_bad (s t d : Bool) (xs ys zs : List Int) (h1 : xs.length ≤ 140737488355328) (h2 : ys.length ≤ 140737488355328) (h3 : zs.length ≤ 140737488355328) (hv : vR s t d xs ys zs = false) :
    Ret Try.prog 85 false [.inr [.b s, .ints .u32 xs, .b t, .ints .u32 ys, .b d, .ints .u32 zs]] (.t [.inr [.b false, .ints .u32 [], .b false, .ints .u32 [], .b false, .ints .u32 []], .inr [.i .i64 6, .i .i64 (-1)]]) := by
  (refine q_H Try.func85 (fun F => ?_); simp only [q_z,q_y,Try.ntmps85,Try.results85])
  repeat' (first|(with_reducible first|apply q_a|apply q_b|apply q_c|apply q_d|apply q_e|apply q_f|apply q_g|apply q_h|apply q_i|apply q_j|apply q_k|apply q_m|apply q_n|apply q_o|apply q_p|refine q_l ?_)|((with_reducible first|refine q_q rp1_ok fun K hK=>?_|refine q_r rp1_ok fun K hK=>?_);simp (maxSteps:=2000000) only [go_sem,↓reduceIte,reduceCtorEq,Nat.reduceLeDiff,Nat.reduceLT,Nat.reduceBEq,Nat.reduceAdd,hv];(repeat1' with_reducible first|apply And.intro|(intro _;try exact q_v)|(refine hK _ ?_;clear hK K))<;>(try (clear hK K;exact q_u)))|(with_reducible refine q_s ?_;(first|apply q_J|apply q_K|apply q_L|apply q_M|apply q_N|apply q_O)<;>try (intro _;try exact q_v))|with_reducible refine q_t ?_)
  all_goals first | contradiction | omega | exact q_B [nG, .inr [none, none]] rfl rfl
def gdPlain (S T D : Int) (K : AV → Prop) : Prop := K (.t [.inr (gG (plS S T D) (plT S T D) (plD S T D)), .inr [.i .i64 0, .i .i64 0]])
def rp2 : Cfg := addT 85 (rTot gdPlain (.t [.inr [.b false, .ints .u32 [], .b false, .ints .u32 [], .b false, .ints .u32 []], .inr [.i .i64 6, .i .i64 (-1)]])) rz6
theorem rp2_ok : TblOk Try.prog rp2 := q_I rz6_ok Try.func85 fun l K h =>
  rTot_tr (good := gdPlain) (bad := (.t [.inr [.b false, .ints .u32 [], .b false, .ints .u32 [], .b false, .ints .u32 []], .inr [.i .i64 6, .i .i64 (-1)]])) (fun S T D hv K h => ⟨_, Plain_ok S T D hv, h⟩) (fun s t d xs ys zs h1 h2 h3 hv => Plain_bad s t d xs ys zs h1 h2 h3 hv) l K h
attribute [go_sem] gdPlain
def rp3 : Cfg := listT [(138, check2CT), (140, (rgCT RB (fun S T D => oneI (rLen S T D)))), (139, zeroRCT), (143, (rg2CT (fun _ _ => True) lessR)), (146, (rg2CT (fun a b => FB (a - b)) sub_R)), (155, (rgICT pElem (fun S _ D u => oneI (S + D * u)))), (28, iOfCT)] [28]
theorem rp3_ok : TblOk Try.prog rp3 := listE_ok (by simp only [List.mem_singleton, forall_eq]; exact flt) ⟨⟨rz5, rz5_ok, rfl⟩, ⟨rc7, rc7_ok, rfl⟩, ⟨rc7, rc7_ok, rfl⟩, ⟨rc7, rc7_ok, rfl⟩, ⟨rc7, rc7_ok, rfl⟩, ⟨rc7, rc7_ok, rfl⟩, ⟨iu1, iu1_ok, rfl⟩, trivial⟩
attribute [go_sem] rp3
def sameRg (S T D S' T' D' : Int) : Bool := decide (rLen S T D = rLen S' T' D' ∧ (rLen S T D = 0 ∨ S = S' ∧ S + D * (rLen S T D - 1) = S' + D' * (rLen S T D - 1)))
set_option maxRecDepth 100000 in
set_option maxHeartbeats 6400000 in
theorem Same_ok (S T D S' T' D' : Int) (h : RV S T D) (h' : RV S' T' D') : Ret Try.prog 87 false [.inr (gG S T D), .inr (gG S' T' D')] (.t [.inl (.b (sameRg S T D S' T' D')), .inr [.i .i64 0, .i .i64 0]]) := by
  have hv := (vR_g S T D).2 h
  have hb := h.rb
  obtain ⟨f1, f2, f3⟩ := rv_fb h
  have l1 := lb_of f1
  have l2 := lb_of f2
  have l3 := lb_of f3
  have hv' := (vR_g S' T' D').2 h'
  have hb' := h'.rb
  obtain ⟨f1', f2', f3'⟩ := rv_fb h'
  have l1' := lb_of f1'
  have l2' := lb_of f2'
  have l3' := lb_of f3'
  obtain ⟨n1, n2, n3⟩ := rb_len hb
  obtain ⟨n1', n2', n3'⟩ := rb_len hb'
  have he := fun (k : Int) => elem_in (S := S) (T := T) (D := D) (k := k) h.1
  have he' := fun (k : Int) => elem_in (S := S') (T := T') (D := D') (k := k) h'.1
  have hf := fun (k : Int) => elem_fb (k := k) h
  have hf' := fun (k : Int) => elem_fb (k := k) h'
  obtain ⟨w0, w1, w2, w3⟩ := h
  obtain ⟨w0', w1', w2', w3'⟩ := h'
  have hw := W80_ge
  have a4 := FB_one
  have z1 := zero_len' (S - S')
  unfold sameRg
  generalize hN : rLen S T D = n at *
  generalize hM : rLen S' T' D' = m at *
  have z2 := zero_len' n
  by_cases hnm : n = m
  · subst hnm
    by_cases hz : n = 0
    · simp only [gG]
      (refine q_H Try.func87 (fun F => ?_); simp only [q_z,q_y,Try.ntmps87,Try.results87])
      repeat' (first|(with_reducible first|apply q_a|apply q_b|apply q_c|apply q_d|apply q_e|apply q_f|apply q_g|apply q_h|apply q_i|apply q_j|apply q_k|apply q_m|apply q_n|apply q_o|apply q_p|refine q_l ?_)|((with_reducible first|refine q_q rp3_ok fun K hK=>?_|refine q_r rp3_ok fun K hK=>?_);simp (maxSteps:=2000000) only [go_sem,↓reduceIte,reduceCtorEq,Nat.reduceLeDiff,Nat.reduceLT,Nat.reduceBEq,Nat.reduceAdd,hv, hv', hN, hM, z2];(repeat1' with_reducible first|apply And.intro|(intro _;try exact q_v)|(refine hK _ ?_;clear hK K))<;>(try (clear hK K;exact q_u)))|(with_reducible refine q_s ?_;(first|apply q_J|apply q_K|apply q_L|apply q_M|apply q_N|apply q_O)<;>try (intro _;try exact q_v))|with_reducible refine q_t ?_)
      all_goals first | contradiction | omega | exact q_A (congrArg (fun b => AV.t [.inl (C.b b), .inr [C.i IntKind.i64 0, C.i IntKind.i64 0]]) (decide_eq_true ⟨trivial, .inl hz⟩).symm) | skip
    · obtain ⟨g1, g2, g3⟩ := hf (n - 1) (by omega) (by omega)
      obtain ⟨g1', g2', g3'⟩ := hf' (n - 1) (by omega) (by omega)
      have r1 := he (n - 1) (by omega) (by omega)
      have r1' := he' (n - 1) (by omega) (by omega)
      have q1 : FB (S - S') := FB_w (by omega)
      have q2 : FB ((S + D * (n - 1)) - (S' + D' * (n - 1))) := FB_w (by omega)
      have z3 := zero_len' ((S + D * (n - 1)) - (S' + D' * (n - 1)))
      simp only [gG]
      (refine q_H Try.func87 (fun F => ?_); simp only [q_z,q_y,Try.ntmps87,Try.results87])
      repeat' (first|(with_reducible first|apply q_a|apply q_b|apply q_c|apply q_d|apply q_e|apply q_f|apply q_g|apply q_h|apply q_i|apply q_j|apply q_k|apply q_m|apply q_n|apply q_o|apply q_p|refine q_l ?_)|((with_reducible first|refine q_q rp3_ok fun K hK=>?_|refine q_r rp3_ok fun K hK=>?_);simp (maxSteps:=2000000) only [go_sem,↓reduceIte,reduceCtorEq,Nat.reduceLeDiff,Nat.reduceLT,Nat.reduceBEq,Nat.reduceAdd,hv, hv', hN, hM, z1, z2, z3];(repeat1' with_reducible first|apply And.intro|(intro _;try exact q_v)|(refine hK _ ?_;clear hK K))<;>(try (clear hK K;exact q_u)))|(with_reducible refine q_s ?_;(first|apply q_J|apply q_K|apply q_L|apply q_M|apply q_N|apply q_O)<;>try (intro _;try exact q_v))|with_reducible refine q_t ?_)
      all_goals first | contradiction | omega | exact ⟨f1, f3, g1, g2, g3⟩ | exact ⟨f1', f3', g1', g2', g3'⟩ | exact q_A (congrArg (fun b => AV.t [.inl (C.b b), .inr [C.i IntKind.i64 0, C.i IntKind.i64 0]]) (decide_eq_decide.2 (by rw [true_and]; omega))) | exact q_A (congrArg (fun b => AV.t [.inl (C.b b), .inr [C.i IntKind.i64 0, C.i IntKind.i64 0]]) (decide_eq_false (by omega)).symm) | skip
  · simp only [gG]
    (refine q_H Try.func87 (fun F => ?_); simp only [q_z,q_y,Try.ntmps87,Try.results87])
    repeat' (first|(with_reducible first|apply q_a|apply q_b|apply q_c|apply q_d|apply q_e|apply q_f|apply q_g|apply q_h|apply q_i|apply q_j|apply q_k|apply q_m|apply q_n|apply q_o|apply q_p|refine q_l ?_)|((with_reducible first|refine q_q rp3_ok fun K hK=>?_|refine q_r rp3_ok fun K hK=>?_);simp (maxSteps:=2000000) only [go_sem,↓reduceIte,reduceCtorEq,Nat.reduceLeDiff,Nat.reduceLT,Nat.reduceBEq,Nat.reduceAdd,hv, hv', hN, hM];(repeat1' with_reducible first|apply And.intro|(intro _;try exact q_v)|(refine hK _ ?_;clear hK K))<;>(try (clear hK K;exact q_u)))|(with_reducible refine q_s ?_;(first|apply q_J|apply q_K|apply q_L|apply q_M|apply q_N|apply q_O)<;>try (intro _;try exact q_v))|with_reducible refine q_t ?_)
    all_goals first | contradiction | omega | exact q_A (congrArg (fun b => AV.t [.inl (C.b b), .inr [C.i IntKind.i64 0, C.i IntKind.i64 0]]) (decide_eq_false (by omega)).symm) | skip
end Go.Proofs.Ytneecniebhhhlaa

namespace Go.Proofs.Ytneecniebhhhlaa
set_option linter.unusedSimpArgs false
set_option linter.unusedVariables false
open Go.Abs Go.Proofs.NatL

set_option maxHeartbeats 1600000 in
theorem Same_bad1 (s t d s' t' d' : Bool) (xs ys zs xs' ys' zs' : List Int) (h1 : xs.length ≤ 140737488355328) (h2 : ys.length ≤ 140737488355328) (h3 : zs.length ≤ 140737488355328) (h4 : xs'.length ≤ 140737488355328) (h5 : ys'.length ≤ 140737488355328) (h6 : zs'.length ≤ 140737488355328) (hv : vR s t d xs ys zs = false) :
    Ret Try.prog 87 false [.inr [.b s, .ints .u32 xs, .b t, .ints .u32 ys, .b d, .ints .u32 zs], .inr [.b s', .ints .u32 xs', .b t', .ints .u32 ys', .b d', .ints .u32 zs']] (.t [.inl (.b false), .inr [.i .i64 6, .i .i64 (-1)]]) := by
  (refine q_H Try.func87 (fun F => ?_); simp only [q_z,q_y,Try.ntmps87,Try.results87])
  repeat' (first|(with_reducible first|apply q_a|apply q_b|apply q_c|apply q_d|apply q_e|apply q_f|apply q_g|apply q_h|apply q_i|apply q_j|apply q_k|apply q_m|apply q_n|apply q_o|apply q_p|refine q_l ?_)|((with_reducible first|refine q_q rp3_ok fun K hK=>?_|refine q_r rp3_ok fun K hK=>?_);simp (maxSteps:=2000000) only [go_sem,↓reduceIte,reduceCtorEq,Nat.reduceLeDiff,Nat.reduceLT,Nat.reduceBEq,Nat.reduceAdd,hv];(repeat1' with_reducible first|apply And.intro|(intro _;try exact q_v)|(refine hK _ ?_;clear hK K))<;>(try (clear hK K;exact q_u)))|(with_reducible refine q_s ?_;(first|apply q_J|apply q_K|apply q_L|apply q_M|apply q_N|apply q_O)<;>try (intro _;try exact q_v))|with_reducible refine q_t ?_)
  all_goals first | contradiction | omega | exact q_A rfl
set_option maxHeartbeats 1600000 in
theorem Same_bad2 (s t d s' t' d' : Bool) (xs ys zs xs' ys' zs' : List Int) (h1 : xs.length ≤ 140737488355328) (h2 : ys.length ≤ 140737488355328) (h3 : zs.length ≤ 140737488355328) (h4 : xs'.length ≤ 140737488355328) (h5 : ys'.length ≤ 140737488355328) (h6 : zs'.length ≤ 140737488355328) (hv : vR s t d xs ys zs = true) (hw : vR s' t' d' xs' ys' zs' = false) :
    Ret Try.prog 87 false [.inr [.b s, .ints .u32 xs, .b t, .ints .u32 ys, .b d, .ints .u32 zs], .inr [.b s', .ints .u32 xs', .b t', .ints .u32 ys', .b d', .ints .u32 zs']] (.t [.inl (.b false), .inr [.i .i64 6, .i .i64 (-2)]]) := by
  (refine q_H Try.func87 (fun F => ?_); simp only [q_z,q_y,Try.ntmps87,Try.results87])
  repeat' (first|(with_reducible first|apply q_a|apply q_b|apply q_c|apply q_d|apply q_e|apply q_f|apply q_g|apply q_h|apply q_i|apply q_j|apply q_k|apply q_m|apply q_n|apply q_o|apply q_p|refine q_l ?_)|((with_reducible first|refine q_q rp3_ok fun K hK=>?_|refine q_r rp3_ok fun K hK=>?_);simp (maxSteps:=2000000) only [go_sem,↓reduceIte,reduceCtorEq,Nat.reduceLeDiff,Nat.reduceLT,Nat.reduceBEq,Nat.reduceAdd,hv, hw];(repeat1' with_reducible first|apply And.intro|(intro _;try exact q_v)|(refine hK _ ?_;clear hK K))<;>(try (clear hK K;exact q_u)))|(with_reducible refine q_s ?_;(first|apply q_J|apply q_K|apply q_L|apply q_M|apply q_N|apply q_O)<;>try (intro _;try exact q_v))|with_reducible refine q_t ?_)
  all_goals first | contradiction | omega | exact q_A rfl
def sameRgCT : CT := mkCT [nG, nG] false fun l K => match l with
  | [.inr [.b s, .ints .u32 xs, .b t, .ints .u32 ys, .b d, .ints .u32 zs], .inr [.b s', .ints .u32 xs', .b t', .ints .u32 ys', .b d', .ints .u32 zs']] =>
      (((xs.length ≤ 140737488355328 ∧ ys.length ≤ 140737488355328 ∧ zs.length ≤ 140737488355328) ∧ xs'.length ≤ 140737488355328 ∧ ys'.length ≤ 140737488355328 ∧ zs'.length ≤ 140737488355328) ∧ (InB 4294967296 xs ∧ InB 4294967296 ys ∧ InB 4294967296 zs) ∧ InB 4294967296 xs' ∧ InB 4294967296 ys' ∧ InB 4294967296 zs') ∧
      (vR s t d xs ys zs = true → (vR s' t' d' xs' ys' zs' = true → K (.t [.inl (.b (sameRg (sv 4294967296 s xs) (sv 4294967296 t ys) (sv 4294967296 d zs) (sv 4294967296 s' xs') (sv 4294967296 t' ys') (sv 4294967296 d' zs'))), .inr [.i .i64 0, .i .i64 0]])) ∧
        (vR s' t' d' xs' ys' zs' = false → K (.t [.inl (.b false), .inr [.i .i64 6, .i .i64 (-2)]]))) ∧
      (vR s t d xs ys zs = false → K (.t [.inl (.b false), .inr [.i .i64 6, .i .i64 (-1)]]))
  | _ => False
def rp4 : Cfg := addT 87 sameRgCT rp2
theorem rp4_ok : TblOk Try.prog rp4 := q_I rp2_ok Try.func87 fun l K h => by
  split at h
  · rename_i s xs t ys d zs s' xs' t' ys' d' zs'
    obtain ⟨⟨⟨⟨h1, h2, h3⟩, h4, h5, h6⟩, ⟨b1, b2, b3⟩, b4, b5, b6⟩, hok, hbad⟩ := h
    cases hv : vR s t d xs ys zs
    · exact ⟨_, Same_bad1 s t d s' t' d' xs ys zs xs' ys' zs' h1 h2 h3 h4 h5 h6 hv, hbad hv⟩
    · have hok := hok hv
      cases hw : vR s' t' d' xs' ys' zs'
      · exact ⟨_, Same_bad2 s t d s' t' d' xs ys zs xs' ys' zs' h1 h2 h3 h4 h5 h6 hv hw, hok.2 hw⟩
      · refine ⟨_, ?_, hok.1 hw⟩
        obtain ⟨n1, n2, n3, g⟩ := vR_ok hv b1 b2 b3
        obtain ⟨m1, m2, m3, g'⟩ := vR_ok hw b4 b5 b6
        rw [gG_nrm n1 n2 n3, gG_nrm m1 m2 m3]
        exact Same_ok _ _ _ _ _ _ g g'
  · exact h.elim
attribute [go_sem] sameRgCT
end Go.Proofs.Ytneecniebhhhlaa

namespace Go.Proofs.Ytneecniebhhhlaa
set_option linter.unusedSimpArgs false
set_option linter.unusedVariables false
open Go.Abs Go.Proofs.NatL

def laR (S T D : Int) : Int := S + D * (rLen S T D - 1)
theorem sgR_pl {S T D : Int} (hz : rLen S T D ≠ 0) : sgR (plD S T D) = sgR D := by
  unfold plD
  rw [if_neg hz]
  split
  · rfl
  · unfold sgR
    split <;> simp
theorem la_facts {S T D : Int} (h : RV S T D) (hz : rLen S T D ≠ 0) : (laR S T D).natAbs < W40 ∧ (D < 0 → laR S T D ≤ S) ∧ (0 < D → S ≤ laR S T D) := by
  obtain ⟨h0, h1, h2, h3⟩ := h
  have hn := rLen_nonneg S T D h0
  have hi := (rLen_iff (S := S) (T := T) h0 (rLen S T D - 1) (by omega)).1 (by omega)
  have p1 : 0 < D → 0 ≤ D * (rLen S T D - 1) := fun hd => Int.mul_nonneg (by omega) (by omega)
  have p2 : D < 0 → D * (rLen S T D - 1) ≤ 0 := fun hd => Int.mul_nonpos_of_nonpos_of_nonneg (by omega) (by omega)
  unfold laR
  generalize D * (rLen S T D - 1) = p at *
  rcases Int.lt_or_gt_of_ne h0 with hd | hd
  · have := p2 hd
    exact ⟨by omega, fun _ => by omega, fun _ => by omega⟩
  · have := p1 hd
    exact ⟨by omega, fun _ => by omega, fun _ => by omega⟩
theorem pl_facts {S T D : Int} (h : RV S T D) (hz : rLen S T D ≠ 0) : RB (plS S T D) (plT S T D) (plD S T D) ∧ 0 < rLen (plS S T D) (plT S T D) (plD S T D) ∧ plD S T D ≠ 0 ∧ (plD S T D).natAbs < W40 := by
  obtain ⟨g1, g2, g3⟩ := la_facts h hz
  obtain ⟨h0, h1, h2, h3⟩ := h
  have hw := W80_ge
  have hw' := W40_pos
  have e1 : plS S T D = S := if_neg hz
  have e2 : plT S T D = laR S T D + sgR D := if_neg hz
  have e3 : plD S T D = if 1 < rLen S T D then D else sgR D := if_neg hz
  have es : sgR D = if D < 0 then -1 else 1 := rfl
  have hd : plD S T D ≠ 0 ∧ (plD S T D).natAbs < W40 ∧ (D < 0 ↔ plD S T D < 0) := by
    rw [e3, es]
    by_cases hc : 1 < rLen S T D
    · rw [if_pos hc]
      exact ⟨h0, h3, Iff.rfl⟩
    · rw [if_neg hc]
      split <;> omega
  obtain ⟨d1, d2, d3⟩ := hd
  refine ⟨⟨d1, by rw [e1]; omega, by rw [e2, es]; split <;> omega, by omega⟩, ?_, d1, d2⟩
  refine (rLen_iff d1 0 (by omega)).2 ?_
  rw [Int.mul_zero, Int.add_zero, e1, e2, es]
  split <;> omega
def rp5 : Cfg := listT [(138, check1CT), (149, (rgCT RB (fun S T D => .g (gG (plS S T D) (plT S T D) (plD S T D))))), (140, (rgCT RB (fun S T D => oneI (rLen S T D)))), (139, zeroRCT), (154, (rgCT (fun _ _ _ => True) (fun _ _ D => oneI (sgR D)))), (146, (rg2CT (fun a b => FB (a - b)) sub_R)), (148, wholeCT)] [28]
theorem rp5_ok : TblOk Try.prog rp5 := listE_ok (by simp only [List.mem_singleton, forall_eq]; exact flt) ⟨⟨rd1, rd1_ok, rfl⟩, ⟨rz4, rz4_ok, rfl⟩, ⟨rc7, rc7_ok, rfl⟩, ⟨rc7, rc7_ok, rfl⟩, ⟨rc7, rc7_ok, rfl⟩, ⟨rc7, rc7_ok, rfl⟩, ⟨rz6, rz6_ok, rfl⟩, trivial⟩
attribute [go_sem] rp5
set_option maxRecDepth 100000 in
set_option maxHeartbeats 6400000 in
theorem Turn_none (S T D : Int) (h : RV S T D) (hz : rLen S T D = 0) : Ret Try.prog 86 false [.inr (gG S T D)] (.t [.inr (gG 0 0 1), .inr [.i .i64 0, .i .i64 0]]) := by
  have hv := (vR_g S T D).2 h
  have hb := h.rb
  obtain ⟨f1, f2, f3⟩ := rv_fb h
  have l1 := lb_of f1
  have l2 := lb_of f2
  have l3 := lb_of f3
  have e1 : plS S T D = 0 := if_pos hz
  have e2 : plT S T D = 0 := if_pos hz
  have e3 : plD S T D = 1 := if_pos hz
  have r0 : rLen 0 0 1 = 0 := by decide
  have rb0 : RB 0 0 1 := by have := W80_ge; exact ⟨by omega, by omega, by omega, by omega⟩
  simp only [gG]
  (refine q_H Try.func86 (fun F => ?_); simp only [q_z,q_y,Try.ntmps86,Try.results86])
  repeat' (first|(with_reducible first|apply q_a|apply q_b|apply q_c|apply q_d|apply q_e|apply q_f|apply q_g|apply q_h|apply q_i|apply q_j|apply q_k|apply q_m|apply q_n|apply q_o|apply q_p|refine q_l ?_)|((with_reducible first|refine q_q rp5_ok fun K hK=>?_|refine q_r rp5_ok fun K hK=>?_);simp (maxSteps:=2000000) only [go_sem,↓reduceIte,reduceCtorEq,Nat.reduceLeDiff,Nat.reduceLT,Nat.reduceBEq,Nat.reduceAdd,hv, e1, e2, e3, r0];(repeat1' with_reducible first|apply And.intro|(intro _;try exact q_v)|(refine hK _ ?_;clear hK K))<;>(try (clear hK K;exact q_u)))|(with_reducible refine q_s ?_;(first|apply q_J|apply q_K|apply q_L|apply q_M|apply q_N|apply q_O)<;>try (intro _;try exact q_v))|with_reducible refine q_t ?_)
  all_goals first | contradiction | omega | exact rb0 | exact q_A rfl | skip
set_option maxRecDepth 100000 in
set_option maxHeartbeats 6400000 in
theorem Turn_some (S T D : Int) (h : RV S T D) (hz : rLen S T D ≠ 0) : Ret Try.prog 86 false [.inr (gG S T D)]
    (if (S - sgR D).natAbs < W40 then .t [.inr (gG (laR S T D) (S - sgR D) (0 - plD S T D)), .inr [.i .i64 0, .i .i64 0]] else .t [.inr [.b false, .ints .u32 [], .b false, .ints .u32 [], .b false, .ints .u32 []], .inr [.i .i64 14, .i .i64 (-1)]]) := by
  have hv := (vR_g S T D).2 h
  have hb := h.rb
  obtain ⟨f1, f2, f3⟩ := rv_fb h
  have l1 := lb_of f1
  have l2 := lb_of f2
  have l3 := lb_of f3
  obtain ⟨rp, hp, d1, d2⟩ := pl_facts h hz
  have hs := sgR_pl hz
  obtain ⟨g1, g2, g3⟩ := la_facts h hz
  have e1 : plS S T D = S := if_neg hz
  have e2 : plT S T D - sgR D = laR S T D := by
    rw [show plT S T D = laR S T D + sgR D from if_neg hz]
    omega
  have z1 := zero_len' (rLen S (plT S T D) (plD S T D))
  have hw := W80_ge
  have hw' := W40_pos
  have hl : plT S T D = laR S T D + sgR D := if_neg hz
  have a4 : FB (plT S T D) := FB_w (by rw [hl]; rcases sgR_cases D with e | e <;> rw [e] <;> omega)
  have a5 : FB (sgR D) := by rcases sgR_cases D with e | e <;> rw [e]; exact FB_one; exact FB_neg_one
  have a6 := FB_zero
  have a7 : FB (plD S T D) := FB_w (by omega)
  have a1 : FB (laR S T D) := FB_w (by omega)
  have a2 : FB (S - sgR D) := FB_w (by have := h.2.1; rcases sgR_cases D with e | e <;> rw [e] <;> omega)
  have a3 : FB (0 - plD S T D) := FB_w (by omega)
  have hwh := vR_g (laR S T D) (S - sgR D) (0 - plD S T D)
  have m1 := lb_of a1
  have m2 := lb_of a2
  have m3 := lb_of a3
  rw [e1] at rp hp
  obtain ⟨w0, w1, w2, w3⟩ := h
  split
  · rename_i hi
    have hwh := hwh.2 ⟨by omega, g1, hi, by omega⟩
    simp only [gG]
    (refine q_H Try.func86 (fun F => ?_); simp only [q_z,q_y,Try.ntmps86,Try.results86])
    repeat' (first|(with_reducible first|apply q_a|apply q_b|apply q_c|apply q_d|apply q_e|apply q_f|apply q_g|apply q_h|apply q_i|apply q_j|apply q_k|apply q_m|apply q_n|apply q_o|apply q_p|refine q_l ?_)|((with_reducible first|refine q_q rp5_ok fun K hK=>?_|refine q_r rp5_ok fun K hK=>?_);simp (maxSteps:=2000000) only [go_sem,↓reduceIte,reduceCtorEq,Nat.reduceLeDiff,Nat.reduceLT,Nat.reduceBEq,Nat.reduceAdd,hv, e1, hs, e2, hwh, z1, sv_nil];(repeat1' with_reducible first|apply And.intro|(intro _;try exact q_v)|(refine hK _ ?_;clear hK K))<;>(try (clear hK K;exact q_u)))|(with_reducible refine q_s ?_;(first|apply q_J|apply q_K|apply q_L|apply q_M|apply q_N|apply q_O)<;>try (intro _;try exact q_v))|with_reducible refine q_t ?_)
    all_goals first | contradiction | omega | exact rp | assumption | exact q_A rfl | skip
  · rename_i hi
    have hwh := Bool.eq_false_iff.2 (fun hh => hi (hwh.1 hh).2.2.1)
    simp only [gG]
    (refine q_H Try.func86 (fun F => ?_); simp only [q_z,q_y,Try.ntmps86,Try.results86])
    repeat' (first|(with_reducible first|apply q_a|apply q_b|apply q_c|apply q_d|apply q_e|apply q_f|apply q_g|apply q_h|apply q_i|apply q_j|apply q_k|apply q_m|apply q_n|apply q_o|apply q_p|refine q_l ?_)|((with_reducible first|refine q_q rp5_ok fun K hK=>?_|refine q_r rp5_ok fun K hK=>?_);simp (maxSteps:=2000000) only [go_sem,↓reduceIte,reduceCtorEq,Nat.reduceLeDiff,Nat.reduceLT,Nat.reduceBEq,Nat.reduceAdd,hv, e1, hs, e2, hwh, z1, sv_nil];(repeat1' with_reducible first|apply And.intro|(intro _;try exact q_v)|(refine hK _ ?_;clear hK K))<;>(try (clear hK K;exact q_u)))|(with_reducible refine q_s ?_;(first|apply q_J|apply q_K|apply q_L|apply q_M|apply q_N|apply q_O)<;>try (intro _;try exact q_v))|with_reducible refine q_t ?_)
    all_goals first | contradiction | omega | exact rp | assumption | exact q_A rfl | skip
end Go.Proofs.Ytneecniebhhhlaa
