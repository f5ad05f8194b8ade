import Derived.Test.YtneecniebhhhlaaE29
namespace Go.Proofs.Ytneecniebhhhlaa
set_option linter.unusedSimpArgs false
set_option linter.unusedVariables false
open Go.Abs Go.Proofs.NatL

def rz4 : Cfg := addT 149 (rgCT RB (fun S T D => .g (gG (plS S T D) (plT S T D) (plD S T D)))) rz3
theorem rz4_ok : TblOk Try.prog rz4 := q_I rz3_ok Try.func149 fun l K h =>
  rg_tr (p := RB) (f := fun S T D => .g (gG (plS S T D) (plT S T D) (plD S T D))) (fun S T D h => plain_ret S T D h) l K h
set_option maxRecDepth 100000 in
set_option maxHeartbeats 6400000 in
theorem check2_ret (s t d s' t' d' : Bool) (xs ys zs xs' ys' zs' : List Int) (h1 : xs.length ≤ 140737488355328) (h2 : ys.length ≤ 140737488355328) (h3 : zs.length ≤ 140737488355328) (h1' : xs'.length ≤ 140737488355328) (h2' : ys'.length ≤ 140737488355328) (h3' : zs'.length ≤ 140737488355328) :
    Ret Try.prog 138 false [.inl (.sl 6 [[.b s, .ints .u32 xs, .b t, .ints .u32 ys, .b d, .ints .u32 zs], [.b s', .ints .u32 xs', .b t', .ints .u32 ys', .b d', .ints .u32 zs']])]
      (.g [.i .i64 (if vR s t d xs ys zs = true ∧ vR s' t' d' xs' ys' zs' = true then 0 else 6), .i .i64 (if vR s t d xs ys zs = true then (if vR s' t' d' xs' ys' zs' = true then 0 else -2) else -1)]) := by
  have c1 : ((1 : Nat) : Int).toNat = 1 := rfl
  have c0 : ((0 : Nat) : Int).toNat = 0 := rfl
  cases hv : vR s t d xs ys zs
  all_goals cases hw : vR s' t' d' xs' ys' zs'
  all_goals
    (refine q_H Try.func138 (fun F => ?_); simp only [q_z,q_y,Try.ntmps138,Try.results138])
    repeat' (first|(with_reducible first|apply q_a|apply q_b|apply q_c|apply q_d|apply q_e|apply q_f|apply q_g|apply q_h|apply q_i|apply q_j|apply q_k|apply q_m|apply q_n|apply q_o|apply q_p|refine q_l ?_)|((with_reducible first|refine q_q rb6_ok fun K hK=>?_|refine q_r rb6_ok fun K hK=>?_);simp (maxSteps:=2000000) only [go_sem,↓reduceIte,reduceCtorEq,Nat.reduceLeDiff,Nat.reduceLT,Nat.reduceBEq,Nat.reduceAdd];(repeat1' with_reducible first|apply And.intro|(intro _;try exact q_v)|(refine hK _ ?_;clear hK K))<;>(try (clear hK K;exact q_u)))|(with_reducible refine q_s ?_;(first|apply q_J|apply q_K|apply q_L|apply q_M|apply q_N|apply q_O)<;>try (intro _;try exact q_v))|with_reducible refine q_t ?_)
    refine q_G (ι := { i : Nat // i ≤ 2 ∧ (0 < i → vR s t d xs ys zs = true) ∧ (1 < i → vR s' t' d' xs' ys' zs' = true) }) (fun i => ⟨20, [(2, .bx 0 0), (5, .c (.sl 6 [[.b s, .ints .u32 xs, .b t, .ints .u32 ys, .b d, .ints .u32 zs], [.b s', .ints .u32 xs', .b t', .ints .u32 ys', .b d', .ints .u32 zs']])), (6, .c (.i .i64 2)), (7, .c (.i .i64 (i.1 : Nat)))], ⟨[(0, [.c (.i .i64 0), .c (.i .i64 0)])], [], []⟩, 1⟩) (fun i => 2 - i.1) ⟨0, by omega, fun h => by omega, fun h => by omega⟩ ?_ ?_
    · exact q_D
    rintro ⟨i, i1, i2, i3⟩
    simp only at i1 i2 i3 ⊢
    rcases (show i = 0 ∨ i = 1 ∨ i = 2 by omega) with rfl | rfl | rfl
    · repeat' (first|(with_reducible first|apply q_a|apply q_b|apply q_c|apply q_d|apply q_e|apply q_f|apply q_g|apply q_h|apply q_i|apply q_j|apply q_k|apply q_m|apply q_n|apply q_o|apply q_p|refine q_l ?_)|((with_reducible first|refine q_q rb6_ok fun K hK=>?_|refine q_r rb6_ok fun K hK=>?_);simp (maxSteps:=2000000) only [go_sem,↓reduceIte,reduceCtorEq,Nat.reduceLeDiff,Nat.reduceLT,Nat.reduceBEq,Nat.reduceAdd,hv, c0, List.getD_cons_zero, Int.toNat_natCast];(repeat1' with_reducible first|apply And.intro|(intro _;try exact q_v)|(refine hK _ ?_;clear hK K))<;>(try (clear hK K;exact q_u)))|(with_reducible refine q_s ?_;(first|apply q_J|apply q_K|apply q_L|apply q_M|apply q_N|apply q_O)<;>try (intro _;try exact q_v))|with_reducible refine q_t ?_)
      all_goals first
        | omega
        | exact q_A rfl
        | (refine q_F ⟨1, by omega, fun _ => hv, fun h => by omega⟩ ?_ (by simp only; omega)
           exact q_D)
    · repeat' (first|(with_reducible first|apply q_a|apply q_b|apply q_c|apply q_d|apply q_e|apply q_f|apply q_g|apply q_h|apply q_i|apply q_j|apply q_k|apply q_m|apply q_n|apply q_o|apply q_p|refine q_l ?_)|((with_reducible first|refine q_q rb6_ok fun K hK=>?_|refine q_r rb6_ok fun K hK=>?_);simp (maxSteps:=2000000) only [go_sem,↓reduceIte,reduceCtorEq,Nat.reduceLeDiff,Nat.reduceLT,Nat.reduceBEq,Nat.reduceAdd,hw, c1, List.getD_cons_zero, List.getD_cons_succ, Int.toNat_natCast];(repeat1' with_reducible first|apply And.intro|(intro _;try exact q_v)|(refine hK _ ?_;clear hK K))<;>(try (clear hK K;exact q_u)))|(with_reducible refine q_s ?_;(first|apply q_J|apply q_K|apply q_L|apply q_M|apply q_N|apply q_O)<;>try (intro _;try exact q_v))|with_reducible refine q_t ?_)
      all_goals first
        | omega
        | (rw [hv] at i2; exact absurd (i2 (by omega)) (by decide))
        | exact q_A rfl
        | (refine q_F ⟨2, by omega, fun _ => i2 (by omega), fun _ => hw⟩ ?_ (by simp only; omega)
           exact q_D)
    · repeat' (first|(with_reducible first|apply q_a|apply q_b|apply q_c|apply q_d|apply q_e|apply q_f|apply q_g|apply q_h|apply q_i|apply q_j|apply q_k|apply q_m|apply q_n|apply q_o|apply q_p|refine q_l ?_)|((with_reducible first|refine q_q rb6_ok fun K hK=>?_|refine q_r rb6_ok fun K hK=>?_);simp (maxSteps:=2000000) only [go_sem,↓reduceIte,reduceCtorEq,Nat.reduceLeDiff,Nat.reduceLT,Nat.reduceBEq,Nat.reduceAdd];(repeat1' with_reducible first|apply And.intro|(intro _;try exact q_v)|(refine hK _ ?_;clear hK K))<;>(try (clear hK K;exact q_u)))|(with_reducible refine q_s ?_;(first|apply q_J|apply q_K|apply q_L|apply q_M|apply q_N|apply q_O)<;>try (intro _;try exact q_v))|with_reducible refine q_t ?_)
      all_goals first | omega | (rw [hv] at i2; exact absurd (i2 (by omega)) (by decide)) | (rw [hw] at i3; exact absurd (i3 (by omega)) (by decide)) | exact q_A rfl
def check2CT : CT := mkCT [] true fun l K => match l with
  | [.inl (.sl 6 [[.b s, .ints .u32 xs, .b t, .ints .u32 ys, .b d, .ints .u32 zs], [.b s', .ints .u32 xs', .b t', .ints .u32 ys', .b d', .ints .u32 zs']])] => ((xs.length ≤ 140737488355328 ∧ ys.length ≤ 140737488355328 ∧ zs.length ≤ 140737488355328) ∧ xs'.length ≤ 140737488355328 ∧ ys'.length ≤ 140737488355328 ∧ zs'.length ≤ 140737488355328) ∧
      (vR s t d xs ys zs = true → (vR s' t' d' xs' ys' zs' = true → K (.g [.i .i64 0, .i .i64 0])) ∧ (vR s' t' d' xs' ys' zs' = false → K (.g [.i .i64 6, .i .i64 (-2)]))) ∧ (vR s t d xs ys zs = false → K (.g [.i .i64 6, .i .i64 (-1)]))
  | _ => False
def rz5 : Cfg := addT 138 check2CT rz4
theorem rz5_ok : TblOk Try.prog rz5 := q_I rz4_ok Try.func138 fun l K h => by
  split at h
  · rename_i s xs t ys d zs s' xs' t' ys' d' zs'
    have := check2_ret s t d s' t' d' xs ys zs xs' ys' zs' h.1.1.1 h.1.1.2.1 h.1.1.2.2 h.1.2.1 h.1.2.2.1 h.1.2.2.2
    cases hv : vR s t d xs ys zs
    · rw [hv] at this
      exact ⟨_, this.plain rfl, h.2.2 hv⟩
    · have h2 := h.2.1 hv
      cases hw : vR s' t' d' xs' ys' zs'
      · rw [hv, hw] at this
        exact ⟨_, this.plain rfl, h2.2 hw⟩
      · rw [hv, hw] at this
        exact ⟨_, this.plain rfl, h2.1 hw⟩
  · exact h.elim
attribute [go_sem] check2CT
def wholeCT : CT := mkCT [nG] false fun l K => match l with
  | [.inr [.b s, .ints .u32 xs, .b t, .ints .u32 ys, .b d, .ints .u32 zs]] => (xs.length ≤ 140737488355328 ∧ ys.length ≤ 140737488355328 ∧ zs.length ≤ 140737488355328) ∧
      (vR s t d xs ys zs = true → K (.t [.inr [.b s, .ints .u32 xs, .b t, .ints .u32 ys, .b d, .ints .u32 zs], .inr [.i .i64 0, .i .i64 0]])) ∧
      (vR s t d xs ys zs = false → K (.t [.inr [.b false, .ints .u32 [], .b false, .ints .u32 [], .b false, .ints .u32 []], .inr [.i .i64 14, .i .i64 (-1)]]))
  | _ => False
def rz6 : Cfg := addT 148 wholeCT rz5
theorem rz6_ok : TblOk Try.prog rz6 := q_I rz5_ok Try.func148 fun l K h => by
  split at h
  · rename_i s xs t ys d zs
    obtain ⟨⟨h1, h2, h3⟩, hok, hbad⟩ := h
    cases hv : vR s t d xs ys zs
    · refine ⟨_, ?_, hbad hv⟩
      (refine q_H Try.func148 (fun F => ?_); simp only [q_z,q_y,Try.ntmps148,Try.results148])
      repeat' (first|(with_reducible first|apply q_a|apply q_b|apply q_c|apply q_d|apply q_e|apply q_f|apply q_g|apply q_h|apply q_i|apply q_j|apply q_k|apply q_m|apply q_n|apply q_o|apply q_p|refine q_l ?_)|((with_reducible first|refine q_q rb6_ok fun K hK=>?_|refine q_r rb6_ok fun K hK=>?_);simp (maxSteps:=2000000) only [go_sem,↓reduceIte,reduceCtorEq,Nat.reduceLeDiff,Nat.reduceLT,Nat.reduceBEq,Nat.reduceAdd,hv];(repeat1' with_reducible first|apply And.intro|(intro _;try exact q_v)|(refine hK _ ?_;clear hK K))<;>(try (clear hK K;exact q_u)))|(with_reducible refine q_s ?_;(first|apply q_J|apply q_K|apply q_L|apply q_M|apply q_N|apply q_O)<;>try (intro _;try exact q_v))|with_reducible refine q_t ?_)
      all_goals first | contradiction | exact q_B [nG, .inr [none, none]] rfl rfl
    · refine ⟨_, ?_, hok hv⟩
      (refine q_H Try.func148 (fun F => ?_); simp only [q_z,q_y,Try.ntmps148,Try.results148])
      repeat' (first|(with_reducible first|apply q_a|apply q_b|apply q_c|apply q_d|apply q_e|apply q_f|apply q_g|apply q_h|apply q_i|apply q_j|apply q_k|apply q_m|apply q_n|apply q_o|apply q_p|refine q_l ?_)|((with_reducible first|refine q_q rb6_ok fun K hK=>?_|refine q_r rb6_ok fun K hK=>?_);simp (maxSteps:=2000000) only [go_sem,↓reduceIte,reduceCtorEq,Nat.reduceLeDiff,Nat.reduceLT,Nat.reduceBEq,Nat.reduceAdd,hv];(repeat1' with_reducible first|apply And.intro|(intro _;try exact q_v)|(refine hK _ ?_;clear hK K))<;>(try (clear hK K;exact q_u)))|(with_reducible refine q_s ?_;(first|apply q_J|apply q_K|apply q_L|apply q_M|apply q_N|apply q_O)<;>try (intro _;try exact q_v))|with_reducible refine q_t ?_)
      all_goals first | contradiction | exact q_A rfl
  · exact h.elim
attribute [go_sem] wholeCT
end Go.Proofs.Ytneecniebhhhlaa
