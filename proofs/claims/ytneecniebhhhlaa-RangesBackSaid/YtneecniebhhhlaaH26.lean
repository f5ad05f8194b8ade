import Derived.Test.YtneecniebhhhlaaH24
import Derived.Test.YtneecniebhhhlaaH25
namespace Go.Proofs.Ytneecniebhhhlaa
set_option linter.unusedSimpArgs false
set_option linter.unusedVariables false
open Go.Abs Go.Proofs.NatL

def rb6 : Cfg := listT [(91, validRCT), (152, atCT)] [28]
theorem rb6_ok : TblOk Try.prog rb6 := listT_ok (big := rc7) rc7_ok ⟨rfl, rfl, trivial⟩
attribute [go_sem] rb6
set_option maxRecDepth 100000 in
set_option maxHeartbeats 3200000 in
theorem check1_ret (s t d : Bool) (xs ys zs : List Int) (h1 : xs.length ≤ 140737488355328) (h2 : ys.length ≤ 140737488355328) (h3 : zs.length ≤ 140737488355328) :
    Ret Try.prog 138 false [.inl (.sl 6 [[.b s, .ints .u32 xs, .b t, .ints .u32 ys, .b d, .ints .u32 zs]])] (.g [.i .i64 (if vR s t d xs ys zs = true then 0 else 6), .i .i64 (if vR s t d xs ys zs = true then 0 else -1)]) := by
  cases hv : vR s t d xs ys zs
  all_goals
    (refine q_H Try.func138 (fun F => ?_); simp only [q_z,q_y,Try.ntmps138,Try.results138])
    repeat' (first|(with_reducible first|apply q_a|apply q_b|apply q_c|apply q_d|apply q_e|apply q_f|apply q_g|apply q_h|apply q_i|apply q_j|apply q_k|apply q_m|apply q_n|apply q_o|apply q_p|refine q_l ?_)|((with_reducible first|refine q_q rb6_ok fun K hK=>?_|refine q_r rb6_ok fun K hK=>?_);simp (maxSteps:=2000000) only [go_sem,↓reduceIte,reduceCtorEq,Nat.reduceLeDiff,Nat.reduceLT,Nat.reduceBEq,Nat.reduceAdd];(repeat1' with_reducible first|apply And.intro|(intro _;try exact q_v)|(refine hK _ ?_;clear hK K))<;>(try (clear hK K;exact q_u)))|(with_reducible refine q_s ?_;(first|apply q_J|apply q_K|apply q_L|apply q_M|apply q_N|apply q_O)<;>try (intro _;try exact q_v))|with_reducible refine q_t ?_)
    refine q_G (ι := { i : Nat // i ≤ 1 ∧ (i = 1 → vR s t d xs ys zs = true) }) (fun i => ⟨20, [(2, .bx 0 0), (5, .c (.sl 6 [[.b s, .ints .u32 xs, .b t, .ints .u32 ys, .b d, .ints .u32 zs]])), (6, .c (.i .i64 1)), (7, .c (.i .i64 (i.1 : Nat)))], ⟨[(0, [.c (.i .i64 0), .c (.i .i64 0)])], [], []⟩, 1⟩) (fun i => 1 - i.1) ⟨0, by omega, fun h => by omega⟩ ?_ ?_
    · exact q_D
    rintro ⟨i, i1, i2⟩
    simp only at i1 i2 ⊢
    rcases (show i = 0 ∨ i = 1 by omega) with rfl | rfl
    · repeat' (first|(with_reducible first|apply q_a|apply q_b|apply q_c|apply q_d|apply q_e|apply q_f|apply q_g|apply q_h|apply q_i|apply q_j|apply q_k|apply q_m|apply q_n|apply q_o|apply q_p|refine q_l ?_)|((with_reducible first|refine q_q rb6_ok fun K hK=>?_|refine q_r rb6_ok fun K hK=>?_);simp (maxSteps:=2000000) only [go_sem,↓reduceIte,reduceCtorEq,Nat.reduceLeDiff,Nat.reduceLT,Nat.reduceBEq,Nat.reduceAdd,hv, List.getD_cons_zero, Int.toNat_natCast];(repeat1' with_reducible first|apply And.intro|(intro _;try exact q_v)|(refine hK _ ?_;clear hK K))<;>(try (clear hK K;exact q_u)))|(with_reducible refine q_s ?_;(first|apply q_J|apply q_K|apply q_L|apply q_M|apply q_N|apply q_O)<;>try (intro _;try exact q_v))|with_reducible refine q_t ?_)
      all_goals first
        | omega
        | exact q_A rfl
        | (refine q_F ⟨1, by omega, fun _ => hv⟩ ?_ (by simp only; omega)
           exact q_D)
    · repeat' (first|(with_reducible first|apply q_a|apply q_b|apply q_c|apply q_d|apply q_e|apply q_f|apply q_g|apply q_h|apply q_i|apply q_j|apply q_k|apply q_m|apply q_n|apply q_o|apply q_p|refine q_l ?_)|((with_reducible first|refine q_q rb6_ok fun K hK=>?_|refine q_r rb6_ok fun K hK=>?_);simp (maxSteps:=2000000) only [go_sem,↓reduceIte,reduceCtorEq,Nat.reduceLeDiff,Nat.reduceLT,Nat.reduceBEq,Nat.reduceAdd];(repeat1' with_reducible first|apply And.intro|(intro _;try exact q_v)|(refine hK _ ?_;clear hK K))<;>(try (clear hK K;exact q_u)))|(with_reducible refine q_s ?_;(first|apply q_J|apply q_K|apply q_L|apply q_M|apply q_N|apply q_O)<;>try (intro _;try exact q_v))|with_reducible refine q_t ?_)
      all_goals first | omega | (rw [hv] at i2; exact absurd (i2 rfl) (by decide)) | exact q_A rfl
def check1CT : CT := mkCT [] true fun l K => match l with
  | [.inl (.sl 6 [[.b s, .ints .u32 xs, .b t, .ints .u32 ys, .b d, .ints .u32 zs]])] => (xs.length ≤ 140737488355328 ∧ ys.length ≤ 140737488355328 ∧ zs.length ≤ 140737488355328) ∧ (vR s t d xs ys zs = true → K (.g [.i .i64 0, .i .i64 0])) ∧ (vR s t d xs ys zs = false → K (.g [.i .i64 6, .i .i64 (-1)]))
  | _ => False
def rd1 : Cfg := addT 138 check1CT rc7
theorem rd1_ok : TblOk Try.prog rd1 := q_I rc7_ok Try.func138 fun l K h => by
  split at h
  · rename_i s xs t ys d zs
    have := check1_ret s t d xs ys zs h.1.1 h.1.2.1 h.1.2.2
    cases hv : vR s t d xs ys zs
    · rw [hv] at this
      exact ⟨_, this.plain rfl, h.2.2 hv⟩
    · rw [hv] at this
      exact ⟨_, this.plain rfl, h.2.1 hv⟩
  · exact h.elim
attribute [go_sem] check1CT
def rb7 : Cfg := listT [(138, check1CT), (140, (rgCT RB (fun S T D => oneI (rLen S T D)))), (155, (rgICT pElem (fun S _ D u => oneI (S + D * u)))), (91, validRCT), (152, atCT), (153, fitsRCT), (139, zeroRCT), (145, (rg2CT (fun a b => FB (a + b)) add_R)), (146, (rg2CT (fun a b => FB (a - b)) sub_R)), (143, (rg2CT (fun _ _ => True) lessR)), (144, (rg2CT (fun _ b => b ≠ 0) dmR)), (52, ivalidCT), (28, iOfCT)] [28]
theorem rb7_ok : TblOk Try.prog rb7 := listE_ok (by simp only [List.mem_singleton, forall_eq]; exact flt) ⟨⟨rd1, rd1_ok, rfl⟩, ⟨rc7, rc7_ok, rfl⟩, ⟨rc7, rc7_ok, rfl⟩, ⟨rc7, rc7_ok, rfl⟩, ⟨rc7, rc7_ok, rfl⟩, ⟨rc7, rc7_ok, rfl⟩, ⟨rc7, rc7_ok, rfl⟩, ⟨rc7, rc7_ok, rfl⟩, ⟨rc7, rc7_ok, rfl⟩, ⟨rc7, rc7_ok, rfl⟩, ⟨rc7, rc7_ok, rfl⟩, ⟨rc7, rc7_ok, rfl⟩, ⟨iu1, iu1_ok, rfl⟩, trivial⟩
attribute [go_sem] rb7
theorem lb_of {z : Int} (h : FB z) : (dg 4294967296 z.natAbs).length ≤ 140737488355328 := Nat.le_trans (FB_len h) (by omega)
theorem rv_fb {S T D : Int} (h : RV S T D) : FB S ∧ FB T ∧ FB D := by
  obtain ⟨h0, h1, h2, h3⟩ := h
  have := W80_ge
  exact ⟨FB_w (by omega), FB_w (by omega), FB_w (by omega)⟩
theorem elem_fb {S T D k : Int} (h : RV S T D) (h0 : 0 ≤ k) (h1 : k < rLen S T D) : FB k ∧ FB (D * k) ∧ FB (S + D * k) := by
  have he := elem_in (S := S) (T := T) h.1 h0 h1
  obtain ⟨_, h2, h3, h4⟩ := h
  have := W80_ge
  refine ⟨FB_w (by omega), FB_w (by omega), FB_w (by omega)⟩
theorem len_fb {S T D : Int} (h : RV S T D) : FB (rLen S T D) ∧ 0 ≤ rLen S T D := by
  have h1 := rLen_le S T D h.1
  have h2 := rLen_nonneg S T D h.1
  obtain ⟨_, h3, h4, h5⟩ := h
  have := W80_ge
  exact ⟨FB_w (by omega), h2⟩
set_option maxHeartbeats 1600000 in
theorem Length_ok (S T D : Int) (h : RV S T D) : Ret Try.prog 88 false [.inr (gG S T D)] (.t [.inr (gI (rLen S T D)), .inr [.i .i64 0, .i .i64 0]]) := by
  have hv := (vR_g S T D).2 h
  have hb := h.rb
  obtain ⟨f1, f2, f3⟩ := rv_fb h
  have l1 := lb_of f1
  have l2 := lb_of f2
  have l3 := lb_of f3
  simp only [gG]
  (refine q_H Try.func88 (fun F => ?_); simp only [q_z,q_y,Try.ntmps88,Try.results88])
  repeat' (first|(with_reducible first|apply q_a|apply q_b|apply q_c|apply q_d|apply q_e|apply q_f|apply q_g|apply q_h|apply q_i|apply q_j|apply q_k|apply q_m|apply q_n|apply q_o|apply q_p|refine q_l ?_)|((with_reducible first|refine q_q rb7_ok fun K hK=>?_|refine q_r rb7_ok fun K hK=>?_);simp (maxSteps:=2000000) only [go_sem,↓reduceIte,reduceCtorEq,Nat.reduceLeDiff,Nat.reduceLT,Nat.reduceBEq,Nat.reduceAdd,hv];(repeat1' with_reducible first|apply And.intro|(intro _;try exact q_v)|(refine hK _ ?_;clear hK K))<;>(try (clear hK K;exact q_u)))|(with_reducible refine q_s ?_;(first|apply q_J|apply q_K|apply q_L|apply q_M|apply q_N|apply q_O)<;>try (intro _;try exact q_v))|with_reducible refine q_t ?_)
  all_goals first | contradiction | omega | exact q_A rfl
theorem Length_bad (s t d : Bool) (xs ys zs : List Int) (h1 : xs.length ≤ 140737488355328) (h2 : ys.length ≤ 140737488355328) (h3 : zs.length ≤ 140737488355328) (hv : vR s t d xs ys zs = false) :
    Ret Try.prog 88 false [.inr [.b s, .ints .u32 xs, .b t, .ints .u32 ys, .b d, .ints .u32 zs]] (.t [.inr [.b false, .ints .u32 []], .inr [.i .i64 6, .i .i64 (-1)]]) := by
  (refine q_H Try.func88 (fun F => ?_); simp only [q_z,q_y,Try.ntmps88,Try.results88])
  repeat' (first|(with_reducible first|apply q_a|apply q_b|apply q_c|apply q_d|apply q_e|apply q_f|apply q_g|apply q_h|apply q_i|apply q_j|apply q_k|apply q_m|apply q_n|apply q_o|apply q_p|refine q_l ?_)|((with_reducible first|refine q_q rb7_ok fun K hK=>?_|refine q_r rb7_ok fun K hK=>?_);simp (maxSteps:=2000000) only [go_sem,↓reduceIte,reduceCtorEq,Nat.reduceLeDiff,Nat.reduceLT,Nat.reduceBEq,Nat.reduceAdd,hv];(repeat1' with_reducible first|apply And.intro|(intro _;try exact q_v)|(refine hK _ ?_;clear hK K))<;>(try (clear hK K;exact q_u)))|(with_reducible refine q_s ?_;(first|apply q_J|apply q_K|apply q_L|apply q_M|apply q_N|apply q_O)<;>try (intro _;try exact q_v))|with_reducible refine q_t ?_)
  all_goals first | contradiction | omega | exact q_B [nP, .inr [none, none]] rfl rfl
def rTot (good : Int → Int → Int → (AV → Prop) → Prop) (bad : AV) : CT := mkCT [nG] false fun l K => match l with
  | [.inr [.b s, .ints .u32 xs, .b t, .ints .u32 ys, .b d, .ints .u32 zs]] => ((xs.length ≤ 140737488355328 ∧ ys.length ≤ 140737488355328 ∧ zs.length ≤ 140737488355328) ∧ InB 4294967296 xs ∧ InB 4294967296 ys ∧ InB 4294967296 zs) ∧
      (vR s t d xs ys zs = true → good (sv 4294967296 s xs) (sv 4294967296 t ys) (sv 4294967296 d zs) K) ∧ (vR s t d xs ys zs = false → K bad)
  | _ => False
theorem rTot_tr {F : FuncId} {good : Int → Int → Int → (AV → Prop) → Prop} {bad : AV} (hg : ∀ S T D : Int, RV S T D → ∀ K, good S T D K → ∃ r, Ret Try.prog F false [.inr (gG S T D)] r ∧ K r)
    (hb : ∀ (s t d : Bool) (xs ys zs : List Int), xs.length ≤ 140737488355328 → ys.length ≤ 140737488355328 → zs.length ≤ 140737488355328 → vR s t d xs ys zs = false → Ret Try.prog F false [.inr [.b s, .ints .u32 xs, .b t, .ints .u32 ys, .b d, .ints .u32 zs]] bad)
    (l : List (C ⊕ List C)) (K : AV → Prop) (hk : match l with
      | [.inr [.b s, .ints .u32 xs, .b t, .ints .u32 ys, .b d, .ints .u32 zs]] => ((xs.length ≤ 140737488355328 ∧ ys.length ≤ 140737488355328 ∧ zs.length ≤ 140737488355328) ∧ InB 4294967296 xs ∧ InB 4294967296 ys ∧ InB 4294967296 zs) ∧
          (vR s t d xs ys zs = true → good (sv 4294967296 s xs) (sv 4294967296 t ys) (sv 4294967296 d zs) K) ∧ (vR s t d xs ys zs = false → K bad)
      | _ => False) : ∃ r, Ret Try.prog F false l r ∧ K r := by
  split at hk
  · rename_i s xs t ys d zs
    obtain ⟨⟨⟨h1, h2, h3⟩, b1, b2, b3⟩, hgood, hbad⟩ := hk
    cases hv : vR s t d xs ys zs
    · exact ⟨_, hb s t d xs ys zs h1 h2 h3 hv, hbad hv⟩
    · obtain ⟨n1, n2, n3, h⟩ := vR_ok hv b1 b2 b3
      rw [gG_nrm n1 n2 n3]
      exact hg _ _ _ h K (hgood hv)
  · exact hk.elim
def gdLength (S T D : Int) (K : AV → Prop) : Prop := K (.t [.inr (gI (rLen S T D)), .inr [.i .i64 0, .i .i64 0]])
def re1 : Cfg := addT 88 (rTot gdLength (.t [.inr [.b false, .ints .u32 []], .inr [.i .i64 6, .i .i64 (-1)]])) rd1
theorem re1_ok : TblOk Try.prog re1 := q_I rd1_ok Try.func88 fun l K h =>
  rTot_tr (good := gdLength) (bad := (.t [.inr [.b false, .ints .u32 []], .inr [.i .i64 6, .i .i64 (-1)]])) (fun S T D hv K h => ⟨_, Length_ok S T D hv, h⟩) (fun s t d xs ys zs h1 h2 h3 hv => Length_bad s t d xs ys zs h1 h2 h3 hv) l K h
attribute [go_sem] rTot gdLength
end Go.Proofs.Ytneecniebhhhlaa

namespace Go.Proofs.Ytneecniebhhhlaa
set_option linter.unusedSimpArgs false
set_option linter.unusedVariables false
open Go.Abs Go.Proofs.NatL

theorem sv_nil : sv 4294967296 false [] = 0 := rfl
def plS (S T D : Int) : Int := if rLen S T D = 0 then 0 else S
def plT (S T D : Int) : Int := if rLen S T D = 0 then 0 else S + D * (rLen S T D - 1) + sgR D
def plD (S T D : Int) : Int := if rLen S T D = 0 then 1 else if 1 < rLen S T D then D else sgR D
def rw1 : Cfg := listT [(140, (rgCT RB (fun S T D => oneI (rLen S T D)))), (155, (rgICT pElem (fun S _ D u => oneI (S + D * u)))), (154, (rgCT (fun _ _ _ => True) (fun _ _ D => oneI (sgR D)))), (139, zeroRCT), (145, (rg2CT (fun a b => FB (a + b)) add_R)), (146, (rg2CT (fun a b => FB (a - b)) sub_R)), (143, (rg2CT (fun _ _ => True) lessR)), (28, iOfCT)] [28]
theorem rw1_ok : TblOk Try.prog rw1 := listE_ok (by simp only [List.mem_singleton, forall_eq]; exact flt) ⟨⟨rc7, rc7_ok, rfl⟩, ⟨rc7, rc7_ok, rfl⟩, ⟨rc7, rc7_ok, rfl⟩, ⟨rc7, rc7_ok, rfl⟩, ⟨rc7, rc7_ok, rfl⟩, ⟨rc7, rc7_ok, rfl⟩, ⟨rc7, rc7_ok, rfl⟩, ⟨iu1, iu1_ok, rfl⟩, trivial⟩
attribute [go_sem] rw1
theorem rb_elem {S T D k : Int} (h : RB S T D) (h0 : 0 ≤ k) (h1 : k < rLen S T D) : FB k ∧ FB (D * k) ∧ FB (S + D * k) ∧ (S + D * k).natAbs ≤ 200 * W80 := by
  have he := elem_in (S := S) (T := T) h.1 h0 h1
  obtain ⟨_, h2, h3, h4⟩ := h
  have := W80_ge
  refine ⟨FB_w (by omega), FB_w (by omega), FB_w (by omega), by omega⟩
theorem rb_len {S T D : Int} (h : RB S T D) : FB (rLen S T D) ∧ 0 ≤ rLen S T D ∧ FB (rLen S T D - 1) := by
  have h1 := rLen_le S T D h.1
  have h2 := rLen_nonneg S T D h.1
  obtain ⟨_, h3, h4, h5⟩ := h
  have := W80_ge
  exact ⟨FB_w (by omega), h2, FB_w (by omega)⟩
theorem sgR_cases (D : Int) : sgR D = 1 ∨ sgR D = -1 := by unfold sgR; split <;> simp
set_option maxRecDepth 100000 in
set_option maxHeartbeats 6400000 in
theorem plain_ret (S T D : Int) (h : RB S T D) : Ret Try.prog 149 false [.inr (gG S T D)] (.g (gG (plS S T D) (plT S T D) (plD S T D))) := by
  obtain ⟨n1, n2, n3⟩ := rb_len h
  have he := fun (k : Int) => rb_elem (k := k) h
  have hzl := zero_len' (rLen S T D)
  have hb := h
  obtain ⟨h0, h1, h2, h3⟩ := h
  have hw := W80_ge
  have a1 : FB S := FB_w (by omega)
  have a3 : FB D := FB_w (by omega)
  have a4 := FB_one
  have a0 := FB_zero
  have a5 : FB (sgR D) := by rcases sgR_cases D with e | e <;> rw [e]; exact FB_one; exact FB_neg_one
  unfold plS plT plD
  generalize hN : rLen S T D = n at *
  by_cases hz : n = 0
  · rw [if_pos hz, if_pos hz, if_pos hz]
    simp only [gG]
    (refine q_H Try.func149 (fun F => ?_); simp only [q_z,q_y,Try.ntmps149,Try.results149])
    repeat' (first|(with_reducible first|apply q_a|apply q_b|apply q_c|apply q_d|apply q_e|apply q_f|apply q_g|apply q_h|apply q_i|apply q_j|apply q_k|apply q_m|apply q_n|apply q_o|apply q_p|refine q_l ?_)|((with_reducible first|refine q_q rw1_ok fun K hK=>?_|refine q_r rw1_ok fun K hK=>?_);simp (maxSteps:=2000000) only [go_sem,↓reduceIte,reduceCtorEq,Nat.reduceLeDiff,Nat.reduceLT,Nat.reduceBEq,Nat.reduceAdd,hN, hzl, hz, sv_nil, Int.add_zero];(repeat1' with_reducible first|apply And.intro|(intro _;try exact q_v)|(refine hK _ ?_;clear hK K))<;>(try (clear hK K;exact q_u)))|(with_reducible refine q_s ?_;(first|apply q_J|apply q_K|apply q_L|apply q_M|apply q_N|apply q_O)<;>try (intro _;try exact q_v))|with_reducible refine q_t ?_)
    all_goals first | contradiction | omega | exact q_B [nG] rfl rfl
  · rw [if_neg hz, if_neg hz, if_neg hz]
    obtain ⟨g1, g2, g3, g4⟩ := he (n - 1) (by omega) (by omega)
    have a6 : FB (S + D * (n - 1) + sgR D) := FB_w (by rcases sgR_cases D with e | e <;> rw [e] <;> omega)
    have a7 : FB (S + 0) := by rw [Int.add_zero]; exact a1
    have a8 : FB (D + 0) := by rw [Int.add_zero]; exact a3
    have z0 : dg 4294967296 (0 : Int).natAbs = [] := rfl
    by_cases h1n : 1 < n
    · rw [if_pos h1n]
      simp only [gG]
      (refine q_H Try.func149 (fun F => ?_); simp only [q_z,q_y,Try.ntmps149,Try.results149])
      repeat' (first|(with_reducible first|apply q_a|apply q_b|apply q_c|apply q_d|apply q_e|apply q_f|apply q_g|apply q_h|apply q_i|apply q_j|apply q_k|apply q_m|apply q_n|apply q_o|apply q_p|refine q_l ?_)|((with_reducible first|refine q_q rw1_ok fun K hK=>?_|refine q_r rw1_ok fun K hK=>?_);simp (maxSteps:=2000000) only [go_sem,↓reduceIte,reduceCtorEq,Nat.reduceLeDiff,Nat.reduceLT,Nat.reduceBEq,Nat.reduceAdd,hN, hzl, hz, sv_nil, Int.add_zero];(repeat1' with_reducible first|apply And.intro|(intro _;try exact q_v)|(refine hK _ ?_;clear hK K))<;>(try (clear hK K;exact q_u)))|(with_reducible refine q_s ?_;(first|apply q_J|apply q_K|apply q_L|apply q_M|apply q_N|apply q_O)<;>try (intro _;try exact q_v))|with_reducible refine q_t ?_)
      all_goals first | contradiction | omega | exact ⟨a1, a3, g1, g2, g3⟩ | (simp only [Int.add_zero]; exact q_A rfl) | exact q_A rfl | skip
    · rw [if_neg h1n]
      simp only [gG]
      (refine q_H Try.func149 (fun F => ?_); simp only [q_z,q_y,Try.ntmps149,Try.results149])
      repeat' (first|(with_reducible first|apply q_a|apply q_b|apply q_c|apply q_d|apply q_e|apply q_f|apply q_g|apply q_h|apply q_i|apply q_j|apply q_k|apply q_m|apply q_n|apply q_o|apply q_p|refine q_l ?_)|((with_reducible first|refine q_q rw1_ok fun K hK=>?_|refine q_r rw1_ok fun K hK=>?_);simp (maxSteps:=2000000) only [go_sem,↓reduceIte,reduceCtorEq,Nat.reduceLeDiff,Nat.reduceLT,Nat.reduceBEq,Nat.reduceAdd,hN, hzl, hz, sv_nil, Int.add_zero];(repeat1' with_reducible first|apply And.intro|(intro _;try exact q_v)|(refine hK _ ?_;clear hK K))<;>(try (clear hK K;exact q_u)))|(with_reducible refine q_s ?_;(first|apply q_J|apply q_K|apply q_L|apply q_M|apply q_N|apply q_O)<;>try (intro _;try exact q_v))|with_reducible refine q_t ?_)
      all_goals first | contradiction | omega | exact ⟨a1, a3, g1, g2, g3⟩ | exact q_A rfl | skip
end Go.Proofs.Ytneecniebhhhlaa
