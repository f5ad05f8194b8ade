import Derived.Test.YtgogdabniebplaaI6
import Derived.Test.YtgogdabniebplaaS1
namespace Go.Proofs.Ytgogdabniebplaa
set_option linter.unusedSimpArgs false
set_option linter.unusedVariables false
open Go.Abs Go.Proofs.NatL

theorem iSmall_y (a : Int) (la : (dg 4294967296 a.natAbs).length ≤ 128) : Ret Try.prog 77 false [.inr (gI a)] (.t [.inl (.i .i64 (smV a)), .inr [.i .i64 (smC a), .i .i64 (smI a)]]) := by
  have oa := (okZ_g a).trans (decide_eq_true la)
  have e := sg_self a
  by_cases h : a < 0
  · have h1 : decide (a < 0) = true := decide_eq_true h
    rw [h1] at e oa
    have := iSmall_true a.natAbs (fun _ => by omega) la oa
    rw [e] at this
    simpa only [gI, h1] using this
  · have h1 : decide (a < 0) = false := decide_eq_false h
    rw [h1] at e oa
    have := iSmall_false a.natAbs (fun h => by cases h) la oa
    rw [e] at this
    simpa only [gI, h1] using this
def ismCT : CT := mkCT [nP] true fun l K => match l with
  | [.inr [.b s, .ints .u32 xs]] => (okZ s xs = true ∧ InB 4294967296 xs) ∧ K (.t [.inl (.i .i64 (smV (sv 4294967296 s xs))), .inr [.i .i64 (smC (sv 4294967296 s xs)), .i .i64 (smI (sv 4294967296 s xs))]])
  | _ => False
theorem gI_of {s : Bool} {xs : List Int} (h1 : okZ s xs = true) (h2 : InB 4294967296 xs) : [.b s, .ints .u32 xs] = gI (sv 4294967296 s xs) ∧ (dg 4294967296 (sv 4294967296 s xs).natAbs).length ≤ 128 := by
  obtain ⟨a1, a2, a3⟩ := okZ_eq h1 h2
  exact ⟨by rw [gI, ← a1, ← a2], by rw [← a2]; exact a3⟩
def su1 : Cfg := addT 77 ismCT iu3
theorem su1_ok : TblOk Try.prog su1 := q_I iu3_ok Try.func77 fun l K h => by
  split at h
  · rename_i s xs
    obtain ⟨e, la⟩ := gI_of h.1.1 h.1.2
    have := iSmall_y _ la
    rw [← e] at this
    exact ⟨_, this.plain rfl, h.2⟩
  · exact h.elim
def su2 : Cfg := addT 94 atCT su1
theorem su2_ok : TblOk Try.prog su2 := q_I su1_ok Try.func94 fun l K h => by
  split at h
  · refine ⟨_, Ret.plain ?_ rfl, h⟩
    (refine q_H Try.func94 (fun F => ?_); simp only [q_z,q_y,Try.ntmps94,Try.results94])
    repeat' (first|(with_reducible first|apply q_a|apply q_b|apply q_c|apply q_d|apply q_e|apply q_f|apply q_g|apply q_h|apply q_i|apply q_j|apply q_k|apply q_m|apply q_n|apply q_o|apply q_p|refine q_l ?_)|((with_reducible first|refine q_q su1_ok fun K hK=>?_|refine q_r su1_ok fun K hK=>?_);simp (maxSteps:=2000000) only [go_sem,↓reduceIte,reduceCtorEq,Nat.reduceLeDiff,Nat.reduceLT,Nat.reduceBEq,Nat.reduceAdd];(repeat1' with_reducible first|apply And.intro|(intro _;try exact q_v)|(refine hK _ ?_;clear hK K))<;>(try (clear hK K;exact q_u)))|(with_reducible refine q_s ?_;(first|apply q_J|apply q_K|apply q_L|apply q_M|apply q_N|apply q_O)<;>try (intro _;try exact q_v))|with_reducible refine q_t ?_)
    exact q_A rfl
  · exact h.elim
attribute [go_sem] ismCT sv32d okZ_g
def sb1 : Cfg := listT [(77, ismCT), (76, ivalidCT), (94, atCT)] [28]
theorem sb1_ok : TblOk Try.prog sb1 := listT_ok (big := su2) su2_ok ⟨rfl, rfl, rfl, trivial⟩
attribute [go_sem] sb1

set_option maxHeartbeats 1600000 in
theorem bounded_ret (a lo hi : Int) (la : (dg 4294967296 a.natAbs).length ≤ 128) (h0 : -9223372036854775808 ≤ lo) (h1 : lo ≤ hi) (h2 : hi ≤ 9223372036854775807) :
    Ret Try.prog 95 false [.inr (gI a), .inl (.i .i64 lo), .inl (.i .i64 hi)] (.c (.i .i64 (bnd a lo hi))) := by
  have oa := (okZ_g a).trans (decide_eq_true la)
  by_cases hs : -9223372036854775808 ≤ a ∧ a ≤ 9223372036854775807
  · obtain ⟨e1, e2, e3⟩ := sm_fit hs
    (refine q_H Try.func95 (fun F => ?_); simp only [q_z,q_y,Try.ntmps95,Try.results95])
    repeat' (first|(with_reducible first|apply q_a|apply q_b|apply q_c|apply q_d|apply q_e|apply q_f|apply q_g|apply q_h|apply q_i|apply q_j|apply q_k|apply q_m|apply q_n|apply q_o|apply q_p|refine q_l ?_)|((with_reducible first|refine q_q sb1_ok fun K hK=>?_|refine q_r sb1_ok fun K hK=>?_);simp (maxSteps:=2000000) only [go_sem,↓reduceIte,reduceCtorEq,Nat.reduceLeDiff,Nat.reduceLT,Nat.reduceBEq,Nat.reduceAdd,oa, sg_self, e1, e2, e3];(repeat1' with_reducible first|apply And.intro|(intro _;try exact q_v)|(refine hK _ ?_;clear hK K))<;>(try (clear hK K;exact q_u)))|(with_reducible refine q_s ?_;(first|apply q_J|apply q_K|apply q_L|apply q_M|apply q_N|apply q_O)<;>try (intro _;try exact q_v))|with_reducible refine q_t ?_)
    all_goals first | contradiction | omega | exact q_A rfl
  · obtain ⟨e1, e2, e3⟩ := sm_big hs
    by_cases hn : a < 0
    · have e : bnd a lo hi = lo := by unfold bnd; omega
      rw [e]
      (refine q_H Try.func95 (fun F => ?_); simp only [q_z,q_y,Try.ntmps95,Try.results95])
      repeat' (first|(with_reducible first|apply q_a|apply q_b|apply q_c|apply q_d|apply q_e|apply q_f|apply q_g|apply q_h|apply q_i|apply q_j|apply q_k|apply q_m|apply q_n|apply q_o|apply q_p|refine q_l ?_)|((with_reducible first|refine q_q sb1_ok fun K hK=>?_|refine q_r sb1_ok fun K hK=>?_);simp (maxSteps:=2000000) only [go_sem,↓reduceIte,reduceCtorEq,Nat.reduceLeDiff,Nat.reduceLT,Nat.reduceBEq,Nat.reduceAdd,oa, sg_self, e1, e2, e3];(repeat1' with_reducible first|apply And.intro|(intro _;try exact q_v)|(refine hK _ ?_;clear hK K))<;>(try (clear hK K;exact q_u)))|(with_reducible refine q_s ?_;(first|apply q_J|apply q_K|apply q_L|apply q_M|apply q_N|apply q_O)<;>try (intro _;try exact q_v))|with_reducible refine q_t ?_)
      all_goals first | contradiction | omega | exact q_A rfl
    · have e : bnd a lo hi = hi := by unfold bnd; omega
      rw [e]
      (refine q_H Try.func95 (fun F => ?_); simp only [q_z,q_y,Try.ntmps95,Try.results95])
      repeat' (first|(with_reducible first|apply q_a|apply q_b|apply q_c|apply q_d|apply q_e|apply q_f|apply q_g|apply q_h|apply q_i|apply q_j|apply q_k|apply q_m|apply q_n|apply q_o|apply q_p|refine q_l ?_)|((with_reducible first|refine q_q sb1_ok fun K hK=>?_|refine q_r sb1_ok fun K hK=>?_);simp (maxSteps:=2000000) only [go_sem,↓reduceIte,reduceCtorEq,Nat.reduceLeDiff,Nat.reduceLT,Nat.reduceBEq,Nat.reduceAdd,oa, sg_self, e1, e2, e3];(repeat1' with_reducible first|apply And.intro|(intro _;try exact q_v)|(refine hK _ ?_;clear hK K))<;>(try (clear hK K;exact q_u)))|(with_reducible refine q_s ?_;(first|apply q_J|apply q_K|apply q_L|apply q_M|apply q_N|apply q_O)<;>try (intro _;try exact q_v))|with_reducible refine q_t ?_)
      all_goals first | contradiction | omega | exact q_A rfl
def boundedCT : CT := mkCT [nP] true fun l K => match l with
  | [.inr [.b s, .ints .u32 xs], .inl (.i .i64 lo), .inl (.i .i64 hi)] => ((okZ s xs = true ∧ InB 4294967296 xs) ∧ -9223372036854775808 ≤ lo ∧ lo ≤ hi ∧ hi ≤ 9223372036854775807) ∧ K (.c (.i .i64 (bnd (sv 4294967296 s xs) lo hi)))
  | _ => False
def su3 : Cfg := addT 95 boundedCT su2
theorem su3_ok : TblOk Try.prog su3 := q_I su2_ok Try.func95 fun l K h => by
  split at h
  · obtain ⟨⟨⟨h1, h2⟩, h3, h4, h5⟩, h⟩ := h
    obtain ⟨e, la⟩ := gI_of h1 h2
    have := bounded_ret _ _ _ la h3 h4 h5
    rw [← e] at this
    exact ⟨_, this.plain rfl, h⟩
  · exact h.elim
attribute [go_sem] boundedCT
def prt (s : Bool) (xs : List Int) (g : Bool) : Bool := okZ s xs && (g || decide (xs.length = 0))
set_option maxHeartbeats 800000 in
theorem part_ret (s : Bool) (xs : List Int) (g : Bool) (hx : xs.length ≤ 140737488355328) : Ret Try.prog 97 false [.inr [.b s, .ints .u32 xs], .inl (.b g)] (.c (.b (prt s xs g))) := by
  cases ho : okZ s xs
  all_goals cases g
  all_goals
    (refine q_H Try.func97 (fun F => ?_); simp only [q_z,q_y,Try.ntmps97,Try.results97])
    repeat' (first|(with_reducible first|apply q_a|apply q_b|apply q_c|apply q_d|apply q_e|apply q_f|apply q_g|apply q_h|apply q_i|apply q_j|apply q_k|apply q_m|apply q_n|apply q_o|apply q_p|refine q_l ?_)|((with_reducible first|refine q_q sb1_ok fun K hK=>?_|refine q_r sb1_ok fun K hK=>?_);simp (maxSteps:=2000000) only [go_sem,↓reduceIte,reduceCtorEq,Nat.reduceLeDiff,Nat.reduceLT,Nat.reduceBEq,Nat.reduceAdd,ho];(repeat1' with_reducible first|apply And.intro|(intro _;try exact q_v)|(refine hK _ ?_;clear hK K))<;>(try (clear hK K;exact q_u)))|(with_reducible refine q_s ?_;(first|apply q_J|apply q_K|apply q_L|apply q_M|apply q_N|apply q_O)<;>try (intro _;try exact q_v))|with_reducible refine q_t ?_)
    exact q_A (by simp [resAV, q_y, prt, ho])
def partCT : CT := mkCT [nP] true fun l K => match l with
  | [.inr [.b s, .ints .u32 xs], .inl (.b g)] => xs.length ≤ 140737488355328 ∧ K (.c (.b (prt s xs g)))
  | _ => False
def su4 : Cfg := addT 97 partCT su3
theorem su4_ok : TblOk Try.prog su4 := q_I su3_ok Try.func97 fun l K h => by
  split at h
  · exact ⟨_, (part_ret _ _ _ h.1).plain rfl, h.2⟩
  · exact h.elim
attribute [go_sem] partCT
def sb2 : Cfg := listT [(95, boundedCT), (97, partCT), (94, atCT)] [28]
theorem sb2_ok : TblOk Try.prog sb2 := listT_ok (big := su4) su4_ok ⟨rfl, rfl, rfl, trivial⟩
attribute [go_sem] sb2
def slF (p0 p1 p2 g2 : Bool) (n : Nat) : Int := if p0 = true ∧ p1 = true ∧ p2 = true then (if g2 = true ∧ n = 0 then 22 else 0) else 6
def slI (p0 p1 p2 g2 : Bool) (n : Nat) : Int := if slF p0 p1 p2 g2 n = 0 then 0 else -1
set_option maxHeartbeats 3200000 in
theorem scheck_ret (s0 s1 s2 g0 g1 g2 : Bool) (x0 x1 x2 : List Int) (l0 : x0.length ≤ 140737488355328) (l1 : x1.length ≤ 140737488355328) (l2 : x2.length ≤ 140737488355328) :
    Ret Try.prog 22 false [.inr [.b s0, .ints .u32 x0, .b s1, .ints .u32 x1, .b s2, .ints .u32 x2, .b g0, .b g1, .b g2]] (.g [.i .i64 (slF (prt s0 x0 g0) (prt s1 x1 g1) (prt s2 x2 g2) g2 x2.length), .i .i64 (slI (prt s0 x0 g0) (prt s1 x1 g1) (prt s2 x2 g2) g2 x2.length)]) := by
  cases h0 : prt s0 x0 g0
  · (refine q_H Try.func22 (fun F => ?_); simp only [q_z,q_y,Try.ntmps22,Try.results22])
    repeat' (first|(with_reducible first|apply q_a|apply q_b|apply q_c|apply q_d|apply q_e|apply q_f|apply q_g|apply q_h|apply q_i|apply q_j|apply q_k|apply q_m|apply q_n|apply q_o|apply q_p|refine q_l ?_)|((with_reducible first|refine q_q sb2_ok fun K hK=>?_|refine q_r sb2_ok fun K hK=>?_);simp (maxSteps:=2000000) only [go_sem,↓reduceIte,reduceCtorEq,Nat.reduceLeDiff,Nat.reduceLT,Nat.reduceBEq,Nat.reduceAdd,h0];(repeat1' with_reducible first|apply And.intro|(intro _;try exact q_v)|(refine hK _ ?_;clear hK K))<;>(try (clear hK K;exact q_u)))|(with_reducible refine q_s ?_;(first|apply q_J|apply q_K|apply q_L|apply q_M|apply q_N|apply q_O)<;>try (intro _;try exact q_v))|with_reducible refine q_t ?_)
    exact q_A (by simp [resAV, q_y, slF, slI])
  cases h1 : prt s1 x1 g1
  · (refine q_H Try.func22 (fun F => ?_); simp only [q_z,q_y,Try.ntmps22,Try.results22])
    repeat' (first|(with_reducible first|apply q_a|apply q_b|apply q_c|apply q_d|apply q_e|apply q_f|apply q_g|apply q_h|apply q_i|apply q_j|apply q_k|apply q_m|apply q_n|apply q_o|apply q_p|refine q_l ?_)|((with_reducible first|refine q_q sb2_ok fun K hK=>?_|refine q_r sb2_ok fun K hK=>?_);simp (maxSteps:=2000000) only [go_sem,↓reduceIte,reduceCtorEq,Nat.reduceLeDiff,Nat.reduceLT,Nat.reduceBEq,Nat.reduceAdd,h0, h1];(repeat1' with_reducible first|apply And.intro|(intro _;try exact q_v)|(refine hK _ ?_;clear hK K))<;>(try (clear hK K;exact q_u)))|(with_reducible refine q_s ?_;(first|apply q_J|apply q_K|apply q_L|apply q_M|apply q_N|apply q_O)<;>try (intro _;try exact q_v))|with_reducible refine q_t ?_)
    exact q_A (by simp [resAV, q_y, slF, slI])
  cases h2 : prt s2 x2 g2
  · (refine q_H Try.func22 (fun F => ?_); simp only [q_z,q_y,Try.ntmps22,Try.results22])
    repeat' (first|(with_reducible first|apply q_a|apply q_b|apply q_c|apply q_d|apply q_e|apply q_f|apply q_g|apply q_h|apply q_i|apply q_j|apply q_k|apply q_m|apply q_n|apply q_o|apply q_p|refine q_l ?_)|((with_reducible first|refine q_q sb2_ok fun K hK=>?_|refine q_r sb2_ok fun K hK=>?_);simp (maxSteps:=2000000) only [go_sem,↓reduceIte,reduceCtorEq,Nat.reduceLeDiff,Nat.reduceLT,Nat.reduceBEq,Nat.reduceAdd,h0, h1, h2];(repeat1' with_reducible first|apply And.intro|(intro _;try exact q_v)|(refine hK _ ?_;clear hK K))<;>(try (clear hK K;exact q_u)))|(with_reducible refine q_s ?_;(first|apply q_J|apply q_K|apply q_L|apply q_M|apply q_N|apply q_O)<;>try (intro _;try exact q_v))|with_reducible refine q_t ?_)
    exact q_A (by simp [resAV, q_y, slF, slI])
  · cases hg : g2
    · subst hg
      (refine q_H Try.func22 (fun F => ?_); simp only [q_z,q_y,Try.ntmps22,Try.results22])
      repeat' (first|(with_reducible first|apply q_a|apply q_b|apply q_c|apply q_d|apply q_e|apply q_f|apply q_g|apply q_h|apply q_i|apply q_j|apply q_k|apply q_m|apply q_n|apply q_o|apply q_p|refine q_l ?_)|((with_reducible first|refine q_q sb2_ok fun K hK=>?_|refine q_r sb2_ok fun K hK=>?_);simp (maxSteps:=2000000) only [go_sem,↓reduceIte,reduceCtorEq,Nat.reduceLeDiff,Nat.reduceLT,Nat.reduceBEq,Nat.reduceAdd,h0, h1, h2];(repeat1' with_reducible first|apply And.intro|(intro _;try exact q_v)|(refine hK _ ?_;clear hK K))<;>(try (clear hK K;exact q_u)))|(with_reducible refine q_s ?_;(first|apply q_J|apply q_K|apply q_L|apply q_M|apply q_N|apply q_O)<;>try (intro _;try exact q_v))|with_reducible refine q_t ?_)
      exact q_A (by simp [resAV, q_y, slF, slI])
    · subst hg
      (refine q_H Try.func22 (fun F => ?_); simp only [q_z,q_y,Try.ntmps22,Try.results22])
      repeat' (first|(with_reducible first|apply q_a|apply q_b|apply q_c|apply q_d|apply q_e|apply q_f|apply q_g|apply q_h|apply q_i|apply q_j|apply q_k|apply q_m|apply q_n|apply q_o|apply q_p|refine q_l ?_)|((with_reducible first|refine q_q sb2_ok fun K hK=>?_|refine q_r sb2_ok fun K hK=>?_);simp (maxSteps:=2000000) only [go_sem,↓reduceIte,reduceCtorEq,Nat.reduceLeDiff,Nat.reduceLT,Nat.reduceBEq,Nat.reduceAdd,h0, h1, h2];(repeat1' with_reducible first|apply And.intro|(intro _;try exact q_v)|(refine hK _ ?_;clear hK K))<;>(try (clear hK K;exact q_u)))|(with_reducible refine q_s ?_;(first|apply q_J|apply q_K|apply q_L|apply q_M|apply q_N|apply q_O)<;>try (intro _;try exact q_v))|with_reducible refine q_t ?_)
      all_goals
        rename_i q
        have q2 : (x2.length = 0) = (x2.length = 0 : Prop) := rfl
        by_cases hz : x2.length = 0
        · first | omega | exact q_A (by simp [resAV, q_y, slF, slI, hz])
        · first | omega | exact q_A (by simp [resAV, q_y, slF, slI, hz])
def chkCT : CT := mkCT [.inr [none, some (.ints .u32 []), none, some (.ints .u32 []), none, some (.ints .u32 []), none, none, none]] true fun l K => match l with
  | [.inr [.b s0, .ints .u32 x0, .b s1, .ints .u32 x1, .b s2, .ints .u32 x2, .b g0, .b g1, .b g2]] => (x0.length ≤ 140737488355328 ∧ x1.length ≤ 140737488355328 ∧ x2.length ≤ 140737488355328) ∧
      K (.g [.i .i64 (slF (prt s0 x0 g0) (prt s1 x1 g1) (prt s2 x2 g2) g2 x2.length), .i .i64 (slI (prt s0 x0 g0) (prt s1 x1 g1) (prt s2 x2 g2) g2 x2.length)])
  | _ => False
def su5 : Cfg := addT 22 chkCT su4
theorem su5_ok : TblOk Try.prog su5 := q_I su4_ok Try.func22 fun l K h => by
  split at h
  · exact ⟨_, (scheck_ret _ _ _ _ _ _ _ _ _ h.1.1 h.1.2.1 h.1.2.2).plain rfl, h.2⟩
  · exact h.elim
attribute [go_sem] chkCT
def sb3 : Cfg := listT [(95, boundedCT), (76, ivalidCT), (94, atCT)] [28]
theorem sb3_ok : TblOk Try.prog sb3 := listT_ok (big := su5) su5_ok ⟨rfl, rfl, rfl, trivial⟩
attribute [go_sem] sb3
def ixZ (a n : Int) : Int := if a < 0 then a + n else a
set_option maxHeartbeats 1600000 in
theorem index_bad (s : Bool) (xs : List Int) (n : Int) (hx : xs.length ≤ 140737488355328) (ho : okZ s xs = false) : Ret Try.prog 18 false [.inr [.b s, .ints .u32 xs], .inl (.i .i64 n)] (.t [.inl (.i .i64 0), .inr [.i .i64 6, .i .i64 (-1)]]) := by
  (refine q_H Try.func18 (fun F => ?_); simp only [q_z,q_y,Try.ntmps18,Try.results18])
  repeat' (first|(with_reducible first|apply q_a|apply q_b|apply q_c|apply q_d|apply q_e|apply q_f|apply q_g|apply q_h|apply q_i|apply q_j|apply q_k|apply q_m|apply q_n|apply q_o|apply q_p|refine q_l ?_)|((with_reducible first|refine q_q sb3_ok fun K hK=>?_|refine q_r sb3_ok fun K hK=>?_);simp (maxSteps:=2000000) only [go_sem,↓reduceIte,reduceCtorEq,Nat.reduceLeDiff,Nat.reduceLT,Nat.reduceBEq,Nat.reduceAdd,ho];(repeat1' with_reducible first|apply And.intro|(intro _;try exact q_v)|(refine hK _ ?_;clear hK K))<;>(try (clear hK K;exact q_u)))|(with_reducible refine q_s ?_;(first|apply q_J|apply q_K|apply q_L|apply q_M|apply q_N|apply q_O)<;>try (intro _;try exact q_v))|with_reducible refine q_t ?_)
  exact q_A rfl
theorem index_n (s : Bool) (xs : List Int) (n : Int) (hx : xs.length ≤ 140737488355328) (ho : okZ s xs = true) (hn : n < 0 ∨ 4000 < n) : Ret Try.prog 18 false [.inr [.b s, .ints .u32 xs], .inl (.i .i64 n)] (.t [.inl (.i .i64 0), .inr [.i .i64 4, .i .i64 (-2)]]) := by
  (refine q_H Try.func18 (fun F => ?_); simp only [q_z,q_y,Try.ntmps18,Try.results18])
  repeat' (first|(with_reducible first|apply q_a|apply q_b|apply q_c|apply q_d|apply q_e|apply q_f|apply q_g|apply q_h|apply q_i|apply q_j|apply q_k|apply q_m|apply q_n|apply q_o|apply q_p|refine q_l ?_)|((with_reducible first|refine q_q sb3_ok fun K hK=>?_|refine q_r sb3_ok fun K hK=>?_);simp (maxSteps:=2000000) only [go_sem,↓reduceIte,reduceCtorEq,Nat.reduceLeDiff,Nat.reduceLT,Nat.reduceBEq,Nat.reduceAdd,ho];(repeat1' with_reducible first|apply And.intro|(intro _;try exact q_v)|(refine hK _ ?_;clear hK K))<;>(try (clear hK K;exact q_u)))|(with_reducible refine q_s ?_;(first|apply q_J|apply q_K|apply q_L|apply q_M|apply q_N|apply q_O)<;>try (intro _;try exact q_v))|with_reducible refine q_t ?_)
  all_goals first | omega | exact q_A rfl
set_option maxHeartbeats 3200000 in
theorem index_ok (s : Bool) (xs : List Int) (n : Int) (hx : xs.length ≤ 140737488355328) (hb : InB 4294967296 xs) (ho : okZ s xs = true) (h0 : 0 ≤ n) (h1 : n ≤ 4000) :
    Ret Try.prog 18 false [.inr [.b s, .ints .u32 xs], .inl (.i .i64 n)] (if 0 ≤ ixZ (sv 4294967296 s xs) n ∧ ixZ (sv 4294967296 s xs) n < n then .t [.inl (.i .i64 (ixZ (sv 4294967296 s xs) n)), .inr [.i .i64 0, .i .i64 0]] else .t [.inl (.i .i64 0), .inr [.i .i64 4, .i .i64 (-1)]]) := by
  generalize hz : sv 4294967296 s xs = z
  have hk : bnd z (0 - n - 1) n = if z < -n - 1 then -n - 1 else if n < z then n else z := by
    unfold bnd; (repeat' split) <;> omega
  obtain ⟨k, hk2⟩ : ∃ k, bnd z (0 - n - 1) n = k := ⟨_, rfl⟩
  rw [hk2] at hk
  by_cases hi : 0 ≤ ixZ z n ∧ ixZ z n < n
  · rw [if_pos hi]
    (refine q_H Try.func18 (fun F => ?_); simp only [q_z,q_y,Try.ntmps18,Try.results18])
    repeat' (first|(with_reducible first|apply q_a|apply q_b|apply q_c|apply q_d|apply q_e|apply q_f|apply q_g|apply q_h|apply q_i|apply q_j|apply q_k|apply q_m|apply q_n|apply q_o|apply q_p|refine q_l ?_)|((with_reducible first|refine q_q sb3_ok fun K hK=>?_|refine q_r sb3_ok fun K hK=>?_);simp (maxSteps:=2000000) only [go_sem,↓reduceIte,reduceCtorEq,Nat.reduceLeDiff,Nat.reduceLT,Nat.reduceBEq,Nat.reduceAdd,ho, hz, hk2];(repeat1' with_reducible first|apply And.intro|(intro _;try exact q_v)|(refine hK _ ?_;clear hK K))<;>(try (clear hK K;exact q_u)))|(with_reducible refine q_s ?_;(first|apply q_J|apply q_K|apply q_L|apply q_M|apply q_N|apply q_O)<;>try (intro _;try exact q_v))|with_reducible refine q_t ?_)
    all_goals unfold ixZ at *
    all_goals first
      | omega
      | (refine q_A ?_
         have e : k + n = if z < 0 then z + n else z := by (repeat' split at *) <;> omega
         rw [← e]; rfl)
      | (refine q_A ?_
         have e : k = if z < 0 then z + n else z := by (repeat' split at *) <;> omega
         rw [← e]; rfl)
  · rw [if_neg hi]
    (refine q_H Try.func18 (fun F => ?_); simp only [q_z,q_y,Try.ntmps18,Try.results18])
    repeat' (first|(with_reducible first|apply q_a|apply q_b|apply q_c|apply q_d|apply q_e|apply q_f|apply q_g|apply q_h|apply q_i|apply q_j|apply q_k|apply q_m|apply q_n|apply q_o|apply q_p|refine q_l ?_)|((with_reducible first|refine q_q sb3_ok fun K hK=>?_|refine q_r sb3_ok fun K hK=>?_);simp (maxSteps:=2000000) only [go_sem,↓reduceIte,reduceCtorEq,Nat.reduceLeDiff,Nat.reduceLT,Nat.reduceBEq,Nat.reduceAdd,ho, hz, hk2];(repeat1' with_reducible first|apply And.intro|(intro _;try exact q_v)|(refine hK _ ?_;clear hK K))<;>(try (clear hK K;exact q_u)))|(with_reducible refine q_s ?_;(first|apply q_J|apply q_K|apply q_L|apply q_M|apply q_N|apply q_O)<;>try (intro _;try exact q_v))|with_reducible refine q_t ?_)
    all_goals unfold ixZ at *
    all_goals first
      | omega
      | exact q_A rfl
      | (exfalso; apply hi; (repeat' split at *) <;> omega)
def indexSCT : CT := mkCT [nP] true fun l K => match l with
  | [.inr [.b s, .ints .u32 xs], .inl (.i .i64 n)] => (xs.length ≤ 140737488355328 ∧ InB 4294967296 xs) ∧ (okZ s xs = false → K (.t [.inl (.i .i64 0), .inr [.i .i64 6, .i .i64 (-1)]])) ∧
      (okZ s xs = true → ((n < 0 ∨ 4000 < n) → K (.t [.inl (.i .i64 0), .inr [.i .i64 4, .i .i64 (-2)]])) ∧
        (0 ≤ n ∧ n ≤ 4000 → (¬ (0 ≤ ixZ (sv 4294967296 s xs) n ∧ ixZ (sv 4294967296 s xs) n < n) → K (.t [.inl (.i .i64 0), .inr [.i .i64 4, .i .i64 (-1)]])) ∧
          (0 ≤ ixZ (sv 4294967296 s xs) n ∧ ixZ (sv 4294967296 s xs) n < n → K (.t [.inl (.i .i64 (ixZ (sv 4294967296 s xs) n)), .inr [.i .i64 0, .i .i64 0]]))))
  | _ => False
def su6 : Cfg := addT 18 indexSCT su5
theorem su6_ok : TblOk Try.prog su6 := q_I su5_ok Try.func18 fun l K h => by
  split at h
  · rename_i s xs n
    obtain ⟨⟨h1, h2⟩, hbad, hok⟩ := h
    cases ho : okZ s xs
    · exact ⟨_, (index_bad s xs n h1 ho).plain rfl, hbad ho⟩
    · have hok := hok ho
      by_cases hn : n < 0 ∨ 4000 < n
      · exact ⟨_, (index_n s xs n h1 ho hn).plain rfl, hok.1 hn⟩
      · have hok := hok.2 (by omega)
        have := index_ok s xs n h1 h2 ho (by omega) (by omega)
        by_cases hi : 0 ≤ ixZ (sv 4294967296 s xs) n ∧ ixZ (sv 4294967296 s xs) n < n
        · rw [if_pos hi] at this
          exact ⟨_, this.plain rfl, hok.2 hi⟩
        · rw [if_neg hi] at this
          exact ⟨_, this.plain rfl, hok.1 hi⟩
  · exact h.elim
attribute [go_sem] indexSCT
set_option maxHeartbeats 1600000 in
theorem end_ret (s : Bool) (xs : List Int) (n lo hi : Int) (hb : InB 4294967296 xs) (ho : okZ s xs = true) (h0 : 0 ≤ n) (h1 : n ≤ 4000) (h2 : -1 ≤ lo) (h3 : lo ≤ hi) (h4 : hi ≤ n) :
    Ret Try.prog 96 false [.inr [.b s, .ints .u32 xs], .inl (.i .i64 n), .inl (.i .i64 lo), .inl (.i .i64 hi)] (.c (.i .i64 (enda (sv 4294967296 s xs) n lo hi))) := by
  generalize hz : sv 4294967296 s xs = z
  have hbn := bnd_in (z := z) (lo := 0 - n - 1) (hi := n) (by omega)
  have e0 : enda z n lo hi = bnd (if bnd z (0 - n - 1) n < 0 then bnd z (0 - n - 1) n + n else bnd z (0 - n - 1) n) lo hi := by
    unfold enda; rw [show -n - 1 = 0 - n - 1 by omega]
  rw [e0]
  obtain ⟨k, hk2⟩ : ∃ k, bnd z (0 - n - 1) n = k := ⟨_, rfl⟩
  rw [hk2] at hbn ⊢
  (refine q_H Try.func96 (fun F => ?_); simp only [q_z,q_y,Try.ntmps96,Try.results96])
  repeat' (first|(with_reducible first|apply q_a|apply q_b|apply q_c|apply q_d|apply q_e|apply q_f|apply q_g|apply q_h|apply q_i|apply q_j|apply q_k|apply q_m|apply q_n|apply q_o|apply q_p|refine q_l ?_)|((with_reducible first|refine q_q sb3_ok fun K hK=>?_|refine q_r sb3_ok fun K hK=>?_);simp (maxSteps:=2000000) only [go_sem,↓reduceIte,reduceCtorEq,Nat.reduceLeDiff,Nat.reduceLT,Nat.reduceBEq,Nat.reduceAdd,ho, hz, hk2];(repeat1' with_reducible first|apply And.intro|(intro _;try exact q_v)|(refine hK _ ?_;clear hK K))<;>(try (clear hK K;exact q_u)))|(with_reducible refine q_s ?_;(first|apply q_J|apply q_K|apply q_L|apply q_M|apply q_N|apply q_O)<;>try (intro _;try exact q_v))|with_reducible refine q_t ?_)
  · rename_i q
    rw [if_pos q]; exact q_A rfl
  · rename_i q
    rw [if_neg q]; exact q_A rfl
def endCT : CT := mkCT [nP] true fun l K => match l with
  | [.inr [.b s, .ints .u32 xs], .inl (.i .i64 n), .inl (.i .i64 lo), .inl (.i .i64 hi)] => ((okZ s xs = true ∧ InB 4294967296 xs) ∧ (0 ≤ n ∧ n ≤ 4000) ∧ -1 ≤ lo ∧ lo ≤ hi ∧ hi ≤ n) ∧ K (.c (.i .i64 (enda (sv 4294967296 s xs) n lo hi)))
  | _ => False
def su7 : Cfg := addT 96 endCT su6
theorem su7_ok : TblOk Try.prog su7 := q_I su6_ok Try.func96 fun l K h => by
  split at h
  · obtain ⟨⟨⟨h1, h2⟩, ⟨h3, h4⟩, h5, h6, h7⟩, h⟩ := h
    exact ⟨_, (end_ret _ _ _ _ _ h2 h1 h3 h4 h5 h6 h7).plain rfl, h⟩
  · exact h.elim
attribute [go_sem] endCT
end Go.Proofs.Ytgogdabniebplaa
