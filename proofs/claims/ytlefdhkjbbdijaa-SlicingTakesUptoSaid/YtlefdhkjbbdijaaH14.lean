import Derived.Test.YtlefdhkjbbdijaaH10
import Derived.Test.YtlefdhkjbbdijaaH11
import Derived.Test.YtlefdhkjbbdijaaH12
import Derived.Test.YtlefdhkjbbdijaaH13
namespace Go.Proofs.Ytlefdhkjbbdijaa
set_option linter.unusedSimpArgs false
set_option linter.unusedVariables false
open Go.Abs Go.Proofs.NatL

theorem iSmall_y (a : Int) (la : (dg 4294967296 a.natAbs).length ≤ 128) : Ret Try.prog 130 false [.inr (gI a)] (.t [.inl (.i .i64 (smV a)), .inr [.i .i64 (smC a), .i .i64 (smI a)]]) := by
  have oa := (okZ_g a).trans (decide_eq_true la)
  have e := sg_self a
  by_cases h : a < 0
  · have h1 : decide (a < 0) = true := decide_eq_true h
    rw [h1] at e oa
    have := iSmall_true a.natAbs (fun _ => by omega) la oa
    rw [e] at this
    simpa only [gI, h1] using this
  · have h1 : decide (a < 0) = false := decide_eq_false h
    rw [h1] at e oa
    have := iSmall_false a.natAbs (fun h => by cases h) la oa
    rw [e] at this
    simpa only [gI, h1] using this
def ismCT : CT := mkCT [nP] true fun l K => match l with
  | [.inr [.b s, .ints .u32 xs]] => (okZ s xs = true ∧ InB 4294967296 xs) ∧ K (.t [.inl (.i .i64 (smV (sv 4294967296 s xs))), .inr [.i .i64 (smC (sv 4294967296 s xs)), .i .i64 (smI (sv 4294967296 s xs))]])
  | _ => False
theorem gI_of {s : Bool} {xs : List Int} (h1 : okZ s xs = true) (h2 : InB 4294967296 xs) : [.b s, .ints .u32 xs] = gI (sv 4294967296 s xs) ∧ (dg 4294967296 (sv 4294967296 s xs).natAbs).length ≤ 128 := by
  obtain ⟨a1, a2, a3⟩ := okZ_eq h1 h2
  exact ⟨by rw [gI, ← a1, ← a2], by rw [← a2]; exact a3⟩
def su1 : Cfg := addT 130 ismCT iu3
theorem su1_ok : TblOk Try.prog su1 := q_I iu3_ok Try.func130 fun l K h => by
  split at h
  · rename_i s xs
    obtain ⟨e, la⟩ := gI_of h.1.1 h.1.2
    have := iSmall_y _ la
    rw [← e] at this
    exact ⟨_, this.plain rfl, h.2⟩
  · exact h.elim
def su2 : Cfg := addT 92 atCT su1
theorem su2_ok : TblOk Try.prog su2 := q_I su1_ok Try.func92 fun l K h => by
  split at h
  · refine ⟨_, Ret.plain ?_ rfl, h⟩
    (refine q_H Try.func92 (fun F => ?_); simp only [q_z,q_y,Try.ntmps92,Try.results92])
    repeat' (first|(with_reducible first|apply q_a|apply q_b|apply q_c|apply q_d|apply q_e|apply q_f|apply q_g|apply q_h|apply q_i|apply q_j|apply q_k|apply q_m|apply q_n|apply q_o|apply q_p|refine q_l ?_)|((with_reducible first|refine q_q su1_ok fun K hK=>?_|refine q_r su1_ok fun K hK=>?_);simp (maxSteps:=2000000) only [go_sem,↓reduceIte,reduceCtorEq,Nat.reduceLeDiff,Nat.reduceLT,Nat.reduceBEq,Nat.reduceAdd];(repeat1' with_reducible first|apply And.intro|(intro _;try exact q_v)|(refine hK _ ?_;clear hK K))<;>(try (clear hK K;exact q_u)))|(with_reducible refine q_s ?_;(first|apply q_J|apply q_K|apply q_L|apply q_M|apply q_N|apply q_O)<;>try (intro _;try exact q_v))|with_reducible refine q_t ?_)
    exact q_A rfl
  · exact h.elim
attribute [go_sem] ismCT sv32d okZ_g
def sb1 : Cfg := listT [(130, ismCT), (64, ivalidCT), (92, atCT)] [30]
theorem sb1_ok : TblOk Try.prog sb1 := listT_ok (big := su2) su2_ok ⟨rfl, rfl, rfl, trivial⟩
attribute [go_sem] sb1
set_option maxHeartbeats 1600000 in
theorem bounded_ret (a lo hi : Int) (la : (dg 4294967296 a.natAbs).length ≤ 128) (h0 : -9223372036854775808 ≤ lo) (h1 : lo ≤ hi) (h2 : hi ≤ 9223372036854775807) :
    Ret Try.prog 118 false [.inr (gI a), .inl (.i .i64 lo), .inl (.i .i64 hi)] (.c (.i .i64 (bnd a lo hi))) := by
  have oa := (okZ_g a).trans (decide_eq_true la)
  by_cases hs : -9223372036854775808 ≤ a ∧ a ≤ 9223372036854775807
  · obtain ⟨e1, e2, e3⟩ := sm_fit hs
    (refine q_H Try.func118 (fun F => ?_); simp only [q_z,q_y,Try.ntmps118,Try.results118])
    repeat' (first|(with_reducible first|apply q_a|apply q_b|apply q_c|apply q_d|apply q_e|apply q_f|apply q_g|apply q_h|apply q_i|apply q_j|apply q_k|apply q_m|apply q_n|apply q_o|apply q_p|refine q_l ?_)|((with_reducible first|refine q_q sb1_ok fun K hK=>?_|refine q_r sb1_ok fun K hK=>?_);simp (maxSteps:=2000000) only [go_sem,↓reduceIte,reduceCtorEq,Nat.reduceLeDiff,Nat.reduceLT,Nat.reduceBEq,Nat.reduceAdd,oa, sg_self, e1, e2, e3];(repeat1' with_reducible first|apply And.intro|(intro _;try exact q_v)|(refine hK _ ?_;clear hK K))<;>(try (clear hK K;exact q_u)))|(with_reducible refine q_s ?_;(first|apply q_J|apply q_K|apply q_L|apply q_M|apply q_N|apply q_O)<;>try (intro _;try exact q_v))|with_reducible refine q_t ?_)
    all_goals first | contradiction | omega | exact q_A rfl
  · obtain ⟨e1, e2, e3⟩ := sm_big hs
    by_cases hn : a < 0
    · have e : bnd a lo hi = lo := by unfold bnd; omega
      rw [e]
      (refine q_H Try.func118 (fun F => ?_); simp only [q_z,q_y,Try.ntmps118,Try.results118])
      repeat' (first|(with_reducible first|apply q_a|apply q_b|apply q_c|apply q_d|apply q_e|apply q_f|apply q_g|apply q_h|apply q_i|apply q_j|apply q_k|apply q_m|apply q_n|apply q_o|apply q_p|refine q_l ?_)|((with_reducible first|refine q_q sb1_ok fun K hK=>?_|refine q_r sb1_ok fun K hK=>?_);simp (maxSteps:=2000000) only [go_sem,↓reduceIte,reduceCtorEq,Nat.reduceLeDiff,Nat.reduceLT,Nat.reduceBEq,Nat.reduceAdd,oa, sg_self, e1, e2, e3];(repeat1' with_reducible first|apply And.intro|(intro _;try exact q_v)|(refine hK _ ?_;clear hK K))<;>(try (clear hK K;exact q_u)))|(with_reducible refine q_s ?_;(first|apply q_J|apply q_K|apply q_L|apply q_M|apply q_N|apply q_O)<;>try (intro _;try exact q_v))|with_reducible refine q_t ?_)
      all_goals first | contradiction | omega | exact q_A rfl
    · have e : bnd a lo hi = hi := by unfold bnd; omega
      rw [e]
      (refine q_H Try.func118 (fun F => ?_); simp only [q_z,q_y,Try.ntmps118,Try.results118])
      repeat' (first|(with_reducible first|apply q_a|apply q_b|apply q_c|apply q_d|apply q_e|apply q_f|apply q_g|apply q_h|apply q_i|apply q_j|apply q_k|apply q_m|apply q_n|apply q_o|apply q_p|refine q_l ?_)|((with_reducible first|refine q_q sb1_ok fun K hK=>?_|refine q_r sb1_ok fun K hK=>?_);simp (maxSteps:=2000000) only [go_sem,↓reduceIte,reduceCtorEq,Nat.reduceLeDiff,Nat.reduceLT,Nat.reduceBEq,Nat.reduceAdd,oa, sg_self, e1, e2, e3];(repeat1' with_reducible first|apply And.intro|(intro _;try exact q_v)|(refine hK _ ?_;clear hK K))<;>(try (clear hK K;exact q_u)))|(with_reducible refine q_s ?_;(first|apply q_J|apply q_K|apply q_L|apply q_M|apply q_N|apply q_O)<;>try (intro _;try exact q_v))|with_reducible refine q_t ?_)
      all_goals first | contradiction | omega | exact q_A rfl
def boundedCT : CT := mkCT [nP] true fun l K => match l with
  | [.inr [.b s, .ints .u32 xs], .inl (.i .i64 lo), .inl (.i .i64 hi)] => ((okZ s xs = true ∧ InB 4294967296 xs) ∧ -9223372036854775808 ≤ lo ∧ lo ≤ hi ∧ hi ≤ 9223372036854775807) ∧ K (.c (.i .i64 (bnd (sv 4294967296 s xs) lo hi)))
  | _ => False
def su3 : Cfg := addT 118 boundedCT su2
theorem su3_ok : TblOk Try.prog su3 := q_I su2_ok Try.func118 fun l K h => by
  split at h
  · obtain ⟨⟨⟨h1, h2⟩, h3, h4, h5⟩, h⟩ := h
    obtain ⟨e, la⟩ := gI_of h1 h2
    have := bounded_ret _ _ _ la h3 h4 h5
    rw [← e] at this
    exact ⟨_, this.plain rfl, h⟩
  · exact h.elim
attribute [go_sem] boundedCT
def prt (s : Bool) (xs : List Int) (g : Bool) : Bool := okZ s xs && (g || decide (xs.length = 0))
set_option maxHeartbeats 800000 in
theorem part_ret (s : Bool) (xs : List Int) (g : Bool) (hx : xs.length ≤ 140737488355328) : Ret Try.prog 129 false [.inr [.b s, .ints .u32 xs], .inl (.b g)] (.c (.b (prt s xs g))) := by
  cases ho : okZ s xs
  all_goals cases g
  all_goals
    (refine q_H Try.func129 (fun F => ?_); simp only [q_z,q_y,Try.ntmps129,Try.results129])
    repeat' (first|(with_reducible first|apply q_a|apply q_b|apply q_c|apply q_d|apply q_e|apply q_f|apply q_g|apply q_h|apply q_i|apply q_j|apply q_k|apply q_m|apply q_n|apply q_o|apply q_p|refine q_l ?_)|((with_reducible first|refine q_q sb1_ok fun K hK=>?_|refine q_r sb1_ok fun K hK=>?_);simp (maxSteps:=2000000) only [go_sem,↓reduceIte,reduceCtorEq,Nat.reduceLeDiff,Nat.reduceLT,Nat.reduceBEq,Nat.reduceAdd,ho];(repeat1' with_reducible first|apply And.intro|(intro _;try exact q_v)|(refine hK _ ?_;clear hK K))<;>(try (clear hK K;exact q_u)))|(with_reducible refine q_s ?_;(first|apply q_J|apply q_K|apply q_L|apply q_M|apply q_N|apply q_O)<;>try (intro _;try exact q_v))|with_reducible refine q_t ?_)
    exact q_A (by simp [resAV, q_y, prt, ho])
def partCT : CT := mkCT [nP] true fun l K => match l with
  | [.inr [.b s, .ints .u32 xs], .inl (.b g)] => xs.length ≤ 140737488355328 ∧ K (.c (.b (prt s xs g)))
  | _ => False
def su4 : Cfg := addT 129 partCT su3
theorem su4_ok : TblOk Try.prog su4 := q_I su3_ok Try.func129 fun l K h => by
  split at h
  · exact ⟨_, (part_ret _ _ _ h.1).plain rfl, h.2⟩
  · exact h.elim
attribute [go_sem] partCT
def sb2 : Cfg := listT [(118, boundedCT), (129, partCT), (92, atCT)] [30]
theorem sb2_ok : TblOk Try.prog sb2 := listT_ok (big := su4) su4_ok ⟨rfl, rfl, rfl, trivial⟩
attribute [go_sem] sb2
def slF (p0 p1 p2 g2 : Bool) (n : Nat) : Int := if p0 = true ∧ p1 = true ∧ p2 = true then (if g2 = true ∧ n = 0 then 22 else 0) else 6
def slI (p0 p1 p2 g2 : Bool) (n : Nat) : Int := if slF p0 p1 p2 g2 n = 0 then 0 else -1
set_option maxHeartbeats 3200000 in
theorem scheck_ret (s0 s1 s2 g0 g1 g2 : Bool) (x0 x1 x2 : List Int) (l0 : x0.length ≤ 140737488355328) (l1 : x1.length ≤ 140737488355328) (l2 : x2.length ≤ 140737488355328) :
    Ret Try.prog 117 false [.inr [.b s0, .ints .u32 x0, .b s1, .ints .u32 x1, .b s2, .ints .u32 x2, .b g0, .b g1, .b g2]] (.g [.i .i64 (slF (prt s0 x0 g0) (prt s1 x1 g1) (prt s2 x2 g2) g2 x2.length), .i .i64 (slI (prt s0 x0 g0) (prt s1 x1 g1) (prt s2 x2 g2) g2 x2.length)]) := by
  cases h0 : prt s0 x0 g0
  · (refine q_H Try.func117 (fun F => ?_); simp only [q_z,q_y,Try.ntmps117,Try.results117])
    repeat' (first|(with_reducible first|apply q_a|apply q_b|apply q_c|apply q_d|apply q_e|apply q_f|apply q_g|apply q_h|apply q_i|apply q_j|apply q_k|apply q_m|apply q_n|apply q_o|apply q_p|refine q_l ?_)|((with_reducible first|refine q_q sb2_ok fun K hK=>?_|refine q_r sb2_ok fun K hK=>?_);simp (maxSteps:=2000000) only [go_sem,↓reduceIte,reduceCtorEq,Nat.reduceLeDiff,Nat.reduceLT,Nat.reduceBEq,Nat.reduceAdd,h0];(repeat1' with_reducible first|apply And.intro|(intro _;try exact q_v)|(refine hK _ ?_;clear hK K))<;>(try (clear hK K;exact q_u)))|(with_reducible refine q_s ?_;(first|apply q_J|apply q_K|apply q_L|apply q_M|apply q_N|apply q_O)<;>try (intro _;try exact q_v))|with_reducible refine q_t ?_)
    exact q_A (by simp [resAV, q_y, slF, slI])
  cases h1 : prt s1 x1 g1
  · (refine q_H Try.func117 (fun F => ?_); simp only [q_z,q_y,Try.ntmps117,Try.results117])
    repeat' (first|(with_reducible first|apply q_a|apply q_b|apply q_c|apply q_d|apply q_e|apply q_f|apply q_g|apply q_h|apply q_i|apply q_j|apply q_k|apply q_m|apply q_n|apply q_o|apply q_p|refine q_l ?_)|((with_reducible first|refine q_q sb2_ok fun K hK=>?_|refine q_r sb2_ok fun K hK=>?_);simp (maxSteps:=2000000) only [go_sem,↓reduceIte,reduceCtorEq,Nat.reduceLeDiff,Nat.reduceLT,Nat.reduceBEq,Nat.reduceAdd,h0, h1];(repeat1' with_reducible first|apply And.intro|(intro _;try exact q_v)|(refine hK _ ?_;clear hK K))<;>(try (clear hK K;exact q_u)))|(with_reducible refine q_s ?_;(first|apply q_J|apply q_K|apply q_L|apply q_M|apply q_N|apply q_O)<;>try (intro _;try exact q_v))|with_reducible refine q_t ?_)
    exact q_A (by simp [resAV, q_y, slF, slI])
  cases h2 : prt s2 x2 g2
  · (refine q_H Try.func117 (fun F => ?_); simp only [q_z,q_y,Try.ntmps117,Try.results117])
    repeat' (first|(with_reducible first|apply q_a|apply q_b|apply q_c|apply q_d|apply q_e|apply q_f|apply q_g|apply q_h|apply q_i|apply q_j|apply q_k|apply q_m|apply q_n|apply q_o|apply q_p|refine q_l ?_)|((with_reducible first|refine q_q sb2_ok fun K hK=>?_|refine q_r sb2_ok fun K hK=>?_);simp (maxSteps:=2000000) only [go_sem,↓reduceIte,reduceCtorEq,Nat.reduceLeDiff,Nat.reduceLT,Nat.reduceBEq,Nat.reduceAdd,h0, h1, h2];(repeat1' with_reducible first|apply And.intro|(intro _;try exact q_v)|(refine hK _ ?_;clear hK K))<;>(try (clear hK K;exact q_u)))|(with_reducible refine q_s ?_;(first|apply q_J|apply q_K|apply q_L|apply q_M|apply q_N|apply q_O)<;>try (intro _;try exact q_v))|with_reducible refine q_t ?_)
    exact q_A (by simp [resAV, q_y, slF, slI])
  · cases hg : g2
    · subst hg
      (refine q_H Try.func117 (fun F => ?_); simp only [q_z,q_y,Try.ntmps117,Try.results117])
      repeat' (first|(with_reducible first|apply q_a|apply q_b|apply q_c|apply q_d|apply q_e|apply q_f|apply q_g|apply q_h|apply q_i|apply q_j|apply q_k|apply q_m|apply q_n|apply q_o|apply q_p|refine q_l ?_)|((with_reducible first|refine q_q sb2_ok fun K hK=>?_|refine q_r sb2_ok fun K hK=>?_);simp (maxSteps:=2000000) only [go_sem,↓reduceIte,reduceCtorEq,Nat.reduceLeDiff,Nat.reduceLT,Nat.reduceBEq,Nat.reduceAdd,h0, h1, h2];(repeat1' with_reducible first|apply And.intro|(intro _;try exact q_v)|(refine hK _ ?_;clear hK K))<;>(try (clear hK K;exact q_u)))|(with_reducible refine q_s ?_;(first|apply q_J|apply q_K|apply q_L|apply q_M|apply q_N|apply q_O)<;>try (intro _;try exact q_v))|with_reducible refine q_t ?_)
      exact q_A (by simp [resAV, q_y, slF, slI])
    · subst hg
      (refine q_H Try.func117 (fun F => ?_); simp only [q_z,q_y,Try.ntmps117,Try.results117])
      repeat' (first|(with_reducible first|apply q_a|apply q_b|apply q_c|apply q_d|apply q_e|apply q_f|apply q_g|apply q_h|apply q_i|apply q_j|apply q_k|apply q_m|apply q_n|apply q_o|apply q_p|refine q_l ?_)|((with_reducible first|refine q_q sb2_ok fun K hK=>?_|refine q_r sb2_ok fun K hK=>?_);simp (maxSteps:=2000000) only [go_sem,↓reduceIte,reduceCtorEq,Nat.reduceLeDiff,Nat.reduceLT,Nat.reduceBEq,Nat.reduceAdd,h0, h1, h2];(repeat1' with_reducible first|apply And.intro|(intro _;try exact q_v)|(refine hK _ ?_;clear hK K))<;>(try (clear hK K;exact q_u)))|(with_reducible refine q_s ?_;(first|apply q_J|apply q_K|apply q_L|apply q_M|apply q_N|apply q_O)<;>try (intro _;try exact q_v))|with_reducible refine q_t ?_)
      all_goals
        rename_i q
        have q2 : (x2.length = 0) = (x2.length = 0 : Prop) := rfl
        by_cases hz : x2.length = 0
        · first | omega | exact q_A (by simp [resAV, q_y, slF, slI, hz])
        · first | omega | exact q_A (by simp [resAV, q_y, slF, slI, hz])
def chkCT : CT := mkCT [.inr [none, some (.ints .u32 []), none, some (.ints .u32 []), none, some (.ints .u32 []), none, none, none]] true fun l K => match l with
  | [.inr [.b s0, .ints .u32 x0, .b s1, .ints .u32 x1, .b s2, .ints .u32 x2, .b g0, .b g1, .b g2]] => (x0.length ≤ 140737488355328 ∧ x1.length ≤ 140737488355328 ∧ x2.length ≤ 140737488355328) ∧
      K (.g [.i .i64 (slF (prt s0 x0 g0) (prt s1 x1 g1) (prt s2 x2 g2) g2 x2.length), .i .i64 (slI (prt s0 x0 g0) (prt s1 x1 g1) (prt s2 x2 g2) g2 x2.length)])
  | _ => False
def su5 : Cfg := addT 117 chkCT su4
theorem su5_ok : TblOk Try.prog su5 := q_I su4_ok Try.func117 fun l K h => by
  split at h
  · exact ⟨_, (scheck_ret _ _ _ _ _ _ _ _ _ h.1.1 h.1.2.1 h.1.2.2).plain rfl, h.2⟩
  · exact h.elim
attribute [go_sem] chkCT
def sb3 : Cfg := listT [(118, boundedCT), (64, ivalidCT), (92, atCT)] [30]
theorem sb3_ok : TblOk Try.prog sb3 := listT_ok (big := su5) su5_ok ⟨rfl, rfl, rfl, trivial⟩
attribute [go_sem] sb3
def ixZ (a n : Int) : Int := if a < 0 then a + n else a
def indexSCT : CT := mkCT [nP] true fun l K => match l with
  | [.inr [.b s, .ints .u32 xs], .inl (.i .i64 n)] => (xs.length ≤ 140737488355328 ∧ InB 4294967296 xs) ∧ (okZ s xs = false → K (.t [.inl (.i .i64 0), .inr [.i .i64 6, .i .i64 (-1)]])) ∧
      (okZ s xs = true → ((n < 0 ∨ 4000 < n) → K (.t [.inl (.i .i64 0), .inr [.i .i64 4, .i .i64 (-2)]])) ∧
        (0 ≤ n ∧ n ≤ 4000 → (¬ (0 ≤ ixZ (sv 4294967296 s xs) n ∧ ixZ (sv 4294967296 s xs) n < n) → K (.t [.inl (.i .i64 0), .inr [.i .i64 4, .i .i64 (-1)]])) ∧
          (0 ≤ ixZ (sv 4294967296 s xs) n ∧ ixZ (sv 4294967296 s xs) n < n → K (.t [.inl (.i .i64 (ixZ (sv 4294967296 s xs) n)), .inr [.i .i64 0, .i .i64 0]]))))
  | _ => False
def su6 : Cfg := su5
theorem su6_ok : TblOk Try.prog su6 := su5_ok
attribute [go_sem] indexSCT
set_option maxHeartbeats 1600000 in
theorem end_ret (s : Bool) (xs : List Int) (n lo hi : Int) (hb : InB 4294967296 xs) (ho : okZ s xs = true) (h0 : 0 ≤ n) (h1 : n ≤ 4000) (h2 : -1 ≤ lo) (h3 : lo ≤ hi) (h4 : hi ≤ n) :
    Ret Try.prog 119 false [.inr [.b s, .ints .u32 xs], .inl (.i .i64 n), .inl (.i .i64 lo), .inl (.i .i64 hi)] (.c (.i .i64 (enda (sv 4294967296 s xs) n lo hi))) := by
  generalize hz : sv 4294967296 s xs = z
  have hbn := bnd_in (z := z) (lo := 0 - n - 1) (hi := n) (by omega)
  have e0 : enda z n lo hi = bnd (if bnd z (0 - n - 1) n < 0 then bnd z (0 - n - 1) n + n else bnd z (0 - n - 1) n) lo hi := by
    unfold enda; rw [show -n - 1 = 0 - n - 1 by omega]
  rw [e0]
  obtain ⟨k, hk2⟩ : ∃ k, bnd z (0 - n - 1) n = k := ⟨_, rfl⟩
  rw [hk2] at hbn ⊢
  (refine q_H Try.func119 (fun F => ?_); simp only [q_z,q_y,Try.ntmps119,Try.results119])
  repeat' (first|(with_reducible first|apply q_a|apply q_b|apply q_c|apply q_d|apply q_e|apply q_f|apply q_g|apply q_h|apply q_i|apply q_j|apply q_k|apply q_m|apply q_n|apply q_o|apply q_p|refine q_l ?_)|((with_reducible first|refine q_q sb3_ok fun K hK=>?_|refine q_r sb3_ok fun K hK=>?_);simp (maxSteps:=2000000) only [go_sem,↓reduceIte,reduceCtorEq,Nat.reduceLeDiff,Nat.reduceLT,Nat.reduceBEq,Nat.reduceAdd,ho, hz, hk2];(repeat1' with_reducible first|apply And.intro|(intro _;try exact q_v)|(refine hK _ ?_;clear hK K))<;>(try (clear hK K;exact q_u)))|(with_reducible refine q_s ?_;(first|apply q_J|apply q_K|apply q_L|apply q_M|apply q_N|apply q_O)<;>try (intro _;try exact q_v))|with_reducible refine q_t ?_)
  · rename_i q
    rw [if_pos q]; exact q_A rfl
  · rename_i q
    rw [if_neg q]; exact q_A rfl
def endCT : CT := mkCT [nP] true fun l K => match l with
  | [.inr [.b s, .ints .u32 xs], .inl (.i .i64 n), .inl (.i .i64 lo), .inl (.i .i64 hi)] => ((okZ s xs = true ∧ InB 4294967296 xs) ∧ (0 ≤ n ∧ n ≤ 4000) ∧ -1 ≤ lo ∧ lo ≤ hi ∧ hi ≤ n) ∧ K (.c (.i .i64 (enda (sv 4294967296 s xs) n lo hi)))
  | _ => False
def su7 : Cfg := addT 119 endCT su6
theorem su7_ok : TblOk Try.prog su7 := q_I su6_ok Try.func119 fun l K h => by
  split at h
  · obtain ⟨⟨⟨h1, h2⟩, ⟨h3, h4⟩, h5, h6, h7⟩, h⟩ := h
    exact ⟨_, (end_ret _ _ _ _ _ h2 h1 h3 h4 h5 h6 h7).plain rfl, h⟩
  · exact h.elim
attribute [go_sem] endCT
end Go.Proofs.Ytlefdhkjbbdijaa

namespace Go.Proofs.Ytlefdhkjbbdijaa
set_option linter.unusedSimpArgs false
set_option linter.unusedVariables false
open Go.Abs Go.Proofs.NatL

set_option maxHeartbeats 1600000 in
theorem grow_ret (n : Int) (h0 : 0 ≤ n) (h1 : n ≤ 16777216) : RetO Try.prog 120 [.inl .nil, .inl (.i .i64 n)] 3 1 (.ints .i64 []) := by
  by_cases hz : n = 0
  · subst hz
    (refine q_x Try.func120 rfl (Nat.le_of_ble_eq_true rfl) (fun F => ?_); simp only [q_z, q_y, Try.ntmps120, Try.results120])
    repeat' (first|(with_reducible first|apply q_a|apply q_b|apply q_c|apply q_d|apply q_e|apply q_f|apply q_g|apply q_h|apply q_i|apply q_j|apply q_k|apply q_m|apply q_n|apply q_o|apply q_p|refine q_l ?_)|((with_reducible first|refine q_q cf0_ok fun K hK=>?_|refine q_r cf0_ok fun K hK=>?_);simp (maxSteps:=2000000) only [go_sem,↓reduceIte,reduceCtorEq,Nat.reduceLeDiff,Nat.reduceLT,Nat.reduceBEq,Nat.reduceAdd];(repeat1' with_reducible first|apply And.intro|(intro _;try exact q_v)|(refine hK _ ?_;clear hK K))<;>(try (clear hK K;exact q_u)))|(with_reducible refine q_s ?_;(first|apply q_J|apply q_K|apply q_L|apply q_M|apply q_N|apply q_O)<;>try (intro _;try exact q_v)))
    exact endsO_nil rfl rfl rfl (by omega) rfl
  · (refine q_x Try.func120 rfl (Nat.le_of_ble_eq_true rfl) (fun F => ?_); simp only [q_z, q_y, Try.ntmps120, Try.results120])
    repeat' (first|(with_reducible first|apply q_a|apply q_b|apply q_c|apply q_d|apply q_e|apply q_f|apply q_g|apply q_h|apply q_i|apply q_j|apply q_k|apply q_m|apply q_n|apply q_o|apply q_p|refine q_l ?_)|((with_reducible first|refine q_q cf0_ok fun K hK=>?_|refine q_r cf0_ok fun K hK=>?_);simp (maxSteps:=2000000) only [go_sem,↓reduceIte,reduceCtorEq,Nat.reduceLeDiff,Nat.reduceLT,Nat.reduceBEq,Nat.reduceAdd];(repeat1' with_reducible first|apply And.intro|(intro _;try exact q_v)|(refine hK _ ?_;clear hK K))<;>(try (clear hK K;exact q_u)))|(with_reducible refine q_s ?_;(first|apply q_J|apply q_K|apply q_L|apply q_M|apply q_N|apply q_O)<;>try (intro _;try exact q_v)))
    all_goals first | omega | exact endsO_own rfl rfl rfl rfl rfl rfl rfl
def growCT : CT := mkCTO [] 3 1 fun l K => match l with
  | [.inl .nil, .inl (.i .i64 n)] => (0 ≤ n ∧ n ≤ 16777216) ∧ K (.c (.ints .i64 []))
  | _ => False
def so1 : Cfg := addT 120 growCT su7
theorem so1_ok : TblOk Try.prog so1 := mkCTO_ok su7_ok (q_C Try.func120 (by kernel_rfl) (by kernel_rfl)) rfl fun l K h => by
  split at h
  · exact ⟨_, grow_ret _ h.1.1 h.1.2, h.2⟩
  · exact h.elim
attribute [go_sem] growCT
def sob : Cfg := listT [(120, growCT)] [30]
theorem sob_ok : TblOk Try.prog sob := listT_ok (big := so1) so1_ok ⟨rfl, trivial⟩
attribute [go_sem] sob
def rowL (xs : List Int) : List C := [.ints .i64 xs]
def unL : List (List C) → Option (List (List Int))
  | [] => some []
  | [.ints .i64 xs] :: r => (unL r).map (xs :: ·)
  | _ :: _ => none
theorem unL_some : ∀ {rows : List (List C)} {l : List (List Int)}, unL rows = some l → rows = l.map rowL
  | [], l, h => by simp [unL] at h; subst h; rfl
  | r :: rows, l, h => by
    unfold unL at h
    split at h
    · rename_i heq; cases heq
    · rename_i xs r' heq
      cases heq
      obtain ⟨l', h1, rfl⟩ := Option.map_eq_some_iff.1 h
      rw [unL_some h1]; rfl
    · cases h
theorem rowL_get (l : List (List Int)) (i : Nat) (h : i < l.length) : (l.map rowL).getD i [] = [.ints .i64 (l.getD i [])] := by
  simp [List.getD_eq_getElem?_getD, List.getElem?_eq_getElem h, rowL]
theorem flat_take (l : List (List Int)) (i : Nat) (h : i < l.length) : (l.take (i + 1)).flatten = (l.take i).flatten ++ l.getD i [] := by
  rw [List.take_succ_eq_append_getElem h, List.flatten_append]
  simp [List.getD_eq_getElem?_getD, List.getElem?_eq_getElem h]
theorem flat_le (l : List (List Int)) (i : Nat) : (l.take i).flatten.length ≤ l.flatten.length := by
  conv => rhs; rw [← List.take_append_drop i l]
  rw [List.flatten_append, List.length_append]
  omega
set_option maxRecDepth 100000 in
set_option maxHeartbeats 3200000 in
theorem concat_ret (l : List (List Int)) (hn : l.length ≤ 1000) (hl : l.flatten.length ≤ 4194304) : RetO Try.prog 93 [.inl (.sl 1 (l.map rowL))] 3 1 (.ints .i64 l.flatten) := by
  (refine q_x Try.func93 rfl (Nat.le_of_ble_eq_true rfl) (fun F => ?_); simp only [q_z, q_y, Try.ntmps93, Try.results93])
  repeat' (first|(with_reducible first|apply q_a|apply q_b|apply q_c|apply q_d|apply q_e|apply q_f|apply q_g|apply q_h|apply q_i|apply q_j|apply q_k|apply q_m|apply q_n|apply q_o|apply q_p|refine q_l ?_)|((with_reducible first|refine q_q sob_ok fun K hK=>?_|refine q_r sob_ok fun K hK=>?_);simp (maxSteps:=2000000) only [go_sem,↓reduceIte,reduceCtorEq,Nat.reduceLeDiff,Nat.reduceLT,Nat.reduceBEq,Nat.reduceAdd,List.length_map];(repeat1' with_reducible first|apply And.intro|(intro _;try exact q_v)|(refine hK _ ?_;clear hK K))<;>(try (clear hK K;exact q_u)))|(with_reducible refine q_s ?_;(first|apply q_J|apply q_K|apply q_L|apply q_M|apply q_N|apply q_O)<;>try (intro _;try exact q_v)))
  refine q_G (ι := { i : Nat // i ≤ l.length }) (fun i => ⟨36, [(0, .c (.sl 1 (l.map rowL))), (3, .c (.i .i64 ((l.take i.1).flatten.length : Nat))), (9, .c (.sl 1 (l.map rowL))), (10, .c (.i .i64 l.length)), (11, .c (.i .i64 (i.1 : Nat)))], ⟨[], [], []⟩, 0⟩) (fun i => l.length - i.1) ⟨0, by omega⟩ ?_ ?_
  · exact q_D
  rintro ⟨i, g1⟩
  simp only at g1 ⊢
  have fl := flat_le l i
  rcases Nat.lt_or_ge i l.length with hi | hi
  · have ht := flat_take l i hi
    have fl2 := flat_le l (i + 1)
    have hr := rowL_get l i hi
    have hlen := congrArg List.length ht
    rw [List.length_append] at hlen
    repeat' (first|(with_reducible first|apply q_a|apply q_b|apply q_c|apply q_d|apply q_e|apply q_f|apply q_g|apply q_h|apply q_i|apply q_j|apply q_k|apply q_m|apply q_n|apply q_o|apply q_p|refine q_l ?_)|((with_reducible first|refine q_q sob_ok fun K hK=>?_|refine q_r sob_ok fun K hK=>?_);simp (maxSteps:=2000000) only [go_sem,↓reduceIte,reduceCtorEq,Nat.reduceLeDiff,Nat.reduceLT,Nat.reduceBEq,Nat.reduceAdd,hr, List.length_map];(repeat1' with_reducible first|apply And.intro|(intro _;try exact q_v)|(refine hK _ ?_;clear hK K))<;>(try (clear hK K;exact q_u)))|(with_reducible refine q_s ?_;(first|apply q_J|apply q_K|apply q_L|apply q_M|apply q_N|apply q_O)<;>try (intro _;try exact q_v)))
    all_goals try omega
    refine q_F ⟨i + 1, hi⟩ ?_ (by simp only; omega)
    simp only [hlen, Int.natCast_add]
    exact q_D
  · have hi' : i = l.length := by omega
    subst hi'
    repeat' (first|(with_reducible first|apply q_a|apply q_b|apply q_c|apply q_d|apply q_e|apply q_f|apply q_g|apply q_h|apply q_i|apply q_j|apply q_k|apply q_m|apply q_n|apply q_o|apply q_p|refine q_l ?_)|((with_reducible first|refine q_q sob_ok fun K hK=>?_|refine q_r sob_ok fun K hK=>?_);simp (maxSteps:=2000000) only [go_sem,↓reduceIte,reduceCtorEq,Nat.reduceLeDiff,Nat.reduceLT,Nat.reduceBEq,Nat.reduceAdd,List.take_length, List.length_map];(repeat1' with_reducible first|apply And.intro|(intro _;try exact q_v)|(refine hK _ ?_;clear hK K))<;>(try (clear hK K;exact q_u)))|(with_reducible refine q_s ?_;(first|apply q_J|apply q_K|apply q_L|apply q_M|apply q_N|apply q_O)<;>try (intro _;try exact q_v)))
    all_goals try omega
    refine q_G (ι := { i : Nat // i ≤ l.length }) (fun i => ⟨36, [(6, .own 0 0), (25, .c (.sl 1 (l.map rowL))), (26, .c (.i .i64 l.length)), (27, .c (.i .i64 (i.1 : Nat)))], ⟨[], [(0, ⟨0, 3, 1, .ints .i64 (l.take i.1).flatten⟩)], []⟩, 1⟩) (fun i => l.length - i.1) ⟨0, by omega⟩ ?_ ?_
    · exact q_D
    rintro ⟨i, g1⟩
    simp only at g1 ⊢
    have fl := flat_le l i
    rcases Nat.lt_or_ge i l.length with hi | hi
    · have ht := flat_take l i hi
      have fl2 := flat_le l (i + 1)
      have hr := rowL_get l i hi
      have hlen := congrArg List.length ht
      rw [List.length_append] at hlen
      repeat' (first|(with_reducible first|apply q_a|apply q_b|apply q_c|apply q_d|apply q_e|apply q_f|apply q_g|apply q_h|apply q_i|apply q_j|apply q_k|apply q_m|apply q_n|apply q_o|apply q_p|refine q_l ?_)|((with_reducible first|refine q_q sob_ok fun K hK=>?_|refine q_r sob_ok fun K hK=>?_);simp (maxSteps:=2000000) only [go_sem,↓reduceIte,reduceCtorEq,Nat.reduceLeDiff,Nat.reduceLT,Nat.reduceBEq,Nat.reduceAdd,hr, List.length_map];(repeat1' with_reducible first|apply And.intro|(intro _;try exact q_v)|(refine hK _ ?_;clear hK K))<;>(try (clear hK K;exact q_u)))|(with_reducible refine q_s ?_;(first|apply q_J|apply q_K|apply q_L|apply q_M|apply q_N|apply q_O)<;>try (intro _;try exact q_v)))
      all_goals try omega
      refine q_F ⟨i + 1, hi⟩ ?_ (by simp only; omega)
      simp only [ht]
      exact q_D
    · have hi' : i = l.length := by omega
      subst hi'
      repeat' (first|(with_reducible first|apply q_a|apply q_b|apply q_c|apply q_d|apply q_e|apply q_f|apply q_g|apply q_h|apply q_i|apply q_j|apply q_k|apply q_m|apply q_n|apply q_o|apply q_p|refine q_l ?_)|((with_reducible first|refine q_q sob_ok fun K hK=>?_|refine q_r sob_ok fun K hK=>?_);simp (maxSteps:=2000000) only [go_sem,↓reduceIte,reduceCtorEq,Nat.reduceLeDiff,Nat.reduceLT,Nat.reduceBEq,Nat.reduceAdd,List.take_length, List.length_map];(repeat1' with_reducible first|apply And.intro|(intro _;try exact q_v)|(refine hK _ ?_;clear hK K))<;>(try (clear hK K;exact q_u)))|(with_reducible refine q_s ?_;(first|apply q_J|apply q_K|apply q_L|apply q_M|apply q_N|apply q_O)<;>try (intro _;try exact q_v)))
      all_goals first | omega | exact endsO_own rfl rfl rfl rfl rfl rfl rfl
def concatCT : CT := mkCT [] true fun l K => match l with
  | [.inl (.sl 1 rows)] => match unL rows with
    | some l => (l.length ≤ 1000 ∧ l.flatten.length ≤ 4194304) ∧ K (.c (.ints .i64 l.flatten))
    | none => False
  | _ => False
def so2 : Cfg := addT 93 concatCT so1
theorem so2_ok : TblOk Try.prog so2 := q_I so1_ok Try.func93 fun l K h => by
  split at h
  · split at h
    · rename_i l hl
      rw [unL_some hl]
      exact ⟨_, (concat_ret l h.1.1 h.1.2).ret, h.2⟩
    · exact h.elim
  · exact h.elim
set_option maxHeartbeats 800000 in
theorem cloneI_ret (xs : List Int) (hx : xs.length ≤ 16777216) : RetO Try.prog 94 [.inl (.ints .i64 xs)] 3 1 (.ints .i64 xs) := by
  by_cases h0 : xs = []
  · subst h0
    refine retO_split rfl ?_ ?_
    · (refine q_x Try.func94 rfl (Nat.le_of_ble_eq_true rfl) (fun F => ?_); simp only [q_z, q_y, Try.ntmps94, Try.results94])
      repeat' (first|(with_reducible first|apply q_a|apply q_b|apply q_c|apply q_d|apply q_e|apply q_f|apply q_g|apply q_h|apply q_i|apply q_j|apply q_k|apply q_m|apply q_n|apply q_o|apply q_p|refine q_l ?_)|((with_reducible first|refine q_q cf0_ok fun K hK=>?_|refine q_r cf0_ok fun K hK=>?_);simp (maxSteps:=2000000) only [go_sem,↓reduceIte,reduceCtorEq,Nat.reduceLeDiff,Nat.reduceLT,Nat.reduceBEq,Nat.reduceAdd];(repeat1' with_reducible first|apply And.intro|intro _|(refine hK _ ?_;clear hK K))<;>(try (clear hK K;exact q_u)))|(with_reducible refine q_s ?_;(first|apply q_J|apply q_K|apply q_L|apply q_M|apply q_N|apply q_O)<;>try intro _))
      exact endsO_nil rfl rfl rfl (by omega) rfl
    · (refine q_x Try.func94 rfl (Nat.le_of_ble_eq_true rfl) (fun F => ?_); simp only [q_z, q_y, Try.ntmps94, Try.results94])
      repeat' (first|(with_reducible first|apply q_a|apply q_b|apply q_c|apply q_d|apply q_e|apply q_f|apply q_g|apply q_h|apply q_i|apply q_j|apply q_k|apply q_m|apply q_n|apply q_o|apply q_p|refine q_l ?_)|((with_reducible first|refine q_q cf0_ok fun K hK=>?_|refine q_r cf0_ok fun K hK=>?_);simp (maxSteps:=2000000) only [go_sem,↓reduceIte,reduceCtorEq,Nat.reduceLeDiff,Nat.reduceLT,Nat.reduceBEq,Nat.reduceAdd];(repeat1' with_reducible first|apply And.intro|intro _|(refine hK _ ?_;clear hK K))<;>(try (clear hK K;exact q_u)))|(with_reducible refine q_s ?_;(first|apply q_J|apply q_K|apply q_L|apply q_M|apply q_N|apply q_O)<;>try intro _))
      exact endsO_own rfl rfl rfl rfl rfl rfl rfl
  · (refine q_x Try.func94 rfl (Nat.le_of_ble_eq_true rfl) (fun F => ?_); simp only [q_z, q_y, Try.ntmps94, Try.results94])
    repeat' (first|(with_reducible first|apply q_a|apply q_b|apply q_c|apply q_d|apply q_e|apply q_f|apply q_g|apply q_h|apply q_i|apply q_j|apply q_k|apply q_m|apply q_n|apply q_o|apply q_p|refine q_l ?_)|((with_reducible first|refine q_q cf0_ok fun K hK=>?_|refine q_r cf0_ok fun K hK=>?_);simp (maxSteps:=2000000) only [go_sem,↓reduceIte,reduceCtorEq,Nat.reduceLeDiff,Nat.reduceLT,Nat.reduceBEq,Nat.reduceAdd];(repeat1' with_reducible first|apply And.intro|intro _|(refine hK _ ?_;clear hK K))<;>(try (clear hK K;exact q_u)))|(with_reducible refine q_s ?_;(first|apply q_J|apply q_K|apply q_L|apply q_M|apply q_N|apply q_O)<;>try intro _))
    exact endsO_own rfl rfl rfl rfl rfl rfl rfl
def cloneICT : CT := mkCTO [.inl (some (.ints .i64 []))] 3 1 fun l K => match l with
  | [.inl (.ints .i64 xs)] => xs.length ≤ 16777216 ∧ K (.c (.ints .i64 xs))
  | _ => False
def so3 : Cfg := addT 94 cloneICT so2
theorem so3_ok : TblOk Try.prog so3 := mkCTO_ok so2_ok (q_C Try.func94 (by kernel_rfl) (by kernel_rfl)) rfl fun l K h => by
  split at h
  · exact ⟨_, cloneI_ret _ h.1, h.2⟩
  · exact h.elim
attribute [go_sem] concatCT cloneICT unL
end Go.Proofs.Ytlefdhkjbbdijaa

namespace Go.Proofs.NatL
set_option linter.unusedSimpArgs false
set_option linter.unusedVariables false
end Go.Proofs.NatL

namespace Go.Proofs.NatL
set_option linter.unusedSimpArgs false
set_option linter.unusedVariables false

theorem B2_nil : B2 [] = 0 := rfl
theorem sgz_sg (s : Bool) (k : Nat) : sgz (sg s k) s = s := by
  unfold sgz
  by_cases h : sg s k = 0
  · rw [if_pos h]
  · rw [if_neg h]
    cases s
    · rw [sgf] at h ⊢; exact decide_eq_false (by omega)
    · rw [sgt] at h ⊢; exact decide_eq_true (by omega)
theorem sg_eq_add (s : Bool) (m n : Nat) : sg s m + sg s n = sg s (m + n) := by cases s <;> simp only [sgt, sgf] <;> omega
theorem sg_eq_sub {s t : Bool} (h : s ≠ t) {m n : Nat} (hn : n ≤ m) : sg s m + sg t n = sg s (m - n) := by
  cases s <;> cases t <;> simp only [sgt, sgf] <;> first | exact absurd rfl h | omega
theorem sg_eq_sub' {s t : Bool} (h : s ≠ t) {m n : Nat} (hn : m ≤ n) : sg s m + sg t n = sg t (n - m) := by
  cases s <;> cases t <;> simp only [sgt, sgf] <;> first | exact absurd rfl h | omega
theorem tdiv2_abs (z : Int) : (z.tdiv 2).natAbs = z.natAbs / 2 := by rw [Int.natAbs_tdiv]; rfl
theorem tmod2_ne (z : Int) : decide (¬ z.tmod 2 = 0) = decide (z.natAbs % 2 = 1) := by
  have h1 : (z.tmod 2).natAbs = z.natAbs % 2 := by rw [Int.natAbs_tmod]; rfl
  congr 1
  exact propext ⟨fun h => by omega, fun h => by omega⟩

end Go.Proofs.NatL

namespace Go.Proofs.Ytlefdhkjbbdijaa
set_option linter.unusedSimpArgs false
set_option linter.unusedVariables false
open Go.Proofs.NatL

structure BitOp (op : Nat → Nat → Nat) : Prop where
  lt : ∀ k x y, x < 2 ^ k → y < 2 ^ k → op x y < 2 ^ k
  split : ∀ k x y s t, x < 2 ^ k → y < 2 ^ k → op (x + 2 ^ k * s) (y + 2 ^ k * t) = op x y + 2 ^ k * op s t

theorem BitOp.zero {op : Nat → Nat → Nat} (h : BitOp op) : op 0 0 = 0 := by
  have := h.split 0 0 0 0 0 (by simp) (by simp)
  simp at this; omega

def lo (k : Nat) (a : Int) : Nat := (a % ((2 ^ k : Nat) : Int)).toNat
def FitK (k : Nat) (a : Int) : Prop := -((2 ^ k : Nat) : Int) ≤ a ∧ a < ((2 ^ k : Nat) : Int)
theorem FitK.mono {k m : Nat} {a : Int} (h : FitK k a) (hm : k ≤ m) : FitK m a := by
  have := Nat.pow_le_pow_right (n := 2) (by omega) hm
  unfold FitK at *; omega
end Go.Proofs.Ytlefdhkjbbdijaa

namespace Go.Proofs.Ytlefdhkjbbdijaa
set_option linter.unusedSimpArgs false
set_option linter.unusedVariables false
open Go.Proofs.NatL

def pm (a : Int) (e : Nat) (m : Int) : Int := (a ^ e) % m
end Go.Proofs.Ytlefdhkjbbdijaa

namespace Go.Abs
set_option linter.unusedSimpArgs false
set_option linter.unusedVariables false
variable {P : Program}
def AllE (P : Program) : List (FuncId × CT) → Prop
  | [] => True
  | p :: l => (∃ big, TblOk P big ∧ big.tbl p.1 = some p.2) ∧ AllE P l
theorem listE_ok {flt : List TypeId} (hf : ∀ t ∈ flt, FltOk P t) {l : List (FuncId × CT)} (h : AllE P l) : TblOk P (listT l flt) := by
  refine ⟨hf, fun f ct hl => ?_⟩
  have key : ∀ {l : List (FuncId × CT)}, AllE P l → look l f = some ct → ∃ big, TblOk P big ∧ big.tbl f = some ct := by
    intro l
    induction l with
    | nil => intro _ h; simp [look] at h
    | cons p l ih =>
      intro ha h
      simp only [look] at h
      split at h
      · rename_i he
        cases h
        rw [← beq_iff_eq.1 he]; exact ha.1
      · exact ih ha.2 h
  obtain ⟨big, h1, h2⟩ := key h hl
  exact h1.2 f ct h2
end Go.Abs
namespace Go.Proofs.Ytlefdhkjbbdijaa
set_option linter.unusedSimpArgs false
set_option linter.unusedVariables false
open Go.Proofs.NatL

def bits (n v : Nat) : List Bool := (List.range n).map fun i => v.testBit i
end Go.Proofs.Ytlefdhkjbbdijaa
