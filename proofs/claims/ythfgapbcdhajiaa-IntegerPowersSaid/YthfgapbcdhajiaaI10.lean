import Derived.Test.YthfgapbcdhajiaaI9
namespace Go.Proofs.Ythfgapbcdhajiaa
set_option linter.unusedSimpArgs false
set_option linter.unusedVariables false
open Go.Abs Go.Proofs.NatL

def bwCT (f : FuncId) (z : Int → Int → Int) : CT := mkCT [nP, nP, .inl none] false fun l K => match l with
  | [.inr [.b s, .ints .u32 xs], .inr [.b t, .ints .u32 ys], .inl (.a v)] => (v = .func (.func f) #[] #[] ∧ okZ s xs = true ∧ InB 4294967296 xs ∧ okZ t ys = true ∧ InB 4294967296 ys) ∧ K (rCz (z (sv 4294967296 s xs) (sv 4294967296 t ys)))
  | _ => False
def bwB : CT := mkCT [nP, nP, .inl none] false fun l K => match l with
  | [.inr [.b s, .ints .u32 xs], .inr [.b t, .ints .u32 ys], .inl (.a _)] => (xs.length ≤ 140737488355328 ∧ ys.length ≤ 140737488355328 ∧ (okZ s xs = false ∨ okZ s xs = true ∧ okZ t ys = false)) ∧ K (.t [.inr [.b false, .ints .u32 []], .inr [.i .i64 6, .i .i64 (if okZ s xs then -2 else -1)]])
  | _ => False
def ibc : Cfg := listT [(61, icheckCT)] [27]
theorem ibc_ok : TblOk Try.prog ibc := listT_ok (big := iv4) iv4_ok ⟨rfl, trivial⟩
attribute [go_sem] ibc
set_option maxHeartbeats 1600000 in
theorem ibit_bad (s t : Bool) (xs ys : List Int) (v : Value) (lx : xs.length ≤ 140737488355328) (ly : ys.length ≤ 140737488355328) (h : okZ s xs = false ∨ okZ s xs = true ∧ okZ t ys = false) :
    Ret Try.prog 92 false [.inr [.b s, .ints .u32 xs], .inr [.b t, .ints .u32 ys], .inl (.a v)] (.t [.inr [.b false, .ints .u32 []], .inr [.i .i64 6, .i .i64 (if okZ s xs then -2 else -1)]]) := by
  rcases h with h1 | ⟨h1, h2⟩
  · (refine q_H Try.func92 (fun F => ?_); simp only [q_z,q_y,Try.ntmps92,Try.results92])
    repeat' (first|(with_reducible first|apply q_a|apply q_b|apply q_c|apply q_d|apply q_e|apply q_f|apply q_g|apply q_h|apply q_i|apply q_j|apply q_k|apply q_m|apply q_n|apply q_o|apply q_p|refine q_l ?_)|((with_reducible first|refine q_q ibc_ok fun K hK=>?_|refine q_r ibc_ok fun K hK=>?_);simp (maxSteps:=2000000) only [go_sem,↓reduceIte,reduceCtorEq,Nat.reduceLeDiff,Nat.reduceLT,Nat.reduceBEq,Nat.reduceAdd,h1];(repeat1' with_reducible first|apply And.intro|(intro _;try exact q_v)|(refine hK _ ?_;clear hK K))<;>(try (clear hK K;exact q_u)))|(with_reducible refine q_s ?_;(first|apply q_J|apply q_K|apply q_L|apply q_M|apply q_N|apply q_O)<;>try (intro _;try exact q_v))|with_reducible refine q_t ?_)
    all_goals exact q_B [nP] rfl (by simp only [h1]; rfl)
  · (refine q_H Try.func92 (fun F => ?_); simp only [q_z,q_y,Try.ntmps92,Try.results92])
    repeat' (first|(with_reducible first|apply q_a|apply q_b|apply q_c|apply q_d|apply q_e|apply q_f|apply q_g|apply q_h|apply q_i|apply q_j|apply q_k|apply q_m|apply q_n|apply q_o|apply q_p|refine q_l ?_)|((with_reducible first|refine q_q ibc_ok fun K hK=>?_|refine q_r ibc_ok fun K hK=>?_);simp (maxSteps:=2000000) only [go_sem,↓reduceIte,reduceCtorEq,Nat.reduceLeDiff,Nat.reduceLT,Nat.reduceBEq,Nat.reduceAdd,h1, h2];(repeat1' with_reducible first|apply And.intro|(intro _;try exact q_v)|(refine hK _ ?_;clear hK K))<;>(try (clear hK K;exact q_u)))|(with_reducible refine q_s ?_;(first|apply q_J|apply q_K|apply q_L|apply q_M|apply q_N|apply q_O)<;>try (intro _;try exact q_v))|with_reducible refine q_t ?_)
    all_goals exact q_B [nP] rfl (by simp only [h1]; rfl)
def iwB : Cfg := addT 92 bwB iv4
theorem iwB_ok : TblOk Try.prog iwB := q_I iv4_ok Try.func92 fun l K h => by
  split at h
  · exact ⟨_, ibit_bad _ _ _ _ _ h.1.1 h.1.2.1 h.1.2.2, h.2⟩
  · exact h.elim
attribute [go_sem] bwB
def itB : Cfg := listT [(92, bwB)] [27]
theorem itB_ok : TblOk Try.prog itB := listT_ok (big := iwB) iwB_ok ⟨rfl, trivial⟩
attribute [go_sem] itB
def zNot (a _ : Int) : Int := -a - 1
def iwAnd : Cfg := addT 92 (bwCT 93 zAnd) iv4
theorem iwAnd_ok : TblOk Try.prog iwAnd := q_I iv4_ok Try.func92 fun l K h => by
  split at h
  · rename_i s xs t ys v
    obtain ⟨⟨rfl, h1, h2, h3, h4⟩, h⟩ := h
    obtain ⟨a1, a2, a3⟩ := okZ_eq h1 h2
    obtain ⟨b1, b2, b3⟩ := okZ_eq h3 h4
    have := ibitAnd_ok (sv 4294967296 s xs) (sv 4294967296 t ys) (by rw [← a2]; exact a3) (by rw [← b2]; exact b3)
    rw [gI, gI, ← a1, ← a2, ← b1, ← b2] at this
    exact ⟨_, this, h⟩
  · exact h.elim
def itAnd : Cfg := listT [(92, (bwCT 93 zAnd))] [27]
theorem itAnd_ok : TblOk Try.prog itAnd := listT_ok (big := iwAnd) iwAnd_ok ⟨rfl, trivial⟩
attribute [go_sem] itAnd
def iwOr : Cfg := addT 92 (bwCT 94 zOr) iv4
theorem iwOr_ok : TblOk Try.prog iwOr := q_I iv4_ok Try.func92 fun l K h => by
  split at h
  · rename_i s xs t ys v
    obtain ⟨⟨rfl, h1, h2, h3, h4⟩, h⟩ := h
    obtain ⟨a1, a2, a3⟩ := okZ_eq h1 h2
    obtain ⟨b1, b2, b3⟩ := okZ_eq h3 h4
    have := ibitOr_ok (sv 4294967296 s xs) (sv 4294967296 t ys) (by rw [← a2]; exact a3) (by rw [← b2]; exact b3)
    rw [gI, gI, ← a1, ← a2, ← b1, ← b2] at this
    exact ⟨_, this, h⟩
  · exact h.elim
def itOr : Cfg := listT [(92, (bwCT 94 zOr))] [27]
theorem itOr_ok : TblOk Try.prog itOr := listT_ok (big := iwOr) iwOr_ok ⟨rfl, trivial⟩
attribute [go_sem] itOr
def iwXor : Cfg := addT 92 (bwCT 95 zXor) iv4
theorem iwXor_ok : TblOk Try.prog iwXor := q_I iv4_ok Try.func92 fun l K h => by
  split at h
  · rename_i s xs t ys v
    obtain ⟨⟨rfl, h1, h2, h3, h4⟩, h⟩ := h
    obtain ⟨a1, a2, a3⟩ := okZ_eq h1 h2
    obtain ⟨b1, b2, b3⟩ := okZ_eq h3 h4
    have := ibitXor_ok (sv 4294967296 s xs) (sv 4294967296 t ys) (by rw [← a2]; exact a3) (by rw [← b2]; exact b3)
    rw [gI, gI, ← a1, ← a2, ← b1, ← b2] at this
    exact ⟨_, this, h⟩
  · exact h.elim
def itXor : Cfg := listT [(92, (bwCT 95 zXor))] [27]
theorem itXor_ok : TblOk Try.prog itXor := listT_ok (big := iwXor) iwXor_ok ⟨rfl, trivial⟩
attribute [go_sem] itXor
def iwNot : Cfg := addT 92 (bwCT 96 zNot) iv4
theorem iwNot_ok : TblOk Try.prog iwNot := q_I iv4_ok Try.func92 fun l K h => by
  split at h
  · rename_i s xs t ys v
    obtain ⟨⟨rfl, h1, h2, h3, h4⟩, h⟩ := h
    obtain ⟨a1, a2, a3⟩ := okZ_eq h1 h2
    obtain ⟨b1, b2, b3⟩ := okZ_eq h3 h4
    have := ibitNot_ok (sv 4294967296 s xs) (sv 4294967296 t ys) (by rw [← a2]; exact a3) (by rw [← b2]; exact b3)
    rw [gI, gI, ← a1, ← a2, ← b1, ← b2] at this
    exact ⟨_, this, h⟩
  · exact h.elim
def itNot : Cfg := listT [(92, (bwCT 96 zNot))] [27]
theorem itNot_ok : TblOk Try.prog itNot := listT_ok (big := iwNot) iwNot_ok ⟨rfl, trivial⟩
attribute [go_sem] itNot
attribute [go_sem] bwCT
set_option maxHeartbeats 1600000 in
theorem iAnd_ok (a b : Int) (la : (dg 4294967296 a.natAbs).length ≤ 128) (lb : (dg 4294967296 b.natAbs).length ≤ 128) :
    Ret Try.prog 54 false [.inr (gI a), .inr (gI b)] (rCz (zAnd a b)) := by
  have oa := (okZ_g a).trans (decide_eq_true la)
  have ob := (okZ_g b).trans (decide_eq_true lb)
  (refine q_H Try.func54 (fun F => ?_); simp only [q_z,q_y,Try.ntmps54,Try.results54])
  repeat' (first|(with_reducible first|apply q_a|apply q_b|apply q_c|apply q_d|apply q_e|apply q_f|apply q_g|apply q_h|apply q_i|apply q_j|apply q_k|apply q_m|apply q_n|apply q_o|apply q_p|refine q_l ?_)|((with_reducible first|refine q_q itAnd_ok fun K hK=>?_|refine q_r itAnd_ok fun K hK=>?_);simp (maxSteps:=2000000) only [go_sem,↓reduceIte,reduceCtorEq,Nat.reduceLeDiff,Nat.reduceLT,Nat.reduceBEq,Nat.reduceAdd,oa, ob, sv32];(repeat1' with_reducible first|apply And.intro|(intro _;try exact q_v)|(refine hK _ ?_;clear hK K))<;>(try (clear hK K;exact q_u)))|(with_reducible refine q_s ?_;(first|apply q_J|apply q_K|apply q_L|apply q_M|apply q_N|apply q_O)<;>try (intro _;try exact q_v))|with_reducible refine q_t ?_)
  exact q_A rfl
theorem iAnd_bad (s t : Bool) (xs ys : List Int) (lx : xs.length ≤ 140737488355328) (ly : ys.length ≤ 140737488355328) (h : okZ s xs = false ∨ okZ s xs = true ∧ okZ t ys = false) :
    Ret Try.prog 54 false [.inr [.b s, .ints .u32 xs], .inr [.b t, .ints .u32 ys]] (.t [.inr [.b false, .ints .u32 []], .inr [.i .i64 6, .i .i64 (if okZ s xs then -2 else -1)]]) := by
  (refine q_H Try.func54 (fun F => ?_); simp only [q_z,q_y,Try.ntmps54,Try.results54])
  repeat' (first|(with_reducible first|apply q_a|apply q_b|apply q_c|apply q_d|apply q_e|apply q_f|apply q_g|apply q_h|apply q_i|apply q_j|apply q_k|apply q_m|apply q_n|apply q_o|apply q_p|refine q_l ?_)|((with_reducible first|refine q_q itB_ok fun K hK=>?_|refine q_r itB_ok fun K hK=>?_);simp (maxSteps:=2000000) only [go_sem,↓reduceIte,reduceCtorEq,Nat.reduceLeDiff,Nat.reduceLT,Nat.reduceBEq,Nat.reduceAdd];(repeat1' with_reducible first|apply And.intro|(intro _;try exact q_v)|(refine hK _ ?_;clear hK K))<;>(try (clear hK K;exact q_u)))|(with_reducible refine q_s ?_;(first|apply q_J|apply q_K|apply q_L|apply q_M|apply q_N|apply q_O)<;>try (intro _;try exact q_v))|with_reducible refine q_t ?_)
  all_goals first | assumption | exact q_A rfl
set_option maxHeartbeats 1600000 in
theorem iOr_ok (a b : Int) (la : (dg 4294967296 a.natAbs).length ≤ 128) (lb : (dg 4294967296 b.natAbs).length ≤ 128) :
    Ret Try.prog 55 false [.inr (gI a), .inr (gI b)] (rCz (zOr a b)) := by
  have oa := (okZ_g a).trans (decide_eq_true la)
  have ob := (okZ_g b).trans (decide_eq_true lb)
  (refine q_H Try.func55 (fun F => ?_); simp only [q_z,q_y,Try.ntmps55,Try.results55])
  repeat' (first|(with_reducible first|apply q_a|apply q_b|apply q_c|apply q_d|apply q_e|apply q_f|apply q_g|apply q_h|apply q_i|apply q_j|apply q_k|apply q_m|apply q_n|apply q_o|apply q_p|refine q_l ?_)|((with_reducible first|refine q_q itOr_ok fun K hK=>?_|refine q_r itOr_ok fun K hK=>?_);simp (maxSteps:=2000000) only [go_sem,↓reduceIte,reduceCtorEq,Nat.reduceLeDiff,Nat.reduceLT,Nat.reduceBEq,Nat.reduceAdd,oa, ob, sv32];(repeat1' with_reducible first|apply And.intro|(intro _;try exact q_v)|(refine hK _ ?_;clear hK K))<;>(try (clear hK K;exact q_u)))|(with_reducible refine q_s ?_;(first|apply q_J|apply q_K|apply q_L|apply q_M|apply q_N|apply q_O)<;>try (intro _;try exact q_v))|with_reducible refine q_t ?_)
  exact q_A rfl
theorem iOr_bad (s t : Bool) (xs ys : List Int) (lx : xs.length ≤ 140737488355328) (ly : ys.length ≤ 140737488355328) (h : okZ s xs = false ∨ okZ s xs = true ∧ okZ t ys = false) :
    Ret Try.prog 55 false [.inr [.b s, .ints .u32 xs], .inr [.b t, .ints .u32 ys]] (.t [.inr [.b false, .ints .u32 []], .inr [.i .i64 6, .i .i64 (if okZ s xs then -2 else -1)]]) := by
  (refine q_H Try.func55 (fun F => ?_); simp only [q_z,q_y,Try.ntmps55,Try.results55])
  repeat' (first|(with_reducible first|apply q_a|apply q_b|apply q_c|apply q_d|apply q_e|apply q_f|apply q_g|apply q_h|apply q_i|apply q_j|apply q_k|apply q_m|apply q_n|apply q_o|apply q_p|refine q_l ?_)|((with_reducible first|refine q_q itB_ok fun K hK=>?_|refine q_r itB_ok fun K hK=>?_);simp (maxSteps:=2000000) only [go_sem,↓reduceIte,reduceCtorEq,Nat.reduceLeDiff,Nat.reduceLT,Nat.reduceBEq,Nat.reduceAdd];(repeat1' with_reducible first|apply And.intro|(intro _;try exact q_v)|(refine hK _ ?_;clear hK K))<;>(try (clear hK K;exact q_u)))|(with_reducible refine q_s ?_;(first|apply q_J|apply q_K|apply q_L|apply q_M|apply q_N|apply q_O)<;>try (intro _;try exact q_v))|with_reducible refine q_t ?_)
  all_goals first | assumption | exact q_A rfl
set_option maxHeartbeats 1600000 in
theorem iXor_ok (a b : Int) (la : (dg 4294967296 a.natAbs).length ≤ 128) (lb : (dg 4294967296 b.natAbs).length ≤ 128) :
    Ret Try.prog 56 false [.inr (gI a), .inr (gI b)] (rCz (zXor a b)) := by
  have oa := (okZ_g a).trans (decide_eq_true la)
  have ob := (okZ_g b).trans (decide_eq_true lb)
  (refine q_H Try.func56 (fun F => ?_); simp only [q_z,q_y,Try.ntmps56,Try.results56])
  repeat' (first|(with_reducible first|apply q_a|apply q_b|apply q_c|apply q_d|apply q_e|apply q_f|apply q_g|apply q_h|apply q_i|apply q_j|apply q_k|apply q_m|apply q_n|apply q_o|apply q_p|refine q_l ?_)|((with_reducible first|refine q_q itXor_ok fun K hK=>?_|refine q_r itXor_ok fun K hK=>?_);simp (maxSteps:=2000000) only [go_sem,↓reduceIte,reduceCtorEq,Nat.reduceLeDiff,Nat.reduceLT,Nat.reduceBEq,Nat.reduceAdd,oa, ob, sv32];(repeat1' with_reducible first|apply And.intro|(intro _;try exact q_v)|(refine hK _ ?_;clear hK K))<;>(try (clear hK K;exact q_u)))|(with_reducible refine q_s ?_;(first|apply q_J|apply q_K|apply q_L|apply q_M|apply q_N|apply q_O)<;>try (intro _;try exact q_v))|with_reducible refine q_t ?_)
  exact q_A rfl
theorem iXor_bad (s t : Bool) (xs ys : List Int) (lx : xs.length ≤ 140737488355328) (ly : ys.length ≤ 140737488355328) (h : okZ s xs = false ∨ okZ s xs = true ∧ okZ t ys = false) :
    Ret Try.prog 56 false [.inr [.b s, .ints .u32 xs], .inr [.b t, .ints .u32 ys]] (.t [.inr [.b false, .ints .u32 []], .inr [.i .i64 6, .i .i64 (if okZ s xs then -2 else -1)]]) := by
  (refine q_H Try.func56 (fun F => ?_); simp only [q_z,q_y,Try.ntmps56,Try.results56])
  repeat' (first|(with_reducible first|apply q_a|apply q_b|apply q_c|apply q_d|apply q_e|apply q_f|apply q_g|apply q_h|apply q_i|apply q_j|apply q_k|apply q_m|apply q_n|apply q_o|apply q_p|refine q_l ?_)|((with_reducible first|refine q_q itB_ok fun K hK=>?_|refine q_r itB_ok fun K hK=>?_);simp (maxSteps:=2000000) only [go_sem,↓reduceIte,reduceCtorEq,Nat.reduceLeDiff,Nat.reduceLT,Nat.reduceBEq,Nat.reduceAdd];(repeat1' with_reducible first|apply And.intro|(intro _;try exact q_v)|(refine hK _ ?_;clear hK K))<;>(try (clear hK K;exact q_u)))|(with_reducible refine q_s ?_;(first|apply q_J|apply q_K|apply q_L|apply q_M|apply q_N|apply q_O)<;>try (intro _;try exact q_v))|with_reducible refine q_t ?_)
  all_goals first | assumption | exact q_A rfl
set_option maxHeartbeats 1600000 in
theorem iNot_ok (a : Int) (la : (dg 4294967296 a.natAbs).length ≤ 128) : Ret Try.prog 57 false [.inr (gI a)] (rCz (-a - 1)) := by
  have oa := (okZ_g a).trans (decide_eq_true la)
  have ob : okZ false [] = true := by decide
  (refine q_H Try.func57 (fun F => ?_); simp only [q_z,q_y,Try.ntmps57,Try.results57])
  repeat' (first|(with_reducible first|apply q_a|apply q_b|apply q_c|apply q_d|apply q_e|apply q_f|apply q_g|apply q_h|apply q_i|apply q_j|apply q_k|apply q_m|apply q_n|apply q_o|apply q_p|refine q_l ?_)|((with_reducible first|refine q_q itNot_ok fun K hK=>?_|refine q_r itNot_ok fun K hK=>?_);simp (maxSteps:=2000000) only [go_sem,↓reduceIte,reduceCtorEq,Nat.reduceLeDiff,Nat.reduceLT,Nat.reduceBEq,Nat.reduceAdd,oa, ob, sv32, zNot];(repeat1' with_reducible first|apply And.intro|(intro _;try exact q_v)|(refine hK _ ?_;clear hK K))<;>(try (clear hK K;exact q_u)))|(with_reducible refine q_s ?_;(first|apply q_J|apply q_K|apply q_L|apply q_M|apply q_N|apply q_O)<;>try (intro _;try exact q_v))|with_reducible refine q_t ?_)
  exact q_A rfl
theorem iNot_bad (s : Bool) (xs : List Int) (lx : xs.length ≤ 140737488355328) (h : okZ s xs = false) :
    Ret Try.prog 57 false [.inr [.b s, .ints .u32 xs]] (.t [.inr [.b false, .ints .u32 []], .inr [.i .i64 6, .i .i64 (-1)]]) := by
  (refine q_H Try.func57 (fun F => ?_); simp only [q_z,q_y,Try.ntmps57,Try.results57])
  repeat' (first|(with_reducible first|apply q_a|apply q_b|apply q_c|apply q_d|apply q_e|apply q_f|apply q_g|apply q_h|apply q_i|apply q_j|apply q_k|apply q_m|apply q_n|apply q_o|apply q_p|refine q_l ?_)|((with_reducible first|refine q_q itB_ok fun K hK=>?_|refine q_r itB_ok fun K hK=>?_);simp (maxSteps:=2000000) only [go_sem,↓reduceIte,reduceCtorEq,Nat.reduceLeDiff,Nat.reduceLT,Nat.reduceBEq,Nat.reduceAdd,h];(repeat1' with_reducible first|apply And.intro|(intro _;try exact q_v)|(refine hK _ ?_;clear hK K))<;>(try (clear hK K;exact q_u)))|(with_reducible refine q_s ?_;(first|apply q_J|apply q_K|apply q_L|apply q_M|apply q_N|apply q_O)<;>try (intro _;try exact q_v))|with_reducible refine q_t ?_)
  all_goals first | (exact .inl h) | (simp; done) | exact q_A rfl
set_option maxHeartbeats 1600000 in
theorem iShift_bad (s : Bool) (xs : List Int) (n : Int) (lx : xs.length ≤ 140737488355328) (h : okZ s xs = false) :
    Ret Try.prog 58 false [.inr [.b s, .ints .u32 xs], .inl (.i .i64 n)] (.t [.inr [.b false, .ints .u32 []], .inr [.i .i64 6, .i .i64 (-1)]]) := by
  (refine q_H Try.func58 (fun F => ?_); simp only [q_z,q_y,Try.ntmps58,Try.results58])
  repeat' (first|(with_reducible first|apply q_a|apply q_b|apply q_c|apply q_d|apply q_e|apply q_f|apply q_g|apply q_h|apply q_i|apply q_j|apply q_k|apply q_m|apply q_n|apply q_o|apply q_p|refine q_l ?_)|((with_reducible first|refine q_q ibc_ok fun K hK=>?_|refine q_r ibc_ok fun K hK=>?_);simp (maxSteps:=2000000) only [go_sem,↓reduceIte,reduceCtorEq,Nat.reduceLeDiff,Nat.reduceLT,Nat.reduceBEq,Nat.reduceAdd,h];(repeat1' with_reducible first|apply And.intro|(intro _;try exact q_v)|(refine hK _ ?_;clear hK K))<;>(try (clear hK K;exact q_u)))|(with_reducible refine q_s ?_;(first|apply q_J|apply q_K|apply q_L|apply q_M|apply q_N|apply q_O)<;>try (intro _;try exact q_v))|with_reducible refine q_t ?_)
  all_goals exact q_B [nP] rfl rfl
end Go.Proofs.Ythfgapbcdhajiaa
