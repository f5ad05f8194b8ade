import Derived.Test.YtgkajjifbcmoeaaGreatDoorH12
import Derived.Test.YtgkajjifbcmoeaaGreatDoorH13
namespace Go.Proofs.NatL
set_option linter.unusedSimpArgs false
set_option linter.unusedVariables false
def okD (k : Int) (s t : Bool) (xs : List Int) (e : Int) : Bool :=
 if k = 0 then okZ t xs && !t && decide (-1200 ≤ e ∧ e ≤ 1200) && decide (V 4294967296 xs < 10 ^ 120)
 else if k = 1 then decide (xs = []) && !t && decide (e = 0)
 else if k = 2 then decide (xs = []) && !t && decide (e = 0) && !s
 else false
def OkD (D : Dc) : Prop := (D.kind = 0 ∧ -1200 ≤ D.exp ∧ D.exp ≤ 1200 ∧ D.coef < 10 ^ 120) ∨ (D.kind = 1 ∧ D.coef = 0 ∧ D.exp = 0) ∨ (D.kind = 2 ∧ D.coef = 0 ∧ D.exp = 0 ∧ D.neg = false)
def dcOf (k : Int) (s : Bool) (xs : List Int) (e : Int) : Dc := ⟨k, s, V 4294967296 xs, e⟩
theorem lt120 {n : Nat} : n < 10 ^ 120 ↔ ds n ≤ 120 := ⟨fun h => ds_le h, fun h => Nat.lt_of_lt_of_le (ds_lt n) (Nat.pow_le_pow_right (by omega) h)⟩
theorem okD_parts {k : Int} {s t : Bool} {xs : List Int} {e : Int} (h : okD k s t xs e = true) :
  (k = 0 ∧ okZ t xs = true ∧ t = false ∧ -1200 ≤ e ∧ e ≤ 1200 ∧ V 4294967296 xs < 10 ^ 120) ∨ (k = 1 ∧ xs = [] ∧ t = false ∧ e = 0) ∨ (k = 2 ∧ xs = [] ∧ t = false ∧ e = 0 ∧ s = false) := by
 unfold okD at h
 split at h
 ·rename_i hk
  simp only [Bool.and_eq_true, Bool.not_eq_true', decide_eq_true_eq] at h
  obtain ⟨⟨⟨h1, h2⟩, h3, h4⟩, h5⟩ := h
  exact .inl ⟨hk, h1, h2, h3, h4, h5⟩
 ·split at h
  ·rename_i hk
   simp only [Bool.and_eq_true, Bool.not_eq_true', decide_eq_true_eq] at h
   exact .inr (.inl ⟨hk, h.1.1, h.1.2, h.2⟩)
  ·split at h
   ·rename_i hk
    simp only [Bool.and_eq_true, Bool.not_eq_true', decide_eq_true_eq] at h
    exact .inr (.inr ⟨hk, h.1.1.1, h.1.1.2, h.1.2, h.2⟩)
   ·cases h
theorem okD_eq {k : Int} {s t : Bool} {xs : List Int} {e : Int} (h : okD k s t xs e = true) (b : InB 4294967296 xs) :
  t = false ∧ xs = dg 4294967296 (dcOf k s xs e).coef ∧ OkD (dcOf k s xs e) := by
 rcases okD_parts h with ⟨h1, h2, h3, h4, h5, h6⟩ | ⟨h1, h2, h3, h4⟩ | ⟨h1, h2, h3, h4, h5⟩
 ·exact ⟨h3, (dg_V 4294967296 (by omega) xs b (okZ_trd h2)).symm, .inl ⟨h1, h4, h5, h6⟩⟩
 ·subst h2; exact ⟨h3, rfl, .inr (.inl ⟨h1, rfl, h4⟩)⟩
 ·subst h2; exact ⟨h3, rfl, .inr (.inr ⟨h1, rfl, h4, h5⟩)⟩
theorem coef_len {n : Nat} (h : ds n ≤ 120) : (dg 4294967296 n).length ≤ 13 := Nat.le_trans (len_ds h) (by omega)
theorem okZ_n' {n : Nat} (h : (dg 4294967296 n).length ≤ 128) : okZ false (dg 4294967296 n) = true := by
 unfold okZ
 refine decide_eq_true ⟨h, ?_⟩
 rcases Nat.eq_zero_or_pos n with rfl | h0
 ·exact .inl ⟨rfl, rfl⟩
 ·refine .inr ⟨fun e => ?_, dg_trd _ (by omega) _⟩
  have := (dg_len_pos 4294967296 n (by omega)).2 h0
  rw [e] at this; exact absurd this (by simp)
theorem okD_g {D : Dc} (h : OkD D) : okD D.kind D.neg false (dg 4294967296 D.coef) D.exp = true := by
 rcases h with ⟨h1, h2, h3, h4⟩ | ⟨h1, h2, h3⟩ | ⟨h1, h2, h3, h4⟩
 ·unfold okD
  rw [if_pos h1, V_dg _ (by omega), decide_eq_true h4, decide_eq_true ⟨h2, h3⟩, okZ_n' (Nat.le_trans (coef_len (lt120.1 h4)) (by omega))]
  rfl
 ·unfold okD
  rw [if_neg (by omega), if_pos h1, h2, h3]; rfl
 ·unfold okD
  rw [if_neg (by omega), if_neg (by omega), if_pos h1, h2, h3, h4]; rfl
abbrev D5 := Int × Bool × Bool × List Int × Int
abbrev d0 : D5 := (0, false, false, [], 0)
def okD5 (p : D5) : Bool := okD p.1 p.2.1 p.2.2.1 p.2.2.2.1 p.2.2.2.2
def dbC : List D5 → Int
 | [] => 0
 | p :: l => if okD5 p then dbC l else 6
def dbX : Int → List D5 → Int
 | _, [] => 0
 | i, p :: l => if okD5 p then dbX (i + 1) l else -1 - i
def allD (n : Nat) : List D5 → Prop
 | [] => True
 | p :: l => (p.2.2.2.1.length ≤ n ∧ InB 4294967296 p.2.2.2.1) ∧ allD n l
theorem allD_get {n : Nat} : ∀ {l : List D5} {i : Nat}, allD n l → (l.getD i d0).2.2.2.1.length ≤ n ∧ InB 4294967296 (l.getD i d0).2.2.2.1
 | [], i, _ => by simp [InB_nil]
 | p :: l, 0, h => h.1
 | p :: l, i + 1, h => by simpa using allD_get (i := i) h.2
theorem drop_getD5 (l : List D5) (i : Nat) (h : i < l.length) : l.drop i = l.getD i d0 :: l.drop (i + 1) := by
 rw [List.drop_eq_getElem_cons h, List.getD_eq_getElem?_getD, List.getElem?_eq_getElem h]; rfl
end Go.Proofs.NatL
namespace Go.Proofs.YtgkajjifbcmoeaaGreatDoor
set_option linter.unusedSimpArgs false
set_option linter.unusedVariables false
open Go.Abs Go.Proofs.NatL

def rowD (p : D5) : List C := [.i .i64 p.1, .b p.2.1, .b p.2.2.1, .ints .u32 p.2.2.2.1, .i .i64 p.2.2.2.2]
def unD : List (List C) → Option (List D5)
 | [] => some []
 | [.i .i64 k, .b s, .b t, .ints .u32 xs, .i .i64 e] :: r => (unD r).map ((k, s, t, xs, e) :: ·)
 | _ :: _ => none
theorem unD_some : ∀ {rows : List (List C)} {l : List D5}, unD rows = some l → rows = l.map rowD
 | [], l, h => by simp [unD] at h; subst h; rfl
 | r :: rows, l, h => by
  unfold unD at h
  split at h
  ·rename_i h0; cases h0
  ·rename_i k s t xs e r' h0
   cases h0
   obtain ⟨l', h1, rfl⟩ := Option.map_eq_some_iff.1 h
   rw [unD_some h1]; rfl
  ·cases h
theorem rowD_get (l : List D5) (i : Nat) (h : i < l.length) : (l.map rowD).getD i [] = [.i .i64 (l.getD i d0).1, .b (l.getD i d0).2.1, .b (l.getD i d0).2.2.1, .ints .u32 (l.getD i d0).2.2.2.1, .i .i64 (l.getD i d0).2.2.2.2] := by
 simp [List.getD_eq_getElem?_getD, List.getElem?_eq_getElem h, rowD]
def db7d : Cfg := listT [(83, powerCT), (124, lessCT), (143, ivalidCT)] [34]
theorem db7d_ok : TblOk Tryz.prog db7d := listE_ok (by simp only [List.mem_singleton, forall_eq]; exact flt) ⟨⟨dc3, dc3_ok, rfl⟩, ⟨dc2, dc2_ok, rfl⟩, ⟨it2, it2_ok, rfl⟩, trivial⟩
attribute [go_sem] db7d
set_option maxRecDepth 100000 in
set_option maxHeartbeats 1600000 in
theorem validD_ret (k : Int) (s t : Bool) (xs : List Int) (e : Int) (h1 : xs.length ≤ 140737488355328) (b1 : InB 4294967296 xs) :
  Ret Tryz.prog 62 false [.inr [.i .i64 k, .b s, .b t, .ints .u32 xs, .i .i64 e]] (.c (.b (okD k s t xs e))) := by
 obtain ⟨U, hU⟩ : ∃ x : Nat, x = 10 ^ 120 := ⟨_, rfl⟩
 have t120 : 10 ^ (120 : Int).toNat = U := by rw [hU]; rfl
 have l120 : (dg 4294967296 U).length ≤ 600 := by rw [hU]; exact ten_600 (k := 120) (by omega)
 have e0 : okD 0 s t xs e = (okZ t xs && !t && decide (-1200 ≤ e ∧ e ≤ 1200) && decide (V 4294967296 xs < U)) := by rw [hU]; rfl
 clear hU
 have hx : decide (xs = []) = decide ((xs.length : Int) = 0) := by congr 1; exact propext ⟨fun h => by rw [h]; rfl, fun h => List.eq_nil_of_length_eq_zero (by omega)⟩
 by_cases k0 : k = 0
 ·subst k0
  rw [e0]
  clear e0 hx
  cases hz : okZ t xs
  ·(refine q_H Tryz.func62 (fun F => ?_); simp only [q_z,q_y,Tryz.ntmps62,Tryz.results62])
   repeat' (first|(with_reducible first|apply q_a|apply q_b|apply q_c|apply q_d|apply q_e|apply q_f|apply q_g|apply q_h|apply q_i|apply q_j|apply q_k|apply q_m|apply q_n|apply q_o|apply q_p|refine q_l ?_)|((with_reducible first|refine q_q db7d_ok fun K hK=>?_|refine q_r db7d_ok fun K hK=>?_);simp (maxSteps:=2000000) only [go_sem,↓reduceIte,reduceCtorEq,Nat.reduceLeDiff,Nat.reduceLT,Nat.reduceBEq,Nat.reduceAdd,hz, t120];(repeat1' with_reducible first|apply And.intro|(intro _;try exact q_v)|(refine hK _ ?_;clear hK K))<;>(try (clear hK K;exact q_u)))|(with_reducible refine q_s ?_;(first|apply q_J|apply q_K|apply q_L|apply q_M|apply q_N|apply q_O)<;>try (intro _;try exact q_v))|with_reducible refine q_t ?_)
   all_goals first | omega | (refine q_A ?_; simp [resAV, q_y]; done) | skip
  ·have lz := okZ_len hz
   have tz := okZ_trd hz
   cases t
   all_goals
    (refine q_H Tryz.func62 (fun F => ?_); simp only [q_z,q_y,Tryz.ntmps62,Tryz.results62])
    repeat' (first|(with_reducible first|apply q_a|apply q_b|apply q_c|apply q_d|apply q_e|apply q_f|apply q_g|apply q_h|apply q_i|apply q_j|apply q_k|apply q_m|apply q_n|apply q_o|apply q_p|refine q_l ?_)|((with_reducible first|refine q_q db7d_ok fun K hK=>?_|refine q_r db7d_ok fun K hK=>?_);simp (maxSteps:=2000000) only [go_sem,↓reduceIte,reduceCtorEq,Nat.reduceLeDiff,Nat.reduceLT,Nat.reduceBEq,Nat.reduceAdd,hz, t120, V32];(repeat1' with_reducible first|apply And.intro|(intro _;try exact q_v)|(refine hK _ ?_;clear hK K))<;>(try (clear hK K;exact q_u)))|(with_reducible refine q_s ?_;(first|apply q_J|apply q_K|apply q_L|apply q_M|apply q_N|apply q_O)<;>try (intro _;try exact q_v))|with_reducible refine q_t ?_)
    all_goals first | omega | (refine q_A ?_; simp [resAV, q_y, *]; done) | (refine q_A ?_; simp [resAV, q_y]; omega) | (refine q_A ?_; simp [resAV, q_y, *]; omega) | skip
 ·clear e0 l120 t120
  obtain ⟨nx, hnx⟩ : ∃ z : Int, (xs.length : Int) = z := ⟨_, rfl⟩
  rw [hnx] at hx
  by_cases k1 : k = 1
  ·subst k1
   have e0 : okD 1 s t xs e = (decide (xs = []) && !t && decide (e = 0)) := rfl
   rw [e0, hx]
   cases t
   all_goals
    (refine q_H Tryz.func62 (fun F => ?_); simp only [q_z,q_y,Tryz.ntmps62,Tryz.results62])
    repeat' (first|(with_reducible first|apply q_a|apply q_b|apply q_c|apply q_d|apply q_e|apply q_f|apply q_g|apply q_h|apply q_i|apply q_j|apply q_k|apply q_m|apply q_n|apply q_o|apply q_p|refine q_l ?_)|((with_reducible first|refine q_q db7d_ok fun K hK=>?_|refine q_r db7d_ok fun K hK=>?_);simp (maxSteps:=2000000) only [go_sem,↓reduceIte,reduceCtorEq,Nat.reduceLeDiff,Nat.reduceLT,Nat.reduceBEq,Nat.reduceAdd,hnx];(repeat1' with_reducible first|apply And.intro|(intro _;try exact q_v)|(refine hK _ ?_;clear hK K))<;>(try (clear hK K;exact q_u)))|(with_reducible refine q_s ?_;(first|apply q_J|apply q_K|apply q_L|apply q_M|apply q_N|apply q_O)<;>try (intro _;try exact q_v))|with_reducible refine q_t ?_)
    all_goals first | omega | (refine q_A ?_; simp [resAV, q_y, *]; done) | (refine q_A ?_; simp [resAV, q_y]; omega) | (refine q_A ?_; simp [resAV, q_y, *]; omega) | skip
  ·by_cases k2 : k = 2
   ·subst k2
    have e0 : okD 2 s t xs e = (decide (xs = []) && !t && decide (e = 0) && !s) := rfl
    rw [e0, hx]
    cases t <;> cases s
    all_goals
     (refine q_H Tryz.func62 (fun F => ?_); simp only [q_z,q_y,Tryz.ntmps62,Tryz.results62])
     repeat' (first|(with_reducible first|apply q_a|apply q_b|apply q_c|apply q_d|apply q_e|apply q_f|apply q_g|apply q_h|apply q_i|apply q_j|apply q_k|apply q_m|apply q_n|apply q_o|apply q_p|refine q_l ?_)|((with_reducible first|refine q_q db7d_ok fun K hK=>?_|refine q_r db7d_ok fun K hK=>?_);simp (maxSteps:=2000000) only [go_sem,↓reduceIte,reduceCtorEq,Nat.reduceLeDiff,Nat.reduceLT,Nat.reduceBEq,Nat.reduceAdd,hnx];(repeat1' with_reducible first|apply And.intro|(intro _;try exact q_v)|(refine hK _ ?_;clear hK K))<;>(try (clear hK K;exact q_u)))|(with_reducible refine q_s ?_;(first|apply q_J|apply q_K|apply q_L|apply q_M|apply q_N|apply q_O)<;>try (intro _;try exact q_v))|with_reducible refine q_t ?_)
     all_goals first | omega | (refine q_A ?_; simp [resAV, q_y, *]; done) | (refine q_A ?_; simp [resAV, q_y]; omega) | (refine q_A ?_; simp [resAV, q_y, *]; omega) | skip
   ·have e0 : okD k s t xs e = false := by unfold okD; rw [if_neg k0, if_neg k1, if_neg k2]
    rw [e0]
    cases t
    all_goals
     (refine q_H Tryz.func62 (fun F => ?_); simp only [q_z,q_y,Tryz.ntmps62,Tryz.results62])
     repeat' (first|(with_reducible first|apply q_a|apply q_b|apply q_c|apply q_d|apply q_e|apply q_f|apply q_g|apply q_h|apply q_i|apply q_j|apply q_k|apply q_m|apply q_n|apply q_o|apply q_p|refine q_l ?_)|((with_reducible first|refine q_q db7d_ok fun K hK=>?_|refine q_r db7d_ok fun K hK=>?_);simp (maxSteps:=2000000) only [go_sem,↓reduceIte,reduceCtorEq,Nat.reduceLeDiff,Nat.reduceLT,Nat.reduceBEq,Nat.reduceAdd,hnx];(repeat1' with_reducible first|apply And.intro|(intro _;try exact q_v)|(refine hK _ ?_;clear hK K))<;>(try (clear hK K;exact q_u)))|(with_reducible refine q_s ?_;(first|apply q_J|apply q_K|apply q_L|apply q_M|apply q_N|apply q_O)<;>try (intro _;try exact q_v))|with_reducible refine q_t ?_)
     all_goals first | omega | (refine q_A ?_; simp [resAV, q_y, *]; done) | (refine q_A ?_; simp [resAV, q_y]; omega) | (refine q_A ?_; simp [resAV, q_y, *]; omega) | skip
def validDCT : CT := mkCT [nDc] true fun l K => match l with
 | [.inr [.i .i64 k, .b s, .b t, .ints .u32 xs, .i .i64 e]] => (xs.length ≤ 140737488355328 ∧ InB 4294967296 xs) ∧ K (.c (.b (okD k s t xs e)))
 | _ => False
def de4 : Cfg := addT 62 validDCT cf0
theorem de4_ok : TblOk Tryz.prog de4 := q_I cf0_ok Tryz.func62 fun l K h => by
 split at h
 ·exact ⟨_, (validD_ret _ _ _ _ _ h.1.1 h.1.2).plain rfl, h.2⟩
 ·exact h.elim
set_option maxRecDepth 100000 in
set_option maxHeartbeats 1600000 in
theorem checkC_ret (p r mn mx : Int) : Ret Tryz.prog 63 false [.inr [.i .i64 p, .i .i64 r, .i .i64 mn, .i .i64 mx]] (.c (.b (okCx p r mn mx))) := by
 (refine q_H Tryz.func63 (fun F => ?_); simp only [q_z,q_y,Tryz.ntmps63,Tryz.results63])
 repeat' (first|(with_reducible first|apply q_a|apply q_b|apply q_c|apply q_d|apply q_e|apply q_f|apply q_g|apply q_h|apply q_i|apply q_j|apply q_k|apply q_m|apply q_n|apply q_o|apply q_p|refine q_l ?_)|((with_reducible first|refine q_q db7d_ok fun K hK=>?_|refine q_r db7d_ok fun K hK=>?_);simp (maxSteps:=2000000) only [go_sem,↓reduceIte,reduceCtorEq,Nat.reduceLeDiff,Nat.reduceLT,Nat.reduceBEq,Nat.reduceAdd];(repeat1' with_reducible first|apply And.intro|(intro _;try exact q_v)|(refine hK _ ?_;clear hK K))<;>(try (clear hK K;exact q_u)))|(with_reducible refine q_s ?_;(first|apply q_J|apply q_K|apply q_L|apply q_M|apply q_N|apply q_O)<;>try (intro _;try exact q_v))|with_reducible refine q_t ?_)
 all_goals first | (refine q_A ?_; simp [resAV, q_y, okCx, *]; done) | (refine q_A ?_; simp [resAV, q_y, okCx]; omega) | (refine q_A ?_; simp [resAV, q_y, okCx, *]; omega) | skip
def checkCCT : CT := mkCT [.inr [none, none, none, none]] true fun l K => match l with
 | [.inr [.i .i64 p, .i .i64 r, .i .i64 mn, .i .i64 mx]] => K (.c (.b (okCx p r mn mx)))
 | _ => False
def de5 : Cfg := addT 63 checkCCT cf0
theorem de5_ok : TblOk Tryz.prog de5 := q_I cf0_ok Tryz.func63 fun l K h => by
 split at h
 ·exact ⟨_, (checkC_ret _ _ _ _).plain rfl, h⟩
 ·exact h.elim
def de6 : Cfg := addT 78 atCT cf0
theorem de6_ok : TblOk Tryz.prog de6 := q_I cf0_ok Tryz.func78 fun l K h => by
 split at h
 ·refine ⟨_, Ret.plain ?_ rfl, h⟩
  (refine q_H Tryz.func78 (fun F => ?_); simp only [q_z,q_y,Tryz.ntmps78,Tryz.results78])
  repeat' (first|(with_reducible first|apply q_a|apply q_b|apply q_c|apply q_d|apply q_e|apply q_f|apply q_g|apply q_h|apply q_i|apply q_j|apply q_k|apply q_m|apply q_n|apply q_o|apply q_p|refine q_l ?_)|((with_reducible first|refine q_q db7d_ok fun K hK=>?_|refine q_r db7d_ok fun K hK=>?_);simp (maxSteps:=2000000) only [go_sem,↓reduceIte,reduceCtorEq,Nat.reduceLeDiff,Nat.reduceLT,Nat.reduceBEq,Nat.reduceAdd];(repeat1' with_reducible first|apply And.intro|(intro _;try exact q_v)|(refine hK _ ?_;clear hK K))<;>(try (clear hK K;exact q_u)))|(with_reducible refine q_s ?_;(first|apply q_J|apply q_K|apply q_L|apply q_M|apply q_N|apply q_O)<;>try (intro _;try exact q_v))|with_reducible refine q_t ?_)
  exact q_A rfl
 ·exact h.elim
attribute [go_sem] validDCT checkCCT
def db8d : Cfg := listT [(62, validDCT), (63, checkCCT), (78, atCT)] [34]
theorem db8d_ok : TblOk Tryz.prog db8d := listE_ok (by simp only [List.mem_singleton, forall_eq]; exact flt) ⟨⟨de4, de4_ok, rfl⟩, ⟨de5, de5_ok, rfl⟩, ⟨de6, de6_ok, rfl⟩, trivial⟩
attribute [go_sem] db8d
def dcC (p r mn mx : Int) (l : List D5) : Int := if okCx p r mn mx then dbC l else 4
def dcX (p r mn mx : Int) (l : List D5) : Int := if okCx p r mn mx then dbX 0 l else -9
set_option maxRecDepth 100000 in
set_option maxHeartbeats 1600000 in
theorem dcheck_ret (p r mn mx : Int) (l : List D5) (hn : l.length ≤ 1000) (hl : allD 140737488355328 l) :
  Ret Tryz.prog 71 false [.inr [.i .i64 p, .i .i64 r, .i .i64 mn, .i .i64 mx], .inl (.sl 5 (l.map rowD))] (.g [.i .i64 (dcC p r mn mx l), .i .i64 (dcX p r mn mx l)]) := by
 unfold dcC dcX
 cases hc : okCx p r mn mx
 ·simp only [Bool.false_eq_true, if_false]
  (refine q_H Tryz.func71 (fun F => ?_); simp only [q_z,q_y,Tryz.ntmps71,Tryz.results71])
  repeat' (first|(with_reducible first|apply q_a|apply q_b|apply q_c|apply q_d|apply q_e|apply q_f|apply q_g|apply q_h|apply q_i|apply q_j|apply q_k|apply q_m|apply q_n|apply q_o|apply q_p|refine q_l ?_)|((with_reducible first|refine q_q db8d_ok fun K hK=>?_|refine q_r db8d_ok fun K hK=>?_);simp (maxSteps:=2000000) only [go_sem,↓reduceIte,reduceCtorEq,Nat.reduceLeDiff,Nat.reduceLT,Nat.reduceBEq,Nat.reduceAdd,hc, List.length_map];(repeat1' with_reducible first|apply And.intro|(intro _;try exact q_v)|(refine hK _ ?_;clear hK K))<;>(try (clear hK K;exact q_u)))|(with_reducible refine q_s ?_;(first|apply q_J|apply q_K|apply q_L|apply q_M|apply q_N|apply q_O)<;>try (intro _;try exact q_v))|with_reducible refine q_t ?_)
  all_goals first | omega | exact q_A rfl | skip
 simp only [if_true]
 (refine q_H Tryz.func71 (fun F => ?_); simp only [q_z,q_y,Tryz.ntmps71,Tryz.results71])
 repeat' (first|(with_reducible first|apply q_a|apply q_b|apply q_c|apply q_d|apply q_e|apply q_f|apply q_g|apply q_h|apply q_i|apply q_j|apply q_k|apply q_m|apply q_n|apply q_o|apply q_p|refine q_l ?_)|((with_reducible first|refine q_q db8d_ok fun K hK=>?_|refine q_r db8d_ok fun K hK=>?_);simp (maxSteps:=2000000) only [go_sem,↓reduceIte,reduceCtorEq,Nat.reduceLeDiff,Nat.reduceLT,Nat.reduceBEq,Nat.reduceAdd,hc, List.length_map];(repeat1' with_reducible first|apply And.intro|(intro _;try exact q_v)|(refine hK _ ?_;clear hK K))<;>(try (clear hK K;exact q_u)))|(with_reducible refine q_s ?_;(first|apply q_J|apply q_K|apply q_L|apply q_M|apply q_N|apply q_O)<;>try (intro _;try exact q_v))|with_reducible refine q_t ?_)
 all_goals first | omega | skip
 refine q_G (ι := { i : Nat // i ≤ l.length ∧ dbC (l.drop i) = dbC l ∧ dbX i (l.drop i) = dbX 0 l }) (fun i => ⟨26, [(4, .bx 1 0), (11, .c (.sl 5 (l.map rowD))), (12, .c (.i .i64 l.length)), (13, .c (.i .i64 (i.1 : Nat)))], ⟨[(1, [.c (.i .i64 0), .c (.i .i64 0)])], [], []⟩, 2⟩) (fun i => l.length - i.1) ⟨0, by simp, rfl, rfl⟩ ?_ ?_
 ·exact q_D
 rintro ⟨i, g1, g2, g3⟩
 simp only at g1 g2 g3 ⊢
 obtain ⟨n1, n2⟩ := allD_get (i := i) hl
 rcases Nat.lt_or_ge i l.length with hi | hi
 ·have hr := rowD_get l i hi
  rw [drop_getD5 l i hi, dbC] at g2
  rw [drop_getD5 l i hi, dbX] at g3
  unfold okD5 at g2 g3
  cases ho : okD (l.getD i d0).1 (l.getD i d0).2.1 (l.getD i d0).2.2.1 (l.getD i d0).2.2.2.1 (l.getD i d0).2.2.2.2
  ·simp only [ho, Bool.false_eq_true, if_false] at g2 g3
   repeat' (first|(with_reducible first|apply q_a|apply q_b|apply q_c|apply q_d|apply q_e|apply q_f|apply q_g|apply q_h|apply q_i|apply q_j|apply q_k|apply q_m|apply q_n|apply q_o|apply q_p|refine q_l ?_)|((with_reducible first|refine q_q db8d_ok fun K hK=>?_|refine q_r db8d_ok fun K hK=>?_);simp (maxSteps:=2000000) only [go_sem,↓reduceIte,reduceCtorEq,Nat.reduceLeDiff,Nat.reduceLT,Nat.reduceBEq,Nat.reduceAdd,hr, ho, List.length_map];(repeat1' with_reducible first|apply And.intro|(intro _;try exact q_v)|(refine hK _ ?_;clear hK K))<;>(try (clear hK K;exact q_u)))|(with_reducible refine q_s ?_;(first|apply q_J|apply q_K|apply q_L|apply q_M|apply q_N|apply q_O)<;>try (intro _;try exact q_v))|with_reducible refine q_t ?_)
   all_goals first | omega | assumption | exact q_A (by rw [← g2, ← g3]; rfl) | skip
  ·simp only [ho, if_true] at g2 g3
   repeat' (first|(with_reducible first|apply q_a|apply q_b|apply q_c|apply q_d|apply q_e|apply q_f|apply q_g|apply q_h|apply q_i|apply q_j|apply q_k|apply q_m|apply q_n|apply q_o|apply q_p|refine q_l ?_)|((with_reducible first|refine q_q db8d_ok fun K hK=>?_|refine q_r db8d_ok fun K hK=>?_);simp (maxSteps:=2000000) only [go_sem,↓reduceIte,reduceCtorEq,Nat.reduceLeDiff,Nat.reduceLT,Nat.reduceBEq,Nat.reduceAdd,hr, ho, List.length_map];(repeat1' with_reducible first|apply And.intro|(intro _;try exact q_v)|(refine hK _ ?_;clear hK K))<;>(try (clear hK K;exact q_u)))|(with_reducible refine q_s ?_;(first|apply q_J|apply q_K|apply q_L|apply q_M|apply q_N|apply q_O)<;>try (intro _;try exact q_v))|with_reducible refine q_t ?_)
   all_goals first | omega | assumption | skip
   refine q_F ⟨i + 1, hi, g2, by push_cast; exact g3⟩ ?_ (by simp only; omega)
   exact q_D
 ·have hi' : i = l.length := by omega
  subst hi'
  rw [List.drop_length] at g2 g3
  repeat' (first|(with_reducible first|apply q_a|apply q_b|apply q_c|apply q_d|apply q_e|apply q_f|apply q_g|apply q_h|apply q_i|apply q_j|apply q_k|apply q_m|apply q_n|apply q_o|apply q_p|refine q_l ?_)|((with_reducible first|refine q_q db8d_ok fun K hK=>?_|refine q_r db8d_ok fun K hK=>?_);simp (maxSteps:=2000000) only [go_sem,↓reduceIte,reduceCtorEq,Nat.reduceLeDiff,Nat.reduceLT,Nat.reduceBEq,Nat.reduceAdd,List.length_map];(repeat1' with_reducible first|apply And.intro|(intro _;try exact q_v)|(refine hK _ ?_;clear hK K))<;>(try (clear hK K;exact q_u)))|(with_reducible refine q_s ?_;(first|apply q_J|apply q_K|apply q_L|apply q_M|apply q_N|apply q_O)<;>try (intro _;try exact q_v))|with_reducible refine q_t ?_)
  all_goals first | omega | exact q_A (by rw [← g2, ← g3]; rfl) | skip
def dcheckCT : CT := mkCT [.inr [none, none, none, none]] true fun l K => match l with
 | [.inr [.i .i64 p, .i .i64 r, .i .i64 mn, .i .i64 mx], .inl (.sl 5 rows)] => match unD rows with
  | some l => (l.length ≤ 1000 ∧ allD 140737488355328 l) ∧ K (.g [.i .i64 (dcC p r mn mx l), .i .i64 (dcX p r mn mx l)])
  | none => False
 | _ => False
def de7 : Cfg := addT 71 dcheckCT cf0
theorem de7_ok : TblOk Tryz.prog de7 := q_I cf0_ok Tryz.func71 fun l K h => by
 split at h
 ·split at h
  ·rename_i l hl
   rw [unD_some hl]
   exact ⟨_, (dcheck_ret _ _ _ _ l h.1.1 h.1.2).plain rfl, h.2⟩
  ·exact h.elim
 ·exact h.elim
attribute [go_sem] dcheckCT unD dcC dcX dbC dbX allD okD5
def eb5 : Cfg := listT [(104, ivalidCT), (27, noIntCT), (106, ofCT), (105, figCT)] [34]
theorem eb5_ok : TblOk Tryz.prog eb5 := listE_ok (by simp only [List.mem_singleton, forall_eq]; exact flt) ⟨⟨jt1, jt1_ok, rfl⟩, ⟨jt6, jt6_ok, rfl⟩, ⟨db6, db6_ok, rfl⟩, ⟨nt11, nt11_ok, rfl⟩, trivial⟩
attribute [go_sem] eb5
def noI (t : Bool) (xs : List Int) : Bool := decide (xs = []) && !t
set_option maxHeartbeats 800000 in
theorem noIntA_ret (t : Bool) (xs : List Int) (hx : xs.length ≤ 140737488355328) : Ret Tryz.prog 27 false [.inr [.b t, .ints .u32 xs]] (.c (.b (noI t xs))) := by
 have hx' : decide (xs = []) = decide ((xs.length : Int) = 0) := by congr 1; exact propext ⟨fun h => by rw [h]; rfl, fun h => List.eq_nil_of_length_eq_zero (by omega)⟩
 unfold noI
 rw [hx']
 cases t
 all_goals
  (refine q_H Tryz.func27 (fun F => ?_); simp only [q_z,q_y,Tryz.ntmps27,Tryz.results27])
  repeat' (first|(with_reducible first|apply q_a|apply q_b|apply q_c|apply q_d|apply q_e|apply q_f|apply q_g|apply q_h|apply q_i|apply q_j|apply q_k|apply q_m|apply q_n|apply q_o|apply q_p|refine q_l ?_)|((with_reducible first|refine q_q eb5_ok fun K hK=>?_|refine q_r eb5_ok fun K hK=>?_);simp (maxSteps:=2000000) only [go_sem,↓reduceIte,reduceCtorEq,Nat.reduceLeDiff,Nat.reduceLT,Nat.reduceBEq,Nat.reduceAdd];(repeat1' with_reducible first|apply And.intro|(intro _;try exact q_v)|(refine hK _ ?_;clear hK K))<;>(try (clear hK K;exact q_u)))|(with_reducible refine q_s ?_;(first|apply q_J|apply q_K|apply q_L|apply q_M|apply q_N|apply q_O)<;>try (intro _;try exact q_v))|with_reducible refine q_t ?_)
  all_goals first | omega | exact q_A (by simp [resAV, q_y]) | skip
def noIntACT : CT := mkCT [nP] true fun l K => match l with
 | [.inr [.b t, .ints .u32 xs]] => xs.length ≤ 140737488355328 ∧ K (.c (.b (noI t xs)))
 | _ => False
def er6 : Cfg := addT 27 noIntACT cf0
theorem er6_ok : TblOk Tryz.prog er6 := q_I cf0_ok Tryz.func27 fun l K h => by
 split at h
 ·exact ⟨_, (noIntA_ret _ _ h.1).plain rfl, h.2⟩
 ·exact h.elim
attribute [go_sem] noIntACT
def eb6 : Cfg := listT [(104, ivalidCT), (27, noIntACT), (106, ofCT), (105, figCT)] [34]
theorem eb6_ok : TblOk Tryz.prog eb6 := listE_ok (by simp only [List.mem_singleton, forall_eq]; exact flt) ⟨⟨jt1, jt1_ok, rfl⟩, ⟨er6, er6_ok, rfl⟩, ⟨db6, db6_ok, rfl⟩, ⟨nt11, nt11_ok, rfl⟩, trivial⟩
attribute [go_sem] eb6
set_option maxRecDepth 100000 in
set_option maxHeartbeats 1600000 in
theorem decimalOk_ret (k : Int) (s t : Bool) (xs : List Int) (e : Int) (h1 : xs.length ≤ 140737488355328) (b1 : InB 4294967296 xs) :
  Ret Tryz.prog 32 false [.inr [.i .i64 k, .b s, .b t, .ints .u32 xs, .i .i64 e]] (.c (.b (okD k s t xs e))) := by
 have ten : (10 : Int).toNat = 10 := rfl
 by_cases k0 : k = 0
 ·subst k0
  have e0 : okD 0 s t xs e = (okZ t xs && !t && decide (-1200 ≤ e ∧ e ≤ 1200) && decide (V 4294967296 xs < 10 ^ 120)) := rfl
  have hv : decide (V 4294967296 xs < 10 ^ 120) = decide ((ds (V 4294967296 xs) : Int) ≤ 120) := by congr 1; exact propext ⟨fun h => by have := lt120.1 h; omega, fun h => lt120.2 (by omega)⟩
  rw [e0, hv]
  cases hz : okZ t xs
  ·(refine q_H Tryz.func32 (fun F => ?_); simp only [q_z,q_y,Tryz.ntmps32,Tryz.results32])
   repeat' (first|(with_reducible first|apply q_a|apply q_b|apply q_c|apply q_d|apply q_e|apply q_f|apply q_g|apply q_h|apply q_i|apply q_j|apply q_k|apply q_m|apply q_n|apply q_o|apply q_p|refine q_l ?_)|((with_reducible first|refine q_q eb6_ok fun K hK=>?_|refine q_r eb6_ok fun K hK=>?_);simp (maxSteps:=2000000) only [go_sem,↓reduceIte,reduceCtorEq,Nat.reduceLeDiff,Nat.reduceLT,Nat.reduceBEq,Nat.reduceAdd,hz];(repeat1' with_reducible first|apply And.intro|(intro _;try exact q_v)|(refine hK _ ?_;clear hK K))<;>(try (clear hK K;exact q_u)))|(with_reducible refine q_s ?_;(first|apply q_J|apply q_K|apply q_L|apply q_M|apply q_N|apply q_O)<;>try (intro _;try exact q_v))|with_reducible refine q_t ?_)
   all_goals first | omega | exact q_A (by simp [resAV, q_y]) | skip
  ·have lz := okZ_len hz
   have l2 : (dg 65536 (V 4294967296 xs)).length ≤ 256 := (dg_half' _ 128).2 (by rw [dg_V 4294967296 (by omega) xs b1 (okZ_trd hz)]; exact lz)
   cases t
   all_goals
    (refine q_H Tryz.func32 (fun F => ?_); simp only [q_z,q_y,Tryz.ntmps32,Tryz.results32])
    repeat' (first|(with_reducible first|apply q_a|apply q_b|apply q_c|apply q_d|apply q_e|apply q_f|apply q_g|apply q_h|apply q_i|apply q_j|apply q_k|apply q_m|apply q_n|apply q_o|apply q_p|refine q_l ?_)|((with_reducible first|refine q_q eb6_ok fun K hK=>?_|refine q_r eb6_ok fun K hK=>?_);simp (maxSteps:=2000000) only [go_sem,↓reduceIte,reduceCtorEq,Nat.reduceLeDiff,Nat.reduceLT,Nat.reduceBEq,Nat.reduceAdd,hz, V65, ten, fig_len];(repeat1' with_reducible first|apply And.intro|(intro _;try exact q_v)|(refine hK _ ?_;clear hK K))<;>(try (clear hK K;exact q_u)))|(with_reducible refine q_s ?_;(first|apply q_J|apply q_K|apply q_L|apply q_M|apply q_N|apply q_O)<;>try (intro _;try exact q_v))|with_reducible refine q_t ?_)
    all_goals first | omega | (refine q_A ?_; simp [resAV, q_y, *]; done) | (refine q_A ?_; simp [resAV, q_y]; omega) | (refine q_A ?_; simp [resAV, q_y, *]; omega) | skip
 ·by_cases k1 : k = 1
  ·subst k1
   have e0 : okD 1 s t xs e = (noI t xs && decide (e = 0)) := rfl
   rw [e0]
   cases hi : noI t xs
   all_goals
    (refine q_H Tryz.func32 (fun F => ?_); simp only [q_z,q_y,Tryz.ntmps32,Tryz.results32])
    repeat' (first|(with_reducible first|apply q_a|apply q_b|apply q_c|apply q_d|apply q_e|apply q_f|apply q_g|apply q_h|apply q_i|apply q_j|apply q_k|apply q_m|apply q_n|apply q_o|apply q_p|refine q_l ?_)|((with_reducible first|refine q_q eb6_ok fun K hK=>?_|refine q_r eb6_ok fun K hK=>?_);simp (maxSteps:=2000000) only [go_sem,↓reduceIte,reduceCtorEq,Nat.reduceLeDiff,Nat.reduceLT,Nat.reduceBEq,Nat.reduceAdd,hi];(repeat1' with_reducible first|apply And.intro|(intro _;try exact q_v)|(refine hK _ ?_;clear hK K))<;>(try (clear hK K;exact q_u)))|(with_reducible refine q_s ?_;(first|apply q_J|apply q_K|apply q_L|apply q_M|apply q_N|apply q_O)<;>try (intro _;try exact q_v))|with_reducible refine q_t ?_)
    all_goals first | omega | (refine q_A ?_; simp [resAV, q_y, *]; done) | (refine q_A ?_; simp [resAV, q_y]; omega) | (refine q_A ?_; simp [resAV, q_y, *]; omega) | skip
  ·by_cases k2 : k = 2
   ·subst k2
    have e0 : okD 2 s t xs e = (noI t xs && decide (e = 0) && !s) := rfl
    rw [e0]
    cases hi : noI t xs <;> cases s
    all_goals
     (refine q_H Tryz.func32 (fun F => ?_); simp only [q_z,q_y,Tryz.ntmps32,Tryz.results32])
     repeat' (first|(with_reducible first|apply q_a|apply q_b|apply q_c|apply q_d|apply q_e|apply q_f|apply q_g|apply q_h|apply q_i|apply q_j|apply q_k|apply q_m|apply q_n|apply q_o|apply q_p|refine q_l ?_)|((with_reducible first|refine q_q eb6_ok fun K hK=>?_|refine q_r eb6_ok fun K hK=>?_);simp (maxSteps:=2000000) only [go_sem,↓reduceIte,reduceCtorEq,Nat.reduceLeDiff,Nat.reduceLT,Nat.reduceBEq,Nat.reduceAdd,hi];(repeat1' with_reducible first|apply And.intro|(intro _;try exact q_v)|(refine hK _ ?_;clear hK K))<;>(try (clear hK K;exact q_u)))|(with_reducible refine q_s ?_;(first|apply q_J|apply q_K|apply q_L|apply q_M|apply q_N|apply q_O)<;>try (intro _;try exact q_v))|with_reducible refine q_t ?_)
     all_goals first | omega | (refine q_A ?_; simp [resAV, q_y, *]; done) | (refine q_A ?_; simp [resAV, q_y]; omega) | (refine q_A ?_; simp [resAV, q_y, *]; omega) | skip
   ·have e0 : okD k s t xs e = false := by unfold okD; rw [if_neg k0, if_neg k1, if_neg k2]
    rw [e0]
    (refine q_H Tryz.func32 (fun F => ?_); simp only [q_z,q_y,Tryz.ntmps32,Tryz.results32])
    repeat' (first|(with_reducible first|apply q_a|apply q_b|apply q_c|apply q_d|apply q_e|apply q_f|apply q_g|apply q_h|apply q_i|apply q_j|apply q_k|apply q_m|apply q_n|apply q_o|apply q_p|refine q_l ?_)|((with_reducible first|refine q_q eb6_ok fun K hK=>?_|refine q_r eb6_ok fun K hK=>?_);simp (maxSteps:=2000000) only [go_sem,↓reduceIte,reduceCtorEq,Nat.reduceLeDiff,Nat.reduceLT,Nat.reduceBEq,Nat.reduceAdd];(repeat1' with_reducible first|apply And.intro|(intro _;try exact q_v)|(refine hK _ ?_;clear hK K))<;>(try (clear hK K;exact q_u)))|(with_reducible refine q_s ?_;(first|apply q_J|apply q_K|apply q_L|apply q_M|apply q_N|apply q_O)<;>try (intro _;try exact q_v))|with_reducible refine q_t ?_)
    all_goals first | omega | (refine q_A ?_; simp [resAV, q_y, *]; done) | (refine q_A ?_; simp [resAV, q_y]; omega) | (refine q_A ?_; simp [resAV, q_y, *]; omega) | skip
def er7 : Cfg := addT 32 validDCT cf0
theorem er7_ok : TblOk Tryz.prog er7 := q_I cf0_ok Tryz.func32 fun l K h => by
 split at h
 ·exact ⟨_, (decimalOk_ret _ _ _ _ _ h.1.1 h.1.2).plain rfl, h.2⟩
 ·exact h.elim
set_option maxRecDepth 100000 in
set_option maxHeartbeats 1600000 in
theorem contextOk_ret (p r mn mx : Int) : Ret Tryz.prog 51 false [.inr [.i .i64 p, .i .i64 r, .i .i64 mn, .i .i64 mx]] (.c (.b (okCx p r mn mx))) := by
 (refine q_H Tryz.func51 (fun F => ?_); simp only [q_z,q_y,Tryz.ntmps51,Tryz.results51])
 repeat' (first|(with_reducible first|apply q_a|apply q_b|apply q_c|apply q_d|apply q_e|apply q_f|apply q_g|apply q_h|apply q_i|apply q_j|apply q_k|apply q_m|apply q_n|apply q_o|apply q_p|refine q_l ?_)|((with_reducible first|refine q_q eb6_ok fun K hK=>?_|refine q_r eb6_ok fun K hK=>?_);simp (maxSteps:=2000000) only [go_sem,↓reduceIte,reduceCtorEq,Nat.reduceLeDiff,Nat.reduceLT,Nat.reduceBEq,Nat.reduceAdd];(repeat1' with_reducible first|apply And.intro|(intro _;try exact q_v)|(refine hK _ ?_;clear hK K))<;>(try (clear hK K;exact q_u)))|(with_reducible refine q_s ?_;(first|apply q_J|apply q_K|apply q_L|apply q_M|apply q_N|apply q_O)<;>try (intro _;try exact q_v))|with_reducible refine q_t ?_)
 all_goals first | (refine q_A ?_; simp [resAV, q_y, okCx, *]; done) | (refine q_A ?_; simp [resAV, q_y, okCx]; omega) | (refine q_A ?_; simp [resAV, q_y, okCx, *]; omega) | skip
def er8 : Cfg := addT 51 checkCCT cf0
theorem er8_ok : TblOk Tryz.prog er8 := q_I cf0_ok Tryz.func51 fun l K h => by
 split at h
 ·exact ⟨_, (contextOk_ret _ _ _ _).plain rfl, h⟩
 ·exact h.elim
def eb7 : Cfg := listT [(51, checkCCT), (32, validDCT), (33, atCT)] [34]
theorem eb7_ok : TblOk Tryz.prog eb7 := listE_ok (by simp only [List.mem_singleton, forall_eq]; exact flt) ⟨⟨er8, er8_ok, rfl⟩, ⟨er7, er7_ok, rfl⟩, ⟨jt0, jt0_ok, rfl⟩, trivial⟩
attribute [go_sem] eb7
set_option maxRecDepth 100000 in
set_option maxHeartbeats 1600000 in
theorem decimalFaults_ret (p r mn mx : Int) (l : List D5) (hn : l.length ≤ 1000) (hl : allD 140737488355328 l) :
  Ret Tryz.prog 18 false [.inr [.i .i64 p, .i .i64 r, .i .i64 mn, .i .i64 mx], .inl (.sl 5 (l.map rowD))] (.g [.i .i64 (dcC p r mn mx l), .i .i64 (dcX p r mn mx l)]) := by
 unfold dcC dcX
 cases hc : okCx p r mn mx
 ·simp only [Bool.false_eq_true, if_false]
  (refine q_H Tryz.func18 (fun F => ?_); simp only [q_z,q_y,Tryz.ntmps18,Tryz.results18])
  repeat' (first|(with_reducible first|apply q_a|apply q_b|apply q_c|apply q_d|apply q_e|apply q_f|apply q_g|apply q_h|apply q_i|apply q_j|apply q_k|apply q_m|apply q_n|apply q_o|apply q_p|refine q_l ?_)|((with_reducible first|refine q_q eb7_ok fun K hK=>?_|refine q_r eb7_ok fun K hK=>?_);simp (maxSteps:=2000000) only [go_sem,↓reduceIte,reduceCtorEq,Nat.reduceLeDiff,Nat.reduceLT,Nat.reduceBEq,Nat.reduceAdd,hc, List.length_map];(repeat1' with_reducible first|apply And.intro|(intro _;try exact q_v)|(refine hK _ ?_;clear hK K))<;>(try (clear hK K;exact q_u)))|(with_reducible refine q_s ?_;(first|apply q_J|apply q_K|apply q_L|apply q_M|apply q_N|apply q_O)<;>try (intro _;try exact q_v))|with_reducible refine q_t ?_)
  all_goals first | omega | exact q_A rfl | skip
 simp only [if_true]
 (refine q_H Tryz.func18 (fun F => ?_); simp only [q_z,q_y,Tryz.ntmps18,Tryz.results18])
 repeat' (first|(with_reducible first|apply q_a|apply q_b|apply q_c|apply q_d|apply q_e|apply q_f|apply q_g|apply q_h|apply q_i|apply q_j|apply q_k|apply q_m|apply q_n|apply q_o|apply q_p|refine q_l ?_)|((with_reducible first|refine q_q eb7_ok fun K hK=>?_|refine q_r eb7_ok fun K hK=>?_);simp (maxSteps:=2000000) only [go_sem,↓reduceIte,reduceCtorEq,Nat.reduceLeDiff,Nat.reduceLT,Nat.reduceBEq,Nat.reduceAdd,hc, List.length_map];(repeat1' with_reducible first|apply And.intro|(intro _;try exact q_v)|(refine hK _ ?_;clear hK K))<;>(try (clear hK K;exact q_u)))|(with_reducible refine q_s ?_;(first|apply q_J|apply q_K|apply q_L|apply q_M|apply q_N|apply q_O)<;>try (intro _;try exact q_v))|with_reducible refine q_t ?_)
 all_goals first | omega | skip
 refine q_G (ι := { i : Nat // i ≤ l.length ∧ dbC (l.drop i) = dbC l ∧ dbX i (l.drop i) = dbX 0 l }) (fun i => ⟨26, [(1, .c (.sl 5 (l.map rowD))), (4, .bx 1 0), (5, .c (.i .i64 (i.1 : Nat)))], ⟨[(1, [.c (.i .i64 0), .c (.i .i64 0)])], [], []⟩, 2⟩) (fun i => l.length - i.1) ⟨0, by simp, rfl, rfl⟩ ?_ ?_
 ·exact q_D
 rintro ⟨i, g1, g2, g3⟩
 simp only at g1 g2 g3 ⊢
 obtain ⟨n1, n2⟩ := allD_get (i := i) hl
 rcases Nat.lt_or_ge i l.length with hi | hi
 ·have hr := rowD_get l i hi
  rw [drop_getD5 l i hi, dbC] at g2
  rw [drop_getD5 l i hi, dbX] at g3
  unfold okD5 at g2 g3
  cases ho : okD (l.getD i d0).1 (l.getD i d0).2.1 (l.getD i d0).2.2.1 (l.getD i d0).2.2.2.1 (l.getD i d0).2.2.2.2
  ·simp only [ho, Bool.false_eq_true, if_false] at g2 g3
   repeat' (first|(with_reducible first|apply q_a|apply q_b|apply q_c|apply q_d|apply q_e|apply q_f|apply q_g|apply q_h|apply q_i|apply q_j|apply q_k|apply q_m|apply q_n|apply q_o|apply q_p|refine q_l ?_)|((with_reducible first|refine q_q eb7_ok fun K hK=>?_|refine q_r eb7_ok fun K hK=>?_);simp (maxSteps:=2000000) only [go_sem,↓reduceIte,reduceCtorEq,Nat.reduceLeDiff,Nat.reduceLT,Nat.reduceBEq,Nat.reduceAdd,hr, ho, List.length_map];(repeat1' with_reducible first|apply And.intro|(intro _;try exact q_v)|(refine hK _ ?_;clear hK K))<;>(try (clear hK K;exact q_u)))|(with_reducible refine q_s ?_;(first|apply q_J|apply q_K|apply q_L|apply q_M|apply q_N|apply q_O)<;>try (intro _;try exact q_v))|with_reducible refine q_t ?_)
   all_goals first | omega | assumption | exact q_A (by rw [← g2, ← g3]; rfl) | skip
  ·simp only [ho, if_true] at g2 g3
   repeat' (first|(with_reducible first|apply q_a|apply q_b|apply q_c|apply q_d|apply q_e|apply q_f|apply q_g|apply q_h|apply q_i|apply q_j|apply q_k|apply q_m|apply q_n|apply q_o|apply q_p|refine q_l ?_)|((with_reducible first|refine q_q eb7_ok fun K hK=>?_|refine q_r eb7_ok fun K hK=>?_);simp (maxSteps:=2000000) only [go_sem,↓reduceIte,reduceCtorEq,Nat.reduceLeDiff,Nat.reduceLT,Nat.reduceBEq,Nat.reduceAdd,hr, ho, List.length_map];(repeat1' with_reducible first|apply And.intro|(intro _;try exact q_v)|(refine hK _ ?_;clear hK K))<;>(try (clear hK K;exact q_u)))|(with_reducible refine q_s ?_;(first|apply q_J|apply q_K|apply q_L|apply q_M|apply q_N|apply q_O)<;>try (intro _;try exact q_v))|with_reducible refine q_t ?_)
   all_goals first | omega | assumption | skip
   refine q_F ⟨i + 1, hi, g2, by push_cast; exact g3⟩ ?_ (by simp only; omega)
   exact q_D
 ·have hi' : i = l.length := by omega
  subst hi'
  rw [List.drop_length] at g2 g3
  repeat' (first|(with_reducible first|apply q_a|apply q_b|apply q_c|apply q_d|apply q_e|apply q_f|apply q_g|apply q_h|apply q_i|apply q_j|apply q_k|apply q_m|apply q_n|apply q_o|apply q_p|refine q_l ?_)|((with_reducible first|refine q_q eb7_ok fun K hK=>?_|refine q_r eb7_ok fun K hK=>?_);simp (maxSteps:=2000000) only [go_sem,↓reduceIte,reduceCtorEq,Nat.reduceLeDiff,Nat.reduceLT,Nat.reduceBEq,Nat.reduceAdd,List.length_map];(repeat1' with_reducible first|apply And.intro|(intro _;try exact q_v)|(refine hK _ ?_;clear hK K))<;>(try (clear hK K;exact q_u)))|(with_reducible refine q_s ?_;(first|apply q_J|apply q_K|apply q_L|apply q_M|apply q_N|apply q_O)<;>try (intro _;try exact q_v))|with_reducible refine q_t ?_)
  all_goals first | omega | exact q_A (by rw [← g2, ← g3]; rfl) | skip
def er9 : Cfg := addT 18 dcheckCT cf0
theorem er9_ok : TblOk Tryz.prog er9 := q_I cf0_ok Tryz.func18 fun l K h => by
 split at h
 ·split at h
  ·rename_i l hl
   rw [unD_some hl]
   exact ⟨_, (decimalFaults_ret _ _ _ _ l h.1.1 h.1.2).plain rfl, h.2⟩
  ·exact h.elim
 ·exact h.elim
end Go.Proofs.YtgkajjifbcmoeaaGreatDoor
