import Derived.Test.YtgkajjifbcmoeaaGreatDoorR11
import Derived.Test.YtgkajjifbcmoeaaGreatDoorR12
namespace Go.Proofs.NatL
set_option linter.unusedSimpArgs false
set_option linter.unusedVariables false
end Go.Proofs.NatL
namespace Go.Proofs.YtgkajjifbcmoeaaGreatDoor
set_option linter.unusedSimpArgs false
set_option linter.unusedVariables false
open Go.Abs Go.Proofs.NatL

def ptP (num den : Nat) (e x : Int) : Prop:=ds num ≤ 8000 ∧ ds den ≤ 8000 ∧ -12000 ≤ e - x ∧ e - x ≤ 12000 ∧ -100000 ≤ e ∧ e ≤ 100000
theorem ptP_d (num den : Nat) (e x : Int) : ptP num den e x = (ds num ≤ 8000 ∧ ds den ≤ 8000 ∧ -12000 ≤ e - x ∧ e - x ≤ 12000 ∧ -100000 ≤ e ∧ e ≤ 100000):=rfl
attribute [go_sem] ptP_d
def fgP (num den : Nat) (e : Int) : Prop:=0 < num ∧ 0 < den ∧ ds num ≤ 5000 ∧ ds den ≤ 5000 ∧ -3000 ≤ e ∧ e ≤ 3000
theorem fgP_d (num den : Nat) (e : Int) : fgP num den e = (0 < num ∧ 0 < den ∧ ds num ≤ 5000 ∧ ds den ≤ 5000 ∧ -3000 ≤ e ∧ e ≤ 3000):=rfl
theorem fig_len (n : Nat) : (dg 10 n).reverse.length = ds n:=by rw [List.length_reverse]; rfl
attribute [go_sem] fgP_d
end Go.Proofs.YtgkajjifbcmoeaaGreatDoor

namespace Go.Proofs.NatL
set_option linter.unusedSimpArgs false
set_option linter.unusedVariables false
def okD (k : Int) (s t : Bool) (xs : List Int) (e : Int) : Bool :=
 if k = 0 then okZ t xs && !t && decide (-1200 ≤ e ∧ e ≤ 1200) && decide (V 4294967296 xs < 10 ^ 120)
 else if k = 1 then decide (xs = []) && !t && decide (e = 0)
 else if k = 2 then decide (xs = []) && !t && decide (e = 0) && !s
 else false
def OkD (D : Dc) : Prop:=(D.kind = 0 ∧ -1200 ≤ D.exp ∧ D.exp ≤ 1200 ∧ D.coef < 10 ^ 120) ∨ (D.kind = 1 ∧ D.coef = 0 ∧ D.exp = 0) ∨ (D.kind = 2 ∧ D.coef = 0 ∧ D.exp = 0 ∧ D.neg = false)
def dcOf (k : Int) (s : Bool) (xs : List Int) (e : Int) : Dc:=⟨k,s,V 4294967296 xs,e⟩
theorem lt120 {n : Nat} : n < 10 ^ 120 ↔ ds n ≤ 120:=⟨fun h=>ds_le h,fun h=>Nat.lt_of_lt_of_le (ds_lt n) (Nat.pow_le_pow_right (by omega) h)⟩
theorem okD_parts {k : Int} {s t : Bool} {xs : List Int} {e : Int} (h : okD k s t xs e = true) :
  (k = 0 ∧ okZ t xs = true ∧ t = false ∧ -1200 ≤ e ∧ e ≤ 1200 ∧ V 4294967296 xs < 10 ^ 120) ∨ (k = 1 ∧ xs = [] ∧ t = false ∧ e = 0) ∨ (k = 2 ∧ xs = [] ∧ t = false ∧ e = 0 ∧ s = false):=by
 unfold okD at h
 split at h
 ·rename_i hk
  simp only [Bool.and_eq_true,Bool.not_eq_true',decide_eq_true_eq] at h
  obtain ⟨⟨⟨h1,h2⟩,h3,h4⟩,h5⟩:=h
  exact .inl ⟨hk,h1,h2,h3,h4,h5⟩
 ·split at h
  ·rename_i hk
   simp only [Bool.and_eq_true,Bool.not_eq_true',decide_eq_true_eq] at h
   exact .inr (.inl ⟨hk,h.1.1,h.1.2,h.2⟩)
  ·split at h
   ·rename_i hk
    simp only [Bool.and_eq_true,Bool.not_eq_true',decide_eq_true_eq] at h
    exact .inr (.inr ⟨hk,h.1.1.1,h.1.1.2,h.1.2,h.2⟩)
   ·cases h
theorem okD_eq {k : Int} {s t : Bool} {xs : List Int} {e : Int} (h : okD k s t xs e = true) (b : InB 4294967296 xs) :
  t = false ∧ xs = dg 4294967296 (dcOf k s xs e).coef ∧ OkD (dcOf k s xs e):=by
 rcases okD_parts h with ⟨h1,h2,h3,h4,h5,h6⟩ | ⟨h1,h2,h3,h4⟩ | ⟨h1,h2,h3,h4,h5⟩
 ·exact ⟨h3,(dg_V 4294967296 (by omega) xs b (okZ_trd h2)).symm,.inl ⟨h1,h4,h5,h6⟩⟩
 ·subst h2; exact ⟨h3,rfl,.inr (.inl ⟨h1,rfl,h4⟩)⟩
 ·subst h2; exact ⟨h3,rfl,.inr (.inr ⟨h1,rfl,h4,h5⟩)⟩
theorem coef_len {n : Nat} (h : ds n ≤ 120) : (dg 4294967296 n).length ≤ 13:=Nat.le_trans (len_ds h) (by omega)
theorem okZ_n' {n : Nat} (h : (dg 4294967296 n).length ≤ 128) : okZ false (dg 4294967296 n) = true:=by
 unfold okZ
 refine decide_eq_true ⟨h,?_⟩
 rcases Nat.eq_zero_or_pos n with rfl | h0
 ·exact .inl ⟨rfl,rfl⟩
 ·refine .inr ⟨fun e=>?_,dg_trd _ (by omega) _⟩
  have:=(dg_len_pos 4294967296 n (by omega)).2 h0
  rw [e] at this; exact absurd this (by simp)
theorem okD_g {D : Dc} (h : OkD D) : okD D.kind D.neg false (dg 4294967296 D.coef) D.exp = true:=by
 rcases h with ⟨h1,h2,h3,h4⟩ | ⟨h1,h2,h3⟩ | ⟨h1,h2,h3,h4⟩
 ·unfold okD
  rw [if_pos h1,V_dg _ (by omega),decide_eq_true h4,decide_eq_true ⟨h2,h3⟩,okZ_n' (Nat.le_trans (coef_len (lt120.1 h4)) (by omega))]
  rfl
 ·unfold okD
  rw [if_neg (by omega),if_pos h1,h2,h3]; rfl
 ·unfold okD
  rw [if_neg (by omega),if_neg (by omega),if_pos h1,h2,h3,h4]; rfl
abbrev D5:=Int × Bool × Bool × List Int × Int
abbrev d0 : D5:=(0,false,false,[],0)
def okD5 (p : D5) : Bool:=okD p.1 p.2.1 p.2.2.1 p.2.2.2.1 p.2.2.2.2
def dbC : List D5 → Int
 | []=>0
 | p :: l=>if okD5 p then dbC l else 6
def dbX : Int → List D5 → Int
 | _,[]=>0
 | i,p :: l=>if okD5 p then dbX (i + 1) l else -1 - i
def allD (n : Nat) : List D5 → Prop
 | []=>True
 | p :: l=>(p.2.2.2.1.length ≤ n ∧ InB 4294967296 p.2.2.2.1) ∧ allD n l
theorem allD_get {n : Nat} : ∀ {l : List D5} {i : Nat},allD n l → (l.getD i d0).2.2.2.1.length ≤ n ∧ InB 4294967296 (l.getD i d0).2.2.2.1
 | [],i,_=>by simp [InB_nil]
 | p :: l,0,h=>h.1
 | p :: l,i + 1,h=>by simpa using allD_get (i:=i) h.2
theorem drop_getD5 (l : List D5) (i : Nat) (h : i < l.length) : l.drop i = l.getD i d0 :: l.drop (i + 1):=by
 rw [List.drop_eq_getElem_cons h,List.getD_eq_getElem?_getD,List.getElem?_eq_getElem h]; rfl
end Go.Proofs.NatL
namespace Go.Proofs.YtgkajjifbcmoeaaGreatDoor
set_option linter.unusedSimpArgs false
set_option linter.unusedVariables false
open Go.Abs Go.Proofs.NatL

def rowD (p : D5) : List C:=[.i .i64 p.1,.b p.2.1,.b p.2.2.1,.ints .u32 p.2.2.2.1,.i .i64 p.2.2.2.2]
def unD : List (List C) → Option (List D5)
 | []=>some []
 | [.i .i64 k,.b s,.b t,.ints .u32 xs,.i .i64 e] :: r=>(unD r).map ((k,s,t,xs,e) :: ·)
 | _ :: _=>none
theorem unD_some : ∀ {rows : List (List C)} {l : List D5},unD rows = some l → rows = l.map rowD
 | [],l,h=>by simp [unD] at h; subst h; rfl
 | r :: rows,l,h=>by
  unfold unD at h
  split at h
  ·rename_i h0; cases h0
  ·rename_i k s t xs e r' h0
   cases h0
   obtain ⟨l',h1,rfl⟩:=Option.map_eq_some_iff.1 h
   rw [unD_some h1]; rfl
  ·cases h
theorem rowD_get (l : List D5) (i : Nat) (h : i < l.length) : (l.map rowD).getD i [] = [.i .i64 (l.getD i d0).1,.b (l.getD i d0).2.1,.b (l.getD i d0).2.2.1,.ints .u32 (l.getD i d0).2.2.2.1,.i .i64 (l.getD i d0).2.2.2.2]:=by
 simp [List.getD_eq_getElem?_getD,List.getElem?_eq_getElem h,rowD]
def db7d : Cfg:=listT [(83,powerCT),(124,lessCT),(143,ivalidCT)] [34]
theorem db7d_ok : TblOk Tryz.prog db7d:=listE_ok (by simp only [List.mem_singleton,forall_eq]; exact flt) ⟨⟨dc3,dc3_ok,rfl⟩,⟨dc2,dc2_ok,rfl⟩,⟨it2,it2_ok,rfl⟩,trivial⟩
attribute [go_sem] db7d
set_option maxRecDepth 100000 in
set_option maxHeartbeats 1600000 in
theorem validD_ret (k : Int) (s t : Bool) (xs : List Int) (e : Int) (h1 : xs.length ≤ 140737488355328) (b1 : InB 4294967296 xs) :
  Ret Tryz.prog 62 false [.inr [.i .i64 k,.b s,.b t,.ints .u32 xs,.i .i64 e]] (.c (.b (okD k s t xs e))):=by
 obtain ⟨U,hU⟩ : ∃ x : Nat,x = 10 ^ 120:=⟨_,rfl⟩
 have t120 : 10 ^ (120 : Int).toNat = U:=by rw [hU]; rfl
 have l120 : (dg 4294967296 U).length ≤ 600:=by rw [hU]; exact ten_600 (k:=120) (by omega)
 have e0 : okD 0 s t xs e = (okZ t xs && !t && decide (-1200 ≤ e ∧ e ≤ 1200) && decide (V 4294967296 xs < U)):=by rw [hU]; rfl
 clear hU
 have hx : decide (xs = []) = decide ((xs.length : Int) = 0):=by congr 1; exact propext ⟨fun h=>by rw [h]; rfl,fun h=>List.eq_nil_of_length_eq_zero (by omega)⟩
 by_cases k0 : k = 0
 ·subst k0
  rw [e0]
  clear e0 hx
  cases hz : okZ t xs
  ·(refine q_H Tryz.func62 (fun F=>?_); simp only [q_z,q_y,Tryz.ntmps62,Tryz.results62])
   repeat' (first|with_reducible refine q_0 ?_|((with_reducible first|refine q_q db7d_ok fun K hK=>?_|refine q_r db7d_ok fun K hK=>?_);simp (maxSteps:=2000000) only [go_sem,↓reduceIte,reduceCtorEq,Nat.reduceLeDiff,Nat.reduceLT,Nat.reduceBEq,Nat.reduceAdd,hz,t120];(repeat1' with_reducible first|apply And.intro|(intro _;try exact q_v)|(refine hK _ ?_;clear hK K))<;>(try (clear hK K;exact q_u)))|(with_reducible refine q_s ?_;(first|apply q_J|apply q_K|apply q_L|apply q_M|apply q_N|apply q_O)<;>try (intro _;try exact q_v)))
   all_goals first | omega | (refine q_A ?_; simp [resAV,q_y]; done) | skip
  ·have lz:=okZ_len hz
   have tz:=okZ_trd hz
   cases t
   all_goals
    (refine q_H Tryz.func62 (fun F=>?_); simp only [q_z,q_y,Tryz.ntmps62,Tryz.results62])
    repeat' (first|with_reducible refine q_0 ?_|((with_reducible first|refine q_q db7d_ok fun K hK=>?_|refine q_r db7d_ok fun K hK=>?_);simp (maxSteps:=2000000) only [go_sem,↓reduceIte,reduceCtorEq,Nat.reduceLeDiff,Nat.reduceLT,Nat.reduceBEq,Nat.reduceAdd,hz,t120,V32];(repeat1' with_reducible first|apply And.intro|(intro _;try exact q_v)|(refine hK _ ?_;clear hK K))<;>(try (clear hK K;exact q_u)))|(with_reducible refine q_s ?_;(first|apply q_J|apply q_K|apply q_L|apply q_M|apply q_N|apply q_O)<;>try (intro _;try exact q_v)))
    all_goals first | omega | (refine q_A ?_; simp [resAV,q_y, *]; done) | (refine q_A ?_; simp [resAV,q_y]; omega) | (refine q_A ?_; simp [resAV,q_y, *]; omega) | skip
 ·clear e0 l120 t120
  obtain ⟨nx,hnx⟩ : ∃ z : Int,(xs.length : Int) = z:=⟨_,rfl⟩
  rw [hnx] at hx
  by_cases k1 : k = 1
  ·subst k1
   have e0 : okD 1 s t xs e = (decide (xs = []) && !t && decide (e = 0)):=rfl
   rw [e0,hx]
   cases t
   all_goals
    (refine q_H Tryz.func62 (fun F=>?_); simp only [q_z,q_y,Tryz.ntmps62,Tryz.results62])
    repeat' (first|with_reducible refine q_0 ?_|((with_reducible first|refine q_q db7d_ok fun K hK=>?_|refine q_r db7d_ok fun K hK=>?_);simp (maxSteps:=2000000) only [go_sem,↓reduceIte,reduceCtorEq,Nat.reduceLeDiff,Nat.reduceLT,Nat.reduceBEq,Nat.reduceAdd,hnx];(repeat1' with_reducible first|apply And.intro|(intro _;try exact q_v)|(refine hK _ ?_;clear hK K))<;>(try (clear hK K;exact q_u)))|(with_reducible refine q_s ?_;(first|apply q_J|apply q_K|apply q_L|apply q_M|apply q_N|apply q_O)<;>try (intro _;try exact q_v)))
    all_goals first | omega | (refine q_A ?_; simp [resAV,q_y, *]; done) | (refine q_A ?_; simp [resAV,q_y]; omega) | (refine q_A ?_; simp [resAV,q_y, *]; omega) | skip
  ·by_cases k2 : k = 2
   ·subst k2
    have e0 : okD 2 s t xs e = (decide (xs = []) && !t && decide (e = 0) && !s):=rfl
    rw [e0,hx]
    cases t <;> cases s
    all_goals
     (refine q_H Tryz.func62 (fun F=>?_); simp only [q_z,q_y,Tryz.ntmps62,Tryz.results62])
     repeat' (first|with_reducible refine q_0 ?_|((with_reducible first|refine q_q db7d_ok fun K hK=>?_|refine q_r db7d_ok fun K hK=>?_);simp (maxSteps:=2000000) only [go_sem,↓reduceIte,reduceCtorEq,Nat.reduceLeDiff,Nat.reduceLT,Nat.reduceBEq,Nat.reduceAdd,hnx];(repeat1' with_reducible first|apply And.intro|(intro _;try exact q_v)|(refine hK _ ?_;clear hK K))<;>(try (clear hK K;exact q_u)))|(with_reducible refine q_s ?_;(first|apply q_J|apply q_K|apply q_L|apply q_M|apply q_N|apply q_O)<;>try (intro _;try exact q_v)))
     all_goals first | omega | (refine q_A ?_; simp [resAV,q_y, *]; done) | (refine q_A ?_; simp [resAV,q_y]; omega) | (refine q_A ?_; simp [resAV,q_y, *]; omega) | skip
   ·have e0 : okD k s t xs e = false:=by unfold okD; rw [if_neg k0,if_neg k1,if_neg k2]
    rw [e0]
    cases t
    all_goals
     (refine q_H Tryz.func62 (fun F=>?_); simp only [q_z,q_y,Tryz.ntmps62,Tryz.results62])
     repeat' (first|with_reducible refine q_0 ?_|((with_reducible first|refine q_q db7d_ok fun K hK=>?_|refine q_r db7d_ok fun K hK=>?_);simp (maxSteps:=2000000) only [go_sem,↓reduceIte,reduceCtorEq,Nat.reduceLeDiff,Nat.reduceLT,Nat.reduceBEq,Nat.reduceAdd,hnx];(repeat1' with_reducible first|apply And.intro|(intro _;try exact q_v)|(refine hK _ ?_;clear hK K))<;>(try (clear hK K;exact q_u)))|(with_reducible refine q_s ?_;(first|apply q_J|apply q_K|apply q_L|apply q_M|apply q_N|apply q_O)<;>try (intro _;try exact q_v)))
     all_goals first | omega | (refine q_A ?_; simp [resAV,q_y, *]; done) | (refine q_A ?_; simp [resAV,q_y]; omega) | (refine q_A ?_; simp [resAV,q_y, *]; omega) | skip
def validDCT : CT:=mkCT [nDc] true fun l K=>match l with
 | [.inr [.i .i64 k,.b s,.b t,.ints .u32 xs,.i .i64 e]]=>(xs.length ≤ 140737488355328 ∧ InB 4294967296 xs) ∧ K (.c (.b (okD k s t xs e)))
 | _=>False
def de4 : Cfg:=addT 62 validDCT cf0
theorem de4_ok : TblOk Tryz.prog de4:=q_I cf0_ok Tryz.func62 fun l K h=>by
 split at h
 ·exact ⟨_,(validD_ret _ _ _ _ _ h.1.1 h.1.2).plain rfl,h.2⟩
 ·exact h.elim
set_option maxRecDepth 100000 in
set_option maxHeartbeats 1600000 in
theorem checkC_ret (p r mn mx : Int) : Ret Tryz.prog 63 false [.inr [.i .i64 p,.i .i64 r,.i .i64 mn,.i .i64 mx]] (.c (.b (okCx p r mn mx))):=by
 (refine q_H Tryz.func63 (fun F=>?_); simp only [q_z,q_y,Tryz.ntmps63,Tryz.results63])
 repeat' (first|with_reducible refine q_0 ?_|((with_reducible first|refine q_q db7d_ok fun K hK=>?_|refine q_r db7d_ok fun K hK=>?_);simp (maxSteps:=2000000) only [go_sem,↓reduceIte,reduceCtorEq,Nat.reduceLeDiff,Nat.reduceLT,Nat.reduceBEq,Nat.reduceAdd];(repeat1' with_reducible first|apply And.intro|(intro _;try exact q_v)|(refine hK _ ?_;clear hK K))<;>(try (clear hK K;exact q_u)))|(with_reducible refine q_s ?_;(first|apply q_J|apply q_K|apply q_L|apply q_M|apply q_N|apply q_O)<;>try (intro _;try exact q_v)))
 all_goals first | (refine q_A ?_; simp [resAV,q_y,okCx, *]; done) | (refine q_A ?_; simp [resAV,q_y,okCx]; omega) | (refine q_A ?_; simp [resAV,q_y,okCx, *]; omega) | skip
def checkCCT : CT:=mkCT [.inr [none,none,none,none]] true fun l K=>match l with
 | [.inr [.i .i64 p,.i .i64 r,.i .i64 mn,.i .i64 mx]]=>K (.c (.b (okCx p r mn mx)))
 | _=>False
def de5 : Cfg:=addT 63 checkCCT cf0
theorem de5_ok : TblOk Tryz.prog de5:=q_I cf0_ok Tryz.func63 fun l K h=>by
 split at h
 ·exact ⟨_,(checkC_ret _ _ _ _).plain rfl,h⟩
 ·exact h.elim
def de6 : Cfg:=addT 78 atCT cf0
theorem de6_ok : TblOk Tryz.prog de6:=q_I cf0_ok Tryz.func78 fun l K h=>by
 split at h
 ·refine ⟨_,Ret.plain ?_ rfl,h⟩
  (refine q_H Tryz.func78 (fun F=>?_); simp only [q_z,q_y,Tryz.ntmps78,Tryz.results78])
  repeat' (first|with_reducible refine q_0 ?_|((with_reducible first|refine q_q db7d_ok fun K hK=>?_|refine q_r db7d_ok fun K hK=>?_);simp (maxSteps:=2000000) only [go_sem,↓reduceIte,reduceCtorEq,Nat.reduceLeDiff,Nat.reduceLT,Nat.reduceBEq,Nat.reduceAdd];(repeat1' with_reducible first|apply And.intro|(intro _;try exact q_v)|(refine hK _ ?_;clear hK K))<;>(try (clear hK K;exact q_u)))|(with_reducible refine q_s ?_;(first|apply q_J|apply q_K|apply q_L|apply q_M|apply q_N|apply q_O)<;>try (intro _;try exact q_v)))
  exact q_A rfl
 ·exact h.elim
attribute [go_sem] validDCT checkCCT
def db8d : Cfg:=listT [(62,validDCT),(63,checkCCT),(78,atCT)] [34]
theorem db8d_ok : TblOk Tryz.prog db8d:=listE_ok (by simp only [List.mem_singleton,forall_eq]; exact flt) ⟨⟨de4,de4_ok,rfl⟩,⟨de5,de5_ok,rfl⟩,⟨de6,de6_ok,rfl⟩,trivial⟩
attribute [go_sem] db8d
def dcC (p r mn mx : Int) (l : List D5) : Int:=if okCx p r mn mx then dbC l else 4
def dcX (p r mn mx : Int) (l : List D5) : Int:=if okCx p r mn mx then dbX 0 l else -9
set_option maxRecDepth 100000 in
set_option maxHeartbeats 1600000 in
theorem dcheck_ret (p r mn mx : Int) (l : List D5) (hn : l.length ≤ 1000) (hl : allD 140737488355328 l) :
  Ret Tryz.prog 71 false [.inr [.i .i64 p,.i .i64 r,.i .i64 mn,.i .i64 mx],.inl (.sl 5 (l.map rowD))] (.g [.i .i64 (dcC p r mn mx l),.i .i64 (dcX p r mn mx l)]):=by
 unfold dcC dcX
 cases hc : okCx p r mn mx
 ·simp only [Bool.false_eq_true,if_false]
  (refine q_H Tryz.func71 (fun F=>?_); simp only [q_z,q_y,Tryz.ntmps71,Tryz.results71])
  repeat' (first|with_reducible refine q_0 ?_|((with_reducible first|refine q_q db8d_ok fun K hK=>?_|refine q_r db8d_ok fun K hK=>?_);simp (maxSteps:=2000000) only [go_sem,↓reduceIte,reduceCtorEq,Nat.reduceLeDiff,Nat.reduceLT,Nat.reduceBEq,Nat.reduceAdd,hc,List.length_map];(repeat1' with_reducible first|apply And.intro|(intro _;try exact q_v)|(refine hK _ ?_;clear hK K))<;>(try (clear hK K;exact q_u)))|(with_reducible refine q_s ?_;(first|apply q_J|apply q_K|apply q_L|apply q_M|apply q_N|apply q_O)<;>try (intro _;try exact q_v)))
  all_goals first | omega | exact q_A rfl | skip
 simp only [if_true]
 (refine q_H Tryz.func71 (fun F=>?_); simp only [q_z,q_y,Tryz.ntmps71,Tryz.results71])
 repeat' (first|with_reducible refine q_0 ?_|((with_reducible first|refine q_q db8d_ok fun K hK=>?_|refine q_r db8d_ok fun K hK=>?_);simp (maxSteps:=2000000) only [go_sem,↓reduceIte,reduceCtorEq,Nat.reduceLeDiff,Nat.reduceLT,Nat.reduceBEq,Nat.reduceAdd,hc,List.length_map];(repeat1' with_reducible first|apply And.intro|(intro _;try exact q_v)|(refine hK _ ?_;clear hK K))<;>(try (clear hK K;exact q_u)))|(with_reducible refine q_s ?_;(first|apply q_J|apply q_K|apply q_L|apply q_M|apply q_N|apply q_O)<;>try (intro _;try exact q_v)))
 all_goals first | omega | skip
 refine q_G (ι:={ i : Nat // i ≤ l.length ∧ dbC (l.drop i) = dbC l ∧ dbX i (l.drop i) = dbX 0 l }) (fun i=>⟨26,[(4,.bx 1 0),(11,.c (.sl 5 (l.map rowD))),(12,.c (.i .i64 l.length)),(13,.c (.i .i64 (i.1 : Nat)))],⟨[(1,[.c (.i .i64 0),.c (.i .i64 0)])],[],[]⟩,2⟩) (fun i=>l.length - i.1) ⟨0,by simp,rfl,rfl⟩ ?_ ?_
 ·exact q_D
 rintro ⟨i,g1,g2,g3⟩
 simp only at g1 g2 g3 ⊢
 obtain ⟨n1,n2⟩:=allD_get (i:=i) hl
 rcases Nat.lt_or_ge i l.length with hi | hi
 ·have hr:=rowD_get l i hi
  rw [drop_getD5 l i hi,dbC] at g2
  rw [drop_getD5 l i hi,dbX] at g3
  unfold okD5 at g2 g3
  cases ho : okD (l.getD i d0).1 (l.getD i d0).2.1 (l.getD i d0).2.2.1 (l.getD i d0).2.2.2.1 (l.getD i d0).2.2.2.2
  ·simp only [ho,Bool.false_eq_true,if_false] at g2 g3
   repeat' (first|with_reducible refine q_0 ?_|((with_reducible first|refine q_q db8d_ok fun K hK=>?_|refine q_r db8d_ok fun K hK=>?_);simp (maxSteps:=2000000) only [go_sem,↓reduceIte,reduceCtorEq,Nat.reduceLeDiff,Nat.reduceLT,Nat.reduceBEq,Nat.reduceAdd,hr,ho,List.length_map];(repeat1' with_reducible first|apply And.intro|(intro _;try exact q_v)|(refine hK _ ?_;clear hK K))<;>(try (clear hK K;exact q_u)))|(with_reducible refine q_s ?_;(first|apply q_J|apply q_K|apply q_L|apply q_M|apply q_N|apply q_O)<;>try (intro _;try exact q_v)))
   all_goals first | omega | assumption | exact q_A (by rw [← g2,← g3]; rfl) | skip
  ·simp only [ho,if_true] at g2 g3
   repeat' (first|with_reducible refine q_0 ?_|((with_reducible first|refine q_q db8d_ok fun K hK=>?_|refine q_r db8d_ok fun K hK=>?_);simp (maxSteps:=2000000) only [go_sem,↓reduceIte,reduceCtorEq,Nat.reduceLeDiff,Nat.reduceLT,Nat.reduceBEq,Nat.reduceAdd,hr,ho,List.length_map];(repeat1' with_reducible first|apply And.intro|(intro _;try exact q_v)|(refine hK _ ?_;clear hK K))<;>(try (clear hK K;exact q_u)))|(with_reducible refine q_s ?_;(first|apply q_J|apply q_K|apply q_L|apply q_M|apply q_N|apply q_O)<;>try (intro _;try exact q_v)))
   all_goals first | omega | assumption | skip
   refine q_F ⟨i + 1,hi,g2,by push_cast; exact g3⟩ ?_ (by simp only; omega)
   exact q_D
 ·have hi' : i = l.length:=by omega
  subst hi'
  rw [List.drop_length] at g2 g3
  repeat' (first|with_reducible refine q_0 ?_|((with_reducible first|refine q_q db8d_ok fun K hK=>?_|refine q_r db8d_ok fun K hK=>?_);simp (maxSteps:=2000000) only [go_sem,↓reduceIte,reduceCtorEq,Nat.reduceLeDiff,Nat.reduceLT,Nat.reduceBEq,Nat.reduceAdd,List.length_map];(repeat1' with_reducible first|apply And.intro|(intro _;try exact q_v)|(refine hK _ ?_;clear hK K))<;>(try (clear hK K;exact q_u)))|(with_reducible refine q_s ?_;(first|apply q_J|apply q_K|apply q_L|apply q_M|apply q_N|apply q_O)<;>try (intro _;try exact q_v)))
  all_goals first | omega | exact q_A (by rw [← g2,← g3]; rfl) | skip
def dcheckCT : CT:=mkCT [.inr [none,none,none,none]] true fun l K=>match l with
 | [.inr [.i .i64 p,.i .i64 r,.i .i64 mn,.i .i64 mx],.inl (.sl 5 rows)]=>match unD rows with
  | some l=>(l.length ≤ 1000 ∧ allD 140737488355328 l) ∧ K (.g [.i .i64 (dcC p r mn mx l),.i .i64 (dcX p r mn mx l)])
  | none=>False
 | _=>False
def de7 : Cfg:=addT 71 dcheckCT cf0
theorem de7_ok : TblOk Tryz.prog de7:=q_I cf0_ok Tryz.func71 fun l K h=>by
 split at h
 ·split at h
  ·rename_i l hl
   rw [unD_some hl]
   exact ⟨_,(dcheck_ret _ _ _ _ l h.1.1 h.1.2).plain rfl,h.2⟩
  ·exact h.elim
 ·exact h.elim
attribute [go_sem] dcheckCT unD dcC dcX dbC dbX allD okD5
def eb5 : Cfg:=listT [(104,ivalidCT),(27,noIntCT),(106,ofCT),(105,figCT)] [34]
theorem eb5_ok : TblOk Tryz.prog eb5:=listE_ok (by simp only [List.mem_singleton,forall_eq]; exact flt) ⟨⟨jt1,jt1_ok,rfl⟩,⟨jt6,jt6_ok,rfl⟩,⟨db6,db6_ok,rfl⟩,⟨nt11,nt11_ok,rfl⟩,trivial⟩
attribute [go_sem] eb5
def noI (t : Bool) (xs : List Int) : Bool:=decide (xs = []) && !t
set_option maxHeartbeats 800000 in
theorem noIntA_ret (t : Bool) (xs : List Int) (hx : xs.length ≤ 140737488355328) : Ret Tryz.prog 27 false [.inr [.b t,.ints .u32 xs]] (.c (.b (noI t xs))):=by
 have hx' : decide (xs = []) = decide ((xs.length : Int) = 0):=by congr 1; exact propext ⟨fun h=>by rw [h]; rfl,fun h=>List.eq_nil_of_length_eq_zero (by omega)⟩
 unfold noI
 rw [hx']
 cases t
 all_goals
  (refine q_H Tryz.func27 (fun F=>?_); simp only [q_z,q_y,Tryz.ntmps27,Tryz.results27])
  repeat' (first|with_reducible refine q_0 ?_|((with_reducible first|refine q_q eb5_ok fun K hK=>?_|refine q_r eb5_ok fun K hK=>?_);simp (maxSteps:=2000000) only [go_sem,↓reduceIte,reduceCtorEq,Nat.reduceLeDiff,Nat.reduceLT,Nat.reduceBEq,Nat.reduceAdd];(repeat1' with_reducible first|apply And.intro|(intro _;try exact q_v)|(refine hK _ ?_;clear hK K))<;>(try (clear hK K;exact q_u)))|(with_reducible refine q_s ?_;(first|apply q_J|apply q_K|apply q_L|apply q_M|apply q_N|apply q_O)<;>try (intro _;try exact q_v)))
  all_goals first | omega | exact q_A (by simp [resAV,q_y]) | skip
def noIntACT : CT:=mkCT [nP] true fun l K=>match l with
 | [.inr [.b t,.ints .u32 xs]]=>xs.length ≤ 140737488355328 ∧ K (.c (.b (noI t xs)))
 | _=>False
def er6 : Cfg:=addT 27 noIntACT cf0
theorem er6_ok : TblOk Tryz.prog er6:=q_I cf0_ok Tryz.func27 fun l K h=>by
 split at h
 ·exact ⟨_,(noIntA_ret _ _ h.1).plain rfl,h.2⟩
 ·exact h.elim
attribute [go_sem] noIntACT
def eb6 : Cfg:=listT [(104,ivalidCT),(27,noIntACT),(106,ofCT),(105,figCT)] [34]
theorem eb6_ok : TblOk Tryz.prog eb6:=listE_ok (by simp only [List.mem_singleton,forall_eq]; exact flt) ⟨⟨jt1,jt1_ok,rfl⟩,⟨er6,er6_ok,rfl⟩,⟨db6,db6_ok,rfl⟩,⟨nt11,nt11_ok,rfl⟩,trivial⟩
attribute [go_sem] eb6
set_option maxRecDepth 100000 in
set_option maxHeartbeats 1600000 in
theorem decimalOk_ret (k : Int) (s t : Bool) (xs : List Int) (e : Int) (h1 : xs.length ≤ 140737488355328) (b1 : InB 4294967296 xs) :
  Ret Tryz.prog 32 false [.inr [.i .i64 k,.b s,.b t,.ints .u32 xs,.i .i64 e]] (.c (.b (okD k s t xs e))):=by
 have ten : (10 : Int).toNat = 10:=rfl
 by_cases k0 : k = 0
 ·subst k0
  have e0 : okD 0 s t xs e = (okZ t xs && !t && decide (-1200 ≤ e ∧ e ≤ 1200) && decide (V 4294967296 xs < 10 ^ 120)):=rfl
  have hv : decide (V 4294967296 xs < 10 ^ 120) = decide ((ds (V 4294967296 xs) : Int) ≤ 120):=by congr 1; exact propext ⟨fun h=>by have:=lt120.1 h; omega,fun h=>lt120.2 (by omega)⟩
  rw [e0,hv]
  cases hz : okZ t xs
  ·(refine q_H Tryz.func32 (fun F=>?_); simp only [q_z,q_y,Tryz.ntmps32,Tryz.results32])
   repeat' (first|with_reducible refine q_0 ?_|((with_reducible first|refine q_q eb6_ok fun K hK=>?_|refine q_r eb6_ok fun K hK=>?_);simp (maxSteps:=2000000) only [go_sem,↓reduceIte,reduceCtorEq,Nat.reduceLeDiff,Nat.reduceLT,Nat.reduceBEq,Nat.reduceAdd,hz];(repeat1' with_reducible first|apply And.intro|(intro _;try exact q_v)|(refine hK _ ?_;clear hK K))<;>(try (clear hK K;exact q_u)))|(with_reducible refine q_s ?_;(first|apply q_J|apply q_K|apply q_L|apply q_M|apply q_N|apply q_O)<;>try (intro _;try exact q_v)))
   all_goals first | omega | exact q_A (by simp [resAV,q_y]) | skip
  ·have lz:=okZ_len hz
   have l2 : (dg 65536 (V 4294967296 xs)).length ≤ 256:=(dg_half' _ 128).2 (by rw [dg_V 4294967296 (by omega) xs b1 (okZ_trd hz)]; exact lz)
   cases t
   all_goals
    (refine q_H Tryz.func32 (fun F=>?_); simp only [q_z,q_y,Tryz.ntmps32,Tryz.results32])
    repeat' (first|with_reducible refine q_0 ?_|((with_reducible first|refine q_q eb6_ok fun K hK=>?_|refine q_r eb6_ok fun K hK=>?_);simp (maxSteps:=2000000) only [go_sem,↓reduceIte,reduceCtorEq,Nat.reduceLeDiff,Nat.reduceLT,Nat.reduceBEq,Nat.reduceAdd,hz,V65,ten,fig_len];(repeat1' with_reducible first|apply And.intro|(intro _;try exact q_v)|(refine hK _ ?_;clear hK K))<;>(try (clear hK K;exact q_u)))|(with_reducible refine q_s ?_;(first|apply q_J|apply q_K|apply q_L|apply q_M|apply q_N|apply q_O)<;>try (intro _;try exact q_v)))
    all_goals first | omega | (refine q_A ?_; simp [resAV,q_y, *]; done) | (refine q_A ?_; simp [resAV,q_y]; omega) | (refine q_A ?_; simp [resAV,q_y, *]; omega) | skip
 ·by_cases k1 : k = 1
  ·subst k1
   have e0 : okD 1 s t xs e = (noI t xs && decide (e = 0)):=rfl
   rw [e0]
   cases hi : noI t xs
   all_goals
    (refine q_H Tryz.func32 (fun F=>?_); simp only [q_z,q_y,Tryz.ntmps32,Tryz.results32])
    repeat' (first|with_reducible refine q_0 ?_|((with_reducible first|refine q_q eb6_ok fun K hK=>?_|refine q_r eb6_ok fun K hK=>?_);simp (maxSteps:=2000000) only [go_sem,↓reduceIte,reduceCtorEq,Nat.reduceLeDiff,Nat.reduceLT,Nat.reduceBEq,Nat.reduceAdd,hi];(repeat1' with_reducible first|apply And.intro|(intro _;try exact q_v)|(refine hK _ ?_;clear hK K))<;>(try (clear hK K;exact q_u)))|(with_reducible refine q_s ?_;(first|apply q_J|apply q_K|apply q_L|apply q_M|apply q_N|apply q_O)<;>try (intro _;try exact q_v)))
    all_goals first | omega | (refine q_A ?_; simp [resAV,q_y, *]; done) | (refine q_A ?_; simp [resAV,q_y]; omega) | (refine q_A ?_; simp [resAV,q_y, *]; omega) | skip
  ·by_cases k2 : k = 2
   ·subst k2
    have e0 : okD 2 s t xs e = (noI t xs && decide (e = 0) && !s):=rfl
    rw [e0]
    cases hi : noI t xs <;> cases s
    all_goals
     (refine q_H Tryz.func32 (fun F=>?_); simp only [q_z,q_y,Tryz.ntmps32,Tryz.results32])
     repeat' (first|with_reducible refine q_0 ?_|((with_reducible first|refine q_q eb6_ok fun K hK=>?_|refine q_r eb6_ok fun K hK=>?_);simp (maxSteps:=2000000) only [go_sem,↓reduceIte,reduceCtorEq,Nat.reduceLeDiff,Nat.reduceLT,Nat.reduceBEq,Nat.reduceAdd,hi];(repeat1' with_reducible first|apply And.intro|(intro _;try exact q_v)|(refine hK _ ?_;clear hK K))<;>(try (clear hK K;exact q_u)))|(with_reducible refine q_s ?_;(first|apply q_J|apply q_K|apply q_L|apply q_M|apply q_N|apply q_O)<;>try (intro _;try exact q_v)))
     all_goals first | omega | (refine q_A ?_; simp [resAV,q_y, *]; done) | (refine q_A ?_; simp [resAV,q_y]; omega) | (refine q_A ?_; simp [resAV,q_y, *]; omega) | skip
   ·have e0 : okD k s t xs e = false:=by unfold okD; rw [if_neg k0,if_neg k1,if_neg k2]
    rw [e0]
    (refine q_H Tryz.func32 (fun F=>?_); simp only [q_z,q_y,Tryz.ntmps32,Tryz.results32])
    repeat' (first|with_reducible refine q_0 ?_|((with_reducible first|refine q_q eb6_ok fun K hK=>?_|refine q_r eb6_ok fun K hK=>?_);simp (maxSteps:=2000000) only [go_sem,↓reduceIte,reduceCtorEq,Nat.reduceLeDiff,Nat.reduceLT,Nat.reduceBEq,Nat.reduceAdd];(repeat1' with_reducible first|apply And.intro|(intro _;try exact q_v)|(refine hK _ ?_;clear hK K))<;>(try (clear hK K;exact q_u)))|(with_reducible refine q_s ?_;(first|apply q_J|apply q_K|apply q_L|apply q_M|apply q_N|apply q_O)<;>try (intro _;try exact q_v)))
    all_goals first | omega | (refine q_A ?_; simp [resAV,q_y, *]; done) | (refine q_A ?_; simp [resAV,q_y]; omega) | (refine q_A ?_; simp [resAV,q_y, *]; omega) | skip
def er7 : Cfg:=addT 32 validDCT cf0
theorem er7_ok : TblOk Tryz.prog er7:=q_I cf0_ok Tryz.func32 fun l K h=>by
 split at h
 ·exact ⟨_,(decimalOk_ret _ _ _ _ _ h.1.1 h.1.2).plain rfl,h.2⟩
 ·exact h.elim
set_option maxRecDepth 100000 in
set_option maxHeartbeats 1600000 in
theorem contextOk_ret (p r mn mx : Int) : Ret Tryz.prog 51 false [.inr [.i .i64 p,.i .i64 r,.i .i64 mn,.i .i64 mx]] (.c (.b (okCx p r mn mx))):=by
 (refine q_H Tryz.func51 (fun F=>?_); simp only [q_z,q_y,Tryz.ntmps51,Tryz.results51])
 repeat' (first|with_reducible refine q_0 ?_|((with_reducible first|refine q_q eb6_ok fun K hK=>?_|refine q_r eb6_ok fun K hK=>?_);simp (maxSteps:=2000000) only [go_sem,↓reduceIte,reduceCtorEq,Nat.reduceLeDiff,Nat.reduceLT,Nat.reduceBEq,Nat.reduceAdd];(repeat1' with_reducible first|apply And.intro|(intro _;try exact q_v)|(refine hK _ ?_;clear hK K))<;>(try (clear hK K;exact q_u)))|(with_reducible refine q_s ?_;(first|apply q_J|apply q_K|apply q_L|apply q_M|apply q_N|apply q_O)<;>try (intro _;try exact q_v)))
 all_goals first | (refine q_A ?_; simp [resAV,q_y,okCx, *]; done) | (refine q_A ?_; simp [resAV,q_y,okCx]; omega) | (refine q_A ?_; simp [resAV,q_y,okCx, *]; omega) | skip
def er8 : Cfg:=addT 51 checkCCT cf0
theorem er8_ok : TblOk Tryz.prog er8:=q_I cf0_ok Tryz.func51 fun l K h=>by
 split at h
 ·exact ⟨_,(contextOk_ret _ _ _ _).plain rfl,h⟩
 ·exact h.elim
def eb7 : Cfg:=listT [(51,checkCCT),(32,validDCT),(33,atCT)] [34]
theorem eb7_ok : TblOk Tryz.prog eb7:=listE_ok (by simp only [List.mem_singleton,forall_eq]; exact flt) ⟨⟨er8,er8_ok,rfl⟩,⟨er7,er7_ok,rfl⟩,⟨jt0,jt0_ok,rfl⟩,trivial⟩
attribute [go_sem] eb7
set_option maxRecDepth 100000 in
set_option maxHeartbeats 1600000 in
theorem decimalFaults_ret (p r mn mx : Int) (l : List D5) (hn : l.length ≤ 1000) (hl : allD 140737488355328 l) :
  Ret Tryz.prog 18 false [.inr [.i .i64 p,.i .i64 r,.i .i64 mn,.i .i64 mx],.inl (.sl 5 (l.map rowD))] (.g [.i .i64 (dcC p r mn mx l),.i .i64 (dcX p r mn mx l)]):=by
 unfold dcC dcX
 cases hc : okCx p r mn mx
 ·simp only [Bool.false_eq_true,if_false]
  (refine q_H Tryz.func18 (fun F=>?_); simp only [q_z,q_y,Tryz.ntmps18,Tryz.results18])
  repeat' (first|with_reducible refine q_0 ?_|((with_reducible first|refine q_q eb7_ok fun K hK=>?_|refine q_r eb7_ok fun K hK=>?_);simp (maxSteps:=2000000) only [go_sem,↓reduceIte,reduceCtorEq,Nat.reduceLeDiff,Nat.reduceLT,Nat.reduceBEq,Nat.reduceAdd,hc,List.length_map];(repeat1' with_reducible first|apply And.intro|(intro _;try exact q_v)|(refine hK _ ?_;clear hK K))<;>(try (clear hK K;exact q_u)))|(with_reducible refine q_s ?_;(first|apply q_J|apply q_K|apply q_L|apply q_M|apply q_N|apply q_O)<;>try (intro _;try exact q_v)))
  all_goals first | omega | exact q_A rfl | skip
 simp only [if_true]
 (refine q_H Tryz.func18 (fun F=>?_); simp only [q_z,q_y,Tryz.ntmps18,Tryz.results18])
 repeat' (first|with_reducible refine q_0 ?_|((with_reducible first|refine q_q eb7_ok fun K hK=>?_|refine q_r eb7_ok fun K hK=>?_);simp (maxSteps:=2000000) only [go_sem,↓reduceIte,reduceCtorEq,Nat.reduceLeDiff,Nat.reduceLT,Nat.reduceBEq,Nat.reduceAdd,hc,List.length_map];(repeat1' with_reducible first|apply And.intro|(intro _;try exact q_v)|(refine hK _ ?_;clear hK K))<;>(try (clear hK K;exact q_u)))|(with_reducible refine q_s ?_;(first|apply q_J|apply q_K|apply q_L|apply q_M|apply q_N|apply q_O)<;>try (intro _;try exact q_v)))
 all_goals first | omega | skip
 refine q_G (ι:={ i : Nat // i ≤ l.length ∧ dbC (l.drop i) = dbC l ∧ dbX i (l.drop i) = dbX 0 l }) (fun i=>⟨26,[(1,.c (.sl 5 (l.map rowD))),(4,.bx 1 0),(5,.c (.i .i64 (i.1 : Nat)))],⟨[(1,[.c (.i .i64 0),.c (.i .i64 0)])],[],[]⟩,2⟩) (fun i=>l.length - i.1) ⟨0,by simp,rfl,rfl⟩ ?_ ?_
 ·exact q_D
 rintro ⟨i,g1,g2,g3⟩
 simp only at g1 g2 g3 ⊢
 obtain ⟨n1,n2⟩:=allD_get (i:=i) hl
 rcases Nat.lt_or_ge i l.length with hi | hi
 ·have hr:=rowD_get l i hi
  rw [drop_getD5 l i hi,dbC] at g2
  rw [drop_getD5 l i hi,dbX] at g3
  unfold okD5 at g2 g3
  cases ho : okD (l.getD i d0).1 (l.getD i d0).2.1 (l.getD i d0).2.2.1 (l.getD i d0).2.2.2.1 (l.getD i d0).2.2.2.2
  ·simp only [ho,Bool.false_eq_true,if_false] at g2 g3
   repeat' (first|with_reducible refine q_0 ?_|((with_reducible first|refine q_q eb7_ok fun K hK=>?_|refine q_r eb7_ok fun K hK=>?_);simp (maxSteps:=2000000) only [go_sem,↓reduceIte,reduceCtorEq,Nat.reduceLeDiff,Nat.reduceLT,Nat.reduceBEq,Nat.reduceAdd,hr,ho,List.length_map];(repeat1' with_reducible first|apply And.intro|(intro _;try exact q_v)|(refine hK _ ?_;clear hK K))<;>(try (clear hK K;exact q_u)))|(with_reducible refine q_s ?_;(first|apply q_J|apply q_K|apply q_L|apply q_M|apply q_N|apply q_O)<;>try (intro _;try exact q_v)))
   all_goals first | omega | assumption | exact q_A (by rw [← g2,← g3]; rfl) | skip
  ·simp only [ho,if_true] at g2 g3
   repeat' (first|with_reducible refine q_0 ?_|((with_reducible first|refine q_q eb7_ok fun K hK=>?_|refine q_r eb7_ok fun K hK=>?_);simp (maxSteps:=2000000) only [go_sem,↓reduceIte,reduceCtorEq,Nat.reduceLeDiff,Nat.reduceLT,Nat.reduceBEq,Nat.reduceAdd,hr,ho,List.length_map];(repeat1' with_reducible first|apply And.intro|(intro _;try exact q_v)|(refine hK _ ?_;clear hK K))<;>(try (clear hK K;exact q_u)))|(with_reducible refine q_s ?_;(first|apply q_J|apply q_K|apply q_L|apply q_M|apply q_N|apply q_O)<;>try (intro _;try exact q_v)))
   all_goals first | omega | assumption | skip
   refine q_F ⟨i + 1,hi,g2,by push_cast; exact g3⟩ ?_ (by simp only; omega)
   exact q_D
 ·have hi' : i = l.length:=by omega
  subst hi'
  rw [List.drop_length] at g2 g3
  repeat' (first|with_reducible refine q_0 ?_|((with_reducible first|refine q_q eb7_ok fun K hK=>?_|refine q_r eb7_ok fun K hK=>?_);simp (maxSteps:=2000000) only [go_sem,↓reduceIte,reduceCtorEq,Nat.reduceLeDiff,Nat.reduceLT,Nat.reduceBEq,Nat.reduceAdd,List.length_map];(repeat1' with_reducible first|apply And.intro|(intro _;try exact q_v)|(refine hK _ ?_;clear hK K))<;>(try (clear hK K;exact q_u)))|(with_reducible refine q_s ?_;(first|apply q_J|apply q_K|apply q_L|apply q_M|apply q_N|apply q_O)<;>try (intro _;try exact q_v)))
  all_goals first | omega | exact q_A (by rw [← g2,← g3]; rfl) | skip
def er9 : Cfg:=addT 18 dcheckCT cf0
theorem er9_ok : TblOk Tryz.prog er9:=q_I cf0_ok Tryz.func18 fun l K h=>by
 split at h
 ·split at h
  ·rename_i l hl
   rw [unD_some hl]
   exact ⟨_,(decimalFaults_ret _ _ _ _ l h.1.1 h.1.2).plain rfl,h.2⟩
  ·exact h.elim
 ·exact h.elim
end Go.Proofs.YtgkajjifbcmoeaaGreatDoor

namespace Go.Proofs.NatL
set_option linter.unusedSimpArgs false
set_option linter.unusedVariables false
def sumZ (s : Bool) (m : Nat) (e : Int) (t : Bool) (n : Nat) (f : Int) : Int:=sg s (m * 10 ^ (e - min e f).toNat) + sg t (n * 10 ^ (f - min e f).toNat)
def sumB (s : Bool) (m : Nat) (e : Int) (t : Bool) (n : Nat) (f : Int) (fl : Bool) : Bool:=if sumZ s m e t n f = 0 then (if s = t then s else fl) else decide (sumZ s m e t n f < 0)
theorem sum_same {s : Bool} {m : Nat} {e : Int} {n : Nat} {f : Int} (fl : Bool) {M N : Nat} (hM : m * 10 ^ (e - min e f).toNat = M) (hN : n * 10 ^ (f - min e f).toNat = N) :
  sumB s m e s n f fl = s ∧ (sumZ s m e s n f).natAbs = M + N:=by
 unfold sumB sumZ
 rw [hM,hN]
 cases s
 ·simp only [sgf,if_true]
  refine ⟨?_,by omega⟩
  split
  ·rfl
  ·exact decide_eq_false (by omega)
 ·simp only [sgt,if_true]
  refine ⟨?_,by omega⟩
  split
  ·rfl
  ·exact decide_eq_true (by omega)
theorem sum_gt {s t : Bool} (hst : s ≠ t) {m : Nat} {e : Int} {n : Nat} {f : Int} (fl : Bool) {M N : Nat} (hM : m * 10 ^ (e - min e f).toNat = M) (hN : n * 10 ^ (f - min e f).toNat = N) (h : N < M) :
  sumB s m e t n f fl = s ∧ (sumZ s m e t n f).natAbs = M - N:=by
 unfold sumB sumZ
 rw [hM,hN]
 cases s <;> cases t <;> first | exact absurd rfl hst | skip
 ·simp only [sgf,sgt]
  refine ⟨?_,by omega⟩
  split
  ·omega
  ·first | exact decide_eq_false (by omega) | exact (decide_eq_false (by omega)).trans rfl
 ·simp only [sgf,sgt]
  refine ⟨?_,by omega⟩
  split
  ·omega
  ·first | exact decide_eq_true (by omega) | exact (decide_eq_true (by omega)).trans rfl
theorem sum_lt {s t : Bool} (hst : s ≠ t) {m : Nat} {e : Int} {n : Nat} {f : Int} (fl : Bool) {M N : Nat} (hM : m * 10 ^ (e - min e f).toNat = M) (hN : n * 10 ^ (f - min e f).toNat = N) (h : M < N) :
  sumB s m e t n f fl = t ∧ (sumZ s m e t n f).natAbs = N - M:=by
 unfold sumB sumZ
 rw [hM,hN]
 cases s <;> cases t <;> first | exact absurd rfl hst | skip
 ·simp only [sgf,sgt]
  refine ⟨?_,by omega⟩
  split
  ·omega
  ·first | exact decide_eq_true (by omega) | exact (decide_eq_true (by omega)).trans rfl
 ·simp only [sgf,sgt]
  refine ⟨?_,by omega⟩
  split
  ·omega
  ·first | exact decide_eq_false (by omega) | exact (decide_eq_false (by omega)).trans rfl
theorem sum_eq {s t : Bool} (hst : s ≠ t) {m : Nat} {e : Int} {n : Nat} {f : Int} (fl : Bool) {M N : Nat} (hM : m * 10 ^ (e - min e f).toNat = M) (hN : n * 10 ^ (f - min e f).toNat = N) (h : M = N) :
  sumB s m e t n f fl = fl ∧ (sumZ s m e t n f).natAbs = 0:=by
 unfold sumB sumZ
 rw [hM,hN,if_neg hst]
 cases s <;> cases t <;> first | exact absurd rfl hst | skip
 ·simp only [sgf,sgt]
  have e0 : (M : Int) + -(N : Int) = 0:=by omega
  exact ⟨if_pos e0,by omega⟩
 ·simp only [sgf,sgt]
  have e0 : -(M : Int) + (N : Int) = 0:=by omega
  exact ⟨if_pos e0,by omega⟩
def smP (m : Nat) (e : Int) (n : Nat) (f : Int) : Prop:=ds m ≤ 240 ∧ ds n ≤ 240 ∧ -2500 ≤ e ∧ e ≤ 2500 ∧ -2500 ≤ f ∧ f ≤ 2500 ∧ e - f ≤ 3700 ∧ f - e ≤ 3700
theorem smP_len {m n : Nat} {e f : Int} (h : smP m e n f) : ds (m * 10 ^ (e - min e f).toNat) ≤ 3940 ∧ ds (n * 10 ^ (f - min e f).toNat) ≤ 3940:=by
 obtain ⟨h1,h2,h3,h4,h5,h6,h7,h8⟩:=h
 exact ⟨ds_mul10 (by omega),ds_mul10 (by omega)⟩
theorem sumZ_len {s t : Bool} {m n : Nat} {e f : Int} (h : smP m e n f) : ds (sumZ s m e t n f).natAbs ≤ 3941:=by
 obtain ⟨h1,h2⟩:=smP_len h
 unfold sumZ
 generalize m * 10 ^ (e - min e f).toNat = M at *
 generalize n * 10 ^ (f - min e f).toNat = N at *
 refine ds_le_of_le (b:=M + N) ?_ (ds_add h1 h2)
 cases s <;> cases t <;> simp only [sgf,sgt] <;> omega
def dNone : Dc:=⟨2,false,0,0⟩
def dInf (s : Bool) : Dc:=⟨1,s,0,0⟩
def flr (c : Cx) : Bool:=decide (c.r = 2)
def addD (A B : Dc) (c : Cx) : Dc :=
 if A.kind = 2 ∨ B.kind = 2 then dNone
 else if A.kind = 1 ∧ B.kind = 1 ∧ A.neg ≠ B.neg then dNone
 else if A.kind = 1 then dInf A.neg
 else if B.kind = 1 then dInf B.neg
 else fitD (sumB A.neg A.coef A.exp B.neg B.coef B.exp (flr c)) (sumZ A.neg A.coef A.exp B.neg B.coef B.exp).natAbs 1 (min A.exp B.exp) (min A.exp B.exp) c.p c.r c.mn c.mx
def addS (A B : Dc) (c : Cx) : Int :=
 if A.kind = 2 ∨ B.kind = 2 then 0
 else if A.kind = 1 ∧ B.kind = 1 ∧ A.neg ≠ B.neg then 32
 else if A.kind = 1 then 0
 else if B.kind = 1 then 0
 else fitS (sumB A.neg A.coef A.exp B.neg B.coef B.exp (flr c)) (sumZ A.neg A.coef A.exp B.neg B.coef B.exp).natAbs 1 (min A.exp B.exp) (min A.exp B.exp) c.p c.r c.mn c.mx
def opD (A : Dc) : Dc:=if A.kind = 2 then A else ⟨A.kind,!A.neg,A.coef,A.exp⟩
theorem opD_ok {A : Dc} (h : OkD A) : OkD (opD A):=by
 unfold opD
 rcases h with ⟨h1,h2,h3,h4⟩ | ⟨h1,h2,h3⟩ | ⟨h1,h2,h3,h4⟩
 ·rw [if_neg (by omega)]; exact .inl ⟨h1,h2,h3,h4⟩
 ·rw [if_neg (by omega)]; exact .inr (.inl ⟨h1,h2,h3⟩)
 ·rw [if_pos h1]; exact .inr (.inr ⟨h1,h2,h3,h4⟩)
def mulD (A B : Dc) (c : Cx) : Dc :=
 if A.kind = 2 ∨ B.kind = 2 then dNone
 else if A.kind = 0 ∧ B.kind = 0 then fitD (A.neg != B.neg) (A.coef * B.coef) 1 (A.exp + B.exp) (A.exp + B.exp) c.p c.r c.mn c.mx
 else if (A.kind = 0 ∧ A.coef = 0) ∨ (B.kind = 0 ∧ B.coef = 0) then dNone
 else dInf (A.neg != B.neg)
def mulS (A B : Dc) (c : Cx) : Int :=
 if A.kind = 2 ∨ B.kind = 2 then 0
 else if A.kind = 0 ∧ B.kind = 0 then fitS (A.neg != B.neg) (A.coef * B.coef) 1 (A.exp + B.exp) (A.exp + B.exp) c.p c.r c.mn c.mx
 else if (A.kind = 0 ∧ A.coef = 0) ∨ (B.kind = 0 ∧ B.coef = 0) then 32
 else 0
theorem one_ds : ds 1 = 1:=by decide
theorem PF_sum {s t : Bool} {m n : Nat} {e f : Int} (h : smP m e n f) : PF (sumZ s m e t n f).natAbs 1 (min e f):=by
 have:=sumZ_len (s:=s) (t:=t) h
 obtain ⟨h1,h2,h3,h4,h5,h6,h7,h8⟩:=h
 have:=one_ds
 refine ⟨by omega,by omega,by omega,by omega,by omega⟩
theorem PF_mul {m n : Nat} {e f : Int} (hm : ds m ≤ 120) (hn : ds n ≤ 120) (he : -1200 ≤ e ∧ e ≤ 1200) (hf : -1200 ≤ f ∧ f ≤ 1200) : PF (m * n) 1 (e + f):=by
 have:=ds_mul hm hn
 have:=one_ds
 refine ⟨by omega,by omega,by omega,by omega,by omega⟩
end Go.Proofs.NatL
namespace Go.Proofs.YtgkajjifbcmoeaaGreatDoor
set_option linter.unusedSimpArgs false
set_option linter.unusedVariables false
open Go.Abs Go.Proofs.NatL

def db9d : Cfg:=listT [(82,timesTCT),(124,lessCT),(125,(nat6CT pAdd rAddN)),(165,(nat6CT le2 rSubN)),(88,(nat6CT pMul rMulN))] [34]
theorem db9d_ok : TblOk Tryz.prog db9d:=listE_ok (by simp only [List.mem_singleton,forall_eq]; exact flt) ⟨⟨dc4,dc4_ok,rfl⟩,⟨dc2,dc2_ok,rfl⟩,⟨dn1,dn1_ok,rfl⟩,⟨dn3,dn3_ok,rfl⟩,⟨dn2,dn2_ok,rfl⟩,trivial⟩
attribute [go_sem] db9d
def ofDCT : CT:=mkCT [nDc] false fun l K=>match l with
 | [.inr [.i .i64 k,.b s,.b t,.ints .u32 xs,.i .i64 e]]=>K (.g [.b s,.ints .u32 xs,.ints .u32 (dg 4294967296 1),.i .i64 e])
 | _=>False
def df1 : Cfg:=addT 93 ofDCT cf0
theorem df1_ok : TblOk Tryz.prog df1:=q_I cf0_ok Tryz.func93 fun l K h=>by
 split at h
 ·rename_i k s t xs e
  refine ⟨_,?_,h⟩
  have e1 : ([1] : List Int) = dg 4294967296 1:=rfl
  (refine q_H Tryz.func93 (fun F=>?_); simp only [q_z,q_y,Tryz.ntmps93,Tryz.results93])
  repeat' (first|with_reducible refine q_0 ?_|((with_reducible first|refine q_q db9d_ok fun K hK=>?_|refine q_r db9d_ok fun K hK=>?_);simp (maxSteps:=2000000) only [go_sem,↓reduceIte,reduceCtorEq,Nat.reduceLeDiff,Nat.reduceLT,Nat.reduceBEq,Nat.reduceAdd,e1];(repeat1' with_reducible first|apply And.intro|(intro _;try exact q_v)|(refine hK _ ?_;clear hK K))<;>(try (clear hK K;exact q_u)))|(with_reducible refine q_s ?_;(first|apply q_J|apply q_K|apply q_L|apply q_M|apply q_N|apply q_O)<;>try (intro _;try exact q_v)))
  all_goals first | omega | exact q_A rfl | skip
 ·exact h.elim
set_option maxHeartbeats 3200000 in
theorem plus_ret' (s t : Bool) (m n : Nat) (e f : Int) (p r mn mx : Int) (h : smP m e n f) :
  Ret Tryz.prog 92 false [.inr (gX s m 1 e),.inr (gX t n 1 f),.inr [.i .i64 p,.i .i64 r,.i .i64 mn,.i .i64 mx]]
   (.g (gX (sumB s m e t n f (decide (r = 2))) (sumZ s m e t n f).natAbs 1 (min e f))):=by
 obtain ⟨k1,k2⟩:=smP_len h
 obtain ⟨h1,h2,h3,h4,h5,h6,h7,h8⟩:=h
 have e1 : ([1] : List Int) = dg 4294967296 1:=rfl
 have l1:=ds_600 (n:=m) (by omega)
 have l2:=ds_600 (n:=n) (by omega)
 have same:=fun hst : s = t=>sum_same (s:=s) (m:=m) (e:=e) (n:=n) (f:=f) (decide (r = 2)) rfl rfl
 have gt:=fun hst : s ≠ t=>sum_gt hst (m:=m) (e:=e) (n:=n) (f:=f) (decide (r = 2)) rfl rfl
 have lt:=fun hst : s ≠ t=>sum_lt hst (m:=m) (e:=e) (n:=n) (f:=f) (decide (r = 2)) rfl rfl
 have eq:=fun hst : s ≠ t=>sum_eq hst (m:=m) (e:=e) (n:=n) (f:=f) (decide (r = 2)) rfl rfl
 have j1 : 0 ≤ e - min e f ∧ e - min e f < 4096:=by omega
 have j2 : 0 ≤ f - min e f ∧ f - min e f < 4096:=by omega
 obtain ⟨j1,j3⟩:=j1
 obtain ⟨j2,j4⟩:=j2
 have l3:=ds_600 (n:=m * 10 ^ (e - min e f).toNat) (by omega)
 have l4:=ds_600 (n:=n * 10 ^ (f - min e f).toNat) (by omega)
 have l5:=ds_600 (n:=m * 10 ^ (e - min e f).toNat + n * 10 ^ (f - min e f).toNat) (by have:=ds_add k1 k2; omega)
 have b1 : -9223372036854775808 ≤ e - min e f ∧ e - min e f ≤ 9223372036854775807:=by omega
 have b2 : -9223372036854775808 ≤ f - min e f ∧ f - min e f ≤ 9223372036854775807:=by omega
 generalize hM : m * 10 ^ (e - min e f).toNat = M at *
 generalize hN : n * 10 ^ (f - min e f).toNat = N at *
 generalize hx : e - min e f = X at *
 generalize hy : f - min e f = Y at *
 by_cases hst : s = t
 ·subst hst
  obtain ⟨q1,q2⟩:=same rfl
  rw [q1,q2]
  clear same gt lt eq
  (refine q_H Tryz.func92 (fun F=>?_); simp only [q_z,q_y,Tryz.ntmps92,Tryz.results92])
  repeat' (first|with_reducible refine q_0 ?_|((with_reducible first|refine q_q db9d_ok fun K hK=>?_|refine q_r db9d_ok fun K hK=>?_);simp (maxSteps:=2000000) only [go_sem,↓reduceIte,reduceCtorEq,Nat.reduceLeDiff,Nat.reduceLT,Nat.reduceBEq,Nat.reduceAdd,V32,e1,hx,hy,hM,hN];(repeat1' with_reducible first|apply And.intro|(intro _;try exact q_v)|(refine hK _ ?_;clear hK K))<;>(try (clear hK K;exact q_u)))|(with_reducible refine q_s ?_;(first|apply q_J|apply q_K|apply q_L|apply q_M|apply q_N|apply q_O)<;>try (intro _;try exact q_v)))
  all_goals first | omega | exact q_A rfl | skip
 ·have hne : (s == t) = false:=by simpa using hst
  rcases Nat.lt_trichotomy M N with hc | hc | hc
  ·obtain ⟨q1,q2⟩:=lt hst hc
   rw [q1,q2]
   clear same gt lt eq
   have l6:=Nat.le_trans (dg_len_mono (B:=4294967296) (by omega) (Nat.sub_le N M)) l4
   have hz:=dg_len_pos 4294967296 (N - M) (by omega)
   (refine q_H Tryz.func92 (fun F=>?_); simp only [q_z,q_y,Tryz.ntmps92,Tryz.results92])
   repeat' (first|with_reducible refine q_0 ?_|((with_reducible first|refine q_q db9d_ok fun K hK=>?_|refine q_r db9d_ok fun K hK=>?_);simp (maxSteps:=2000000) only [go_sem,↓reduceIte,reduceCtorEq,Nat.reduceLeDiff,Nat.reduceLT,Nat.reduceBEq,Nat.reduceAdd,V32,e1,hx,hy,hM,hN,hne];(repeat1' with_reducible first|apply And.intro|(intro _;try exact q_v)|(refine hK _ ?_;clear hK K))<;>(try (clear hK K;exact q_u)))|(with_reducible refine q_s ?_;(first|apply q_J|apply q_K|apply q_L|apply q_M|apply q_N|apply q_O)<;>try (intro _;try exact q_v)))
   all_goals first | omega | exact q_A rfl | skip
  ·obtain ⟨q1,q2⟩:=eq hst hc
   rw [q1,q2]
   clear same gt lt eq
   subst hc
   have hz : M - M = 0:=by omega
   have hz2 : (dg 4294967296 0).length = 0:=rfl
   (refine q_H Tryz.func92 (fun F=>?_); simp only [q_z,q_y,Tryz.ntmps92,Tryz.results92])
   repeat' (first|with_reducible refine q_0 ?_|((with_reducible first|refine q_q db9d_ok fun K hK=>?_|refine q_r db9d_ok fun K hK=>?_);simp (maxSteps:=2000000) only [go_sem,↓reduceIte,reduceCtorEq,Nat.reduceLeDiff,Nat.reduceLT,Nat.reduceBEq,Nat.reduceAdd,V32,e1,hx,hy,hM,hN,hne,hz,hz2];(repeat1' with_reducible first|apply And.intro|(intro _;try exact q_v)|(refine hK _ ?_;clear hK K))<;>(try (clear hK K;exact q_u)))|(with_reducible refine q_s ?_;(first|apply q_J|apply q_K|apply q_L|apply q_M|apply q_N|apply q_O)<;>try (intro _;try exact q_v)))
   all_goals first | omega | exact q_A rfl | skip
  ·obtain ⟨q1,q2⟩:=gt hst hc
   rw [q1,q2]
   clear same gt lt eq
   have l6:=Nat.le_trans (dg_len_mono (B:=4294967296) (by omega) (Nat.sub_le M N)) l3
   have hz:=dg_len_pos 4294967296 (M - N) (by omega)
   (refine q_H Tryz.func92 (fun F=>?_); simp only [q_z,q_y,Tryz.ntmps92,Tryz.results92])
   repeat' (first|with_reducible refine q_0 ?_|((with_reducible first|refine q_q db9d_ok fun K hK=>?_|refine q_r db9d_ok fun K hK=>?_);simp (maxSteps:=2000000) only [go_sem,↓reduceIte,reduceCtorEq,Nat.reduceLeDiff,Nat.reduceLT,Nat.reduceBEq,Nat.reduceAdd,V32,e1,hx,hy,hM,hN,hne];(repeat1' with_reducible first|apply And.intro|(intro _;try exact q_v)|(refine hK _ ?_;clear hK K))<;>(try (clear hK K;exact q_u)))|(with_reducible refine q_s ?_;(first|apply q_J|apply q_K|apply q_L|apply q_M|apply q_N|apply q_O)<;>try (intro _;try exact q_v)))
   all_goals first | omega | exact q_A rfl | skip
def plusXCT : CT:=mkCT [nX,nX,.inr [none,none,none,none]] false fun l K=>match l with
 | [.inr [.b s,.ints .u32 xs,.ints .u32 ua,.i .i64 e],.inr [.b t,.ints .u32 ys,.ints .u32 ub,.i .i64 f],.inr [.i .i64 p,.i .i64 r,.i .i64 mn,.i .i64 mx]] =>
   (InB 4294967296 xs ∧ Trd xs ∧ InB 4294967296 ys ∧ Trd ys ∧ ua = dg 4294967296 1 ∧ ub = dg 4294967296 1 ∧ smP (V 4294967296 xs) e (V 4294967296 ys) f) ∧
   K (.g (gX (sumB s (V 4294967296 xs) e t (V 4294967296 ys) f (decide (r = 2))) (sumZ s (V 4294967296 xs) e t (V 4294967296 ys) f).natAbs 1 (min e f)))
 | _=>False
def df2 : Cfg:=addT 92 plusXCT cf0
theorem df2_ok : TblOk Tryz.prog df2:=q_I cf0_ok Tryz.func92 fun l K h=>by
 split at h
 ·rename_i s xs ua e t ys ub f p r mn mx
  obtain ⟨⟨h1,h2,h3,h4,rfl,rfl,h5⟩,h⟩:=h
  have e1:=dg_V 4294967296 (by omega) xs h1 h2
  have e2:=dg_V 4294967296 (by omega) ys h3 h4
  have:=plus_ret' s t _ _ e f p r mn mx h5
  rw [gX,gX,e1,e2] at this
  exact ⟨_,this,h⟩
 ·exact h.elim
attribute [go_sem] ofDCT plusXCT
end Go.Proofs.YtgkajjifbcmoeaaGreatDoor
namespace Go.Proofs.NatL
set_option linter.unusedSimpArgs false
set_option linter.unusedVariables false
def spD (A B : Dc) : Dc:=if A.kind = 2 ∨ B.kind = 2 then dNone else if A.kind = 1 ∧ B.kind = 1 ∧ A.neg ≠ B.neg then dNone else if A.kind = 1 then dInf A.neg else dInf B.neg
def spS (A B : Dc) : Int:=if A.kind = 2 ∨ B.kind = 2 then 0 else if A.kind = 1 ∧ B.kind = 1 ∧ A.neg ≠ B.neg then 32 else 0
def enD (A B : Dc) : Dc:=if A.kind = 2 ∨ B.kind = 2 then dNone else if (A.kind = 0 ∧ A.coef = 0) ∨ (B.kind = 0 ∧ B.coef = 0) then dNone else dInf (A.neg != B.neg)
def enS (A B : Dc) : Int:=if A.kind = 2 ∨ B.kind = 2 then 0 else if (A.kind = 0 ∧ A.coef = 0) ∨ (B.kind = 0 ∧ B.coef = 0) then 32 else 0
theorem OkD_kind {A : Dc} (h : OkD A) : A.kind = 0 ∨ A.kind = 1 ∨ A.kind = 2:=by rcases h with ⟨h,_⟩ | ⟨h,_⟩ | ⟨h,_⟩ <;> omega
theorem add_sp {A B : Dc} (c : Cx) (hA : OkD A) (hB : OkD B) (h : A.kind ≠ 0 ∨ B.kind ≠ 0) : addD A B c = spD A B ∧ addS A B c = spS A B:=by
 have ka:=OkD_kind hA
 have kb:=OkD_kind hB
 unfold addD addS spD spS
 by_cases h1 : A.kind = 2 ∨ B.kind = 2
 ·simp only [if_pos h1,and_self]
 ·by_cases h2 : A.kind = 1 ∧ B.kind = 1 ∧ A.neg ≠ B.neg
  ·simp only [if_neg h1,if_pos h2,and_self]
  ·by_cases h3 : A.kind = 1
   ·simp only [if_neg h1,if_neg h2,if_pos h3,and_self]
   ·have h4 : B.kind = 1:=by omega
    simp only [if_neg h1,if_neg h2,if_neg h3,if_pos h4,and_self]
theorem add_ff {s t : Bool} {m n : Nat} {e f : Int} (c : Cx) : addD ⟨0,s,m,e⟩ ⟨0,t,n,f⟩ c = fitD (sumB s m e t n f (flr c)) (sumZ s m e t n f).natAbs 1 (min e f) (min e f) c.p c.r c.mn c.mx ∧ addS ⟨0,s,m,e⟩ ⟨0,t,n,f⟩ c = fitS (sumB s m e t n f (flr c)) (sumZ s m e t n f).natAbs 1 (min e f) (min e f) c.p c.r c.mn c.mx:=⟨rfl,rfl⟩
theorem mul_en {A B : Dc} (c : Cx) (h : A.kind ≠ 0 ∨ B.kind ≠ 0) : mulD A B c = enD A B ∧ mulS A B c = enS A B:=by
 have h2 : ¬ (A.kind = 0 ∧ B.kind = 0):=by omega
 unfold mulD mulS enD enS
 by_cases h1 : A.kind = 2 ∨ B.kind = 2
 ·simp only [if_pos h1,and_self]
 ·simp only [if_neg h1,if_neg h2,and_self]
theorem mul_ff {s t : Bool} {m n : Nat} {e f : Int} (c : Cx) : mulD ⟨0,s,m,e⟩ ⟨0,t,n,f⟩ c = fitD (s != t) (m * n) 1 (e + f) (e + f) c.p c.r c.mn c.mx ∧ mulS ⟨0,s,m,e⟩ ⟨0,t,n,f⟩ c = fitS (s != t) (m * n) 1 (e + f) (e + f) c.p c.r c.mn c.mx:=⟨rfl,rfl⟩
end Go.Proofs.NatL
namespace Go.Proofs.YtgkajjifbcmoeaaGreatDoor
set_option linter.unusedSimpArgs false
set_option linter.unusedVariables false
open Go.Abs Go.Proofs.NatL
def noneDCT : CT:=mkCT [] false fun l K=>match l with
 | []=>K (.g [.i .i64 2,.b false,.b false,.ints .u32 [],.i .i64 0])
 | _=>False
def df3 : Cfg:=addT 72 noneDCT cf0
theorem df3_ok : TblOk Tryz.prog df3:=q_I cf0_ok Tryz.func72 fun l K h=>by
 split at h
 ·refine ⟨_,?_,h⟩
  (refine q_H Tryz.func72 (fun F=>?_); simp only [q_z,q_y,Tryz.ntmps72,Tryz.results72])
  repeat' (first|with_reducible refine q_0 ?_|((with_reducible first|refine q_q db9d_ok fun K hK=>?_|refine q_r db9d_ok fun K hK=>?_);simp (maxSteps:=2000000) only [go_sem,↓reduceIte,reduceCtorEq,Nat.reduceLeDiff,Nat.reduceLT,Nat.reduceBEq,Nat.reduceAdd];(repeat1' with_reducible first|apply And.intro|(intro _;try exact q_v)|(refine hK _ ?_;clear hK K))<;>(try (clear hK K;exact q_u)))|(with_reducible refine q_s ?_;(first|apply q_J|apply q_K|apply q_L|apply q_M|apply q_N|apply q_O)<;>try (intro _;try exact q_v)))
  all_goals first | omega | exact q_B [nDc] rfl rfl | exact q_A rfl | skip
 ·exact h.elim
attribute [go_sem] noneDCT
set_option maxHeartbeats 800000 in
theorem isZero_ret (k : Int) (s t : Bool) (xs : List Int) (e : Int) : Ret Tryz.prog 73 false [.inr [.i .i64 k,.b s,.b t,.ints .u32 xs,.i .i64 e]] (.c (.b (decide (k = 0 ∧ (xs.length : Int) = 0)))):=by
 by_cases h : k = 0
 ·(refine q_H Tryz.func73 (fun F=>?_); simp only [q_z,q_y,Tryz.ntmps73,Tryz.results73])
  repeat' (first|with_reducible refine q_0 ?_|((with_reducible first|refine q_q db9d_ok fun K hK=>?_|refine q_r db9d_ok fun K hK=>?_);simp (maxSteps:=2000000) only [go_sem,↓reduceIte,reduceCtorEq,Nat.reduceLeDiff,Nat.reduceLT,Nat.reduceBEq,Nat.reduceAdd];(repeat1' with_reducible first|apply And.intro|(intro _;try exact q_v)|(refine hK _ ?_;clear hK K))<;>(try (clear hK K;exact q_u)))|(with_reducible refine q_s ?_;(first|apply q_J|apply q_K|apply q_L|apply q_M|apply q_N|apply q_O)<;>try (intro _;try exact q_v)))
  all_goals first | omega | exact q_A (by simp [resAV,q_y,h]) | skip
 ·(refine q_H Tryz.func73 (fun F=>?_); simp only [q_z,q_y,Tryz.ntmps73,Tryz.results73])
  repeat' (first|with_reducible refine q_0 ?_|((with_reducible first|refine q_q db9d_ok fun K hK=>?_|refine q_r db9d_ok fun K hK=>?_);simp (maxSteps:=2000000) only [go_sem,↓reduceIte,reduceCtorEq,Nat.reduceLeDiff,Nat.reduceLT,Nat.reduceBEq,Nat.reduceAdd];(repeat1' with_reducible first|apply And.intro|(intro _;try exact q_v)|(refine hK _ ?_;clear hK K))<;>(try (clear hK K;exact q_u)))|(with_reducible refine q_s ?_;(first|apply q_J|apply q_K|apply q_L|apply q_M|apply q_N|apply q_O)<;>try (intro _;try exact q_v)))
  all_goals first | omega | exact q_A (by simp [resAV,q_y,h]) | skip
def isZeroCT : CT:=mkCT [nDc] true fun l K=>match l with
 | [.inr [.i .i64 k,.b s,.b t,.ints .u32 xs,.i .i64 e]]=>K (.c (.b (decide (k = 0 ∧ (xs.length : Int) = 0))))
 | _=>False
def df4 : Cfg:=addT 73 isZeroCT cf0
theorem df4_ok : TblOk Tryz.prog df4:=q_I cf0_ok Tryz.func73 fun l K h=>by
 split at h
 ·exact ⟨_,(isZero_ret _ _ _ _ _).plain rfl,h⟩
 ·exact h.elim
attribute [go_sem] isZeroCT
def db10d : Cfg:=listT [(72,noneDCT),(74,infiniteCT),(73,isZeroCT)] [34]
theorem db10d_ok : TblOk Tryz.prog db10d:=listE_ok (by simp only [List.mem_singleton,forall_eq]; exact flt) ⟨⟨df3,df3_ok,rfl⟩,⟨de2,de2_ok,rfl⟩,⟨df4,df4_ok,rfl⟩,trivial⟩
attribute [go_sem] db10d
def dd2CT (f : Dc → Dc → Dc) (g : Dc → Dc → Int) : CT:=mkCT [nDc,nDc] false fun l K=>match l with
 | [.inr [.i .i64 k,.b s,.b p,.ints .u32 xs,.i .i64 e],.inr [.i .i64 l,.b t,.b q,.ints .u32 ys,.i .i64 f']]=>(InB 4294967296 xs ∧ Trd xs ∧ InB 4294967296 ys ∧ Trd ys ∧ p = false ∧ q = false) ∧
   K (.t [.inr (gDc (f ⟨k,s,V 4294967296 xs,e⟩ ⟨l,t,V 4294967296 ys,f'⟩)),.inl (.i .i64 (g ⟨k,s,V 4294967296 xs,e⟩ ⟨l,t,V 4294967296 ys,f'⟩))])
 | _=>False
theorem dd2_tr {F : FuncId} {f : Dc → Dc → Dc} {g : Dc → Dc → Int} (hc : ∀ A B : Dc,Ret Tryz.prog F false [.inr (gDc A),.inr (gDc B)] (.t [.inr (gDc (f A B)),.inl (.i .i64 (g A B))])) (l : List (C ⊕ List C)) (K : AV → Prop) (hk : match l with
   | [.inr [.i .i64 k,.b s,.b p,.ints .u32 xs,.i .i64 e],.inr [.i .i64 l,.b t,.b q,.ints .u32 ys,.i .i64 f']]=>(InB 4294967296 xs ∧ Trd xs ∧ InB 4294967296 ys ∧ Trd ys ∧ p = false ∧ q = false) ∧
    K (.t [.inr (gDc (f ⟨k,s,V 4294967296 xs,e⟩ ⟨l,t,V 4294967296 ys,f'⟩)),.inl (.i .i64 (g ⟨k,s,V 4294967296 xs,e⟩ ⟨l,t,V 4294967296 ys,f'⟩))])
   | _=>False) : ∃ r,Ret Tryz.prog F false l r ∧ K r:=by
 split at hk
 ·rename_i k s p xs e l t q ys f'
  obtain ⟨⟨h1,h2,h3,h4,rfl,rfl⟩,hk⟩:=hk
  have e1:=dg_V 4294967296 (by omega) xs h1 h2
  have e2:=dg_V 4294967296 (by omega) ys h3 h4
  have:=hc ⟨k,s,V 4294967296 xs,e⟩ ⟨l,t,V 4294967296 ys,f'⟩
  rw [gDc,gDc] at this
  simp only [e1,e2] at this
  exact ⟨_,this,hk⟩
 ·exact hk.elim
set_option maxHeartbeats 1600000 in
theorem special_ret (A B : Dc) : Ret Tryz.prog 91 false [.inr (gDc A),.inr (gDc B)] (.t [.inr (gDc (spD A B)),.inl (.i .i64 (spS A B))]):=by
 obtain ⟨k,s,m,e⟩:=A
 obtain ⟨l,t,n,f⟩:=B
 unfold spD spS
 simp only
 by_cases h1 : k = 2 ∨ l = 2
 ·rw [if_pos h1,if_pos h1]
  (refine q_H Tryz.func91 (fun F=>?_); simp only [q_z,q_y,Tryz.ntmps91,Tryz.results91])
  repeat' (first|with_reducible refine q_0 ?_|((with_reducible first|refine q_q db10d_ok fun K hK=>?_|refine q_r db10d_ok fun K hK=>?_);simp (maxSteps:=2000000) only [go_sem,↓reduceIte,reduceCtorEq,Nat.reduceLeDiff,Nat.reduceLT,Nat.reduceBEq,Nat.reduceAdd];(repeat1' with_reducible first|apply And.intro|(intro _;try exact q_v)|(refine hK _ ?_;clear hK K))<;>(try (clear hK K;exact q_u)))|(with_reducible refine q_s ?_;(first|apply q_J|apply q_K|apply q_L|apply q_M|apply q_N|apply q_O)<;>try (intro _;try exact q_v)))
  all_goals first | omega | exact q_A rfl | skip
 rw [if_neg h1,if_neg h1]
 have h1a : k ≠ 2:=by omega
 have h1b : l ≠ 2:=by omega
 clear h1
 by_cases h2 : k = 1
 ·subst h2
  by_cases h3 : l = 1
  ·subst h3
   by_cases h4 : s = t
   ·subst h4
    have hb : (s != s) = false:=bne_self_eq_false _
    simp only [ne_eq,not_true_eq_false,and_false,if_false,if_true]
    (refine q_H Tryz.func91 (fun F=>?_); simp only [q_z,q_y,Tryz.ntmps91,Tryz.results91])
    repeat' (first|with_reducible refine q_0 ?_|((with_reducible first|refine q_q db10d_ok fun K hK=>?_|refine q_r db10d_ok fun K hK=>?_);simp (maxSteps:=2000000) only [go_sem,↓reduceIte,reduceCtorEq,Nat.reduceLeDiff,Nat.reduceLT,Nat.reduceBEq,Nat.reduceAdd,hb];(repeat1' with_reducible first|apply And.intro|(intro _;try exact q_v)|(refine hK _ ?_;clear hK K))<;>(try (clear hK K;exact q_u)))|(with_reducible refine q_s ?_;(first|apply q_J|apply q_K|apply q_L|apply q_M|apply q_N|apply q_O)<;>try (intro _;try exact q_v)))
    all_goals first | omega | exact q_A rfl | skip
   ·have hb : (s != t) = true:=by simpa using h4
    rw [if_pos ⟨rfl,rfl,h4⟩,if_pos ⟨rfl,rfl,h4⟩]
    (refine q_H Tryz.func91 (fun F=>?_); simp only [q_z,q_y,Tryz.ntmps91,Tryz.results91])
    repeat' (first|with_reducible refine q_0 ?_|((with_reducible first|refine q_q db10d_ok fun K hK=>?_|refine q_r db10d_ok fun K hK=>?_);simp (maxSteps:=2000000) only [go_sem,↓reduceIte,reduceCtorEq,Nat.reduceLeDiff,Nat.reduceLT,Nat.reduceBEq,Nat.reduceAdd,hb];(repeat1' with_reducible first|apply And.intro|(intro _;try exact q_v)|(refine hK _ ?_;clear hK K))<;>(try (clear hK K;exact q_u)))|(with_reducible refine q_s ?_;(first|apply q_J|apply q_K|apply q_L|apply q_M|apply q_N|apply q_O)<;>try (intro _;try exact q_v)))
    all_goals first | omega | exact q_A rfl | skip
  ·have h5 : ¬ ((1 : Int) = 1 ∧ l = 1 ∧ s ≠ t):=fun h=>h3 h.2.1
   rw [if_neg h5,if_neg h5,if_pos rfl]
   (refine q_H Tryz.func91 (fun F=>?_); simp only [q_z,q_y,Tryz.ntmps91,Tryz.results91])
   repeat' (first|with_reducible refine q_0 ?_|((with_reducible first|refine q_q db10d_ok fun K hK=>?_|refine q_r db10d_ok fun K hK=>?_);simp (maxSteps:=2000000) only [go_sem,↓reduceIte,reduceCtorEq,Nat.reduceLeDiff,Nat.reduceLT,Nat.reduceBEq,Nat.reduceAdd];(repeat1' with_reducible first|apply And.intro|(intro _;try exact q_v)|(refine hK _ ?_;clear hK K))<;>(try (clear hK K;exact q_u)))|(with_reducible refine q_s ?_;(first|apply q_J|apply q_K|apply q_L|apply q_M|apply q_N|apply q_O)<;>try (intro _;try exact q_v)))
   all_goals first | omega | exact q_A rfl | skip
 ·have h5 : ¬ (k = 1 ∧ l = 1 ∧ s ≠ t):=fun h=>h2 h.1
  rw [if_neg h5,if_neg h5,if_neg h2]
  (refine q_H Tryz.func91 (fun F=>?_); simp only [q_z,q_y,Tryz.ntmps91,Tryz.results91])
  repeat' (first|with_reducible refine q_0 ?_|((with_reducible first|refine q_q db10d_ok fun K hK=>?_|refine q_r db10d_ok fun K hK=>?_);simp (maxSteps:=2000000) only [go_sem,↓reduceIte,reduceCtorEq,Nat.reduceLeDiff,Nat.reduceLT,Nat.reduceBEq,Nat.reduceAdd];(repeat1' with_reducible first|apply And.intro|(intro _;try exact q_v)|(refine hK _ ?_;clear hK K))<;>(try (clear hK K;exact q_u)))|(with_reducible refine q_s ?_;(first|apply q_J|apply q_K|apply q_L|apply q_M|apply q_N|apply q_O)<;>try (intro _;try exact q_v)))
  all_goals first | omega | exact q_A rfl | skip
def df5 : Cfg:=addT 91 (dd2CT spD spS) cf0
theorem df5_ok : TblOk Tryz.prog df5:=q_I cf0_ok Tryz.func91 fun l K h =>
 dd2_tr (f:=spD) (g:=spS) (fun A B=>special_ret A B) l K h
set_option maxHeartbeats 1600000 in
theorem endless_ret (A B : Dc) : Ret Tryz.prog 94 false [.inr (gDc A),.inr (gDc B)] (.t [.inr (gDc (enD A B)),.inl (.i .i64 (enS A B))]):=by
 obtain ⟨k,s,m,e⟩:=A
 obtain ⟨l,t,n,f⟩:=B
 have z1:=dg_nil_iff m
 have z2:=dg_nil_iff n
 unfold enD enS
 simp only
 by_cases h1 : k = 2 ∨ l = 2
 ·rw [if_pos h1,if_pos h1]
  (refine q_H Tryz.func94 (fun F=>?_); simp only [q_z,q_y,Tryz.ntmps94,Tryz.results94])
  repeat' (first|with_reducible refine q_0 ?_|((with_reducible first|refine q_q db10d_ok fun K hK=>?_|refine q_r db10d_ok fun K hK=>?_);simp (maxSteps:=2000000) only [go_sem,↓reduceIte,reduceCtorEq,Nat.reduceLeDiff,Nat.reduceLT,Nat.reduceBEq,Nat.reduceAdd];(repeat1' with_reducible first|apply And.intro|(intro _;try exact q_v)|(refine hK _ ?_;clear hK K))<;>(try (clear hK K;exact q_u)))|(with_reducible refine q_s ?_;(first|apply q_J|apply q_K|apply q_L|apply q_M|apply q_N|apply q_O)<;>try (intro _;try exact q_v)))
  all_goals first | omega | exact q_A rfl | skip
 rw [if_neg h1,if_neg h1]
 by_cases h2 : (k = 0 ∧ m = 0) ∨ (l = 0 ∧ n = 0)
 ·rw [if_pos h2,if_pos h2]
  (refine q_H Tryz.func94 (fun F=>?_); simp only [q_z,q_y,Tryz.ntmps94,Tryz.results94])
  repeat' (first|with_reducible refine q_0 ?_|((with_reducible first|refine q_q db10d_ok fun K hK=>?_|refine q_r db10d_ok fun K hK=>?_);simp (maxSteps:=2000000) only [go_sem,↓reduceIte,reduceCtorEq,Nat.reduceLeDiff,Nat.reduceLT,Nat.reduceBEq,Nat.reduceAdd];(repeat1' with_reducible first|apply And.intro|(intro _;try exact q_v)|(refine hK _ ?_;clear hK K))<;>(try (clear hK K;exact q_u)))|(with_reducible refine q_s ?_;(first|apply q_J|apply q_K|apply q_L|apply q_M|apply q_N|apply q_O)<;>try (intro _;try exact q_v)))
  all_goals first | omega | exact q_A rfl | skip
 ·rw [if_neg h2,if_neg h2]
  (refine q_H Tryz.func94 (fun F=>?_); simp only [q_z,q_y,Tryz.ntmps94,Tryz.results94])
  repeat' (first|with_reducible refine q_0 ?_|((with_reducible first|refine q_q db10d_ok fun K hK=>?_|refine q_r db10d_ok fun K hK=>?_);simp (maxSteps:=2000000) only [go_sem,↓reduceIte,reduceCtorEq,Nat.reduceLeDiff,Nat.reduceLT,Nat.reduceBEq,Nat.reduceAdd];(repeat1' with_reducible first|apply And.intro|(intro _;try exact q_v)|(refine hK _ ?_;clear hK K))<;>(try (clear hK K;exact q_u)))|(with_reducible refine q_s ?_;(first|apply q_J|apply q_K|apply q_L|apply q_M|apply q_N|apply q_O)<;>try (intro _;try exact q_v)))
  all_goals first | omega | exact q_A rfl | skip
def df6 : Cfg:=addT 94 (dd2CT enD enS) cf0
theorem df6_ok : TblOk Tryz.prog df6:=q_I cf0_ok Tryz.func94 fun l K h =>
 dd2_tr (f:=enD) (g:=enS) (fun A B=>endless_ret A B) l K h
set_option maxHeartbeats 800000 in
theorem product_ret (A B : Dc) (h1 : ds A.coef ≤ 120) (h2 : ds B.coef ≤ 120) (he : -1200 ≤ A.exp ∧ A.exp ≤ 1200) (hf : -1200 ≤ B.exp ∧ B.exp ≤ 1200) : Ret Tryz.prog 95 false [.inr (gDc A),.inr (gDc B)] (.g (gX (A.neg != B.neg) (A.coef * B.coef) 1 (A.exp + B.exp))):=by
 obtain ⟨k,s,m,e⟩:=A
 obtain ⟨l,t,n,f⟩:=B
 simp only at h1 h2 he hf ⊢
 have e1 : ([1] : List Int) = dg 4294967296 1:=rfl
 have l1:=coef_len h1
 have l2:=coef_len h2
 have l3:=mul_len (B:=4294967296) (by omega) l1 l2
 generalize hM : m * n = M at *
 (refine q_H Tryz.func95 (fun F=>?_); simp only [q_z,q_y,Tryz.ntmps95,Tryz.results95])
 repeat' (first|with_reducible refine q_0 ?_|((with_reducible first|refine q_q db9d_ok fun K hK=>?_|refine q_r db9d_ok fun K hK=>?_);simp (maxSteps:=2000000) only [go_sem,↓reduceIte,reduceCtorEq,Nat.reduceLeDiff,Nat.reduceLT,Nat.reduceBEq,Nat.reduceAdd,V32,e1,hM];(repeat1' with_reducible first|apply And.intro|(intro _;try exact q_v)|(refine hK _ ?_;clear hK K))<;>(try (clear hK K;exact q_u)))|(with_reducible refine q_s ?_;(first|apply q_J|apply q_K|apply q_L|apply q_M|apply q_N|apply q_O)<;>try (intro _;try exact q_v)))
 all_goals first | omega | exact q_A rfl | skip
def productCT : CT:=mkCT [nDc,nDc] false fun l K=>match l with
 | [.inr [.i .i64 k,.b s,.b p,.ints .u32 xs,.i .i64 e],.inr [.i .i64 l,.b t,.b q,.ints .u32 ys,.i .i64 f]]=>(InB 4294967296 xs ∧ Trd xs ∧ InB 4294967296 ys ∧ Trd ys ∧ p = false ∧ q = false ∧ ds (V 4294967296 xs) ≤ 120 ∧ ds (V 4294967296 ys) ≤ 120 ∧ (-1200 ≤ e ∧ e ≤ 1200) ∧ (-1200 ≤ f ∧ f ≤ 1200)) ∧
   K (.g (gX (s != t) (V 4294967296 xs * V 4294967296 ys) 1 (e + f)))
 | _=>False
def df7 : Cfg:=addT 95 productCT cf0
theorem df7_ok : TblOk Tryz.prog df7:=q_I cf0_ok Tryz.func95 fun l K h=>by
 split at h
 ·rename_i k s p xs e l t q ys f
  obtain ⟨⟨h1,h2,h3,h4,rfl,rfl,h5,h6,h7,h8⟩,h⟩:=h
  have e1:=dg_V 4294967296 (by omega) xs h1 h2
  have e2:=dg_V 4294967296 (by omega) ys h3 h4
  have:=product_ret ⟨k,s,V 4294967296 xs,e⟩ ⟨l,t,V 4294967296 ys,f⟩ h5 h6 h7 h8
  rw [gDc,gDc] at this
  simp only [e1,e2] at this
  exact ⟨_,this,h⟩
 ·exact h.elim
attribute [go_sem] dd2CT productCT
end Go.Proofs.YtgkajjifbcmoeaaGreatDoor

namespace Go.Proofs.NatL
set_option linter.unusedSimpArgs false
set_option linter.unusedVariables false
def stCE (n : Nat) (exp : Int) (inex : Bool) (ideal p : Int) : Nat × Int :=
 let q:=if inex then (n,exp) else twd (ideal - exp).toNat n exp
 if p < (ds q.1 : Int) then (q.1 / 10,q.2 + 1) else q
def stO (n : Nat) (exp : Int) (inex : Bool) (ideal p mx : Int) : Prop:=0 < (stCE n exp inex ideal p).1 ∧ mx < (ds (stCE n exp inex ideal p).1 : Int) - 1 + (stCE n exp inex ideal p).2
instance decStO (n : Nat) (exp : Int) (inex : Bool) (ideal p mx : Int) : Decidable (stO n exp inex ideal p mx):=by unfold stO; infer_instance
end Go.Proofs.NatL
namespace Go.Proofs.YtgkajjifbcmoeaaGreatDoor
set_option linter.unusedSimpArgs false
set_option linter.unusedVariables false
open Go.Abs Go.Proofs.NatL

def eb8 : Cfg:=listT [(106,ofCT),(15,smallCT),(70,limbsCT)] [34]
theorem eb8_ok : TblOk Tryz.prog eb8:=listE_ok (by simp only [List.mem_singleton,forall_eq]; exact flt) ⟨⟨db6,db6_ok,rfl⟩,⟨nt7,nt7_ok,rfl⟩,⟨ch1,ch1_ok,rfl⟩,trivial⟩
attribute [go_sem] eb8
def rfiniteCT : CT:=mkCT [.inl none,.inl (some (.ints .i64 []))] false fun l K=>match l with
 | [.inl (.b s),.inl (.ints .i64 xs),.inl (.i .i64 e)]=>(InB 65536 xs ∧ Trd xs ∧ xs.length ≤ 5000) ∧ K (.g (gDc ⟨0,s,V 65536 xs,e⟩))
 | _=>False
def es2 : Cfg:=addT 14 rfiniteCT cf0
theorem es2_ok : TblOk Tryz.prog es2:=q_I cf0_ok Tryz.func14 fun l K h=>by
 split at h
 ·rename_i s xs e
  obtain ⟨⟨h1,h2,h3⟩,h⟩:=h
  refine ⟨_,?_,h⟩
  (refine q_H Tryz.func14 (fun F=>?_); simp only [q_z,q_y,Tryz.ntmps14,Tryz.results14])
  repeat' (first|with_reducible refine q_0 ?_|((with_reducible first|refine q_q eb8_ok fun K hK=>?_|refine q_r eb8_ok fun K hK=>?_);simp (maxSteps:=2000000) only [go_sem,↓reduceIte,reduceCtorEq,Nat.reduceLeDiff,Nat.reduceLT,Nat.reduceBEq,Nat.reduceAdd];(repeat1' with_reducible first|apply And.intro|(intro _;try exact q_v)|(refine hK _ ?_;clear hK K))<;>(try (clear hK K;exact q_u)))|(with_reducible refine q_s ?_;(first|apply q_J|apply q_K|apply q_L|apply q_M|apply q_N|apply q_O)<;>try (intro _;try exact q_v)))
  all_goals first | omega | assumption | exact q_A rfl | skip
 ·exact h.elim
attribute [go_sem] rfiniteCT
end Go.Proofs.YtgkajjifbcmoeaaGreatDoor
