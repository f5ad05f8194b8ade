import Derived.Test.YtgkajjifbcmoeaaGreatDoorP13
import Derived.Test.YtgkajjifbcmoeaaGreatDoorP23
namespace Go.Proofs.NatL
set_option linter.unusedSimpArgs false
set_option linter.unusedVariables false
end Go.Proofs.NatL
namespace Go.Proofs.YtgkajjifbcmoeaaGreatDoor
set_option linter.unusedSimpArgs false
set_option linter.unusedVariables false
open Go.Abs Go.Proofs.NatL

set_option maxHeartbeats 1600000 in
theorem sameRatio_ret (s t r : Bool) (xs ys zs ws : List Int) (n1 : Nrm s xs) (n2 : Nrm t ys) (l1 : xs.length ≤ 16777216) (l2 : ys.length ≤ 16777216) (b3 : InB 65536 zs) (t3 : Trd zs) (l3 : zs.length ≤ 4194304) (b4 : InB 65536 ws) (t4 : Trd ws) (l4 : ws.length ≤ 4194304) :
  Ret Tryz.prog 147 false [.inr [.b s,.ints .u32 xs,.b t,.ints .u32 ys],.inr [.b r,.ints .i64 zs,.ints .i64 ws]] (.c (.b (decide (sv 4294967296 s xs = sv 65536 r zs) && decide (sv 4294967296 t ys = (V 65536 ws : Int))))):=by
 have e : sv 65536 false ws = (V 65536 ws : Int):=rfl
 cases h1 : decide (sv 4294967296 s xs = sv 65536 r zs)
 all_goals
  (refine q_H Tryz.func147 (fun F=>?_); simp only [q_z,q_y,Tryz.ntmps147,Tryz.results147])
  repeat' (first|with_reducible refine q_0 ?_|((with_reducible first|refine q_q qr3_ok fun K hK=>?_|refine q_r qr3_ok fun K hK=>?_);simp (maxSteps:=2000000) only [go_sem,↓reduceIte,reduceCtorEq,Nat.reduceLeDiff,Nat.reduceLT,Nat.reduceBEq,Nat.reduceAdd,h1,e];(repeat1' with_reducible first|apply And.intro|(intro _;try exact q_v)|(refine hK _ ?_;clear hK K))<;>(try (clear hK K;exact q_u)))|(with_reducible refine q_s ?_;(first|apply q_J|apply q_K|apply q_L|apply q_M|apply q_N|apply q_O)<;>try (intro _;try exact q_v)))
  all_goals first | omega | exact q_A rfl | exact q_A (by simp [resAV,q_y]) | skip
def sameRatioCT : CT:=mkCT [nQ,nT] true fun l K=>match l with
 | [.inr [.b s,.ints .u32 xs,.b t,.ints .u32 ys],.inr [.b r,.ints .i64 zs,.ints .i64 ws]] =>
   (Nrm s xs ∧ Nrm t ys ∧ xs.length ≤ 16777216 ∧ ys.length ≤ 16777216 ∧ InB 65536 zs ∧ Trd zs ∧ zs.length ≤ 4194304 ∧ InB 65536 ws ∧ Trd ws ∧ ws.length ≤ 4194304) ∧ K (.c (.b (decide (sv 4294967296 s xs = sv 65536 r zs) && decide (sv 4294967296 t ys = (V 65536 ws : Int)))))
 | _=>False
def rq12 : Cfg:=addT 147 sameRatioCT cf0
theorem rq12_ok : TblOk Tryz.prog rq12:=q_I cf0_ok Tryz.func147 fun l K h=>by
 split at h
 ·obtain ⟨⟨h1,h2,h3,h4,h5,h6,h7,h8,h9,h10⟩,h⟩:=h
  exact ⟨_,(sameRatio_ret _ _ _ _ _ _ _ h1 h2 h3 h4 h5 h6 h7 h8 h9 h10).plain rfl,h⟩
 ·exact h.elim
set_option maxHeartbeats 1600000 in
theorem noRatio_ret (s t : Bool) (xs ys : List Int) (n1 : Nrm s xs) (n2 : Nrm t ys) (l1 : xs.length ≤ 140737488355328) (l2 : ys.length ≤ 140737488355328) :
  Ret Tryz.prog 146 false [.inr [.b s,.ints .u32 xs,.b t,.ints .u32 ys]] (.c (.b (decide (sv 4294967296 s xs = 0) && decide (sv 4294967296 t ys = 0)))):=by
 cases h1 : decide (sv 4294967296 s xs = 0)
 all_goals
  (refine q_H Tryz.func146 (fun F=>?_); simp only [q_z,q_y,Tryz.ntmps146,Tryz.results146])
  repeat' (first|with_reducible refine q_0 ?_|((with_reducible first|refine q_q qr3_ok fun K hK=>?_|refine q_r qr3_ok fun K hK=>?_);simp (maxSteps:=2000000) only [go_sem,↓reduceIte,reduceCtorEq,Nat.reduceLeDiff,Nat.reduceLT,Nat.reduceBEq,Nat.reduceAdd,h1];(repeat1' with_reducible first|apply And.intro|(intro _;try exact q_v)|(refine hK _ ?_;clear hK K))<;>(try (clear hK K;exact q_u)))|(with_reducible refine q_s ?_;(first|apply q_J|apply q_K|apply q_L|apply q_M|apply q_N|apply q_O)<;>try (intro _;try exact q_v)))
  all_goals first | omega | exact q_A rfl | exact q_A (by simp [resAV,q_y]) | skip
def noRatioCT : CT:=mkCT [nQ] true fun l K=>match l with
 | [.inr [.b s,.ints .u32 xs,.b t,.ints .u32 ys]]=>(Nrm s xs ∧ Nrm t ys ∧ xs.length ≤ 140737488355328 ∧ ys.length ≤ 140737488355328) ∧ K (.c (.b (decide (sv 4294967296 s xs = 0) && decide (sv 4294967296 t ys = 0))))
 | _=>False
def rq13 : Cfg:=addT 146 noRatioCT cf0
theorem rq13_ok : TblOk Tryz.prog rq13:=q_I cf0_ok Tryz.func146 fun l K h=>by
 split at h
 ·obtain ⟨⟨h1,h2,h3,h4⟩,h⟩:=h
  exact ⟨_,(noRatio_ret _ _ _ _ h1 h2 h3 h4).plain rfl,h⟩
 ·exact h.elim
set_option maxHeartbeats 1600000 in
theorem qfits_ret (s : Bool) (xs zs : List Int) :
  Ret Tryz.prog 145 false [.inr [.b s,.ints .i64 xs,.ints .i64 zs]] (.c (.b (decide ((xs.length : Int) ≤ 256) && decide ((zs.length : Int) ≤ 256)))):=by
 by_cases h0 : (xs.length : Int) ≤ 256
 ·have h1:=decide_eq_true h0
  (refine q_H Tryz.func145 (fun F=>?_); simp only [q_z,q_y,Tryz.ntmps145,Tryz.results145])
  repeat' (first|with_reducible refine q_0 ?_|((with_reducible first|refine q_q qr3_ok fun K hK=>?_|refine q_r qr3_ok fun K hK=>?_);simp (maxSteps:=2000000) only [go_sem,↓reduceIte,reduceCtorEq,Nat.reduceLeDiff,Nat.reduceLT,Nat.reduceBEq,Nat.reduceAdd,h1];(repeat1' with_reducible first|apply And.intro|(intro _;try exact q_v)|(refine hK _ ?_;clear hK K))<;>(try (clear hK K;exact q_u)))|(with_reducible refine q_s ?_;(first|apply q_J|apply q_K|apply q_L|apply q_M|apply q_N|apply q_O)<;>try (intro _;try exact q_v)))
  all_goals first | omega | exact q_A rfl | exact q_A (by simp [resAV,q_y]; intros; omega) | skip
 ·have h1:=decide_eq_false h0
  (refine q_H Tryz.func145 (fun F=>?_); simp only [q_z,q_y,Tryz.ntmps145,Tryz.results145])
  repeat' (first|with_reducible refine q_0 ?_|((with_reducible first|refine q_q qr3_ok fun K hK=>?_|refine q_r qr3_ok fun K hK=>?_);simp (maxSteps:=2000000) only [go_sem,↓reduceIte,reduceCtorEq,Nat.reduceLeDiff,Nat.reduceLT,Nat.reduceBEq,Nat.reduceAdd,h1];(repeat1' with_reducible first|apply And.intro|(intro _;try exact q_v)|(refine hK _ ?_;clear hK K))<;>(try (clear hK K;exact q_u)))|(with_reducible refine q_s ?_;(first|apply q_J|apply q_K|apply q_L|apply q_M|apply q_N|apply q_O)<;>try (intro _;try exact q_v)))
  all_goals first | omega | exact q_A rfl | exact q_A (by simp [resAV,q_y]; intros; omega) | skip
def qfitsCT : CT:=mkCT [nT] true fun l K=>match l with
 | [.inr [.b s,.ints .i64 xs,.ints .i64 zs]]=>K (.c (.b (decide ((xs.length : Int) ≤ 256) && decide ((zs.length : Int) ≤ 256))))
 | _=>False
def rq14 : Cfg:=addT 145 qfitsCT cf0
theorem rq14_ok : TblOk Tryz.prog rq14:=q_I cf0_ok Tryz.func145 fun l K h=>by
 split at h
 ·exact ⟨_,(qfits_ret _ _ _).plain rfl,h⟩
 ·exact h.elim
attribute [go_sem] sameRatioCT noRatioCT qfitsCT
end Go.Proofs.YtgkajjifbcmoeaaGreatDoor

namespace Go.Proofs.NatL
set_option linter.unusedSimpArgs false
set_option linter.unusedVariables false
theorem fN_len (z : Int) (d : Nat) : (dg 4294967296 (fN z d).natAbs).length ≤ 128:=by
 unfold fN; split
 ·rename_i h; exact h.1
 ·exact Nat.zero_le _
theorem fD_len (z : Int) (d : Nat) : (dg 4294967296 (fD z d)).length ≤ 128:=by
 unfold fD; split
 ·rename_i h; exact h.2
 ·exact Nat.zero_le _
theorem fQ_65 (z : Int) (d : Nat) : fQ z d ↔ (dg 65536 z.natAbs).length ≤ 256 ∧ (dg 65536 d).length ≤ 256 :=
 ⟨fun h=>⟨(dg_half' _ 128).2 h.1,(dg_half' _ 128).2 h.2⟩,fun h=>⟨(dg_half' _ 128).1 h.1,(dg_half' _ 128).1 h.2⟩⟩
end Go.Proofs.NatL
namespace Go.Proofs.YtgkajjifbcmoeaaGreatDoor
set_option linter.unusedSimpArgs false
set_option linter.unusedVariables false
open Go.Abs Go.Proofs.NatL

theorem Nrm_n (d : Nat) : Nrm false (dg 4294967296 d) = True:=by
 have e:=Nrm_g (d : Int)
 rwa [Int.natAbs_natCast,show decide ((d : Int) < 0) = false from decide_eq_false (by omega)] at e
theorem sv32n (d : Nat) : sv 4294967296 false (dg 4294967296 d) = (d : Int):=by rw [sv32d,sgf]
def qb13 : Cfg:=listT [(50,validQCT),(33,atCT),(147,sameRatioCT),(146,noRatioCT),(145,qfitsCT)] [34]
theorem qb13_ok : TblOk Tryz.prog qb13:=listE_ok (by simp only [List.mem_singleton,forall_eq]; exact flt) ⟨⟨rq1,rq1_ok,rfl⟩,⟨jt0,jt0_ok,rfl⟩,⟨rq12,rq12_ok,rfl⟩,⟨rq13,rq13_ok,rfl⟩,⟨rq14,rq14_ok,rfl⟩,trivial⟩
attribute [go_sem] qb13
set_option maxHeartbeats 1600000 in
theorem gives_fit (s t r : Bool) (xs ys zs ws : List Int) (n1 : Nrm s xs) (n2 : Nrm t ys) (l1 : xs.length ≤ 16777216) (l2 : ys.length ≤ 16777216) (b3 : InB 65536 zs) (t3 : Trd zs) (l3 : zs.length ≤ 256) (b4 : InB 65536 ws) (t4 : Trd ws) (l4 : ws.length ≤ 256)
  (h1 : sv 4294967296 s xs = sv 65536 r zs) (h2 : sv 4294967296 t ys = (V 65536 ws : Int)) :
  Ret Tryz.prog 66 false [.inr [.b s,.ints .u32 xs,.b t,.ints .u32 ys],.inr [.i .i64 0,.i .i64 0],.inr [.b r,.ints .i64 zs,.ints .i64 ws],.inr [.i .i64 0,.i .i64 0]] (.c (.b true)):=by
 have e1 : decide (sv 4294967296 s xs = sv 65536 r zs) = true:=decide_eq_true h1
 have e2 : decide (sv 4294967296 t ys = (V 65536 ws : Int)) = true:=decide_eq_true h2
 have e3 : decide ((zs.length : Int) ≤ 256) = true:=decide_eq_true (by omega)
 have e4 : decide ((ws.length : Int) ≤ 256) = true:=decide_eq_true (by omega)
 (refine q_H Tryz.func66 (fun F=>?_); simp only [q_z,q_y,Tryz.ntmps66,Tryz.results66])
 repeat' (first|with_reducible refine q_0 ?_|((with_reducible first|refine q_q qb13_ok fun K hK=>?_|refine q_r qb13_ok fun K hK=>?_);simp (maxSteps:=2000000) only [go_sem,↓reduceIte,reduceCtorEq,Nat.reduceLeDiff,Nat.reduceLT,Nat.reduceBEq,Nat.reduceAdd,e1,e2,e3,e4];(repeat1' with_reducible first|apply And.intro|(intro _;try exact q_v)|(refine hK _ ?_;clear hK K))<;>(try (clear hK K;exact q_u)))|(with_reducible refine q_s ?_;(first|apply q_J|apply q_K|apply q_L|apply q_M|apply q_N|apply q_O)<;>try (intro _;try exact q_v)))
 all_goals first | omega | assumption | exact q_A rfl | exact q_A (by simp [resAV,q_y]) | skip
set_option maxHeartbeats 1600000 in
theorem gives_big (r : Bool) (zs ws : List Int) (h : ¬ (zs.length ≤ 256 ∧ ws.length ≤ 256)) :
  Ret Tryz.prog 66 false [zQ,.inr [.i .i64 14,.i .i64 (-1)],.inr [.b r,.ints .i64 zs,.ints .i64 ws],.inr [.i .i64 0,.i .i64 0]] (.c (.b true)):=by
 have e3 : (decide ((zs.length : Int) ≤ 256) && decide ((ws.length : Int) ≤ 256)) = false:=by
  rw [← Bool.decide_and]; exact decide_eq_false (by omega)
 have n1 : Nrm false []:=of_eq_true (Nrm_n 0)
 have v1 : sv 4294967296 false [] = 0:=sv32n 0
 (refine q_H Tryz.func66 (fun F=>?_); simp only [q_z,q_y,Tryz.ntmps66,Tryz.results66])
 repeat' (first|with_reducible refine q_0 ?_|((with_reducible first|refine q_q qb13_ok fun K hK=>?_|refine q_r qb13_ok fun K hK=>?_);simp (maxSteps:=2000000) only [go_sem,↓reduceIte,reduceCtorEq,Nat.reduceLeDiff,Nat.reduceLT,Nat.reduceBEq,Nat.reduceAdd,e3,v1];(repeat1' with_reducible first|apply And.intro|(intro _;try exact q_v)|(refine hK _ ?_;clear hK K))<;>(try (clear hK K;exact q_u)))|(with_reducible refine q_s ?_;(first|apply q_J|apply q_K|apply q_L|apply q_M|apply q_N|apply q_O)<;>try (intro _;try exact q_v)))
 all_goals first | omega | assumption | exact q_A rfl | exact q_A (by simp [resAV,q_y]) | skip
set_option maxHeartbeats 1600000 in
theorem gives_bad (r : Bool) (zs ws : List Int) (c i : Int) (h : c ≠ 0) :
  Ret Tryz.prog 66 false [zQ,.inr [.i .i64 c,.i .i64 i],.inr [.b r,.ints .i64 zs,.ints .i64 ws],.inr [.i .i64 c,.i .i64 i]] (.c (.b true)):=by
 have e3 : (c = 0) = False:=eq_false h
 have n1 : Nrm false []:=of_eq_true (Nrm_n 0)
 have v1 : sv 4294967296 false [] = 0:=sv32n 0
 (refine q_H Tryz.func66 (fun F=>?_); simp only [q_z,q_y,Tryz.ntmps66,Tryz.results66])
 repeat' (first|with_reducible refine q_0 ?_|((with_reducible first|refine q_q qb13_ok fun K hK=>?_|refine q_r qb13_ok fun K hK=>?_);simp (maxSteps:=2000000) only [go_sem,↓reduceIte,reduceCtorEq,Nat.reduceLeDiff,Nat.reduceLT,Nat.reduceBEq,Nat.reduceAdd,e3,v1];(repeat1' with_reducible first|apply And.intro|(intro _;try exact q_v)|(refine hK _ ?_;clear hK K))<;>(try (clear hK K;exact q_u)))|(with_reducible refine q_s ?_;(first|apply q_J|apply q_K|apply q_L|apply q_M|apply q_N|apply q_O)<;>try (intro _;try exact q_v)))
 all_goals first | omega | assumption | exact q_A rfl | exact q_A (by simp [resAV,q_y]) | skip
def givesCT : CT := mkCT [nQ, .inr [none, none], nT, .inr [none, none]] true fun l K => match l with
  | [.inr [.b s, .ints .u32 xs, .b t, .ints .u32 ys], .inr [.i .i64 c, .i .i64 i], .inr [.b r, .ints .i64 zs, .ints .i64 ws], .inr [.i .i64 wc, .i .i64 wi]] =>
      ((wc = 0 → (wi = 0 ∧ Nrm s xs ∧ Nrm t ys ∧ xs.length ≤ 16777216 ∧ ys.length ≤ 16777216 ∧ InB 65536 zs ∧ Trd zs ∧ InB 65536 ws ∧ Trd ws) ∧
        sv 4294967296 s xs = fN (sv 65536 r zs) (V 65536 ws) ∧ sv 4294967296 t ys = (fD (sv 65536 r zs) (V 65536 ws) : Int) ∧ c = fC (sv 65536 r zs) (V 65536 ws) ∧ i = fI (sv 65536 r zs) (V 65536 ws)) ∧
       (wc ≠ 0 → s = false ∧ xs = [] ∧ t = false ∧ ys = [] ∧ c = wc ∧ i = wi)) ∧ K (.c (.b true))
  | _ => False
def rq16 : Cfg:=addT 66 givesCT cf0
theorem rq16_ok : TblOk Tryz.prog rq16:=q_I cf0_ok Tryz.func66 fun l K h=>by
 split at h
 ·rename_i s xs t ys c i r zs ws wc wi
  obtain ⟨⟨k1,k2⟩,h⟩:=h
  by_cases hw : wc = 0
  ·subst hw
   obtain ⟨⟨rfl,n1,n2,l1,l2,b3,t3,b4,t4⟩,e1,e2,e3,e4⟩:=k1 rfl
   obtain ⟨y1,y2⟩:=sv_ys (s:=r) b3 t3
   have y3:=dg_V 65536 (by omega) ws b4 t4
   have hq:=fQ_65 (sv 65536 r zs) (V 65536 ws)
   rw [y3] at hq
   have y4 : dg 65536 (sv 65536 r zs).natAbs = zs:=by rw [sv_abs]; exact dg_V 65536 (by omega) zs b3 t3
   rw [y4] at hq
   by_cases hf : fQ (sv 65536 r zs) (V 65536 ws)
   ·obtain ⟨f1,f2,f3,f4⟩:=f_fit hf
    rw [f1] at e1; rw [f2] at e2; rw [f3] at e3; rw [f4] at e4
    subst e3 e4
    exact ⟨_,(gives_fit s t r xs ys zs ws n1 n2 l1 l2 b3 t3 (hq.1 hf).1 b4 t4 (hq.1 hf).2 e1 e2).plain rfl,h⟩
   ·obtain ⟨f1,f2,f3,f4⟩:=f_big hf
    rw [f1] at e1; rw [f2] at e2; rw [f3] at e3; rw [f4] at e4
    subst e3 e4
    obtain ⟨p1,p2⟩:=Nrm_eq n1
    obtain ⟨p3,p4⟩:=Nrm_eq n2
    rw [e1] at p1 p2
    rw [e2] at p3 p4
    have p1 : s = false:=p1
    have p3 : t = false:=p3
    have p2 : xs = []:=p2
    have p4 : ys = []:=p4
    subst p1 p2 p3 p4
    exact ⟨_,(gives_big r zs ws (fun z=>hf (hq.2 z))).plain rfl,h⟩
  ·obtain ⟨rfl,rfl,rfl,rfl,rfl,rfl⟩:=k2 hw
   exact ⟨_,(gives_bad r zs ws _ _ hw).plain rfl,h⟩
 ·exact h.elim
attribute [go_sem] givesCT
end Go.Proofs.YtgkajjifbcmoeaaGreatDoor
