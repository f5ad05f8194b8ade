import Derived.Test.YtgkajjifbcmoeaaGreatDoorH10
import Derived.Test.YtgkajjifbcmoeaaGreatDoorH16
namespace Go.Proofs.YtgkajjifbcmoeaaGreatDoor
set_option linter.unusedSimpArgs false
set_option linter.unusedVariables false
open Go.Abs Go.Proofs.NatL

def ebb : Cfg := listT [(126, (xRCT fgP rFs)), (122, rroundedCT), (132, settleCT), (14, rfiniteCT)] [34]
theorem ebb_ok : TblOk Tryz.prog ebb := listE_ok (by simp only [List.mem_singleton, forall_eq]; exact flt) ⟨⟨er4, er4_ok, rfl⟩, ⟨er5, er5_ok, rfl⟩, ⟨es9, es9_ok, rfl⟩, ⟨es2, es2_ok, rfl⟩, trivial⟩
attribute [go_sem] ebb
set_option maxHeartbeats 3200000 in
theorem rfit_ret (s : Bool) (num den : Nat) (e ideal p r mn mx : Int) (hP : PF num den e) (hc : okCx p r mn mx = true) (hi : -10000 ≤ ideal ∧ ideal ≤ 10000) :
  Ret Tryz.prog 64 false [.inr (gE s num den e), .inl (.i .i64 ideal), .inr [.i .i64 p, .i .i64 r, .i .i64 mn, .i .i64 mx]]
   (.t [.inr (gDc (fitD s num den e ideal p r mn mx)), .inl (.i .i64 (fitS s num den e ideal p r mn mx))]) := by
 obtain ⟨c1, c2, c3, c4, c5, c6, c7, c8⟩ := okCx_p hc
 have hPP := hP
 obtain ⟨p1, p2, p3, p4, p5⟩ := hPP
 obtain ⟨i1, i2⟩ := hi
 have hz := dg65_nil_iff num
 have l1 := ds_65b (n := num) (by omega)
 have l2 := ds_65b (n := den) (by omega)
 by_cases h0 : num = 0
 ·obtain ⟨f1, f2⟩ := fit_zero s den e ideal p r mn mx h0
  rw [f1, f2]
  have hz := hz.2 h0
  have ht : tinyE p mn = mn - p + 1 := rfl
  rw [ht]
  by_cases k1 : mx < ideal
  ·have e1 : min (max ideal (mn - p + 1)) mx = mx := by omega
   rw [e1]
   (refine q_H Tryz.func64 (fun F => ?_); simp only [q_z,q_y,Tryz.ntmps64,Tryz.results64])
   repeat' (first|(with_reducible first|apply q_a|apply q_b|apply q_c|apply q_d|apply q_e|apply q_f|apply q_g|apply q_h|apply q_i|apply q_j|apply q_k|apply q_m|apply q_n|apply q_o|apply q_p|refine q_l ?_)|((with_reducible first|refine q_q ebb_ok fun K hK=>?_|refine q_r ebb_ok fun K hK=>?_);simp (maxSteps:=2000000) only [go_sem,↓reduceIte,reduceCtorEq,Nat.reduceLeDiff,Nat.reduceLT,Nat.reduceBEq,Nat.reduceAdd,V65];(repeat1' with_reducible first|apply And.intro|(intro _;try exact q_v)|(refine hK _ ?_;clear hK K))<;>(try (clear hK K;exact q_u)))|(with_reducible refine q_s ?_;(first|apply q_J|apply q_K|apply q_L|apply q_M|apply q_N|apply q_O)<;>try (intro _;try exact q_v))|with_reducible refine q_t ?_)
   all_goals first | omega | assumption | exact q_A rfl | skip
  ·by_cases k2 : ideal < mn - p + 1
   ·have e1 : min (max ideal (mn - p + 1)) mx = mn - p + 1 := by omega
    rw [e1]
    (refine q_H Tryz.func64 (fun F => ?_); simp only [q_z,q_y,Tryz.ntmps64,Tryz.results64])
    repeat' (first|(with_reducible first|apply q_a|apply q_b|apply q_c|apply q_d|apply q_e|apply q_f|apply q_g|apply q_h|apply q_i|apply q_j|apply q_k|apply q_m|apply q_n|apply q_o|apply q_p|refine q_l ?_)|((with_reducible first|refine q_q ebb_ok fun K hK=>?_|refine q_r ebb_ok fun K hK=>?_);simp (maxSteps:=2000000) only [go_sem,↓reduceIte,reduceCtorEq,Nat.reduceLeDiff,Nat.reduceLT,Nat.reduceBEq,Nat.reduceAdd,V65];(repeat1' with_reducible first|apply And.intro|(intro _;try exact q_v)|(refine hK _ ?_;clear hK K))<;>(try (clear hK K;exact q_u)))|(with_reducible refine q_s ?_;(first|apply q_J|apply q_K|apply q_L|apply q_M|apply q_N|apply q_O)<;>try (intro _;try exact q_v))|with_reducible refine q_t ?_)
    all_goals first | omega | assumption | exact q_A rfl | skip
   ·have e1 : min (max ideal (mn - p + 1)) mx = ideal := by omega
    rw [e1]
    (refine q_H Tryz.func64 (fun F => ?_); simp only [q_z,q_y,Tryz.ntmps64,Tryz.results64])
    repeat' (first|(with_reducible first|apply q_a|apply q_b|apply q_c|apply q_d|apply q_e|apply q_f|apply q_g|apply q_h|apply q_i|apply q_j|apply q_k|apply q_m|apply q_n|apply q_o|apply q_p|refine q_l ?_)|((with_reducible first|refine q_q ebb_ok fun K hK=>?_|refine q_r ebb_ok fun K hK=>?_);simp (maxSteps:=2000000) only [go_sem,↓reduceIte,reduceCtorEq,Nat.reduceLeDiff,Nat.reduceLT,Nat.reduceBEq,Nat.reduceAdd,V65];(repeat1' with_reducible first|apply And.intro|(intro _;try exact q_v)|(refine hK _ ?_;clear hK K))<;>(try (clear hK K;exact q_u)))|(with_reducible refine q_s ?_;(first|apply q_J|apply q_K|apply q_L|apply q_M|apply q_N|apply q_O)<;>try (intro _;try exact q_v))|with_reducible refine q_t ?_)
    all_goals first | omega | assumption | exact q_A rfl | skip
 have hn : 0 < num := by omega
 have hz : ¬ ((dg 65536 num).length : Int) = 0 := fun h => h0 (hz.1 h)
 obtain ⟨x1, x2⟩ := fitEx_bd hP hn ⟨c1, c2⟩ ⟨c5, c6⟩
 have hr := rdE_len (neg := s) (r := r) (mn := mn) hn p1 (exp := e) ⟨c1, c2⟩
 obtain ⟨f1, f2⟩ := fit_st (neg := s) (ideal := ideal) (p := p) (r := r) (mn := mn) (mx := mx) hn p1 (exp := e) c1
 rw [f1, f2]
 obtain ⟨b1, b2⟩ := first_bounds hn p1 e
 unfold guessE at b1 b2
 have hX : max (firstE num den e - p + 1) (mn - p + 1) = fitEx num den e p mn := rfl
 obtain ⟨_, _, _, g4, g5⟩ := fit_at hP hn ⟨c1, c2⟩ ⟨c5, c6⟩
 generalize hR : rdE s num den e (fitEx num den e p mn) r = R at *
 generalize hSs : decide (sE num den e (fitEx num den e p mn) ≠ 0) = S at *
 generalize hF : firstE num den e = F at *
 generalize hXX : fitEx num den e p mn = X at *
 have l3 := ds_65b (n := R) (by omega)
 by_cases hx : F - p + 1 < mn - p + 1
 ·have e1 : X = mn - p + 1 := by omega
  clear hX
  subst e1
  (refine q_H Tryz.func64 (fun F => ?_); simp only [q_z,q_y,Tryz.ntmps64,Tryz.results64])
  repeat' (first|(with_reducible first|apply q_a|apply q_b|apply q_c|apply q_d|apply q_e|apply q_f|apply q_g|apply q_h|apply q_i|apply q_j|apply q_k|apply q_m|apply q_n|apply q_o|apply q_p|refine q_l ?_)|((with_reducible first|refine q_q ebb_ok fun K hK=>?_|refine q_r ebb_ok fun K hK=>?_);simp (maxSteps:=2000000) only [go_sem,↓reduceIte,reduceCtorEq,Nat.reduceLeDiff,Nat.reduceLT,Nat.reduceBEq,Nat.reduceAdd,V65, hF, hR, hSs];(repeat1' with_reducible first|apply And.intro|(intro _;try exact q_v)|(refine hK _ ?_;clear hK K))<;>(try (clear hK K;exact q_u)))|(with_reducible refine q_s ?_;(first|apply q_J|apply q_K|apply q_L|apply q_M|apply q_N|apply q_O)<;>try (intro _;try exact q_v))|with_reducible refine q_t ?_)
  all_goals first | omega | assumption | exact q_A rfl | skip
 ·have e1 : X = F - p + 1 := by omega
  clear hX
  subst e1
  (refine q_H Tryz.func64 (fun F => ?_); simp only [q_z,q_y,Tryz.ntmps64,Tryz.results64])
  repeat' (first|(with_reducible first|apply q_a|apply q_b|apply q_c|apply q_d|apply q_e|apply q_f|apply q_g|apply q_h|apply q_i|apply q_j|apply q_k|apply q_m|apply q_n|apply q_o|apply q_p|refine q_l ?_)|((with_reducible first|refine q_q ebb_ok fun K hK=>?_|refine q_r ebb_ok fun K hK=>?_);simp (maxSteps:=2000000) only [go_sem,↓reduceIte,reduceCtorEq,Nat.reduceLeDiff,Nat.reduceLT,Nat.reduceBEq,Nat.reduceAdd,V65, hF, hR, hSs];(repeat1' with_reducible first|apply And.intro|(intro _;try exact q_v)|(refine hK _ ?_;clear hK K))<;>(try (clear hK K;exact q_u)))|(with_reducible refine q_s ?_;(first|apply q_J|apply q_K|apply q_L|apply q_M|apply q_N|apply q_O)<;>try (intro _;try exact q_v))|with_reducible refine q_t ?_)
  all_goals first | omega | assumption | exact q_A rfl | skip
def rfitCT : CT := mkCT [nE, .inl none, .inr [none, none, none, none]] false fun l K => match l with
 | [.inr [.b s, .ints .i64 xs, .ints .i64 ys, .i .i64 e], .inl (.i .i64 ideal), .inr [.i .i64 p, .i .i64 r, .i .i64 mn, .i .i64 mx]] =>
   (InB 65536 xs ∧ Trd xs ∧ InB 65536 ys ∧ Trd ys ∧ PF (V 65536 xs) (V 65536 ys) e ∧ okCx p r mn mx = true ∧ (-10000 ≤ ideal ∧ ideal ≤ 10000)) ∧
   K (.t [.inr (gDc (fitD s (V 65536 xs) (V 65536 ys) e ideal p r mn mx)), .inl (.i .i64 (fitS s (V 65536 xs) (V 65536 ys) e ideal p r mn mx))])
 | _ => False
def es10 : Cfg := addT 64 rfitCT cf0
theorem es10_ok : TblOk Tryz.prog es10 := q_I cf0_ok Tryz.func64 fun l K h => by
 split at h
 ·rename_i s xs ys e ideal p r mn mx
  obtain ⟨⟨h1, h2, h3, h4, h5, h6, h7⟩, h⟩ := h
  have e1 := dg_V 65536 (by omega) xs h1 h2
  have e2 := dg_V 65536 (by omega) ys h3 h4
  have := rfit_ret s _ _ e ideal p r mn mx h5 h6 h7
  rw [gE, e1, e2] at this
  exact ⟨_, this, h⟩
 ·exact h.elim
attribute [go_sem] rfitCT
end Go.Proofs.YtgkajjifbcmoeaaGreatDoor

namespace Go.Proofs.YtgkajjifbcmoeaaGreatDoor
set_option linter.unusedSimpArgs false
set_option linter.unusedVariables false
open Go.Abs Go.Proofs.NatL

def rDI (D : Dc) (n : Int) : AV := .t [.inr (gDc D), .inl (.i .i64 n)]
def opR2CT (f : Dc → Dc → Cx → Dc) (g : Dc → Dc → Cx → Int) : CT := mkCT [nDc, nDc, nC] false fun l K => match l with
 | [.inr [.i .i64 k, .b s, .b a, .ints .u32 xs, .i .i64 e], .inr [.i .i64 l, .b t, .b b, .ints .u32 ys, .i .i64 e'], .inr [.i .i64 p, .i .i64 r, .i .i64 mn, .i .i64 mx]] =>
   (InB 4294967296 xs ∧ InB 4294967296 ys ∧ okD k s a xs e = true ∧ okD l t b ys e' = true ∧ okCx p r mn mx = true) ∧
   K (rDI (f ⟨k, s, V 4294967296 xs, e⟩ ⟨l, t, V 4294967296 ys, e'⟩ ⟨p, r, mn, mx⟩) (g ⟨k, s, V 4294967296 xs, e⟩ ⟨l, t, V 4294967296 ys, e'⟩ ⟨p, r, mn, mx⟩))
 | _ => False
theorem opR2_tr {F : FuncId} {f : Dc → Dc → Cx → Dc} {g : Dc → Dc → Cx → Int}
  (hg : ∀ (A B : Dc) (c : Cx), OkD A → OkD B → OkC c → Ret Tryz.prog F false [.inr (gDc A), .inr (gDc B), .inr (gCx c)] (rDI (f A B c) (g A B c)))
  (l : List (C ⊕ List C)) (K : AV → Prop) (hk : match l with
   | [.inr [.i .i64 k, .b s, .b a, .ints .u32 xs, .i .i64 e], .inr [.i .i64 l, .b t, .b b, .ints .u32 ys, .i .i64 e'], .inr [.i .i64 p, .i .i64 r, .i .i64 mn, .i .i64 mx]] =>
    (InB 4294967296 xs ∧ InB 4294967296 ys ∧ okD k s a xs e = true ∧ okD l t b ys e' = true ∧ okCx p r mn mx = true) ∧
    K (rDI (f ⟨k, s, V 4294967296 xs, e⟩ ⟨l, t, V 4294967296 ys, e'⟩ ⟨p, r, mn, mx⟩) (g ⟨k, s, V 4294967296 xs, e⟩ ⟨l, t, V 4294967296 ys, e'⟩ ⟨p, r, mn, mx⟩))
   | _ => False) : ∃ r, Ret Tryz.prog F false l r ∧ K r := by
 split at hk
 ·rename_i k s a xs e l t b ys e' p r mn mx
  obtain ⟨⟨h1, h2, o1, o2, o0⟩, h⟩ := hk
  obtain ⟨e1, r1⟩ := gDc_of o1 h1
  obtain ⟨e2, r2⟩ := gDc_of o2 h2
  rw [e1, e2]
  exact ⟨_, hg _ _ ⟨p, r, mn, mx⟩ r1 r2 (OkC_b o0), h⟩
 ·exact hk.elim
def ebc : Cfg := listT [(110, noneDCT), (111, infiniteCT), (114, isZeroCT), (14, rfiniteCT), (67, valueCT), (106, ofCT), (15, smallCT), (115, leastCT), (117, rdivCT), (116, rpartsCT), (64, rfitCT)] [34]
theorem ebc_ok : TblOk Tryz.prog ebc := listE_ok (by simp only [List.mem_singleton, forall_eq]; exact flt) ⟨⟨es4, es4_ok, rfl⟩, ⟨es3, es3_ok, rfl⟩, ⟨es5, es5_ok, rfl⟩, ⟨es2, es2_ok, rfl⟩, ⟨es1, es1_ok, rfl⟩, ⟨db6, db6_ok, rfl⟩, ⟨nt7, nt7_ok, rfl⟩, ⟨es6, es6_ok, rfl⟩, ⟨jt13, jt13_ok, rfl⟩, ⟨er2, er2_ok, rfl⟩, ⟨es10, es10_ok, rfl⟩, trivial⟩
attribute [go_sem] ebc
set_option maxRecDepth 100000 in
set_option maxHeartbeats 3200000 in
theorem rDiv_ok (A B : Dc) (c : Cx) (hA : OkD A) (hB : OkD B) (hc : OkC c) : Ret Tryz.prog 38 false [.inr (gDc A), .inr (gDc B), .inr (gCx c)] (rDI (divD A B c) (divS A B c)) := by
 have o0 := okCx_c hc
 obtain ⟨c1, c2, c3, c4, c5, c6, c7, c8⟩ := okCx_p o0
 have ka := OkD_kind hA
 have kb := OkD_kind hB
 obtain ⟨a1, a2, a3⟩ := okd_exp hA
 obtain ⟨b1, b2, b3⟩ := okd_exp hB
 have l1 := coef_len a1
 have l2 := coef_len b1
 have hP := fun h => PF_div (n := B.coef) h a1 b1 ⟨a2, a3⟩ ⟨b2, b3⟩
 have z1 := dg_nil_iff A.coef
 have z2 := dg_nil_iff B.coef
 have ht : tinyE c.p c.mn = c.mn - c.p + 1 := rfl
 unfold divD divS
 rw [ht]
 obtain ⟨k, s, m, e⟩ := A
 obtain ⟨l, t, n, f⟩ := B
 obtain ⟨p, r, mn, mx⟩ := c
 simp only at o0 c1 c2 c3 c4 c5 c6 c7 c8 ka kb a1 a2 a3 b1 b2 b3 l1 l2 hP z1 z2 ⊢
 clear hA hB hc ht
 by_cases h1 : k = 2 ∨ l = 2
 ·rw [if_pos h1, if_pos h1]
  clear hP
  (refine q_H Tryz.func38 (fun F => ?_); simp only [q_z,q_y,Tryz.ntmps38,Tryz.results38])
  repeat' (first|(with_reducible first|apply q_a|apply q_b|apply q_c|apply q_d|apply q_e|apply q_f|apply q_g|apply q_h|apply q_i|apply q_j|apply q_k|apply q_m|apply q_n|apply q_o|apply q_p|refine q_l ?_)|((with_reducible first|refine q_q ebc_ok fun K hK=>?_|refine q_r ebc_ok fun K hK=>?_);simp (maxSteps:=2000000) only [go_sem,↓reduceIte,reduceCtorEq,Nat.reduceLeDiff,Nat.reduceLT,Nat.reduceBEq,Nat.reduceAdd,o0, V32];(repeat1' with_reducible first|apply And.intro|(intro _;try exact q_v)|(refine hK _ ?_;clear hK K))<;>(try (clear hK K;exact q_u)))|(with_reducible refine q_s ?_;(first|apply q_J|apply q_K|apply q_L|apply q_M|apply q_N|apply q_O)<;>try (intro _;try exact q_v))|with_reducible refine q_t ?_)
  all_goals first | omega | assumption | exact q_A rfl | skip
 rw [if_neg h1, if_neg h1]
 by_cases h2 : (k = 1 ∧ l = 1) ∨ ((k = 0 ∧ m = 0) ∧ (l = 0 ∧ n = 0))
 ·rw [if_pos h2, if_pos h2]
  clear hP
  (refine q_H Tryz.func38 (fun F => ?_); simp only [q_z,q_y,Tryz.ntmps38,Tryz.results38])
  repeat' (first|(with_reducible first|apply q_a|apply q_b|apply q_c|apply q_d|apply q_e|apply q_f|apply q_g|apply q_h|apply q_i|apply q_j|apply q_k|apply q_m|apply q_n|apply q_o|apply q_p|refine q_l ?_)|((with_reducible first|refine q_q ebc_ok fun K hK=>?_|refine q_r ebc_ok fun K hK=>?_);simp (maxSteps:=2000000) only [go_sem,↓reduceIte,reduceCtorEq,Nat.reduceLeDiff,Nat.reduceLT,Nat.reduceBEq,Nat.reduceAdd,o0, V32];(repeat1' with_reducible first|apply And.intro|(intro _;try exact q_v)|(refine hK _ ?_;clear hK K))<;>(try (clear hK K;exact q_u)))|(with_reducible refine q_s ?_;(first|apply q_J|apply q_K|apply q_L|apply q_M|apply q_N|apply q_O)<;>try (intro _;try exact q_v))|with_reducible refine q_t ?_)
  all_goals first | omega | assumption | exact q_A rfl | skip
 rw [if_neg h2, if_neg h2]
 by_cases h3 : k = 1
 ·rw [if_pos h3, if_pos h3]
  clear hP
  (refine q_H Tryz.func38 (fun F => ?_); simp only [q_z,q_y,Tryz.ntmps38,Tryz.results38])
  repeat' (first|(with_reducible first|apply q_a|apply q_b|apply q_c|apply q_d|apply q_e|apply q_f|apply q_g|apply q_h|apply q_i|apply q_j|apply q_k|apply q_m|apply q_n|apply q_o|apply q_p|refine q_l ?_)|((with_reducible first|refine q_q ebc_ok fun K hK=>?_|refine q_r ebc_ok fun K hK=>?_);simp (maxSteps:=2000000) only [go_sem,↓reduceIte,reduceCtorEq,Nat.reduceLeDiff,Nat.reduceLT,Nat.reduceBEq,Nat.reduceAdd,o0, V32];(repeat1' with_reducible first|apply And.intro|(intro _;try exact q_v)|(refine hK _ ?_;clear hK K))<;>(try (clear hK K;exact q_u)))|(with_reducible refine q_s ?_;(first|apply q_J|apply q_K|apply q_L|apply q_M|apply q_N|apply q_O)<;>try (intro _;try exact q_v))|with_reducible refine q_t ?_)
  all_goals first | omega | assumption | exact q_A rfl | skip
 rw [if_neg h3, if_neg h3]
 by_cases h4 : l = 1
 ·rw [if_pos h4, if_pos h4]
  clear hP
  (refine q_H Tryz.func38 (fun F => ?_); simp only [q_z,q_y,Tryz.ntmps38,Tryz.results38])
  repeat' (first|(with_reducible first|apply q_a|apply q_b|apply q_c|apply q_d|apply q_e|apply q_f|apply q_g|apply q_h|apply q_i|apply q_j|apply q_k|apply q_m|apply q_n|apply q_o|apply q_p|refine q_l ?_)|((with_reducible first|refine q_q ebc_ok fun K hK=>?_|refine q_r ebc_ok fun K hK=>?_);simp (maxSteps:=2000000) only [go_sem,↓reduceIte,reduceCtorEq,Nat.reduceLeDiff,Nat.reduceLT,Nat.reduceBEq,Nat.reduceAdd,o0, V32];(repeat1' with_reducible first|apply And.intro|(intro _;try exact q_v)|(refine hK _ ?_;clear hK K))<;>(try (clear hK K;exact q_u)))|(with_reducible refine q_s ?_;(first|apply q_J|apply q_K|apply q_L|apply q_M|apply q_N|apply q_O)<;>try (intro _;try exact q_v))|with_reducible refine q_t ?_)
  all_goals first | omega | assumption | exact q_A rfl | skip
 rw [if_neg h4, if_neg h4]
 by_cases h5 : n = 0
 ·rw [if_pos h5, if_pos h5]
  clear hP
  (refine q_H Tryz.func38 (fun F => ?_); simp only [q_z,q_y,Tryz.ntmps38,Tryz.results38])
  repeat' (first|(with_reducible first|apply q_a|apply q_b|apply q_c|apply q_d|apply q_e|apply q_f|apply q_g|apply q_h|apply q_i|apply q_j|apply q_k|apply q_m|apply q_n|apply q_o|apply q_p|refine q_l ?_)|((with_reducible first|refine q_q ebc_ok fun K hK=>?_|refine q_r ebc_ok fun K hK=>?_);simp (maxSteps:=2000000) only [go_sem,↓reduceIte,reduceCtorEq,Nat.reduceLeDiff,Nat.reduceLT,Nat.reduceBEq,Nat.reduceAdd,o0, V32];(repeat1' with_reducible first|apply And.intro|(intro _;try exact q_v)|(refine hK _ ?_;clear hK K))<;>(try (clear hK K;exact q_u)))|(with_reducible refine q_s ?_;(first|apply q_J|apply q_K|apply q_L|apply q_M|apply q_N|apply q_O)<;>try (intro _;try exact q_v))|with_reducible refine q_t ?_)
  all_goals first | omega | assumption | exact q_A rfl | skip
 rw [if_neg h5, if_neg h5]
 have hP := hP (by omega)
 have k0 : k = 0 := by omega
 have l0 : l = 0 := by omega
 subst k0 l0
 (refine q_H Tryz.func38 (fun F => ?_); simp only [q_z,q_y,Tryz.ntmps38,Tryz.results38])
 repeat' (first|(with_reducible first|apply q_a|apply q_b|apply q_c|apply q_d|apply q_e|apply q_f|apply q_g|apply q_h|apply q_i|apply q_j|apply q_k|apply q_m|apply q_n|apply q_o|apply q_p|refine q_l ?_)|((with_reducible first|refine q_q ebc_ok fun K hK=>?_|refine q_r ebc_ok fun K hK=>?_);simp (maxSteps:=2000000) only [go_sem,↓reduceIte,reduceCtorEq,Nat.reduceLeDiff,Nat.reduceLT,Nat.reduceBEq,Nat.reduceAdd,o0, V32, V65];(repeat1' with_reducible first|apply And.intro|(intro _;try exact q_v)|(refine hK _ ?_;clear hK K))<;>(try (clear hK K;exact q_u)))|(with_reducible refine q_s ?_;(first|apply q_J|apply q_K|apply q_L|apply q_M|apply q_N|apply q_O)<;>try (intro _;try exact q_v))|with_reducible refine q_t ?_)
 all_goals first | omega | assumption | exact q_A rfl | skip
def et1 : Cfg := addT 38 (opR2CT divD divS) cf0
theorem et1_ok : TblOk Tryz.prog et1 := q_I cf0_ok Tryz.func38 fun l K h =>
 opR2_tr (f := divD) (g := divS) (fun A B c hA hB hc => rDiv_ok A B c hA hB hc) l K h
set_option maxRecDepth 100000 in
set_option maxHeartbeats 3200000 in
theorem rLeft_ok (A B : Dc) (c : Cx) (hA : OkD A) (hB : OkD B) (hc : OkC c) : Ret Tryz.prog 39 false [.inr (gDc A), .inr (gDc B), .inr (gCx c)] (rDI (remD A B c) (remS A B c)) := by
 have o0 := okCx_c hc
 have ka := OkD_kind hA
 have kb := OkD_kind hB
 obtain ⟨a1, a2, a3⟩ := okd_exp hA
 obtain ⟨b1, b2, b3⟩ := okd_exp hB
 have l1 := coef_len a1
 have l2 := coef_len b1
 have hP1 := PF_one a1 ⟨a2, a3⟩
 have hP := fun h => PF_rem hA hB h
 have hL := fun h => rem_len hA hB h
 have z1 := dg_nil_iff A.coef
 have z2 := dg_nil_iff B.coef
 have hR : remN A B = (A.coef * 10 ^ (A.exp - min A.exp B.exp).toNat) % (B.coef * 10 ^ (B.exp - min A.exp B.exp).toNat) := rfl
 unfold remD remS
 generalize hN : remN A B = N at *
 obtain ⟨k, s, m, e⟩ := A
 obtain ⟨l, t, n, f⟩ := B
 obtain ⟨p, r, mn, mx⟩ := c
 simp only at o0 ka kb a1 a2 a3 b1 b2 b3 l1 l2 hP hP1 hL hR z1 z2 ⊢
 clear hA hB hc hN
 have t0 : (1 : Int).toNat = 1 := rfl
 by_cases h1 : k = 2 ∨ l = 2
 ·rw [if_pos h1, if_pos h1]
  clear hP hL hR hP1
  (refine q_H Tryz.func39 (fun F => ?_); simp only [q_z,q_y,Tryz.ntmps39,Tryz.results39])
  repeat' (first|(with_reducible first|apply q_a|apply q_b|apply q_c|apply q_d|apply q_e|apply q_f|apply q_g|apply q_h|apply q_i|apply q_j|apply q_k|apply q_m|apply q_n|apply q_o|apply q_p|refine q_l ?_)|((with_reducible first|refine q_q ebc_ok fun K hK=>?_|refine q_r ebc_ok fun K hK=>?_);simp (maxSteps:=2000000) only [go_sem,↓reduceIte,reduceCtorEq,Nat.reduceLeDiff,Nat.reduceLT,Nat.reduceBEq,Nat.reduceAdd,o0, V32, V65, t0];(repeat1' with_reducible first|apply And.intro|(intro _;try exact q_v)|(refine hK _ ?_;clear hK K))<;>(try (clear hK K;exact q_u)))|(with_reducible refine q_s ?_;(first|apply q_J|apply q_K|apply q_L|apply q_M|apply q_N|apply q_O)<;>try (intro _;try exact q_v))|with_reducible refine q_t ?_)
  all_goals first | omega | assumption | exact q_A rfl | skip
 rw [if_neg h1, if_neg h1]
 by_cases h2 : k = 1 ∨ (l = 0 ∧ n = 0)
 ·rw [if_pos h2, if_pos h2]
  clear hP hL hR hP1
  (refine q_H Tryz.func39 (fun F => ?_); simp only [q_z,q_y,Tryz.ntmps39,Tryz.results39])
  repeat' (first|(with_reducible first|apply q_a|apply q_b|apply q_c|apply q_d|apply q_e|apply q_f|apply q_g|apply q_h|apply q_i|apply q_j|apply q_k|apply q_m|apply q_n|apply q_o|apply q_p|refine q_l ?_)|((with_reducible first|refine q_q ebc_ok fun K hK=>?_|refine q_r ebc_ok fun K hK=>?_);simp (maxSteps:=2000000) only [go_sem,↓reduceIte,reduceCtorEq,Nat.reduceLeDiff,Nat.reduceLT,Nat.reduceBEq,Nat.reduceAdd,o0, V32, V65, t0];(repeat1' with_reducible first|apply And.intro|(intro _;try exact q_v)|(refine hK _ ?_;clear hK K))<;>(try (clear hK K;exact q_u)))|(with_reducible refine q_s ?_;(first|apply q_J|apply q_K|apply q_L|apply q_M|apply q_N|apply q_O)<;>try (intro _;try exact q_v))|with_reducible refine q_t ?_)
  all_goals first | omega | assumption | exact q_A rfl | skip
 rw [if_neg h2, if_neg h2]
 by_cases h4 : l = 1
 ·rw [if_pos h4, if_pos h4]
  clear hP hL hR
  (refine q_H Tryz.func39 (fun F => ?_); simp only [q_z,q_y,Tryz.ntmps39,Tryz.results39])
  repeat' (first|(with_reducible first|apply q_a|apply q_b|apply q_c|apply q_d|apply q_e|apply q_f|apply q_g|apply q_h|apply q_i|apply q_j|apply q_k|apply q_m|apply q_n|apply q_o|apply q_p|refine q_l ?_)|((with_reducible first|refine q_q ebc_ok fun K hK=>?_|refine q_r ebc_ok fun K hK=>?_);simp (maxSteps:=2000000) only [go_sem,↓reduceIte,reduceCtorEq,Nat.reduceLeDiff,Nat.reduceLT,Nat.reduceBEq,Nat.reduceAdd,o0, V32, V65, t0];(repeat1' with_reducible first|apply And.intro|(intro _;try exact q_v)|(refine hK _ ?_;clear hK K))<;>(try (clear hK K;exact q_u)))|(with_reducible refine q_s ?_;(first|apply q_J|apply q_K|apply q_L|apply q_M|apply q_N|apply q_O)<;>try (intro _;try exact q_v))|with_reducible refine q_t ?_)
  all_goals first | omega | assumption | exact q_A rfl | skip
 rw [if_neg h4, if_neg h4]
 have hP := hP (by omega)
 obtain ⟨q1, q2, q3, q4⟩ := hL (by omega)
 have k0 : k = 0 := by omega
 have l0 : l = 0 := by omega
 subst k0 l0
 have one1 := one_ds
 obtain ⟨g1, g2⟩ := pt_ge (num := m) (den := 1) (e := e) (x := min e f) (by omega)
 obtain ⟨g3, g4⟩ := pt_ge (num := n) (den := 1) (e := f) (x := min e f) (by omega)
 have q5 := ds_65b (n := m * 10 ^ (e - min e f).toNat) (by omega)
 have q6 := ds_65b (n := n * 10 ^ (f - min e f).toNat) (by omega)
 have w1 : min e f ≤ 1200 ∧ -1200 ≤ min e f ∧ e - min e f ≤ 2400 ∧ 0 ≤ e - min e f ∧ f - min e f ≤ 2400 ∧ 0 ≤ f - min e f := by omega
 obtain ⟨w1, w2, w3, w4, w5, w6⟩ := w1
 generalize hM : m * 10 ^ (e - min e f).toNat = M at *
 generalize hM2 : n * 10 ^ (f - min e f).toNat = M2 at *
 generalize hX : min e f = X at *
 have hR := hR.symm
 (refine q_H Tryz.func39 (fun F => ?_); simp only [q_z,q_y,Tryz.ntmps39,Tryz.results39])
 repeat' (first|(with_reducible first|apply q_a|apply q_b|apply q_c|apply q_d|apply q_e|apply q_f|apply q_g|apply q_h|apply q_i|apply q_j|apply q_k|apply q_m|apply q_n|apply q_o|apply q_p|refine q_l ?_)|((with_reducible first|refine q_q ebc_ok fun K hK=>?_|refine q_r ebc_ok fun K hK=>?_);simp (maxSteps:=2000000) only [go_sem,↓reduceIte,reduceCtorEq,Nat.reduceLeDiff,Nat.reduceLT,Nat.reduceBEq,Nat.reduceAdd,o0, V32, V65, t0, hX, g1, g2, g3, g4, hR];(repeat1' with_reducible first|apply And.intro|(intro _;try exact q_v)|(refine hK _ ?_;clear hK K))<;>(try (clear hK K;exact q_u)))|(with_reducible refine q_s ?_;(first|apply q_J|apply q_K|apply q_L|apply q_M|apply q_N|apply q_O)<;>try (intro _;try exact q_v))|with_reducible refine q_t ?_)
 all_goals first | omega | assumption | exact q_A rfl | skip
def et2 : Cfg := addT 39 (opR2CT remD remS) cf0
theorem et2_ok : TblOk Tryz.prog et2 := q_I cf0_ok Tryz.func39 fun l K h =>
 opR2_tr (f := remD) (g := remS) (fun A B c hA hB hc => rLeft_ok A B c hA hB hc) l K h
attribute [go_sem] opR2CT rDI
end Go.Proofs.YtgkajjifbcmoeaaGreatDoor

namespace Go.Proofs.NatL
set_option linter.unusedSimpArgs false
set_option linter.unusedVariables false
def dv (b : Nat) (c : Int) : Int := if 48 ≤ c ∧ c ≤ 57 ∧ c - 48 < b then c - 48 else if 97 ≤ c ∧ c ≤ 122 ∧ c - 87 < b then c - 87 else -1
theorem dv_cases (b : Nat) (c : Int) (hb : b ≤ 36) : dv b c = -1 ∨ 0 ≤ dv b c ∧ dv b c < b ∧ dv b c < 36 := by unfold dv; (repeat' split) <;> omega
theorem dv_zero (c : Int) : dv 0 c = -1 := by unfold dv; (repeat' split) <;> omega
def pzR (b : Nat) (neg : Bool) (r : List Int) : Option Int :=
 if r = [] ∨ (r.getD 0 0 = 48 ∧ (1 < r.length ∨ neg = true)) then none else if ∀ c ∈ r, 0 ≤ dv b c then some (sg neg (rdv b (r.map (dv b)))) else none
def pz (b : Nat) (l : List Int) : Option Int := if 0 < l.length ∧ l.getD 0 0 = 45 then pzR b true (l.drop 1) else pzR b false l
theorem rdv_cons (b : Nat) (d : Int) (ds : List Int) : rdv b (d :: ds) = d.toNat * b ^ ds.length + rdv b ds := by
 have key : ∀ (ds : List Int) (a : Nat), ds.foldl (fun n d => n * b + d.toNat) a = a * b ^ ds.length + ds.foldl (fun n d => n * b + d.toNat) 0 := by
  intro ds
  induction ds with
  | nil => intro a; simp
  | cons x ds ih =>
   intro a
   simp only [List.foldl_cons, List.length_cons]
   rw [ih (a * b + x.toNat), ih (0 * b + x.toNat), Nat.add_mul, Nat.add_mul, Nat.zero_mul, Nat.zero_mul, Nat.mul_assoc, Nat.zero_add, ← Nat.pow_succ', Nat.add_assoc]
 show (d :: ds).foldl _ 0 = _
 rw [List.foldl_cons, key]
 simp [rdv]
end Go.Proofs.NatL
namespace Go.Proofs.YtgkajjifbcmoeaaGreatDoor
set_option linter.unusedSimpArgs false
set_option linter.unusedVariables false
open Go.Abs Go.Proofs.NatL
theorem chr_eq : ∀ d : Nat, d < 36 → chr d = if d < 10 then (d : Int) + 48 else (d : Int) + 87 := by decide
theorem dv_chr {b d : Nat} (hb : b ≤ 36) (h : d < b) : dv b (chr d) = d := by
 rw [chr_eq d (by omega)]
 unfold dv
 split
 ·rw [if_pos (by omega)]; omega
 ·rw [if_neg (by omega), if_pos (by omega)]; omega
theorem dv_succ (k : Nat) (hk : k < 36) (c : Int) : dv (k + 1) c = if chr k = c then (k : Int) else dv k c := by
 rw [chr_eq k hk]
 unfold dv
 (repeat' split) <;> omega
theorem rdv_pos {b : Nat} (hb : 2 ≤ b) {r : List Int} (h0 : r ≠ []) (h1 : r.getD 0 0 ≠ 48) (h2 : ∀ c ∈ r, 0 ≤ dv b c) : 0 < rdv b (r.map (dv b)) := by
 cases r with
 | nil => exact absurd rfl h0
 | cons c r =>
  rw [List.map_cons, rdv_cons]
  have h := h2 c (List.mem_cons_self ..)
  have h1 : c ≠ 48 := h1
  have : 0 < (dv b c).toNat := by
   unfold dv at h ⊢
   (repeat' split) <;> omega
  have := Nat.mul_pos this (Nat.pow_pos (n := (r.map (dv b)).length) (show 0 < b by omega))
  omega
theorem pzR_canon {b : Nat} (hb : 2 ≤ b) {neg : Bool} {r : List Int} {z : Int} (h : pzR b neg r = some z) :
  z = sg neg (rdv b (r.map (dv b))) ∧ (neg = true → 0 < rdv b (r.map (dv b))) ∧ r ≠ [] ∧ (∀ c ∈ r, 0 ≤ dv b c) ∧ ¬ (r.getD 0 0 = 48 ∧ (1 < r.length ∨ neg = true)) := by
 unfold pzR at h
 split at h
 ·cases h
 ·rename_i g
  split at h
  ·rename_i g2
   cases h
   have g0 : r ≠ [] := fun e => g (.inl e)
   refine ⟨rfl, fun hn => rdv_pos hb g0 (fun e => g (.inr ⟨e, .inr hn⟩)) g2, g0, g2, fun e => g (.inr e)⟩
  ·cases h
theorem strOf_snoc (xs : List Int) (x : Int) : strOf (xs ++ [x]) = (strOf xs).push (UInt8.ofNat x.toNat) := by simp [strOf, List.foldl_append]
theorem bytesOf_strOf (xs : List Int) (h : InB 256 xs) : bytesOf (strOf xs) = xs := by
 have key : ∀ n, ∀ xs : List Int, xs.length = n → InB 256 xs → bytesOf (strOf xs) = xs := by
  intro n
  induction n with
  | zero => intro xs h _; obtain rfl := List.eq_nil_of_length_eq_zero h; rfl
  | succ n ih =>
   intro xs hl hb
   have e := split_last xs (by omega)
   have hin := InB_getD (B := 256) (by omega) hb (xs.length - 1)
   generalize xs.getD (xs.length - 1) 0 = x at *
   have hb1 := InB_take hb (xs.length - 1)
   have hl1 : (xs.take (xs.length - 1)).length = n := by rw [List.length_take]; omega
   generalize xs.take (xs.length - 1) = ys at *
   subst e
   have := ih ys hl1 hb1
   rw [strOf_snoc]
   unfold bytesOf at this ⊢
   rw [ByteArray.data_push, Array.toList_push, List.map_append, this]
   congr 1
   simp only [List.map_cons, List.map_nil, List.cons.injEq, and_true]
   rw [UInt8.toNat_ofNat']
   omega
 exact key _ xs rfl h
theorem str_size (s : ByteArray) : s.size = (bytesOf s).length := by simp only [bytesOf, List.length_map, Array.length_toList]; rfl
theorem str_at (s : ByteArray) (n : Nat) : (((s.data.toList.getD n 0).toNat : Nat) : Int) = (bytesOf s).getD n 0 := by
 unfold bytesOf
 rw [List.getD_eq_getElem?_getD, List.getD_eq_getElem?_getD, List.getElem?_map]
 cases s.data.toList[n]? <;> rfl
theorem str_sub (s : ByteArray) (a b : Nat) : bytesOf (s.extract a b) = ((bytesOf s).take b).drop a := by
 unfold bytesOf
 rw [ByteArray.data_extract, Array.toList_extract]
 simp [List.extract_eq_take_drop, List.map_take, List.map_drop, List.drop_take]
theorem bytes_inB (s : ByteArray) : InB 256 (bytesOf s) := by
 intro x hx
 obtain ⟨b, _, rfl⟩ := List.mem_map.1 hx
 have := b.toNat_lt
 omega
theorem bytes_inj {s t : ByteArray} (h : bytesOf s = bytesOf t) : s = t := by
 have : s.data.toList = t.data.toList := by
  have h2 := congrArg (List.map fun x : Int => UInt8.ofNat x.toNat) h
  have key : ∀ l : List UInt8, (l.map fun b => (b.toNat : Int)).map (fun x : Int => UInt8.ofNat x.toNat) = l := fun l => by
   induction l with
   | nil => rfl
   | cons x l ih => simp only [List.map_cons, ih, Int.toNat_natCast, UInt8.ofNat_toNat]
  simp only [bytesOf, key] at h2
  exact h2
 exact ByteArray.ext (Array.toList_inj.1 this)
theorem str_eq (s t : ByteArray) : (s.toList == t.toList) = decide (bytesOf s = bytesOf t) := by
 rw [ByteArray.toList_eq, ByteArray.toList_eq]
 by_cases h : s = t
 ·subst h; simp
 ·rw [decide_eq_false (fun e => h (bytes_inj e))]
  exact beq_eq_false_iff_ne.2 fun e => h (ByteArray.ext (Array.toList_inj.1 e))
def digB (b : Nat) : List Int := (List.range b).map fun d : Nat => chr (d : Int)
theorem lit_full : bytesOf { data := #[48, 49, 50, 51, 52, 53, 54, 55, 56, 57, 97, 98, 99, 100, 101, 102, 103, 104, 105, 106, 107, 108, 109, 110, 111, 112, 113, 114, 115, 116, 117, 118, 119, 120, 121, 122] } = digB 36 := by decide +kernel
theorem lit_take (b : Nat) (hb : b ≤ 36) : (digB 36).take b = digB b := by
 unfold digB
 rw [← List.map_take, List.take_range, Nat.min_eq_left hb]
theorem digB_len (b : Nat) : (digB b).length = b := by simp [digB]
theorem digB_at (b d : Nat) (h : d < b) : (digB b).getD d 0 = chr (d : Int) := by simp [digB, List.getD_eq_getElem?_getD, h]
theorem toNat_one : Int.toNat 1 = 1 := rfl
theorem lit_zero : bytesOf { data := #[48] } = [48] := rfl
theorem lit_none : bytesOf { data := #[] } = [] := rfl
end Go.Proofs.YtgkajjifbcmoeaaGreatDoor

namespace Go.Proofs.YtgkajjifbcmoeaaGreatDoor
set_option linter.unusedSimpArgs false
set_option linter.unusedVariables false
open Go.Abs Go.Proofs.NatL




end Go.Proofs.YtgkajjifbcmoeaaGreatDoor
