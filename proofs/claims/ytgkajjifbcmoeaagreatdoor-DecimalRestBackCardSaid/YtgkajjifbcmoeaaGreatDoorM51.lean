import Derived.Test.YtgkajjifbcmoeaaGreatDoorM43
namespace Go.Proofs.NatL
set_option linter.unusedSimpArgs false
set_option linter.unusedVariables false
def qtD (A : Dc) (e : Int) (c : Cx) : Dc :=
 if A.kind = 2 then dNone
 else if A.kind = 1 ∨ e < tinyE c.p c.mn ∨ c.mx < e then dNone
 else if qtBad (rdE A.neg A.coef 1 A.exp e c.r) e c then dNone
 else ⟨0,A.neg,rdE A.neg A.coef 1 A.exp e c.r,e⟩
def qtS (A : Dc) (e : Int) (c : Cx) : Int :=
 if A.kind = 2 then 0
 else if A.kind = 1 ∨ e < tinyE c.p c.mn ∨ c.mx < e then 32
 else if qtBad (rdE A.neg A.coef 1 A.exp e c.r) e c then 32
 else if sE A.coef 1 A.exp e = 0 then 0 else 1
theorem qt_at {m : Nat} {f e : Int} (h1 : ds m ≤ 120) (hf : -1200 ≤ f ∧ f ≤ 1200) (he : -1100 ≤ e ∧ e ≤ 1000) : atP m 1 f e:=by
 have:=one_ds
 refine ⟨by omega,?_,?_,by omega,by omega⟩
 ·rcases int_lt_ge (f - e) 0 with h0 | h0
  ·rw [(pt_lt (den:=1) h0).1]; omega
  ·rw [(pt_ge (den:=1) h0).1]; exact ds_mul10 (by omega)
 ·rcases int_lt_ge (f - e) 0 with h0 | h0
  ·rw [(pt_lt (num:=m) h0).2]; exact ds_mul10 (by omega)
  ·rw [(pt_ge (num:=m) h0).2]; omega
theorem qt_len {s : Bool} {m : Nat} {f e r : Int} (h : atP m 1 f e) : ds (rdE s m 1 f e r) ≤ 5601:=by
 obtain ⟨h1,h2,h3,h4,h5⟩:=h
 have b1 : qE m 1 f e ≤ ptN m f e:=Nat.div_le_self _ _
 have b2 : rdE s m 1 f e r ≤ ptN m f e + 1:=by unfold rdE; (repeat' split) <;> omega
 exact ds_le_of_le b2 (ds_add h2 (by decide))
end Go.Proofs.NatL
namespace Go.Proofs.YtgkajjifbcmoeaaGreatDoor
set_option linter.unusedSimpArgs false
set_option linter.unusedVariables false
open Go.Abs Go.Proofs.NatL

end Go.Proofs.YtgkajjifbcmoeaaGreatDoor

namespace Go.Proofs.NatL
set_option linter.unusedSimpArgs false
set_option linter.unusedVariables false
end Go.Proofs.NatL
namespace Go.Proofs.YtgkajjifbcmoeaaGreatDoor
set_option linter.unusedSimpArgs false
set_option linter.unusedVariables false
open Go.Abs Go.Proofs.NatL

def dbh : Cfg:=listT [(71,dcheckCT),(72,noneDCT),(76,tinyCT),(93,ofDCT),(119,roundedCT),(120,sizeCT),(75,finiteCT)] [34]
theorem dbh_ok : TblOk Tryz.prog dbh:=listE_ok (by simp only [List.mem_singleton,forall_eq]; exact flt) ⟨⟨de7,de7_ok,rfl⟩,⟨df3,df3_ok,rfl⟩,⟨de3,de3_ok,rfl⟩,⟨df1,df1_ok,rfl⟩,⟨dd4x,dd4x_ok,rfl⟩,⟨dc1,dc1_ok,rfl⟩,⟨de1,de1_ok,rfl⟩,trivial⟩
attribute [go_sem] dbh
set_option maxHeartbeats 3200000 in
theorem dQuant_bad (k : Int) (s a : Bool) (xs : List Int) (e x p r mn mx : Int) (h1 : xs.length ≤ 140737488355328) (h3 : InB 4294967296 xs) :
   (okCx p r mn mx = false → Ret Tryz.prog 43 false [.inr [.i .i64 k,.b s,.b a,.ints .u32 xs,.i .i64 e],.inl (.i .i64 x),.inr [.i .i64 p,.i .i64 r,.i .i64 mn,.i .i64 mx]] (rBad 4 (-9))) ∧
   (okCx p r mn mx = true → okD k s a xs e = false → Ret Tryz.prog 43 false [.inr [.i .i64 k,.b s,.b a,.ints .u32 xs,.i .i64 e],.inl (.i .i64 x),.inr [.i .i64 p,.i .i64 r,.i .i64 mn,.i .i64 mx]] (rBad 6 (-1))):=by
 refine ⟨fun o0=>?_,fun o0 o1=>?_⟩
 ·(refine q_H Tryz.func43 (fun F=>?_); simp only [q_z,q_y,Tryz.ntmps43,Tryz.results43])
  repeat' (first|(with_reducible first|apply q_a|apply q_b|apply q_c|apply q_d|apply q_e|apply q_f|apply q_g|apply q_h|apply q_i|apply q_j|apply q_k|apply q_m|apply q_n|apply q_o|apply q_p|refine q_l ?_)|((with_reducible first|refine q_q dbh_ok fun K hK=>?_|refine q_r dbh_ok fun K hK=>?_);simp (maxSteps:=2000000) only [go_sem,↓reduceIte,reduceCtorEq,Nat.reduceLeDiff,Nat.reduceLT,Nat.reduceBEq,Nat.reduceAdd,o0];(repeat1' with_reducible first|apply And.intro|(intro _;try exact q_v)|(refine hK _ ?_;clear hK K))<;>(try (clear hK K;exact q_u)))|(with_reducible refine q_s ?_;(first|apply q_J|apply q_K|apply q_L|apply q_M|apply q_N|apply q_O)<;>try (intro _;try exact q_v))|with_reducible refine q_t ?_)
  all_goals first | omega | assumption | exact q_B [nDc] rfl rfl | exact q_A rfl | skip
 ·(refine q_H Tryz.func43 (fun F=>?_); simp only [q_z,q_y,Tryz.ntmps43,Tryz.results43])
  repeat' (first|(with_reducible first|apply q_a|apply q_b|apply q_c|apply q_d|apply q_e|apply q_f|apply q_g|apply q_h|apply q_i|apply q_j|apply q_k|apply q_m|apply q_n|apply q_o|apply q_p|refine q_l ?_)|((with_reducible first|refine q_q dbh_ok fun K hK=>?_|refine q_r dbh_ok fun K hK=>?_);simp (maxSteps:=2000000) only [go_sem,↓reduceIte,reduceCtorEq,Nat.reduceLeDiff,Nat.reduceLT,Nat.reduceBEq,Nat.reduceAdd,o0,o1];(repeat1' with_reducible first|apply And.intro|(intro _;try exact q_v)|(refine hK _ ?_;clear hK K))<;>(try (clear hK K;exact q_u)))|(with_reducible refine q_s ?_;(first|apply q_J|apply q_K|apply q_L|apply q_M|apply q_N|apply q_O)<;>try (intro _;try exact q_v))|with_reducible refine q_t ?_)
  all_goals first | omega | assumption | exact q_B [nDc] rfl rfl | exact q_A rfl | skip
set_option maxRecDepth 100000 in
set_option maxHeartbeats 3200000 in
theorem dQuant_ok (A : Dc) (x : Int) (c : Cx) (hA : OkD A) (hc : OkC c) : Ret Tryz.prog 43 false [.inr (gDc A),.inl (.i .i64 x),.inr (gCx c)] (rDS (qtD A x c) (qtS A x c)):=by
 have o0:=okCx_c hc
 obtain ⟨c1,c2,c3,c4,c5,c6,c7,c8⟩:=okCx_p o0
 have o1:=okD_g hA
 have ka:=OkD_kind hA
 obtain ⟨a1,a2,a3⟩:=okd_exp hA
 have l1:=coef_len a1
 have ht : tinyE c.p c.mn = c.mn - c.p + 1:=rfl
 have hat:=fun h=>qt_at (m:=A.coef) (f:=A.exp) (e:=x) a1 ⟨a2,a3⟩ h
 unfold qtD qtS
 obtain ⟨k,s,m,e⟩:=A
 obtain ⟨p,r,mn,mx⟩:=c
 simp only at o0 c1 c2 c3 c4 c5 c6 c7 c8 o1 ka a1 a2 a3 l1 ht hat ⊢
 clear hA hc
 by_cases h1 : k = 2
 ·rw [if_pos h1,if_pos h1]
  clear hat
  (refine q_H Tryz.func43 (fun F=>?_); simp only [q_z,q_y,Tryz.ntmps43,Tryz.results43])
  repeat' (first|(with_reducible first|apply q_a|apply q_b|apply q_c|apply q_d|apply q_e|apply q_f|apply q_g|apply q_h|apply q_i|apply q_j|apply q_k|apply q_m|apply q_n|apply q_o|apply q_p|refine q_l ?_)|((with_reducible first|refine q_q dbh_ok fun K hK=>?_|refine q_r dbh_ok fun K hK=>?_);simp (maxSteps:=2000000) only [go_sem,↓reduceIte,reduceCtorEq,Nat.reduceLeDiff,Nat.reduceLT,Nat.reduceBEq,Nat.reduceAdd,o0,o1,V32];(repeat1' with_reducible first|apply And.intro|(intro _;try exact q_v)|(refine hK _ ?_;clear hK K))<;>(try (clear hK K;exact q_u)))|(with_reducible refine q_s ?_;(first|apply q_J|apply q_K|apply q_L|apply q_M|apply q_N|apply q_O)<;>try (intro _;try exact q_v))|with_reducible refine q_t ?_)
  all_goals first | omega | assumption | exact q_A rfl | skip
 rw [if_neg h1,if_neg h1]
 by_cases h2 : k = 1 ∨ x < tinyE p mn ∨ mx < x
 ·rw [if_pos h2,if_pos h2]
  clear hat
  (refine q_H Tryz.func43 (fun F=>?_); simp only [q_z,q_y,Tryz.ntmps43,Tryz.results43])
  repeat' (first|(with_reducible first|apply q_a|apply q_b|apply q_c|apply q_d|apply q_e|apply q_f|apply q_g|apply q_h|apply q_i|apply q_j|apply q_k|apply q_m|apply q_n|apply q_o|apply q_p|refine q_l ?_)|((with_reducible first|refine q_q dbh_ok fun K hK=>?_|refine q_r dbh_ok fun K hK=>?_);simp (maxSteps:=2000000) only [go_sem,↓reduceIte,reduceCtorEq,Nat.reduceLeDiff,Nat.reduceLT,Nat.reduceBEq,Nat.reduceAdd,o0,o1,V32];(repeat1' with_reducible first|apply And.intro|(intro _;try exact q_v)|(refine hK _ ?_;clear hK K))<;>(try (clear hK K;exact q_u)))|(with_reducible refine q_s ?_;(first|apply q_J|apply q_K|apply q_L|apply q_M|apply q_N|apply q_O)<;>try (intro _;try exact q_v))|with_reducible refine q_t ?_)
  all_goals first | omega | assumption | exact q_A rfl | skip
 rw [if_neg h2,if_neg h2]
 have k0 : k = 0:=by omega
 subst k0
 have x1 : -1100 ≤ x ∧ x ≤ 1000:=by omega
 have hat:=hat x1
 have hlen:=qt_len (s:=s) (r:=r) hat
 obtain ⟨_,g2,g3,g4,g5⟩:=hat
 obtain ⟨x1,x2⟩:=x1
 have hqb : qtBad (rdE s m 1 e x r) x ⟨p,r,mn,mx⟩ ↔ (p < (ds (rdE s m 1 e x r) : Int) ∨ (0 < (ds (rdE s m 1 e x r) : Int) ∧ mx < (ds (rdE s m 1 e x r) : Int) - 1 + x)):=Iff.rfl
 generalize hR : rdE s m 1 e x r = R at *
 generalize hS : sE m 1 e x = S at *
 have l2:=ds_600 (n:=R) (by omega)
 by_cases h3 : qtBad R x ⟨p,r,mn,mx⟩
 ·rw [if_pos h3,if_pos h3]
  have h3:=hqb.1 h3
  clear hqb
  (refine q_H Tryz.func43 (fun F=>?_); simp only [q_z,q_y,Tryz.ntmps43,Tryz.results43])
  repeat' (first|(with_reducible first|apply q_a|apply q_b|apply q_c|apply q_d|apply q_e|apply q_f|apply q_g|apply q_h|apply q_i|apply q_j|apply q_k|apply q_m|apply q_n|apply q_o|apply q_p|refine q_l ?_)|((with_reducible first|refine q_q dbh_ok fun K hK=>?_|refine q_r dbh_ok fun K hK=>?_);simp (maxSteps:=2000000) only [go_sem,↓reduceIte,reduceCtorEq,Nat.reduceLeDiff,Nat.reduceLT,Nat.reduceBEq,Nat.reduceAdd,o0,o1,V32,hR,hS];(repeat1' with_reducible first|apply And.intro|(intro _;try exact q_v)|(refine hK _ ?_;clear hK K))<;>(try (clear hK K;exact q_u)))|(with_reducible refine q_s ?_;(first|apply q_J|apply q_K|apply q_L|apply q_M|apply q_N|apply q_O)<;>try (intro _;try exact q_v))|with_reducible refine q_t ?_)
  all_goals first | omega | assumption | exact q_A rfl | skip
 ·rw [if_neg h3,if_neg h3]
  have h3 : ¬ (p < (ds R : Int) ∨ (0 < (ds R : Int) ∧ mx < (ds R : Int) - 1 + x)):=fun h=>h3 (hqb.2 h)
  clear hqb
  by_cases h4 : S = 0
  ·rw [if_pos h4]
   have h5 : decide (S ≠ 0) = false:=decide_eq_false (by omega)
   (refine q_H Tryz.func43 (fun F=>?_); simp only [q_z,q_y,Tryz.ntmps43,Tryz.results43])
   repeat' (first|(with_reducible first|apply q_a|apply q_b|apply q_c|apply q_d|apply q_e|apply q_f|apply q_g|apply q_h|apply q_i|apply q_j|apply q_k|apply q_m|apply q_n|apply q_o|apply q_p|refine q_l ?_)|((with_reducible first|refine q_q dbh_ok fun K hK=>?_|refine q_r dbh_ok fun K hK=>?_);simp (maxSteps:=2000000) only [go_sem,↓reduceIte,reduceCtorEq,Nat.reduceLeDiff,Nat.reduceLT,Nat.reduceBEq,Nat.reduceAdd,o0,o1,V32,hR,hS,h5];(repeat1' with_reducible first|apply And.intro|(intro _;try exact q_v)|(refine hK _ ?_;clear hK K))<;>(try (clear hK K;exact q_u)))|(with_reducible refine q_s ?_;(first|apply q_J|apply q_K|apply q_L|apply q_M|apply q_N|apply q_O)<;>try (intro _;try exact q_v))|with_reducible refine q_t ?_)
   all_goals first | omega | assumption | exact q_A rfl | skip
  ·rw [if_neg h4]
   have h5 : decide (S ≠ 0) = true:=decide_eq_true h4
   (refine q_H Tryz.func43 (fun F=>?_); simp only [q_z,q_y,Tryz.ntmps43,Tryz.results43])
   repeat' (first|(with_reducible first|apply q_a|apply q_b|apply q_c|apply q_d|apply q_e|apply q_f|apply q_g|apply q_h|apply q_i|apply q_j|apply q_k|apply q_m|apply q_n|apply q_o|apply q_p|refine q_l ?_)|((with_reducible first|refine q_q dbh_ok fun K hK=>?_|refine q_r dbh_ok fun K hK=>?_);simp (maxSteps:=2000000) only [go_sem,↓reduceIte,reduceCtorEq,Nat.reduceLeDiff,Nat.reduceLT,Nat.reduceBEq,Nat.reduceAdd,o0,o1,V32,hR,hS,h5];(repeat1' with_reducible first|apply And.intro|(intro _;try exact q_v)|(refine hK _ ?_;clear hK K))<;>(try (clear hK K;exact q_u)))|(with_reducible refine q_s ?_;(first|apply q_J|apply q_K|apply q_L|apply q_M|apply q_N|apply q_O)<;>try (intro _;try exact q_v))|with_reducible refine q_t ?_)
   all_goals first | omega | assumption | exact q_A rfl | skip
end Go.Proofs.YtgkajjifbcmoeaaGreatDoor

namespace Go.Proofs.YtgkajjifbcmoeaaGreatDoor
set_option linter.unusedSimpArgs false
set_option linter.unusedVariables false
open Go.Abs Go.Proofs.NatL

def opICT (f : Dc → Int → Cx → Dc) (g : Dc → Int → Cx → Int) : CT:=mkCT [nDc,.inl none,nC] false fun l K=>match l with
 | [.inr [.i .i64 k,.b s,.b a,.ints .u32 xs,.i .i64 e],.inl (.i .i64 x),.inr [.i .i64 p,.i .i64 r,.i .i64 mn,.i .i64 mx]] =>
   (xs.length ≤ 140737488355328 ∧ InB 4294967296 xs) ∧
   (if okCx p r mn mx = true then (if okD k s a xs e = true then K (rDS (f ⟨k,s,V 4294967296 xs,e⟩ x ⟨p,r,mn,mx⟩) (g ⟨k,s,V 4294967296 xs,e⟩ x ⟨p,r,mn,mx⟩)) else K (rBad 6 (-1))) else K (rBad 4 (-9)))
 | _=>False
def dg8x : Cfg:=addT 43 (opICT qtD qtS) cf0
theorem dg8x_ok : TblOk Tryz.prog dg8x:=q_I cf0_ok Tryz.func43 fun l K hk=>by
 split at hk
 ·rename_i k s a xs e x p r mn mx
  obtain ⟨⟨h1,h3⟩,h⟩:=hk
  obtain ⟨q1,q2⟩:=dQuant_bad k s a xs e x p r mn mx h1 h3
  split at h
  ·rename_i o0
   split at h
   ·rename_i o1
    obtain ⟨e1,r1⟩:=gDc_of o1 h3
    rw [e1]
    exact ⟨_,dQuant_ok _ x ⟨p,r,mn,mx⟩ r1 (OkC_b o0),h⟩
   ·rename_i o1; exact ⟨_,q2 o0 (by simpa using o1),h⟩
  ·rename_i o0; exact ⟨_,q1 (by simpa using o0),h⟩
 ·exact hk.elim

attribute [go_sem] opICT
end Go.Proofs.YtgkajjifbcmoeaaGreatDoor
