import Derived.Test.YtgkajjifbcmoeaaGreatDoorR13
namespace Go.Proofs.NatL
set_option linter.unusedSimpArgs false
set_option linter.unusedVariables false
def divD (A B : Dc) (c : Cx) : Dc :=
 if A.kind = 2 ∨ B.kind = 2 then dNone
 else if (A.kind = 1 ∧ B.kind = 1) ∨ ((A.kind = 0 ∧ A.coef = 0) ∧ (B.kind = 0 ∧ B.coef = 0)) then dNone
 else if A.kind = 1 then dInf (A.neg != B.neg)
 else if B.kind = 1 then ⟨0,A.neg != B.neg,0,tinyE c.p c.mn⟩
 else if B.coef = 0 then dInf (A.neg != B.neg)
 else fitD (A.neg != B.neg) A.coef B.coef (A.exp - B.exp) (A.exp - B.exp) c.p c.r c.mn c.mx
def divS (A B : Dc) (c : Cx) : Int :=
 if A.kind = 2 ∨ B.kind = 2 then 0
 else if (A.kind = 1 ∧ B.kind = 1) ∨ ((A.kind = 0 ∧ A.coef = 0) ∧ (B.kind = 0 ∧ B.coef = 0)) then 32
 else if A.kind = 1 then 0
 else if B.kind = 1 then 0
 else if B.coef = 0 then 16
 else fitS (A.neg != B.neg) A.coef B.coef (A.exp - B.exp) (A.exp - B.exp) c.p c.r c.mn c.mx
theorem okd_exp {A : Dc} (h : OkD A) : ds A.coef ≤ 120 ∧ -1200 ≤ A.exp ∧ A.exp ≤ 1200:=by
 rcases h with ⟨_,h2,h3,h4⟩ | ⟨h1,h2,h3⟩ | ⟨h1,h2,h3,_⟩
 ·exact ⟨lt120.1 h4,h2,h3⟩
 ·rw [h2,h3]; exact ⟨by decide,by omega,by omega⟩
 ·rw [h2,h3]; exact ⟨by decide,by omega,by omega⟩
theorem smP_ok {A B : Dc} (hA : OkD A) (hB : OkD B) : smP A.coef A.exp B.coef B.exp:=by
 obtain ⟨a1,a2,a3⟩:=okd_exp hA
 obtain ⟨b1,b2,b3⟩:=okd_exp hB
 exact ⟨by omega,by omega,by omega,by omega,by omega,by omega,by omega,by omega⟩
theorem okCx_c {c : Cx} (h : OkC c) : okCx c.p c.r c.mn c.mx = true:=decide_eq_true h
theorem OkC_b {p r mn mx : Int} (h : okCx p r mn mx = true) : OkC ⟨p,r,mn,mx⟩:=okCx_p h
end Go.Proofs.NatL
namespace Go.Proofs.YtgkajjifbcmoeaaGreatDoor
set_option linter.unusedSimpArgs false
set_option linter.unusedVariables false
open Go.Abs Go.Proofs.NatL

abbrev zD : C ⊕ List C:=.inr [.i .i64 0,.b false,.b false,.ints .u32 [],.i .i64 0]
abbrev nC : Option C ⊕ List (Option C):=.inr [none,none,none,none]
def rDS (D : Dc) (n : Int) : AV:=.t [.inr (gDc D),.inl (.i .i64 n),fltQ 0 0]
def rBad (c i : Int) : AV:=.t [zD,.inl (.i .i64 0),fltQ c i]
def op2CT (f : Dc → Dc → Cx → Dc) (g : Dc → Dc → Cx → Int) : CT:=mkCT [nDc,nDc,nC] false fun l K=>match l with
 | [.inr [.i .i64 k,.b s,.b a,.ints .u32 xs,.i .i64 e],.inr [.i .i64 l,.b t,.b b,.ints .u32 ys,.i .i64 e'],.inr [.i .i64 p,.i .i64 r,.i .i64 mn,.i .i64 mx]] =>
   (xs.length ≤ 140737488355328 ∧ ys.length ≤ 140737488355328 ∧ InB 4294967296 xs ∧ InB 4294967296 ys) ∧
   (if okCx p r mn mx = true then (if okD k s a xs e = true then (if okD l t b ys e' = true then K (rDS (f ⟨k,s,V 4294967296 xs,e⟩ ⟨l,t,V 4294967296 ys,e'⟩ ⟨p,r,mn,mx⟩) (g ⟨k,s,V 4294967296 xs,e⟩ ⟨l,t,V 4294967296 ys,e'⟩ ⟨p,r,mn,mx⟩)) else K (rBad 6 (-2))) else K (rBad 6 (-1))) else K (rBad 4 (-9)))
 | _=>False
theorem gDc_of {k : Int} {s a : Bool} {xs : List Int} {e : Int} (h : okD k s a xs e = true) (b : InB 4294967296 xs) : [.i .i64 k,.b s,.b a,.ints .u32 xs,.i .i64 e] = gDc ⟨k,s,V 4294967296 xs,e⟩ ∧ OkD ⟨k,s,V 4294967296 xs,e⟩:=by
 obtain ⟨h1,h2,h3⟩:=okD_eq h b
 refine ⟨?_,h3⟩
 rw [gDc,h1]
 exact congrArg (fun z=>[C.i .i64 k,.b s,.b false,.ints .u32 z,.i .i64 e]) h2
theorem op2_tr {F : FuncId} {f : Dc → Dc → Cx → Dc} {g : Dc → Dc → Cx → Int}
  (hg : ∀ (A B : Dc) (c : Cx),OkD A → OkD B → OkC c → Ret Tryz.prog F false [.inr (gDc A),.inr (gDc B),.inr (gCx c)] (rDS (f A B c) (g A B c)))
  (hb : ∀ (k l : Int) (s t a b : Bool) (xs ys : List Int) (e e' p r mn mx : Int),xs.length ≤ 140737488355328 → ys.length ≤ 140737488355328 → InB 4294967296 xs → InB 4294967296 ys →
   (okCx p r mn mx = false → Ret Tryz.prog F false [.inr [.i .i64 k,.b s,.b a,.ints .u32 xs,.i .i64 e],.inr [.i .i64 l,.b t,.b b,.ints .u32 ys,.i .i64 e'],.inr [.i .i64 p,.i .i64 r,.i .i64 mn,.i .i64 mx]] (rBad 4 (-9))) ∧
   (okCx p r mn mx = true → okD k s a xs e = false → Ret Tryz.prog F false [.inr [.i .i64 k,.b s,.b a,.ints .u32 xs,.i .i64 e],.inr [.i .i64 l,.b t,.b b,.ints .u32 ys,.i .i64 e'],.inr [.i .i64 p,.i .i64 r,.i .i64 mn,.i .i64 mx]] (rBad 6 (-1))) ∧
   (okCx p r mn mx = true → okD k s a xs e = true → okD l t b ys e' = false → Ret Tryz.prog F false [.inr [.i .i64 k,.b s,.b a,.ints .u32 xs,.i .i64 e],.inr [.i .i64 l,.b t,.b b,.ints .u32 ys,.i .i64 e'],.inr [.i .i64 p,.i .i64 r,.i .i64 mn,.i .i64 mx]] (rBad 6 (-2))))
  (l : List (C ⊕ List C)) (K : AV → Prop) (hk : match l with
   | [.inr [.i .i64 k,.b s,.b a,.ints .u32 xs,.i .i64 e],.inr [.i .i64 l,.b t,.b b,.ints .u32 ys,.i .i64 e'],.inr [.i .i64 p,.i .i64 r,.i .i64 mn,.i .i64 mx]] =>
    (xs.length ≤ 140737488355328 ∧ ys.length ≤ 140737488355328 ∧ InB 4294967296 xs ∧ InB 4294967296 ys) ∧
    (if okCx p r mn mx = true then (if okD k s a xs e = true then (if okD l t b ys e' = true then K (rDS (f ⟨k,s,V 4294967296 xs,e⟩ ⟨l,t,V 4294967296 ys,e'⟩ ⟨p,r,mn,mx⟩) (g ⟨k,s,V 4294967296 xs,e⟩ ⟨l,t,V 4294967296 ys,e'⟩ ⟨p,r,mn,mx⟩)) else K (rBad 6 (-2))) else K (rBad 6 (-1))) else K (rBad 4 (-9)))
   | _=>False) : ∃ r,Ret Tryz.prog F false l r ∧ K r:=by
 split at hk
 ·rename_i k s a xs e l t b ys e' p r mn mx
  obtain ⟨⟨h1,h2,h3,h4⟩,h⟩:=hk
  obtain ⟨q1,q2,q3⟩:=hb k l s t a b xs ys e e' p r mn mx h1 h2 h3 h4
  split at h
  ·rename_i o0
   split at h
   ·rename_i o1
    split at h
    ·rename_i o2
     obtain ⟨e1,r1⟩:=gDc_of o1 h3
     obtain ⟨e2,r2⟩:=gDc_of o2 h4
     rw [e1,e2]
     exact ⟨_,hg _ _ ⟨p,r,mn,mx⟩ r1 r2 (OkC_b o0),h⟩
    ·rename_i o2; exact ⟨_,q3 o0 o1 (by simpa using o2),h⟩
   ·rename_i o1; exact ⟨_,q2 o0 (by simpa using o1),h⟩
  ·rename_i o0; exact ⟨_,q1 (by simpa using o0),h⟩
 ·exact hk.elim
def dba : Cfg:=listT [(71,dcheckCT),(72,noneDCT),(74,infiniteCT),(75,finiteCT),(76,tinyCT),(73,isZeroCT),(91,(dd2CT spD spS)),(94,(dd2CT enD enS)),(95,productCT),(92,plusXCT),(93,ofDCT),(77,fitXCT),(82,timesTCT),(85,(nat6CT pos2 rDivN))] [34]
theorem dba_ok : TblOk Tryz.prog dba:=listE_ok (by simp only [List.mem_singleton,forall_eq]; exact flt) ⟨⟨de7,de7_ok,rfl⟩,⟨df3,df3_ok,rfl⟩,⟨de2,de2_ok,rfl⟩,⟨de1,de1_ok,rfl⟩,⟨de3,de3_ok,rfl⟩,⟨df4,df4_ok,rfl⟩,⟨df5,df5_ok,rfl⟩,⟨df6,df6_ok,rfl⟩,⟨df7,df7_ok,rfl⟩,⟨df2,df2_ok,rfl⟩,⟨df1,df1_ok,rfl⟩,⟨de3d,de3d_ok,rfl⟩,⟨dc4,dc4_ok,rfl⟩,⟨dn6,dn6_ok,rfl⟩,trivial⟩
attribute [go_sem] dba
set_option maxHeartbeats 3200000 in
theorem dAdd_bad (k l : Int) (s t a b : Bool) (xs ys : List Int) (e e' p r mn mx : Int) (h1 : xs.length ≤ 140737488355328) (h2 : ys.length ≤ 140737488355328) (h3 : InB 4294967296 xs) (h4 : InB 4294967296 ys) :
   (okCx p r mn mx = false → Ret Tryz.prog 24 false [.inr [.i .i64 k,.b s,.b a,.ints .u32 xs,.i .i64 e],.inr [.i .i64 l,.b t,.b b,.ints .u32 ys,.i .i64 e'],.inr [.i .i64 p,.i .i64 r,.i .i64 mn,.i .i64 mx]] (rBad 4 (-9))) ∧
   (okCx p r mn mx = true → okD k s a xs e = false → Ret Tryz.prog 24 false [.inr [.i .i64 k,.b s,.b a,.ints .u32 xs,.i .i64 e],.inr [.i .i64 l,.b t,.b b,.ints .u32 ys,.i .i64 e'],.inr [.i .i64 p,.i .i64 r,.i .i64 mn,.i .i64 mx]] (rBad 6 (-1))) ∧
   (okCx p r mn mx = true → okD k s a xs e = true → okD l t b ys e' = false → Ret Tryz.prog 24 false [.inr [.i .i64 k,.b s,.b a,.ints .u32 xs,.i .i64 e],.inr [.i .i64 l,.b t,.b b,.ints .u32 ys,.i .i64 e'],.inr [.i .i64 p,.i .i64 r,.i .i64 mn,.i .i64 mx]] (rBad 6 (-2))):=by
 refine ⟨fun o0=>?_,fun o0 o1=>?_,fun o0 o1 o2=>?_⟩
 ·(refine q_H Tryz.func24 (fun F=>?_); simp only [q_z,q_y,Tryz.ntmps24,Tryz.results24])
  repeat' (first|with_reducible refine q_0 ?_|((with_reducible first|refine q_q dba_ok fun K hK=>?_|refine q_r dba_ok fun K hK=>?_);simp (maxSteps:=2000000) only [go_sem,↓reduceIte,reduceCtorEq,Nat.reduceLeDiff,Nat.reduceLT,Nat.reduceBEq,Nat.reduceAdd,o0];(repeat1' with_reducible first|apply And.intro|(intro _;try exact q_v)|(refine hK _ ?_;clear hK K))<;>(try (clear hK K;exact q_u)))|(with_reducible refine q_s ?_;(first|apply q_J|apply q_K|apply q_L|apply q_M|apply q_N|apply q_O)<;>try (intro _;try exact q_v)))
  all_goals first | omega | assumption | exact q_B [nDc] rfl rfl | exact q_A rfl | skip
 ·(refine q_H Tryz.func24 (fun F=>?_); simp only [q_z,q_y,Tryz.ntmps24,Tryz.results24])
  repeat' (first|with_reducible refine q_0 ?_|((with_reducible first|refine q_q dba_ok fun K hK=>?_|refine q_r dba_ok fun K hK=>?_);simp (maxSteps:=2000000) only [go_sem,↓reduceIte,reduceCtorEq,Nat.reduceLeDiff,Nat.reduceLT,Nat.reduceBEq,Nat.reduceAdd,o0,o1];(repeat1' with_reducible first|apply And.intro|(intro _;try exact q_v)|(refine hK _ ?_;clear hK K))<;>(try (clear hK K;exact q_u)))|(with_reducible refine q_s ?_;(first|apply q_J|apply q_K|apply q_L|apply q_M|apply q_N|apply q_O)<;>try (intro _;try exact q_v)))
  all_goals first | omega | assumption | exact q_B [nDc] rfl rfl | exact q_A rfl | skip
 ·(refine q_H Tryz.func24 (fun F=>?_); simp only [q_z,q_y,Tryz.ntmps24,Tryz.results24])
  repeat' (first|with_reducible refine q_0 ?_|((with_reducible first|refine q_q dba_ok fun K hK=>?_|refine q_r dba_ok fun K hK=>?_);simp (maxSteps:=2000000) only [go_sem,↓reduceIte,reduceCtorEq,Nat.reduceLeDiff,Nat.reduceLT,Nat.reduceBEq,Nat.reduceAdd,o0,o1,o2];(repeat1' with_reducible first|apply And.intro|(intro _;try exact q_v)|(refine hK _ ?_;clear hK K))<;>(try (clear hK K;exact q_u)))|(with_reducible refine q_s ?_;(first|apply q_J|apply q_K|apply q_L|apply q_M|apply q_N|apply q_O)<;>try (intro _;try exact q_v)))
  all_goals first | omega | assumption | exact q_B [nDc] rfl rfl | exact q_A rfl | skip
set_option maxHeartbeats 3200000 in
theorem dSub_bad (k l : Int) (s t a b : Bool) (xs ys : List Int) (e e' p r mn mx : Int) (h1 : xs.length ≤ 140737488355328) (h2 : ys.length ≤ 140737488355328) (h3 : InB 4294967296 xs) (h4 : InB 4294967296 ys) :
   (okCx p r mn mx = false → Ret Tryz.prog 25 false [.inr [.i .i64 k,.b s,.b a,.ints .u32 xs,.i .i64 e],.inr [.i .i64 l,.b t,.b b,.ints .u32 ys,.i .i64 e'],.inr [.i .i64 p,.i .i64 r,.i .i64 mn,.i .i64 mx]] (rBad 4 (-9))) ∧
   (okCx p r mn mx = true → okD k s a xs e = false → Ret Tryz.prog 25 false [.inr [.i .i64 k,.b s,.b a,.ints .u32 xs,.i .i64 e],.inr [.i .i64 l,.b t,.b b,.ints .u32 ys,.i .i64 e'],.inr [.i .i64 p,.i .i64 r,.i .i64 mn,.i .i64 mx]] (rBad 6 (-1))) ∧
   (okCx p r mn mx = true → okD k s a xs e = true → okD l t b ys e' = false → Ret Tryz.prog 25 false [.inr [.i .i64 k,.b s,.b a,.ints .u32 xs,.i .i64 e],.inr [.i .i64 l,.b t,.b b,.ints .u32 ys,.i .i64 e'],.inr [.i .i64 p,.i .i64 r,.i .i64 mn,.i .i64 mx]] (rBad 6 (-2))):=by
 refine ⟨fun o0=>?_,fun o0 o1=>?_,fun o0 o1 o2=>?_⟩
 ·(refine q_H Tryz.func25 (fun F=>?_); simp only [q_z,q_y,Tryz.ntmps25,Tryz.results25])
  repeat' (first|with_reducible refine q_0 ?_|((with_reducible first|refine q_q dba_ok fun K hK=>?_|refine q_r dba_ok fun K hK=>?_);simp (maxSteps:=2000000) only [go_sem,↓reduceIte,reduceCtorEq,Nat.reduceLeDiff,Nat.reduceLT,Nat.reduceBEq,Nat.reduceAdd,o0];(repeat1' with_reducible first|apply And.intro|(intro _;try exact q_v)|(refine hK _ ?_;clear hK K))<;>(try (clear hK K;exact q_u)))|(with_reducible refine q_s ?_;(first|apply q_J|apply q_K|apply q_L|apply q_M|apply q_N|apply q_O)<;>try (intro _;try exact q_v)))
  all_goals first | omega | assumption | exact q_B [nDc] rfl rfl | exact q_A rfl | skip
 ·(refine q_H Tryz.func25 (fun F=>?_); simp only [q_z,q_y,Tryz.ntmps25,Tryz.results25])
  repeat' (first|with_reducible refine q_0 ?_|((with_reducible first|refine q_q dba_ok fun K hK=>?_|refine q_r dba_ok fun K hK=>?_);simp (maxSteps:=2000000) only [go_sem,↓reduceIte,reduceCtorEq,Nat.reduceLeDiff,Nat.reduceLT,Nat.reduceBEq,Nat.reduceAdd,o0,o1];(repeat1' with_reducible first|apply And.intro|(intro _;try exact q_v)|(refine hK _ ?_;clear hK K))<;>(try (clear hK K;exact q_u)))|(with_reducible refine q_s ?_;(first|apply q_J|apply q_K|apply q_L|apply q_M|apply q_N|apply q_O)<;>try (intro _;try exact q_v)))
  all_goals first | omega | assumption | exact q_B [nDc] rfl rfl | exact q_A rfl | skip
 ·(refine q_H Tryz.func25 (fun F=>?_); simp only [q_z,q_y,Tryz.ntmps25,Tryz.results25])
  repeat' (first|with_reducible refine q_0 ?_|((with_reducible first|refine q_q dba_ok fun K hK=>?_|refine q_r dba_ok fun K hK=>?_);simp (maxSteps:=2000000) only [go_sem,↓reduceIte,reduceCtorEq,Nat.reduceLeDiff,Nat.reduceLT,Nat.reduceBEq,Nat.reduceAdd,o0,o1,o2];(repeat1' with_reducible first|apply And.intro|(intro _;try exact q_v)|(refine hK _ ?_;clear hK K))<;>(try (clear hK K;exact q_u)))|(with_reducible refine q_s ?_;(first|apply q_J|apply q_K|apply q_L|apply q_M|apply q_N|apply q_O)<;>try (intro _;try exact q_v)))
  all_goals first | omega | assumption | exact q_B [nDc] rfl rfl | exact q_A rfl | skip
set_option maxHeartbeats 3200000 in
theorem dMul_bad (k l : Int) (s t a b : Bool) (xs ys : List Int) (e e' p r mn mx : Int) (h1 : xs.length ≤ 140737488355328) (h2 : ys.length ≤ 140737488355328) (h3 : InB 4294967296 xs) (h4 : InB 4294967296 ys) :
   (okCx p r mn mx = false → Ret Tryz.prog 26 false [.inr [.i .i64 k,.b s,.b a,.ints .u32 xs,.i .i64 e],.inr [.i .i64 l,.b t,.b b,.ints .u32 ys,.i .i64 e'],.inr [.i .i64 p,.i .i64 r,.i .i64 mn,.i .i64 mx]] (rBad 4 (-9))) ∧
   (okCx p r mn mx = true → okD k s a xs e = false → Ret Tryz.prog 26 false [.inr [.i .i64 k,.b s,.b a,.ints .u32 xs,.i .i64 e],.inr [.i .i64 l,.b t,.b b,.ints .u32 ys,.i .i64 e'],.inr [.i .i64 p,.i .i64 r,.i .i64 mn,.i .i64 mx]] (rBad 6 (-1))) ∧
   (okCx p r mn mx = true → okD k s a xs e = true → okD l t b ys e' = false → Ret Tryz.prog 26 false [.inr [.i .i64 k,.b s,.b a,.ints .u32 xs,.i .i64 e],.inr [.i .i64 l,.b t,.b b,.ints .u32 ys,.i .i64 e'],.inr [.i .i64 p,.i .i64 r,.i .i64 mn,.i .i64 mx]] (rBad 6 (-2))):=by
 refine ⟨fun o0=>?_,fun o0 o1=>?_,fun o0 o1 o2=>?_⟩
 ·(refine q_H Tryz.func26 (fun F=>?_); simp only [q_z,q_y,Tryz.ntmps26,Tryz.results26])
  repeat' (first|with_reducible refine q_0 ?_|((with_reducible first|refine q_q dba_ok fun K hK=>?_|refine q_r dba_ok fun K hK=>?_);simp (maxSteps:=2000000) only [go_sem,↓reduceIte,reduceCtorEq,Nat.reduceLeDiff,Nat.reduceLT,Nat.reduceBEq,Nat.reduceAdd,o0];(repeat1' with_reducible first|apply And.intro|(intro _;try exact q_v)|(refine hK _ ?_;clear hK K))<;>(try (clear hK K;exact q_u)))|(with_reducible refine q_s ?_;(first|apply q_J|apply q_K|apply q_L|apply q_M|apply q_N|apply q_O)<;>try (intro _;try exact q_v)))
  all_goals first | omega | assumption | exact q_B [nDc] rfl rfl | exact q_A rfl | skip
 ·(refine q_H Tryz.func26 (fun F=>?_); simp only [q_z,q_y,Tryz.ntmps26,Tryz.results26])
  repeat' (first|with_reducible refine q_0 ?_|((with_reducible first|refine q_q dba_ok fun K hK=>?_|refine q_r dba_ok fun K hK=>?_);simp (maxSteps:=2000000) only [go_sem,↓reduceIte,reduceCtorEq,Nat.reduceLeDiff,Nat.reduceLT,Nat.reduceBEq,Nat.reduceAdd,o0,o1];(repeat1' with_reducible first|apply And.intro|(intro _;try exact q_v)|(refine hK _ ?_;clear hK K))<;>(try (clear hK K;exact q_u)))|(with_reducible refine q_s ?_;(first|apply q_J|apply q_K|apply q_L|apply q_M|apply q_N|apply q_O)<;>try (intro _;try exact q_v)))
  all_goals first | omega | assumption | exact q_B [nDc] rfl rfl | exact q_A rfl | skip
 ·(refine q_H Tryz.func26 (fun F=>?_); simp only [q_z,q_y,Tryz.ntmps26,Tryz.results26])
  repeat' (first|with_reducible refine q_0 ?_|((with_reducible first|refine q_q dba_ok fun K hK=>?_|refine q_r dba_ok fun K hK=>?_);simp (maxSteps:=2000000) only [go_sem,↓reduceIte,reduceCtorEq,Nat.reduceLeDiff,Nat.reduceLT,Nat.reduceBEq,Nat.reduceAdd,o0,o1,o2];(repeat1' with_reducible first|apply And.intro|(intro _;try exact q_v)|(refine hK _ ?_;clear hK K))<;>(try (clear hK K;exact q_u)))|(with_reducible refine q_s ?_;(first|apply q_J|apply q_K|apply q_L|apply q_M|apply q_N|apply q_O)<;>try (intro _;try exact q_v)))
  all_goals first | omega | assumption | exact q_B [nDc] rfl rfl | exact q_A rfl | skip
set_option maxHeartbeats 3200000 in
theorem dDiv_bad (k l : Int) (s t a b : Bool) (xs ys : List Int) (e e' p r mn mx : Int) (h1 : xs.length ≤ 140737488355328) (h2 : ys.length ≤ 140737488355328) (h3 : InB 4294967296 xs) (h4 : InB 4294967296 ys) :
   (okCx p r mn mx = false → Ret Tryz.prog 16 false [.inr [.i .i64 k,.b s,.b a,.ints .u32 xs,.i .i64 e],.inr [.i .i64 l,.b t,.b b,.ints .u32 ys,.i .i64 e'],.inr [.i .i64 p,.i .i64 r,.i .i64 mn,.i .i64 mx]] (rBad 4 (-9))) ∧
   (okCx p r mn mx = true → okD k s a xs e = false → Ret Tryz.prog 16 false [.inr [.i .i64 k,.b s,.b a,.ints .u32 xs,.i .i64 e],.inr [.i .i64 l,.b t,.b b,.ints .u32 ys,.i .i64 e'],.inr [.i .i64 p,.i .i64 r,.i .i64 mn,.i .i64 mx]] (rBad 6 (-1))) ∧
   (okCx p r mn mx = true → okD k s a xs e = true → okD l t b ys e' = false → Ret Tryz.prog 16 false [.inr [.i .i64 k,.b s,.b a,.ints .u32 xs,.i .i64 e],.inr [.i .i64 l,.b t,.b b,.ints .u32 ys,.i .i64 e'],.inr [.i .i64 p,.i .i64 r,.i .i64 mn,.i .i64 mx]] (rBad 6 (-2))):=by
 refine ⟨fun o0=>?_,fun o0 o1=>?_,fun o0 o1 o2=>?_⟩
 ·(refine q_H Tryz.func16 (fun F=>?_); simp only [q_z,q_y,Tryz.ntmps16,Tryz.results16])
  repeat' (first|with_reducible refine q_0 ?_|((with_reducible first|refine q_q dba_ok fun K hK=>?_|refine q_r dba_ok fun K hK=>?_);simp (maxSteps:=2000000) only [go_sem,↓reduceIte,reduceCtorEq,Nat.reduceLeDiff,Nat.reduceLT,Nat.reduceBEq,Nat.reduceAdd,o0];(repeat1' with_reducible first|apply And.intro|(intro _;try exact q_v)|(refine hK _ ?_;clear hK K))<;>(try (clear hK K;exact q_u)))|(with_reducible refine q_s ?_;(first|apply q_J|apply q_K|apply q_L|apply q_M|apply q_N|apply q_O)<;>try (intro _;try exact q_v)))
  all_goals first | omega | assumption | exact q_B [nDc] rfl rfl | exact q_A rfl | skip
 ·(refine q_H Tryz.func16 (fun F=>?_); simp only [q_z,q_y,Tryz.ntmps16,Tryz.results16])
  repeat' (first|with_reducible refine q_0 ?_|((with_reducible first|refine q_q dba_ok fun K hK=>?_|refine q_r dba_ok fun K hK=>?_);simp (maxSteps:=2000000) only [go_sem,↓reduceIte,reduceCtorEq,Nat.reduceLeDiff,Nat.reduceLT,Nat.reduceBEq,Nat.reduceAdd,o0,o1];(repeat1' with_reducible first|apply And.intro|(intro _;try exact q_v)|(refine hK _ ?_;clear hK K))<;>(try (clear hK K;exact q_u)))|(with_reducible refine q_s ?_;(first|apply q_J|apply q_K|apply q_L|apply q_M|apply q_N|apply q_O)<;>try (intro _;try exact q_v)))
  all_goals first | omega | assumption | exact q_B [nDc] rfl rfl | exact q_A rfl | skip
 ·(refine q_H Tryz.func16 (fun F=>?_); simp only [q_z,q_y,Tryz.ntmps16,Tryz.results16])
  repeat' (first|with_reducible refine q_0 ?_|((with_reducible first|refine q_q dba_ok fun K hK=>?_|refine q_r dba_ok fun K hK=>?_);simp (maxSteps:=2000000) only [go_sem,↓reduceIte,reduceCtorEq,Nat.reduceLeDiff,Nat.reduceLT,Nat.reduceBEq,Nat.reduceAdd,o0,o1,o2];(repeat1' with_reducible first|apply And.intro|(intro _;try exact q_v)|(refine hK _ ?_;clear hK K))<;>(try (clear hK K;exact q_u)))|(with_reducible refine q_s ?_;(first|apply q_J|apply q_K|apply q_L|apply q_M|apply q_N|apply q_O)<;>try (intro _;try exact q_v)))
  all_goals first | omega | assumption | exact q_B [nDc] rfl rfl | exact q_A rfl | skip
set_option maxHeartbeats 3200000 in
theorem dAdd_ok (A B : Dc) (c : Cx) (hA : OkD A) (hB : OkD B) (hc : OkC c) : Ret Tryz.prog 24 false [.inr (gDc A),.inr (gDc B),.inr (gCx c)] (rDS (addD A B c) (addS A B c)):=by
 have o0:=okCx_c hc
 have o1:=okD_g hA
 have o2:=okD_g hB
 obtain ⟨a1,a2,a3⟩:=okd_exp hA
 obtain ⟨b1,b2,b3⟩:=okd_exp hB
 have l1:=coef_len a1
 have l2:=coef_len b1
 have hs:=smP_ok hA hB
 have hP:=PF_sum (s:=A.neg) (t:=B.neg) hs
 have hsp:=add_sp c hA hB
 obtain ⟨k,s,m,e⟩:=A
 obtain ⟨l,t,n,f⟩:=B
 obtain ⟨p,r,mn,mx⟩:=c
 simp only at o0 o1 o2 a1 a2 a3 b1 b2 b3 l1 l2 hs hP hsp
 clear hA hB hc
 by_cases h : k = 0 ∧ l = 0
 ·obtain ⟨rfl,rfl⟩:=h
  clear hsp
  have e1 : flr ⟨p,r,mn,mx⟩ = decide (r = 2):=rfl
  obtain ⟨q1,q2⟩:=add_ff (s:=s) (t:=t) (m:=m) (n:=n) (e:=e) (f:=f) ⟨p,r,mn,mx⟩
  rw [q1,q2,e1]
  (refine q_H Tryz.func24 (fun F=>?_); simp only [q_z,q_y,Tryz.ntmps24,Tryz.results24])
  repeat' (first|with_reducible refine q_0 ?_|((with_reducible first|refine q_q dba_ok fun K hK=>?_|refine q_r dba_ok fun K hK=>?_);simp (maxSteps:=2000000) only [go_sem,↓reduceIte,reduceCtorEq,Nat.reduceLeDiff,Nat.reduceLT,Nat.reduceBEq,Nat.reduceAdd,o0,o1,o2,V32];(repeat1' with_reducible first|apply And.intro|(intro _;try exact q_v)|(refine hK _ ?_;clear hK K))<;>(try (clear hK K;exact q_u)))|(with_reducible refine q_s ?_;(first|apply q_J|apply q_K|apply q_L|apply q_M|apply q_N|apply q_O)<;>try (intro _;try exact q_v)))
  all_goals first | omega | assumption | exact q_A rfl | skip
 ·obtain ⟨q1,q2⟩:=hsp (by omega)
  rw [q1,q2]
  clear hs hP
  (refine q_H Tryz.func24 (fun F=>?_); simp only [q_z,q_y,Tryz.ntmps24,Tryz.results24])
  repeat' (first|with_reducible refine q_0 ?_|((with_reducible first|refine q_q dba_ok fun K hK=>?_|refine q_r dba_ok fun K hK=>?_);simp (maxSteps:=2000000) only [go_sem,↓reduceIte,reduceCtorEq,Nat.reduceLeDiff,Nat.reduceLT,Nat.reduceBEq,Nat.reduceAdd,o0,o1,o2,V32];(repeat1' with_reducible first|apply And.intro|(intro _;try exact q_v)|(refine hK _ ?_;clear hK K))<;>(try (clear hK K;exact q_u)))|(with_reducible refine q_s ?_;(first|apply q_J|apply q_K|apply q_L|apply q_M|apply q_N|apply q_O)<;>try (intro _;try exact q_v)))
  all_goals first | omega | assumption | exact q_A rfl | skip
def dg1x : Cfg:=addT 24 (op2CT addD addS) cf0
theorem dg1x_ok : TblOk Tryz.prog dg1x:=q_I cf0_ok Tryz.func24 fun l K h =>
 op2_tr (f:=addD) (g:=addS) (fun A B c hA hB hc=>dAdd_ok A B c hA hB hc) (fun k l s t a b xs ys e e' p r mn mx h1 h2 h3 h4=>dAdd_bad k l s t a b xs ys e e' p r mn mx h1 h2 h3 h4) l K h
attribute [go_sem] op2CT rDS rBad
def dbb : Cfg:=listT [(71,dcheckCT),(24,(op2CT addD addS))] [34]
theorem dbb_ok : TblOk Tryz.prog dbb:=listE_ok (by simp only [List.mem_singleton,forall_eq]; exact flt) ⟨⟨de7,de7_ok,rfl⟩,⟨dg1x,dg1x_ok,rfl⟩,trivial⟩
attribute [go_sem] dbb
set_option maxHeartbeats 3200000 in
theorem dSub_ok (A B : Dc) (c : Cx) (hA : OkD A) (hB : OkD B) (hc : OkC c) : Ret Tryz.prog 25 false [.inr (gDc A),.inr (gDc B),.inr (gCx c)] (rDS (addD A (opD B) c) (addS A (opD B) c)):=by
 have o0:=okCx_c hc
 have o1:=okD_g hA
 have o2:=okD_g hB
 have o3:=okD_g (opD_ok hB)
 obtain ⟨a1,a2,a3⟩:=okd_exp hA
 obtain ⟨b1,b2,b3⟩:=okd_exp hB
 have l1:=coef_len a1
 have l2:=coef_len b1
 obtain ⟨k,s,m,e⟩:=A
 obtain ⟨l,t,n,f⟩:=B
 obtain ⟨p,r,mn,mx⟩:=c
 clear hA hB hc
 by_cases h : l = 2
 ·have e1 : opD ⟨l,t,n,f⟩ = ⟨l,t,n,f⟩:=if_pos h
  clear o3
  rw [e1]
  simp only at o0 o1 o2 l1 l2
  (refine q_H Tryz.func25 (fun F=>?_); simp only [q_z,q_y,Tryz.ntmps25,Tryz.results25])
  repeat' (first|with_reducible refine q_0 ?_|((with_reducible first|refine q_q dbb_ok fun K hK=>?_|refine q_r dbb_ok fun K hK=>?_);simp (maxSteps:=2000000) only [go_sem,↓reduceIte,reduceCtorEq,Nat.reduceLeDiff,Nat.reduceLT,Nat.reduceBEq,Nat.reduceAdd,o0,o1,o2,V32];(repeat1' with_reducible first|apply And.intro|(intro _;try exact q_v)|(refine hK _ ?_;clear hK K))<;>(try (clear hK K;exact q_u)))|(with_reducible refine q_s ?_;(first|apply q_J|apply q_K|apply q_L|apply q_M|apply q_N|apply q_O)<;>try (intro _;try exact q_v)))
  all_goals first | omega | assumption | exact q_A rfl | skip
 ·have e1 : opD ⟨l,t,n,f⟩ = ⟨l,!t,n,f⟩:=if_neg h
  rw [e1] at o3
  rw [e1]
  simp only at o0 o1 o2 o3 l1 l2
  (refine q_H Tryz.func25 (fun F=>?_); simp only [q_z,q_y,Tryz.ntmps25,Tryz.results25])
  repeat' (first|with_reducible refine q_0 ?_|((with_reducible first|refine q_q dbb_ok fun K hK=>?_|refine q_r dbb_ok fun K hK=>?_);simp (maxSteps:=2000000) only [go_sem,↓reduceIte,reduceCtorEq,Nat.reduceLeDiff,Nat.reduceLT,Nat.reduceBEq,Nat.reduceAdd,o0,o1,o2,o3,V32];(repeat1' with_reducible first|apply And.intro|(intro _;try exact q_v)|(refine hK _ ?_;clear hK K))<;>(try (clear hK K;exact q_u)))|(with_reducible refine q_s ?_;(first|apply q_J|apply q_K|apply q_L|apply q_M|apply q_N|apply q_O)<;>try (intro _;try exact q_v)))
  all_goals first | omega | assumption | exact q_A rfl | skip
def subD (A B : Dc) (c : Cx) : Dc:=addD A (opD B) c
def subS (A B : Dc) (c : Cx) : Int:=addS A (opD B) c
def dg2x : Cfg:=addT 25 (op2CT subD subS) cf0
theorem dg2x_ok : TblOk Tryz.prog dg2x:=q_I cf0_ok Tryz.func25 fun l K h =>
 op2_tr (f:=subD) (g:=subS) (fun A B c hA hB hc=>dSub_ok A B c hA hB hc) (fun k l s t a b xs ys e e' p r mn mx h1 h2 h3 h4=>dSub_bad k l s t a b xs ys e e' p r mn mx h1 h2 h3 h4) l K h
set_option maxHeartbeats 3200000 in
theorem dMul_ok (A B : Dc) (c : Cx) (hA : OkD A) (hB : OkD B) (hc : OkC c) : Ret Tryz.prog 26 false [.inr (gDc A),.inr (gDc B),.inr (gCx c)] (rDS (mulD A B c) (mulS A B c)):=by
 have o0:=okCx_c hc
 have o1:=okD_g hA
 have o2:=okD_g hB
 obtain ⟨a1,a2,a3⟩:=okd_exp hA
 obtain ⟨b1,b2,b3⟩:=okd_exp hB
 have l1:=coef_len a1
 have l2:=coef_len b1
 have hP:=PF_mul a1 b1 ⟨a2,a3⟩ ⟨b2,b3⟩
 have hsp:=mul_en (A:=A) (B:=B) c
 obtain ⟨k,s,m,e⟩:=A
 obtain ⟨l,t,n,f⟩:=B
 obtain ⟨p,r,mn,mx⟩:=c
 simp only at o0 o1 o2 a1 a2 a3 b1 b2 b3 l1 l2 hP hsp
 clear hA hB hc
 by_cases h : k = 0 ∧ l = 0
 ·obtain ⟨rfl,rfl⟩:=h
  clear hsp
  obtain ⟨q1,q2⟩:=mul_ff (s:=s) (t:=t) (m:=m) (n:=n) (e:=e) (f:=f) ⟨p,r,mn,mx⟩
  rw [q1,q2]
  (refine q_H Tryz.func26 (fun F=>?_); simp only [q_z,q_y,Tryz.ntmps26,Tryz.results26])
  repeat' (first|with_reducible refine q_0 ?_|((with_reducible first|refine q_q dba_ok fun K hK=>?_|refine q_r dba_ok fun K hK=>?_);simp (maxSteps:=2000000) only [go_sem,↓reduceIte,reduceCtorEq,Nat.reduceLeDiff,Nat.reduceLT,Nat.reduceBEq,Nat.reduceAdd,o0,o1,o2,V32];(repeat1' with_reducible first|apply And.intro|(intro _;try exact q_v)|(refine hK _ ?_;clear hK K))<;>(try (clear hK K;exact q_u)))|(with_reducible refine q_s ?_;(first|apply q_J|apply q_K|apply q_L|apply q_M|apply q_N|apply q_O)<;>try (intro _;try exact q_v)))
  all_goals first | omega | assumption | exact q_A rfl | skip
 ·obtain ⟨q1,q2⟩:=hsp (by omega)
  rw [q1,q2]
  clear hP
  (refine q_H Tryz.func26 (fun F=>?_); simp only [q_z,q_y,Tryz.ntmps26,Tryz.results26])
  repeat' (first|with_reducible refine q_0 ?_|((with_reducible first|refine q_q dba_ok fun K hK=>?_|refine q_r dba_ok fun K hK=>?_);simp (maxSteps:=2000000) only [go_sem,↓reduceIte,reduceCtorEq,Nat.reduceLeDiff,Nat.reduceLT,Nat.reduceBEq,Nat.reduceAdd,o0,o1,o2,V32];(repeat1' with_reducible first|apply And.intro|(intro _;try exact q_v)|(refine hK _ ?_;clear hK K))<;>(try (clear hK K;exact q_u)))|(with_reducible refine q_s ?_;(first|apply q_J|apply q_K|apply q_L|apply q_M|apply q_N|apply q_O)<;>try (intro _;try exact q_v)))
  all_goals first | omega | assumption | exact q_A rfl | skip
def dg3x : Cfg:=addT 26 (op2CT mulD mulS) cf0
theorem dg3x_ok : TblOk Tryz.prog dg3x:=q_I cf0_ok Tryz.func26 fun l K h =>
 op2_tr (f:=mulD) (g:=mulS) (fun A B c hA hB hc=>dMul_ok A B c hA hB hc) (fun k l s t a b xs ys e e' p r mn mx h1 h2 h3 h4=>dMul_bad k l s t a b xs ys e e' p r mn mx h1 h2 h3 h4) l K h
end Go.Proofs.YtgkajjifbcmoeaaGreatDoor

namespace Go.Proofs.NatL
set_option linter.unusedSimpArgs false
set_option linter.unusedVariables false
theorem PF_div {m n : Nat} {e f : Int} (hn : 0 < n) (h1 : ds m ≤ 120) (h2 : ds n ≤ 120) (he : -1200 ≤ e ∧ e ≤ 1200) (hf : -1200 ≤ f ∧ f ≤ 1200) : PF m n (e - f):=⟨hn,by omega,by omega,by omega,by omega⟩
end Go.Proofs.NatL
namespace Go.Proofs.YtgkajjifbcmoeaaGreatDoor
set_option linter.unusedSimpArgs false
set_option linter.unusedVariables false
open Go.Abs Go.Proofs.NatL

set_option maxHeartbeats 3200000 in
theorem dDiv_ok (A B : Dc) (c : Cx) (hA : OkD A) (hB : OkD B) (hc : OkC c) : Ret Tryz.prog 16 false [.inr (gDc A),.inr (gDc B),.inr (gCx c)] (rDS (divD A B c) (divS A B c)):=by
 have o0:=okCx_c hc
 have o1:=okD_g hA
 have o2:=okD_g hB
 have ka:=OkD_kind hA
 have kb:=OkD_kind hB
 obtain ⟨a1,a2,a3⟩:=okd_exp hA
 obtain ⟨b1,b2,b3⟩:=okd_exp hB
 have l1:=coef_len a1
 have l2:=coef_len b1
 have hP:=fun h=>PF_div (n:=B.coef) h a1 b1 ⟨a2,a3⟩ ⟨b2,b3⟩
 have z1:=dg_nil_iff A.coef
 have z2:=dg_nil_iff B.coef
 unfold divD divS
 obtain ⟨k,s,m,e⟩:=A
 obtain ⟨l,t,n,f⟩:=B
 obtain ⟨p,r,mn,mx⟩:=c
 simp only at o0 o1 o2 ka kb a1 a2 a3 b1 b2 b3 l1 l2 hP z1 z2 ⊢
 clear hA hB hc
 by_cases h1 : k = 2 ∨ l = 2
 ·rw [if_pos h1,if_pos h1]
  clear hP
  (refine q_H Tryz.func16 (fun F=>?_); simp only [q_z,q_y,Tryz.ntmps16,Tryz.results16])
  repeat' (first|with_reducible refine q_0 ?_|((with_reducible first|refine q_q dba_ok fun K hK=>?_|refine q_r dba_ok fun K hK=>?_);simp (maxSteps:=2000000) only [go_sem,↓reduceIte,reduceCtorEq,Nat.reduceLeDiff,Nat.reduceLT,Nat.reduceBEq,Nat.reduceAdd,o0,o1,o2,V32];(repeat1' with_reducible first|apply And.intro|(intro _;try exact q_v)|(refine hK _ ?_;clear hK K))<;>(try (clear hK K;exact q_u)))|(with_reducible refine q_s ?_;(first|apply q_J|apply q_K|apply q_L|apply q_M|apply q_N|apply q_O)<;>try (intro _;try exact q_v)))
  all_goals first | omega | assumption | exact q_A rfl | skip
 rw [if_neg h1,if_neg h1]
 by_cases h2 : (k = 1 ∧ l = 1) ∨ ((k = 0 ∧ m = 0) ∧ (l = 0 ∧ n = 0))
 ·rw [if_pos h2,if_pos h2]
  clear hP
  (refine q_H Tryz.func16 (fun F=>?_); simp only [q_z,q_y,Tryz.ntmps16,Tryz.results16])
  repeat' (first|with_reducible refine q_0 ?_|((with_reducible first|refine q_q dba_ok fun K hK=>?_|refine q_r dba_ok fun K hK=>?_);simp (maxSteps:=2000000) only [go_sem,↓reduceIte,reduceCtorEq,Nat.reduceLeDiff,Nat.reduceLT,Nat.reduceBEq,Nat.reduceAdd,o0,o1,o2,V32];(repeat1' with_reducible first|apply And.intro|(intro _;try exact q_v)|(refine hK _ ?_;clear hK K))<;>(try (clear hK K;exact q_u)))|(with_reducible refine q_s ?_;(first|apply q_J|apply q_K|apply q_L|apply q_M|apply q_N|apply q_O)<;>try (intro _;try exact q_v)))
  all_goals first | omega | assumption | exact q_A rfl | skip
 rw [if_neg h2,if_neg h2]
 by_cases h3 : k = 1
 ·rw [if_pos h3,if_pos h3]
  clear hP
  (refine q_H Tryz.func16 (fun F=>?_); simp only [q_z,q_y,Tryz.ntmps16,Tryz.results16])
  repeat' (first|with_reducible refine q_0 ?_|((with_reducible first|refine q_q dba_ok fun K hK=>?_|refine q_r dba_ok fun K hK=>?_);simp (maxSteps:=2000000) only [go_sem,↓reduceIte,reduceCtorEq,Nat.reduceLeDiff,Nat.reduceLT,Nat.reduceBEq,Nat.reduceAdd,o0,o1,o2,V32];(repeat1' with_reducible first|apply And.intro|(intro _;try exact q_v)|(refine hK _ ?_;clear hK K))<;>(try (clear hK K;exact q_u)))|(with_reducible refine q_s ?_;(first|apply q_J|apply q_K|apply q_L|apply q_M|apply q_N|apply q_O)<;>try (intro _;try exact q_v)))
  all_goals first | omega | assumption | exact q_A rfl | skip
 rw [if_neg h3,if_neg h3]
 by_cases h4 : l = 1
 ·rw [if_pos h4,if_pos h4]
  clear hP
  (refine q_H Tryz.func16 (fun F=>?_); simp only [q_z,q_y,Tryz.ntmps16,Tryz.results16])
  repeat' (first|with_reducible refine q_0 ?_|((with_reducible first|refine q_q dba_ok fun K hK=>?_|refine q_r dba_ok fun K hK=>?_);simp (maxSteps:=2000000) only [go_sem,↓reduceIte,reduceCtorEq,Nat.reduceLeDiff,Nat.reduceLT,Nat.reduceBEq,Nat.reduceAdd,o0,o1,o2,V32];(repeat1' with_reducible first|apply And.intro|(intro _;try exact q_v)|(refine hK _ ?_;clear hK K))<;>(try (clear hK K;exact q_u)))|(with_reducible refine q_s ?_;(first|apply q_J|apply q_K|apply q_L|apply q_M|apply q_N|apply q_O)<;>try (intro _;try exact q_v)))
  all_goals first | omega | assumption | exact q_A rfl | skip
 rw [if_neg h4,if_neg h4]
 by_cases h5 : n = 0
 ·rw [if_pos h5,if_pos h5]
  clear hP
  (refine q_H Tryz.func16 (fun F=>?_); simp only [q_z,q_y,Tryz.ntmps16,Tryz.results16])
  repeat' (first|with_reducible refine q_0 ?_|((with_reducible first|refine q_q dba_ok fun K hK=>?_|refine q_r dba_ok fun K hK=>?_);simp (maxSteps:=2000000) only [go_sem,↓reduceIte,reduceCtorEq,Nat.reduceLeDiff,Nat.reduceLT,Nat.reduceBEq,Nat.reduceAdd,o0,o1,o2,V32];(repeat1' with_reducible first|apply And.intro|(intro _;try exact q_v)|(refine hK _ ?_;clear hK K))<;>(try (clear hK K;exact q_u)))|(with_reducible refine q_s ?_;(first|apply q_J|apply q_K|apply q_L|apply q_M|apply q_N|apply q_O)<;>try (intro _;try exact q_v)))
  all_goals first | omega | assumption | exact q_A rfl | skip
 rw [if_neg h5,if_neg h5]
 have hP:=hP (by omega)
 have k0 : k = 0:=by omega
 have l0 : l = 0:=by omega
 subst k0 l0
 (refine q_H Tryz.func16 (fun F=>?_); simp only [q_z,q_y,Tryz.ntmps16,Tryz.results16])
 repeat' (first|with_reducible refine q_0 ?_|((with_reducible first|refine q_q dba_ok fun K hK=>?_|refine q_r dba_ok fun K hK=>?_);simp (maxSteps:=2000000) only [go_sem,↓reduceIte,reduceCtorEq,Nat.reduceLeDiff,Nat.reduceLT,Nat.reduceBEq,Nat.reduceAdd,o0,o1,o2,V32];(repeat1' with_reducible first|apply And.intro|(intro _;try exact q_v)|(refine hK _ ?_;clear hK K))<;>(try (clear hK K;exact q_u)))|(with_reducible refine q_s ?_;(first|apply q_J|apply q_K|apply q_L|apply q_M|apply q_N|apply q_O)<;>try (intro _;try exact q_v)))
 all_goals first | omega | assumption | exact q_A rfl | skip
def dg4x : Cfg:=addT 16 (op2CT divD divS) cf0
theorem dg4x_ok : TblOk Tryz.prog dg4x:=q_I cf0_ok Tryz.func16 fun l K h =>
 op2_tr (f:=divD) (g:=divS) (fun A B c hA hB hc=>dDiv_ok A B c hA hB hc) (fun k l s t a b xs ys e e' p r mn mx h1 h2 h3 h4=>dDiv_bad k l s t a b xs ys e e' p r mn mx h1 h2 h3 h4) l K h
end Go.Proofs.YtgkajjifbcmoeaaGreatDoor

namespace Go.Proofs.NatL
set_option linter.unusedSimpArgs false
set_option linter.unusedVariables false
theorem pt_down {num den : Nat} (exp : Int) {f : Int} (h : ptD den exp f ≤ ptN num exp f) : ∀ k : Nat,ptD den exp (f - k) ≤ ptN num exp (f - k)
 | 0=>by simpa using h
 | k + 1=>by
  have ih:=pt_down exp h k
  have s:=pt_step num den exp (f - ((k + 1 : Nat) : Int))
  rw [show f - ((k + 1 : Nat) : Int) + 1 = f - (k : Int) by omega] at s
  have:=s.1 ih
  omega
theorem q_pos {num den : Nat} (hn : 0 < num) (hd : 0 < den) {exp x : Int} (h : x ≤ firstE num den exp) : 0 < qE num den exp x:=by
 have h1:=pt_down exp (first_is hn hd exp).1 (firstE num den exp - x).toNat
 rw [show firstE num den exp - ((firstE num den exp - x).toNat : Int) = x by omega] at h1
 exact Nat.div_pos h1 (ptD_pos hd _ _)
theorem rdE_ge (neg : Bool) (num den : Nat) (exp e r : Int) : qE num den exp e ≤ rdE neg num den exp e r:=by
 unfold rdE; (repeat' split) <;> omega
theorem ce_zero {neg : Bool} {num den : Nat} {exp ideal p r mn : Int} (hn : 0 < num) (hd : 0 < den) (hp : 1 ≤ p) (h : (fitCE neg num den exp ideal p r mn).1 = 0) : (fitCE neg num den exp ideal p r mn).2 ≤ tinyE p mn + 1:=by
 have key : fitEx num den exp p mn = tinyE p mn ∨ 0 < qE num den exp (fitEx num den exp p mn):=by
  by_cases hx : firstE num den exp - p + 1 ≤ tinyE p mn
  ·left; unfold fitEx; omega
  ·right
   refine q_pos hn hd ?_
   unfold fitEx; omega
 have hge:=rdE_ge neg num den exp (fitEx num den exp p mn) r
 have hnum : 0 < ptN num exp (fitEx num den exp p mn):=Nat.lt_of_lt_of_le hn (ptN_ge _ _ _)
 by_cases hs : sE num den exp (fitEx num den exp p mn) = 0
 ·-- exact: the coefficient is not none
  exfalso
  have hq : 0 < qE num den exp (fitEx num den exp p mn):=by
   unfold qE sE at *
   have:=Nat.div_add_mod (ptN num exp (fitEx num den exp p mn)) (ptD den exp (fitEx num den exp p mn))
   rw [hs] at this
   rcases Nat.eq_zero_or_pos (ptN num exp (fitEx num den exp p mn) / ptD den exp (fitEx num den exp p mn)) with h0 | h0
   ·rw [h0] at this; omega
   ·exact h0
  rw [ce_exact hs] at h
  have tpos : ∀ (k c : Nat) (e : Int),0 < c → 0 < (twd k c e).1:=by
   intro k
   induction k with
   | zero=>intro c e hc; exact hc
   | succ k ih =>
    intro c e hc
    unfold twd; split
    ·exact ih _ _ (by omega)
    ·exact hc
  have:=tpos (ideal - fitEx num den exp p mn).toNat _ (fitEx num den exp p mn) (show 0 < rdE neg num den exp (fitEx num den exp p mn) r by omega)
  omega
 ·by_cases hl : p < (ds (rdE neg num den exp (fitEx num den exp p mn) r) : Int)
  ·rw [ce_long hs hl] at h ⊢
   simp only at h ⊢
   rcases key with k | k
   ·omega
   ·have h1 : rdE neg num den exp (fitEx num den exp p mn) r < 10:=by omega
    have h2:=ds_le (n:=rdE neg num den exp (fitEx num den exp p mn) r) (k:=1) (by omega)
    omega
  ·rw [ce_short hs hl] at h ⊢
   simp only at h ⊢
   rcases key with k | k <;> omega
theorem ce_low {neg : Bool} {num den : Nat} {exp ideal p r mn : Int} : tinyE p mn ≤ (fitCE neg num den exp ideal p r mn).2:=by
 have hx : tinyE p mn ≤ fitEx num den exp p mn:=by unfold fitEx; omega
 by_cases hs : sE num den exp (fitEx num den exp p mn) = 0
 ·rw [ce_exact hs]
  have:=(twd_le (ideal - fitEx num den exp p mn).toNat (rdE neg num den exp (fitEx num den exp p mn) r) (fitEx num den exp p mn)).2
  omega
 ·by_cases hl : p < (ds (rdE neg num den exp (fitEx num den exp p mn) r) : Int)
  ·rw [ce_long hs hl]; simp only; omega
  ·rw [ce_short hs hl]; exact hx
theorem ce_len {neg : Bool} {num den : Nat} {exp ideal p r mn : Int} (hn : 0 < num) (hd : 0 < den) (hp : 1 ≤ p) : ds (fitCE neg num den exp ideal p r mn).1 ≤ p.toNat:=by
 by_cases hs : sE num den exp (fitEx num den exp p mn) = 0
 ·rw [ce_exact hs]
  exact fit_exact_len hn hd hp hs _
 ·have hle:=fit_round_le (neg:=neg) (r:=r) (mn:=mn) hn hd (exp:=exp) hp
  by_cases hl : p < (ds (rdE neg num den exp (fitEx num den exp p mn) r) : Int)
  ·rw [ce_long hs hl]
   simp only
   rw [ds_div10]
   have:=ds_le_of_le hle (k:=p.toNat + 1) (by rw [ds_ten]; omega)
   omega
  ·rw [ce_short hs hl]; simp only; omega
theorem fit_ok {neg : Bool} {num den : Nat} {exp ideal : Int} {c : Cx} (hd : 0 < den) (hc : OkC c) : OkD (fitD neg num den exp ideal c.p c.r c.mn c.mx):=by
 obtain ⟨c1,c2,c3,c4,c5,c6,c7,c8⟩:=hc
 have ht : tinyE c.p c.mn = c.mn - c.p + 1:=rfl
 by_cases h0 : num = 0
 ·rw [(fit_zero neg den exp ideal c.p c.r c.mn c.mx h0).1]
  exact .inl ⟨rfl,by simp only; omega,by simp only; omega,by simp⟩
 ·have hn : 0 < num:=by omega
  have hz:=ce_zero (neg:=neg) (num:=num) (den:=den) (exp:=exp) (ideal:=ideal) (p:=c.p) (r:=c.r) (mn:=c.mn) hn hd c1
  have hw:=ce_low (neg:=neg) (num:=num) (den:=den) (exp:=exp) (ideal:=ideal) (p:=c.p) (r:=c.r) (mn:=c.mn)
  have hl:=ce_len (neg:=neg) (num:=num) (den:=den) (exp:=exp) (ideal:=ideal) (p:=c.p) (r:=c.r) (mn:=c.mn) hn hd c1
  generalize hCE : fitCE neg num den exp ideal c.p c.r c.mn = CE at *
  obtain ⟨x,y⟩:=CE
  simp only at hz hw hl
  by_cases ho : 0 < x ∧ c.mx < (ds x : Int) - 1 + y
  ·rw [(fit_over hn hCE ho).1]
   unfold ovf
   split
   ·exact .inr (.inl ⟨rfl,rfl,rfl⟩)
   ·refine .inl ⟨rfl,by simp only; omega,by simp only; omega,?_⟩
    have : 10 ^ c.p.toNat ≤ 10 ^ 60:=Nat.pow_le_pow_right (by omega) (by omega)
    have h2 : (10 : Nat) ^ 60 < 10 ^ 120:=Nat.pow_lt_pow_right (by omega) (by omega)
    simp only; omega
  ·rw [(fit_fine hn hCE ho).1]
   refine .inl ⟨rfl,by simp only; omega,?_,lt120.2 (by simp only; omega)⟩
   simp only
   rcases Nat.eq_zero_or_pos x with h | h
   ·have:=hz h; omega
   ·have:=ds_pos.2 h
    have h2 : ¬ c.mx < (ds x : Int) - 1 + y:=fun h3=>ho ⟨h,h3⟩
    omega
theorem none_ok : OkD dNone:=.inr (.inr ⟨rfl,rfl,rfl,rfl⟩)
theorem inf_ok (s : Bool) : OkD (dInf s):=.inr (.inl ⟨rfl,rfl,rfl⟩)
theorem div_ok {A B : Dc} {c : Cx} (hc : OkC c) : OkD (divD A B c):=by
 obtain ⟨c1,c2,c3,c4,c5,c6,c7,c8⟩:=hc
 unfold divD
 split
 ·exact none_ok
 split
 ·exact none_ok
 split
 ·exact inf_ok _
 split
 ·have ht : tinyE c.p c.mn = c.mn - c.p + 1:=rfl
  exact .inl ⟨rfl,by simp only; omega,by simp only; omega,by simp⟩
 split
 ·exact inf_ok _
 ·rename_i h; exact fit_ok (Nat.pos_of_ne_zero h) ⟨c1,c2,c3,c4,c5,c6,c7,c8⟩
theorem add_ok {A B : Dc} {c : Cx} (hc : OkC c) : OkD (addD A B c):=by
 unfold addD
 split
 ·exact none_ok
 split
 ·exact none_ok
 split
 ·exact inf_ok _
 split
 ·exact inf_ok _
 ·exact fit_ok (by omega) hc
theorem mul_ok {A B : Dc} {c : Cx} (hc : OkC c) : OkD (mulD A B c):=by
 unfold mulD
 split
 ·exact none_ok
 split
 ·exact fit_ok (by omega) hc
 split
 ·exact none_ok
 ·exact inf_ok _
theorem okd_len {A : Dc} (h : OkD A) : (dg 4294967296 A.coef).length ≤ 13:=coef_len (okd_exp h).1
end Go.Proofs.NatL

namespace Go.Proofs.NatL
set_option linter.unusedSimpArgs false
set_option linter.unusedVariables false
def upN (n : Nat) (e : Int) (K : Nat) : Nat:=n * 10 ^ (e + K).toNat
theorem pt_up (n d : Nat) {e x : Int} {K : Nat} (he : 0 ≤ e + K) (hx : 0 ≤ x + K) : ∃ k : Nat,upN n e K = ptN n e x * 10 ^ k ∧ d * 10 ^ (x + K).toNat = ptD d e x * 10 ^ k:=by
 unfold upN ptN ptD
 by_cases h : x ≤ e
 ·refine ⟨(x + K).toNat,?_,?_⟩
  ·rw [if_pos h,Nat.mul_assoc,← Nat.pow_add,show (e - x).toNat + (x + K).toNat = (e + K).toNat by omega]
  ·rw [if_pos h]
 ·refine ⟨(e + K).toNat,?_,?_⟩
  ·rw [if_neg h]
  ·rw [if_neg h,Nat.mul_assoc,← Nat.pow_add,show (x - e).toNat + (e + K).toNat = (x + K).toNat by omega]
theorem ten_pos (k : Nat) : 0 < 10 ^ k:=Nat.pow_pos (by omega)
theorem qE_up (n d : Nat) {e x : Int} {K : Nat} (he : 0 ≤ e + K) (hx : 0 ≤ x + K) : qE n d e x = upN n e K / (d * 10 ^ (x + K).toNat):=by
 obtain ⟨k,h1,h2⟩:=pt_up n d he hx
 rw [h1,h2,Nat.mul_div_mul_right _ _ (ten_pos k)]; rfl
def vle (n d : Nat) (e : Int) (n' d' : Nat) (e' : Int) : Prop:=∃ K : Nat,0 ≤ e + K ∧ 0 ≤ e' + K ∧ upN n e K * d' ≤ upN n' e' K * d
theorem up_add (n : Nat) {e : Int} {K : Nat} (j : Nat) (he : 0 ≤ e + K) : upN n e (K + j) = upN n e K * 10 ^ j:=by
 unfold upN
 rw [Nat.mul_assoc,← Nat.pow_add,show (e + (K + j : Nat)).toNat = (e + K).toNat + j by omega]
theorem vle_K {n d : Nat} {e : Int} {n' d' : Nat} {e' : Int} (h : vle n d e n' d' e') {K : Nat} (h1 : 0 ≤ e + K) (h2 : 0 ≤ e' + K) : upN n e K * d' ≤ upN n' e' K * d:=by
 obtain ⟨J,j1,j2,j3⟩:=h
 -- both at K + J
 have a1:=up_add n K j1
 have a2:=up_add n' K j2
 have b1:=up_add n J h1
 have b2:=up_add n' J h2
 rw [Nat.add_comm J K] at a1 a2
 have hm:=Nat.mul_le_mul_right (10 ^ K) j3
 have e1 : upN n e J * d' * 10 ^ K = upN n e K * d' * 10 ^ J:=by
  rw [Nat.mul_right_comm,← a1,b1,Nat.mul_right_comm]
 have e2 : upN n' e' J * d * 10 ^ K = upN n' e' K * d * 10 ^ J:=by
  rw [Nat.mul_right_comm,← a2,b2,Nat.mul_right_comm]
 rw [e1,e2] at hm
 exact Nat.le_of_mul_le_mul_right hm (ten_pos J)
theorem ex_K (a b x : Int) : ∃ K : Nat,0 ≤ a + K ∧ 0 ≤ b + K ∧ 0 ≤ x + K:=⟨a.natAbs + b.natAbs + x.natAbs,by omega,by omega,by omega⟩
theorem div_le_frac {N N' D D' T : Nat} (hD : 0 < D) (hD' : 0 < D') (h : N * D' ≤ N' * D) : N / (D * T) ≤ N' / (D' * T):=by
 rcases Nat.eq_zero_or_pos T with rfl | hT
 ·simp
 have h1 : N / (D * T) = (N * D') / (D * T * D'):=(Nat.mul_div_mul_right _ _ hD').symm
 have h2 : N' / (D' * T) = (N' * D) / (D' * T * D):=(Nat.mul_div_mul_right _ _ hD).symm
 rw [h1,h2,show D' * T * D = D * T * D' by ac_rfl]
 exact Nat.div_le_div_right h
theorem qE_le {n d : Nat} {e : Int} {n' d' : Nat} {e' : Int} (hd : 0 < d) (hd' : 0 < d') (h : vle n d e n' d' e') (x : Int) : qE n d e x ≤ qE n' d' e' x:=by
 obtain ⟨K,k1,k2,k3⟩:=ex_K e e' x
 rw [qE_up n d k1 k3,qE_up n' d' k2 k3]
 exact div_le_frac hd hd' (vle_K h k1 k2)
theorem q_iff {n d : Nat} (hd : 0 < d) (e x : Int) : 0 < qE n d e x ↔ ptD d e x ≤ ptN n e x:=by
 unfold qE
 constructor
 ·intro h
  rcases Nat.lt_or_ge (ptN n e x) (ptD d e x) with h1 | h1
  ·rw [Nat.div_eq_of_lt h1] at h; omega
  ·exact h1
 ·intro h; exact Nat.div_pos h (ptD_pos hd _ _)
theorem first_le {n d : Nat} {e : Int} {n' d' : Nat} {e' : Int} (hn : 0 < n) (hn' : 0 < n') (hd : 0 < d) (hd' : 0 < d') (h : vle n d e n' d' e') : firstE n d e ≤ firstE n' d' e':=by
 rcases int_lt_ge (firstE n' d' e') (firstE n d e) with hlt | hge
 ·have h1:=(q_iff hd e _).2 (first_is hn hd e).1
  have h2:=qE_le hd hd' h (firstE n d e)
  have h3:=(q_iff (n:=n') hd' e' (firstE n d e)).1 (by omega)
  have:=first_stop hn' hd' e' h3 (by omega)
  omega
 ·exact hge
theorem cmp3_mul (a b : Nat) {c : Nat} (hc : 0 < c) : cmp3 (a * c) (b * c) = cmp3 a b:=by
 unfold cmp3
 have h1 : a * c < b * c ↔ a < b:=Nat.mul_lt_mul_right hc
 have h2 : a * c = b * c ↔ a = b:=⟨fun h=>Nat.eq_of_mul_eq_mul_right hc h,fun h=>by rw [h]⟩
 simp only [h1,h2]
theorem cmp3_le {a b a' b' : Nat} (hb : 0 < b) (hb' : 0 < b') (h : a * b' ≤ a' * b) : cmp3 a b ≤ cmp3 a' b':=by
 rw [← cmp3_mul a b hb',← cmp3_mul a' b' hb,Nat.mul_comm b b']
 generalize a * b' = x at *
 generalize a' * b = y at *
 unfold cmp3
 (repeat' split) <;> omega
theorem sE_le {n d : Nat} {e : Int} {n' d' : Nat} {e' : Int} (hd : 0 < d) (hd' : 0 < d') (h : vle n d e n' d' e') {x : Int} (hq : qE n d e x = qE n' d' e' x) :
  sE n d e x * ptD d' e' x ≤ sE n' d' e' x * ptD d e x:=by
 obtain ⟨K,k1,k2,k3⟩:=ex_K e e' x
 obtain ⟨i,a1,a2⟩:=pt_up n d k1 k3
 obtain ⟨j,b1,b2⟩:=pt_up n' d' k2 k3
 have hv:=vle_K h k1 k2
 have p1:=ptD_pos hd e x
 have p2:=ptD_pos hd' e' x
 have m1:=Nat.div_add_mod (ptN n e x) (ptD d e x)
 have m2:=Nat.div_add_mod (ptN n' e' x) (ptD d' e' x)
 unfold qE at hq
 unfold sE
 rw [hq] at m1
 rw [a1,b1] at hv
 generalize ptN n e x % ptD d e x = s at *
 generalize ptN n' e' x % ptD d' e' x = s' at *
 generalize ptN n' e' x / ptD d' e' x = q at *
 rw [← m1,← m2] at hv
 generalize ptD d e x = D at *
 generalize ptD d' e' x = D' at *
 clear a1 b1 hq m1 m2
 generalize hT : 10 ^ (x + (K : Int)).toNat = T at *
 have hT0 : 0 < T:=by rw [← hT]; exact ten_pos _
 -- (D q + s) 10^i d' <= (D' q + s') 10^j d,times T
 have hv2:=Nat.mul_le_mul_right T hv
 have r1 : (D * q + s) * 10 ^ i * d' * T = (D * q + s) * 10 ^ i * (D' * 10 ^ j):=by rw [← b2]; ac_rfl
 have r2 : (D' * q + s') * 10 ^ j * d * T = (D' * q + s') * 10 ^ j * (D * 10 ^ i):=by rw [← a2]; ac_rfl
 rw [r1,r2] at hv2
 have r3 : (D * q + s) * 10 ^ i * (D' * 10 ^ j) = ((D * q + s) * D') * (10 ^ i * 10 ^ j):=by ac_rfl
 have r4 : (D' * q + s') * 10 ^ j * (D * 10 ^ i) = ((D' * q + s') * D) * (10 ^ i * 10 ^ j):=by ac_rfl
 rw [r3,r4] at hv2
 have hv3:=Nat.le_of_mul_le_mul_right hv2 (Nat.mul_pos (ten_pos i) (ten_pos j))
 rw [Nat.add_mul,Nat.add_mul,show D * q * D' = D' * q * D by ac_rfl] at hv3
 omega
theorem away_mono {r : Int} (s odd : Bool) {h h' : Int} (hle : h ≤ h') (ha : awayB r s odd h = true) : awayB r s odd h' = true:=by
 unfold awayB at *
 by_cases h1 : r = 1
 ·rw [if_pos h1]
 rw [if_neg h1] at ha ⊢
 by_cases h2 : r = 2
 ·rw [if_pos h2] at ha ⊢; exact ha
 rw [if_neg h2] at ha ⊢
 by_cases h3 : r = 3
 ·rw [if_pos h3] at ha ⊢; exact ha
 rw [if_neg h3] at ha ⊢
 by_cases h4 : r = 4
 ·rw [if_pos h4] at ha ⊢
  simp only [decide_eq_true_eq] at ha ⊢; omega
 rw [if_neg h4] at ha ⊢
 by_cases h5 : r = 5
 ·rw [if_pos h5] at ha ⊢
  simp only [decide_eq_true_eq] at ha ⊢; omega
 rw [if_neg h5] at ha ⊢
 by_cases h6 : r = 6
 ·rw [if_pos h6] at ha ⊢
  simp only [decide_eq_true_eq,Bool.or_eq_true,Bool.and_eq_true] at ha ⊢
  rcases ha with ha | ⟨ha,ho⟩
  ·left; omega
  ·rcases int_lt_ge 0 h' with hp | hp
   ·left; exact hp
   ·right; exact ⟨by omega,ho⟩
 ·rw [if_neg h6] at ha; exact absurd ha (by decide)
theorem rdE_le {n d : Nat} {e : Int} {n' d' : Nat} {e' : Int} (s : Bool) (r : Int) (hd : 0 < d) (hd' : 0 < d') (h : vle n d e n' d' e') (x : Int) : rdE s n d e x r ≤ rdE s n' d' e' x r:=by
 have h1:=qE_le hd hd' h x
 rcases Nat.lt_or_ge (qE n d e x) (qE n' d' e' x) with hq | hq
 ·have:=rdE_ge s n' d' e' x r
  have : rdE s n d e x r ≤ qE n d e x + 1:=by unfold rdE; (repeat' split) <;> omega
  omega
 ·have he : qE n d e x = qE n' d' e' x:=by omega
  have hs:=sE_le hd hd' h he
  have p1:=ptD_pos hd e x
  have p2:=ptD_pos hd' e' x
  unfold rdE
  rw [he]
  by_cases h0 : sE n d e x = 0
  ·rw [if_pos h0]; (repeat' split) <;> omega
  ·have h0' : ¬ sE n' d' e' x = 0:=fun hz=>by
    rw [hz,Nat.zero_mul] at hs
    have:=Nat.mul_pos (Nat.pos_of_ne_zero h0) p2
    omega
   rw [if_neg h0,if_neg h0']
   have hc:=cmp3_le (a:=2 * sE n d e x) (a':=2 * sE n' d' e' x) p1 p2 (by rw [Nat.mul_assoc,Nat.mul_assoc]; omega)
   split
   ·rename_i ha
    rw [if_pos (away_mono s _ hc ha)]; omega
   ·split <;> omega
end Go.Proofs.NatL

namespace Go.Proofs.NatL
set_option linter.unusedSimpArgs false
set_option linter.unusedVariables false
theorem twd_val (K : Nat) : ∀ (k c : Nat) (e : Int),0 ≤ e + K → (twd k c e).1 * 10 ^ ((twd k c e).2 + K).toNat = c * 10 ^ (e + K).toNat
 | 0,c,e,_=>rfl
 | k + 1,c,e,h=>by
  unfold twd
  split
  ·rename_i h0
   rw [twd_val K k (c / 10) (e + 1) (by omega),show (e + 1 + (K : Int)).toNat = (e + K).toNat + 1 by omega,Nat.pow_succ]
   have : c = c / 10 * 10:=by omega
   generalize 10 ^ (e + (K : Int)).toNat = T at *
   generalize c / 10 = b at *
   subst this; ac_rfl
  ·rfl
theorem ce_val {s : Bool} {n d : Nat} {e i p r mn : Int} (hn : 0 < n) (hd : 0 < d) (hp : 1 ≤ p) {K : Nat} (hK : 0 ≤ tinyE p mn + K) :
  (fitCE s n d e i p r mn).1 * 10 ^ ((fitCE s n d e i p r mn).2 + K).toNat = rdE s n d e (fitEx n d e p mn) r * 10 ^ (fitEx n d e p mn + K).toNat:=by
 have hx : tinyE p mn ≤ fitEx n d e p mn:=by unfold fitEx; omega
 by_cases hs : sE n d e (fitEx n d e p mn) = 0
 ·rw [ce_exact hs,twd_val K _ _ _ (by omega)]
 ·have hle:=fit_round_le (neg:=s) (r:=r) (mn:=mn) hn hd (exp:=e) hp
  by_cases hl : p < (ds (rdE s n d e (fitEx n d e p mn) r) : Int)
  ·rw [ce_long hs hl]
   have hge:=ds_ge (n:=rdE s n d e (fitEx n d e p mn) r) (k:=p.toNat) (by omega)
   have hR : rdE s n d e (fitEx n d e p mn) r = 10 ^ p.toNat:=by omega
   rw [hR]
   simp only
   rw [show (fitEx n d e p mn + 1 + (K : Int)).toNat = (fitEx n d e p mn + K).toNat + 1 by omega,show p.toNat = (p.toNat - 1) + 1 by omega,Nat.pow_succ,Nat.mul_div_cancel _ (by omega),Nat.pow_succ]
   ac_rfl
  ·rw [ce_short hs hl]
theorem pow_mono {a b : Nat} (h : a ≤ b) : 10 ^ a ≤ 10 ^ b:=Nat.pow_le_pow_right (by omega) h
theorem q_ge {n d : Nat} (hn : 0 < n) (hd : 0 < d) {e : Int} (k : Nat) : 10 ^ k ≤ qE n d e (firstE n d e - k):=by
 obtain ⟨K,k1,k2,k3⟩:=ex_K e (firstE n d e) (firstE n d e - k)
 have h:=(q_iff hd e _).2 (first_is hn hd e).1
 rw [qE_up n d k1 k2] at h
 rw [qE_up n d k1 k3]
 have hp : 0 < d * 10 ^ (firstE n d e - k + K).toNat:=Nat.mul_pos hd (ten_pos _)
 rw [Nat.le_div_iff_mul_le hp]
 have h1 : d * 10 ^ (firstE n d e + K).toNat ≤ upN n e K:=by
  rcases Nat.lt_or_ge (upN n e K) (d * 10 ^ (firstE n d e + K).toNat) with h2 | h2
  ·rw [Nat.div_eq_of_lt h2] at h; omega
  ·exact h2
 refine Nat.le_trans (Nat.le_of_eq ?_) h1
 rw [Nat.mul_left_comm,← Nat.pow_add,show k + (firstE n d e - k + K).toNat = (firstE n d e + K).toNat by omega]
theorem rd_mono {s : Bool} {n d : Nat} {e : Int} {n' d' : Nat} {e' : Int} {p r mn : Int} (hn : 0 < n) (hn' : 0 < n') (hd : 0 < d) (hd' : 0 < d') (hp : 1 ≤ p) (h : vle n d e n' d' e') {K : Nat} (hK : 0 ≤ tinyE p mn + K) :
  rdE s n d e (fitEx n d e p mn) r * 10 ^ (fitEx n d e p mn + K).toNat ≤ rdE s n' d' e' (fitEx n' d' e' p mn) r * 10 ^ (fitEx n' d' e' p mn + K).toNat:=by
 have hf:=first_le hn hn' hd hd' h
 have hx : fitEx n d e p mn ≤ fitEx n' d' e' p mn:=by unfold fitEx; omega
 have ht : tinyE p mn ≤ fitEx n d e p mn:=by unfold fitEx; omega
 rcases Int.lt_or_eq_of_le hx with hlt | heq
 ·have e1 : fitEx n' d' e' p mn = firstE n' d' e' - ((p.toNat - 1 : Nat) : Int):=by unfold fitEx at hlt ⊢; omega
  have h1:=fit_round_le (neg:=s) (r:=r) (mn:=mn) hn hd (exp:=e) hp
  have h2:=q_ge hn' hd' (e:=e') (p.toNat - 1)
  rw [← e1] at h2
  have h3:=rdE_ge s n' d' e' (fitEx n' d' e' p mn) r
  refine Nat.le_trans (Nat.mul_le_mul_right _ h1) (Nat.le_trans ?_ (Nat.mul_le_mul_right _ (Nat.le_trans h2 h3)))
  rw [← Nat.pow_add,← Nat.pow_add]
  exact pow_mono (by omega)
 ·rw [← heq]
  exact Nat.mul_le_mul_right _ (rdE_le s r hd hd' h _)
def mgK (D : Dc) (K : Nat) : Nat:=D.coef * 10 ^ (D.exp + K).toNat
theorem over_iff {c : Nat} {e mx : Int} {K : Nat} (he : 0 ≤ e + K) (hm : 0 ≤ mx + 1 + K) : (0 < c ∧ mx < (ds c : Int) - 1 + e) ↔ 10 ^ (mx + 1 + K).toNat ≤ c * 10 ^ (e + K).toNat:=by
 constructor
 ·rintro ⟨h0,h⟩
  have h1:=ds_top h0
  have h2:=ds_pos.2 h0
  refine Nat.le_trans ?_ (Nat.mul_le_mul_right _ h1)
  rw [← Nat.pow_add]; exact pow_mono (by omega)
 ·intro h
  have h0 : 0 < c:=by
   rcases Nat.eq_zero_or_pos c with rfl | h0
   ·rw [Nat.zero_mul] at h; have:=ten_pos (mx + 1 + (K : Int)).toNat; omega
   ·exact h0
  refine ⟨h0,?_⟩
  rcases int_lt_ge mx ((ds c : Int) - 1 + e) with h1 | h1
  ·exact h1
  ·exfalso
   have h2:=ds_lt c
   have h3 : c * 10 ^ (e + (K : Int)).toNat < 10 ^ ds c * 10 ^ (e + (K : Int)).toNat:=Nat.mul_lt_mul_of_pos_right h2 (ten_pos _)
   rw [← Nat.pow_add] at h3
   have:=pow_mono (a:=ds c + (e + (K : Int)).toNat) (b:=(mx + 1 + (K : Int)).toNat) (by have:=ds_pos.2 h0; omega)
   omega
def fitR (s : Bool) (D : Dc) (p mn mx : Int) : Prop:=D.neg = s ∧ ((D.kind = 1 ∧ D.coef = 0 ∧ D.exp = 0) ∨ (D.kind = 0 ∧ (ds D.coef : Int) ≤ p ∧ tinyE p mn ≤ D.exp ∧ ¬ (0 < D.coef ∧ mx < (ds D.coef : Int) - 1 + D.exp) ∧ (D.coef = 0 → D.exp ≤ mx)))
theorem ce_zero' {s : Bool} {n d : Nat} {e i p r mn : Int} (hn : 0 < n) (hd : 0 < d) (hp : 1 ≤ p) (h : (fitCE s n d e i p r mn).1 = 0) : (fitCE s n d e i p r mn).2 = tinyE p mn:=by
 have hx : tinyE p mn ≤ fitEx n d e p mn:=by unfold fitEx; omega
 obtain ⟨K,hK⟩ : ∃ K : Nat,0 ≤ tinyE p mn + K:=⟨(tinyE p mn).natAbs,by omega⟩
 have hv:=ce_val (s:=s) (i:=i) (r:=r) hn hd (e:=e) hp hK
 rw [h,Nat.zero_mul] at hv
 have hR : rdE s n d e (fitEx n d e p mn) r = 0:=by
  rcases Nat.mul_eq_zero.1 hv.symm with h1 | h1
  ·exact h1
  ·have:=ten_pos (fitEx n d e p mn + (K : Int)).toNat; omega
 have hq:=rdE_ge s n d e (fitEx n d e p mn) r
 have hex : fitEx n d e p mn = tinyE p mn:=by
  by_cases h1 : firstE n d e - p + 1 ≤ tinyE p mn
  ·unfold fitEx; omega
  ·have:=q_pos hn hd (exp:=e) (x:=fitEx n d e p mn) (by unfold fitEx; omega)
   omega
 have hq0 : qE n d e (fitEx n d e p mn) = 0:=by omega
 have hnz : ¬ sE n d e (fitEx n d e p mn) = 0:=fun hs=>by
  have hm:=Nat.div_add_mod (ptN n e (fitEx n d e p mn)) (ptD d e (fitEx n d e p mn))
  unfold qE at hq0
  unfold sE at hs
  rw [hs,hq0] at hm
  have:=ptN_ge n e (fitEx n d e p mn)
  omega
 by_cases hl : p < (ds (rdE s n d e (fitEx n d e p mn) r) : Int)
 ·rw [hR,ds_zero] at hl; omega
 ·rw [ce_short hnz hl]; exact hex
theorem fit_is (s : Bool) {n d : Nat} (e i : Int) (r : Int) (hd : 0 < d) {p mn mx : Int} (hp : 1 ≤ p) (hmn : mn ≤ 0) (hmx : 0 ≤ mx) : fitR s (fitD s n d e i p r mn mx) p mn mx:=by
 have ht : tinyE p mn = mn - p + 1:=rfl
 rcases Nat.eq_zero_or_pos n with h0 | hn
 ·rw [(fit_zero s d e i p r mn mx h0).1]
  refine ⟨rfl,.inr ⟨rfl,by simp only [ds_zero]; omega,by simp only; omega,by simp only; omega,fun _=>by simp only; omega⟩⟩
 ·have hz:=ce_zero' (s:=s) (i:=i) (r:=r) (e:=e) (mn:=mn) hn hd hp
  have hw:=ce_low (neg:=s) (num:=n) (den:=d) (exp:=e) (ideal:=i) (p:=p) (r:=r) (mn:=mn)
  have hl:=ce_len (neg:=s) (num:=n) (den:=d) (exp:=e) (ideal:=i) (p:=p) (r:=r) (mn:=mn) hn hd hp
  generalize hCE : fitCE s n d e i p r mn = CE at *
  obtain ⟨x,y⟩:=CE
  simp only at hz hw hl
  by_cases ho : 0 < x ∧ mx < (ds x : Int) - 1 + y
  ·rw [(fit_over hn hCE ho).1]
   unfold ovf
   split
   ·exact ⟨rfl,.inl ⟨rfl,rfl,rfl⟩⟩
   ·have h1 : ds (10 ^ p.toNat - 1) ≤ p.toNat:=ds_le (by have:=ten_pos p.toNat; omega)
    have h2 : 1 < 10 ^ p.toNat:=Nat.lt_of_lt_of_le (by omega : 1 < 10 ^ 1) (pow_mono (by omega))
    refine ⟨rfl,.inr ⟨rfl,by simp only; omega,by simp only; omega,by simp only; omega,fun h=>?_⟩⟩
    simp only at h; omega
  ·rw [(fit_fine hn hCE ho).1]
   exact ⟨rfl,.inr ⟨rfl,by simp only; omega,hw,ho,fun h=>by have:=hz h; simp only at h ⊢; omega⟩⟩
theorem mg_top {c : Nat} {e p mn mx : Int} {K : Nat} (hl : (ds c : Int) ≤ p) (hp : 1 ≤ p) (hw : tinyE p mn ≤ e) (hmm : mn ≤ mx) (hK : 0 ≤ tinyE p mn + K) (ho : ¬ (0 < c ∧ mx < (ds c : Int) - 1 + e)) : c * 10 ^ (e + K).toNat ≤ (10 ^ p.toNat - 1) * 10 ^ (mx - p + 1 + K).toNat:=by
 have ht : tinyE p mn = mn - p + 1:=rfl
 have hc : c < 10 ^ p.toNat:=Nat.lt_of_lt_of_le (ds_lt c) (pow_mono (by omega))
 rcases int_lt_ge (mx - p + 1) e with h | h
 ·rw [over_iff (K:=K) (by omega) (by omega)] at ho
  have e1 : (e + (K : Int)).toNat = (e - (mx - p + 1)).toNat + (mx - p + 1 + K).toNat:=by omega
  have e2 : (mx + 1 + (K : Int)).toNat = p.toNat + (mx - p + 1 + K).toNat:=by omega
  rw [e1,e2,Nat.pow_add,Nat.pow_add,← Nat.mul_assoc] at ho
  rw [e1,Nat.pow_add,← Nat.mul_assoc]
  refine Nat.mul_le_mul_right _ ?_
  rcases Nat.lt_or_ge (c * 10 ^ (e - (mx - p + 1)).toNat) (10 ^ p.toNat) with h1 | h1
  ·omega
  ·exact absurd (Nat.mul_le_mul_right _ h1) ho
 ·exact Nat.mul_le_mul (by omega) (pow_mono (by omega))
theorem fit_mono {s : Bool} {n d : Nat} {e i : Int} {n' d' : Nat} {e' i' : Int} {p r mn mx : Int} (hd : 0 < d) (hd' : 0 < d') (hp : 1 ≤ p) (hmn : mn ≤ 0) (hmx : 0 ≤ mx) (h : vle n d e n' d' e') {K : Nat} (hK : 0 ≤ tinyE p mn + K) :
  (fitD s n' d' e' i' p r mn mx).kind = 1 ∨ ((fitD s n d e i p r mn mx).kind = 0 ∧ (fitD s n' d' e' i' p r mn mx).kind = 0 ∧ mgK (fitD s n d e i p r mn mx) K ≤ mgK (fitD s n' d' e' i' p r mn mx) K):=by
 have ht : tinyE p mn = mn - p + 1:=rfl
 rcases Nat.eq_zero_or_pos n with h0 | hn
 ·rw [(fit_zero s d e i p r mn mx h0).1]
  obtain ⟨_,h2 | h2⟩:=fit_is s (n:=n') e' i' r hd' hp hmn hmx
  ·exact .inl h2.1
  ·exact .inr ⟨rfl,h2.1,by unfold mgK; simp⟩
 have hn' : 0 < n':=by
  obtain ⟨J,j1,j2,j3⟩:=h
  rcases Nat.eq_zero_or_pos n' with rfl | h1
  ·unfold upN at j3
   rw [Nat.zero_mul,Nat.zero_mul] at j3
   have:=Nat.mul_pos (Nat.mul_pos hn (ten_pos (e + (J : Int)).toNat)) hd'
   omega
  ·exact h1
 have hm:=rd_mono (s:=s) (r:=r) (mn:=mn) hn hn' hd hd' hp h hK
 have v1:=ce_val (s:=s) (i:=i) (r:=r) hn hd (e:=e) hp hK
 have v2:=ce_val (s:=s) (i:=i') (r:=r) hn' hd' (e:=e') hp hK
 rw [← v1,← v2] at hm
 have w1:=ce_low (neg:=s) (num:=n) (den:=d) (exp:=e) (ideal:=i) (p:=p) (r:=r) (mn:=mn)
 have w2:=ce_low (neg:=s) (num:=n') (den:=d') (exp:=e') (ideal:=i') (p:=p) (r:=r) (mn:=mn)
 have l1:=ce_len (neg:=s) (num:=n) (den:=d) (exp:=e) (ideal:=i) (p:=p) (r:=r) (mn:=mn) hn hd hp
 clear v1 v2
 generalize hCE : fitCE s n d e i p r mn = CE at *
 generalize hCE' : fitCE s n' d' e' i' p r mn = CE' at *
 obtain ⟨x,y⟩:=CE
 obtain ⟨x',y'⟩:=CE'
 simp only at hm w1 w2 l1
 by_cases ho' : 0 < x' ∧ mx < (ds x' : Int) - 1 + y'
 ·rw [(fit_over hn' hCE' ho').1]
  by_cases ho : 0 < x ∧ mx < (ds x : Int) - 1 + y
  ·rw [(fit_over hn hCE ho).1]
   unfold ovf
   split
   ·exact .inl rfl
   ·exact .inr ⟨rfl,rfl,Nat.le_refl _⟩
  ·rw [(fit_fine hn hCE ho).1]
   unfold ovf
   split
   ·exact .inl rfl
   ·exact .inr ⟨rfl,rfl,mg_top (c:=x) (e:=y) (by omega) hp w1 (by omega) hK ho⟩
 ·have ho : ¬ (0 < x ∧ mx < (ds x : Int) - 1 + y):=fun h1=>by
   rw [over_iff (K:=K) (by omega) (by omega)] at ho' h1
   exact ho' (Nat.le_trans h1 hm)
  rw [(fit_fine hn hCE ho).1,(fit_fine hn' hCE' ho').1]
  exact .inr ⟨rfl,rfl,hm⟩
end Go.Proofs.NatL

namespace Go.Proofs.NatL
set_option linter.unusedSimpArgs false
set_option linter.unusedVariables false
def qtBad (R : Nat) (e : Int) (c : Cx) : Prop:=c.p < (ds R : Int) ∨ (0 < (ds R : Int) ∧ c.mx < (ds R : Int) - 1 + e)
instance decQtBad (R : Nat) (e : Int) (c : Cx) : Decidable (qtBad R e c):=by unfold qtBad; infer_instance
end Go.Proofs.NatL
namespace Go.Proofs.YtgkajjifbcmoeaaGreatDoor
set_option linter.unusedSimpArgs false
set_option linter.unusedVariables false
open Go.Abs Go.Proofs.NatL

end Go.Proofs.YtgkajjifbcmoeaaGreatDoor

namespace Go.Proofs.NatL
set_option linter.unusedSimpArgs false
set_option linter.unusedVariables false
def rkD (A : Dc) : Int:=if A.kind = 0 then 0 else if A.neg = true then -1 else 1
def cmpD (A B : Dc) : Int:=if rkD A ≠ 0 ∨ rkD B ≠ 0 then min (max (rkD A - rkD B) (-1)) 1 else cmpZ (sumZ A.neg A.coef A.exp (!B.neg) B.coef B.exp) 0
def nbC : List D5 → Int
 | []=>0
 | p :: l=>if p.1 = 2 then 13 else nbC l
def nbX : Int → List D5 → Int
 | _,[]=>0
 | i,p :: l=>if p.1 = 2 then -1 - i else nbX (i + 1) l
theorem cmp_inf {A B : Dc} (h : A.kind ≠ 0 ∨ B.kind ≠ 0) : cmpD A B = min (max (rkD A - rkD B) (-1)) 1:=by
 unfold cmpD
 rw [if_pos]
 unfold rkD
 rcases h with h | h
 ·left; rw [if_neg h]; split <;> decide
 ·right; rw [if_neg h]; split <;> decide
theorem cmp_fin {s t : Bool} {m n : Nat} {e f : Int} : cmpD ⟨0,s,m,e⟩ ⟨0,t,n,f⟩ = cmpZ (sumZ s m e (!t) n f) 0:=rfl
end Go.Proofs.NatL

namespace Go.Proofs.NatL
set_option linter.unusedSimpArgs false
set_option linter.unusedVariables false
def xv (D : Dc) (K : Nat) : Int:=sg D.neg (if D.kind = 1 then 10 ^ (1320 + K) else mgK D K)
theorem mg_lt {A : Dc} (hA : OkD A) (h0 : A.kind = 0) {K : Nat} (hK : 1200 ≤ K) : mgK A K < 10 ^ (1320 + K):=by
 rcases hA with ⟨h1,h2,h3,h4⟩ | ⟨h1,h2,h3⟩ | ⟨h1,h2,h3,h5⟩
 ·unfold mgK
  have : A.coef * 10 ^ (A.exp + (K : Int)).toNat < 10 ^ 120 * 10 ^ (A.exp + (K : Int)).toNat:=Nat.mul_lt_mul_of_pos_right h4 (ten_pos _)
  rw [← Nat.pow_add] at this
  exact Nat.lt_of_lt_of_le this (pow_mono (by omega))
 ·omega
 ·omega
theorem cmpZ_mul (a b : Int) {T : Int} (h : 0 < T) : cmpZ (a * T) (b * T) = cmpZ a b:=by
 unfold cmpZ
 have h1 : a * T < b * T ↔ a < b:=⟨fun q=>Int.lt_of_mul_lt_mul_right q (by omega),fun q=>Int.mul_lt_mul_of_pos_right q h⟩
 have h2 : a * T = b * T ↔ a = b:=⟨fun q=>Int.eq_of_mul_eq_mul_right (by omega) q,fun q=>by rw [q]⟩
 simp only [h1,h2]
theorem sg_mulT (s : Bool) (m T : Nat) : sg s (m * T) = sg s m * (T : Int):=by
 cases s
 ·simp only [sgf,Int.natCast_mul]
 ·simp only [sgt,Int.natCast_mul,Int.neg_mul]
theorem rk0 {A : Dc} (h : A.kind = 0) : rkD A = 0:=if_pos h
theorem rk1 {A : Dc} (h : A.kind = 1) : rkD A = if A.neg = true then -1 else 1:=if_neg (by omega)
theorem xv0 {A : Dc} (h : A.kind = 0) (K : Nat) : xv A K = sg A.neg (mgK A K):=by unfold xv; rw [if_neg (by omega)]
theorem xv1 {A : Dc} (h : A.kind = 1) (K : Nat) : xv A K = sg A.neg (10 ^ (1320 + K)):=by unfold xv; rw [if_pos h]
theorem cmp_xv {A B : Dc} (hA : OkD A) (hB : OkD B) (ka : A.kind ≠ 2) (kb : B.kind ≠ 2) {K : Nat} (hK : 1200 ≤ K) : cmpD A B = cmpZ (xv A K) (xv B K):=by
 have qa:=OkD_kind hA
 have qb:=OkD_kind hB
 have a1:=okd_exp hA
 have b1:=okd_exp hB
 have hp:=ten_pos (1320 + K)
 rcases qa with h | h | h
 ·have ma:=mg_lt hA h hK
  rcases qb with g | g | g
  ·have e0 : cmpD A B = cmpZ (sumZ A.neg A.coef A.exp (!B.neg) B.coef B.exp) 0:=by unfold cmpD; rw [rk0 h,rk0 g,if_neg (by decide)]
   rw [e0,xv0 h,xv0 g]
   -- both finite
   unfold mgK sumZ
   have e1 : (A.exp + (K : Int)).toNat = (A.exp - min A.exp B.exp).toNat + (min A.exp B.exp + K).toNat:=by omega
   have e2 : (B.exp + (K : Int)).toNat = (B.exp - min A.exp B.exp).toNat + (min A.exp B.exp + K).toNat:=by omega
   rw [e1,e2,Nat.pow_add,Nat.pow_add,← Nat.mul_assoc,← Nat.mul_assoc]
   generalize hT : 10 ^ (min A.exp B.exp + (K : Int)).toNat = T
   have hT0 : 0 < T:=by rw [← hT]; exact ten_pos _
   rw [sg_mulT _ _ T,sg_mulT _ _ T,cmpZ_mul _ _ (by omega),sg_not]
   unfold cmpZ
   (repeat' split) <;> omega
  ·rw [cmp_inf (.inr (by omega)),rk0 h,rk1 g,xv0 h,xv1 g]
   generalize mgK A K = x at *
   generalize 10 ^ (1320 + K) = y at *
   unfold cmpZ
   cases A.neg <;> cases B.neg <;> simp only [sgf,sgt,Bool.false_eq_true,if_true,if_false] <;> (repeat' split) <;> omega
  ·omega
 ·rcases qb with g | g | g
  ·have mb:=mg_lt hB g hK
   rw [cmp_inf (.inl (by omega)),rk1 h,rk0 g,xv1 h,xv0 g]
   generalize mgK B K = x at *
   generalize 10 ^ (1320 + K) = y at *
   unfold cmpZ
   cases A.neg <;> cases B.neg <;> simp only [sgf,sgt,Bool.false_eq_true,if_true,if_false] <;> (repeat' split) <;> omega
  ·rw [cmp_inf (.inl (by omega)),rk1 h,rk1 g,xv1 h,xv1 g]
   generalize 10 ^ (1320 + K) = y at *
   unfold cmpZ
   cases A.neg <;> cases B.neg <;> simp only [sgf,sgt,Bool.false_eq_true,if_true,if_false] <;> (repeat' split) <;> omega
  ·omega
 ·omega
theorem tiny_K {c : Cx} (hc : OkC c) {K : Nat} (hK : 1200 ≤ K) : 0 ≤ tinyE c.p c.mn + K:=by
 obtain ⟨c1,c2,c3,c4,c5,c6,c7,c8⟩:=hc
 unfold tinyE; omega
end Go.Proofs.NatL

namespace Go.Proofs.NatL
set_option linter.unusedSimpArgs false
set_option linter.unusedVariables false
theorem two_ten (j : Nat) : 2 ^ (93 * j) ≤ 10 ^ (28 * j):=by
 rw [Nat.pow_mul,Nat.pow_mul]
 exact Nat.pow_le_pow_left (by decide) _
theorem lim_ds {n k j : Nat} (h : (dg 4294967296 n).length ≤ k) (hj : 32 * k ≤ 93 * j) : ds n ≤ 28 * j:=by
 have h1 : n < 4294967296 ^ k:=lt_of_len (by omega) h
 have h2 : (4294967296 : Nat) = 2 ^ 32:=by decide
 rw [h2,← Nat.pow_mul] at h1
 exact ds_le (Nat.lt_of_lt_of_le h1 (Nat.le_trans (Nat.pow_le_pow_right (by omega) hj) (two_ten j)))
theorem lim128 {n : Nat} (h : (dg 4294967296 n).length ≤ 128) : ds n ≤ 1260:=lim_ds (j:=45) h (by omega)
theorem PF_of {m d : Nat} (hd : 0 < d) (h1 : (dg 4294967296 m).length ≤ 128) (h2 : (dg 4294967296 d).length ≤ 128) : PF m d 0:=by
 have:=lim128 h1
 have:=lim128 h2
 exact ⟨hd,by omega,by omega,by omega,by omega⟩
def ofD (s : Bool) (m d : Nat) (c : Cx) : Dc:=fitD s m d 0 0 c.p c.r c.mn c.mx
def ofS (s : Bool) (m d : Nat) (c : Cx) : Int:=fitS s m d 0 0 c.p c.r c.mn c.mx
def drN (A : Dc) : Nat:=A.coef * 10 ^ A.exp.toNat
def drD (A : Dc) : Nat:=10 ^ (-A.exp).toNat
theorem drD_pos (A : Dc) : 0 < drD A:=Nat.pow_pos (by omega)
theorem dr_len {A : Dc} (h : OkD A) : ds (drN A) ≤ 1320 ∧ ds (drD A) ≤ 1201:=by
 obtain ⟨h1,h2,h3⟩:=okd_exp h
 refine ⟨ds_mul10 (by omega),?_⟩
 unfold drD; rw [ds_ten]; omega
end Go.Proofs.NatL
namespace Go.Proofs.YtgkajjifbcmoeaaGreatDoor
set_option linter.unusedSimpArgs false
set_option linter.unusedVariables false
open Go.Abs Go.Proofs.NatL

def dbi : Cfg:=listT [(63,checkCCT),(62,validDCT),(78,atCT),(96,validQCT),(77,fitXCT),(82,timesTCT),(83,powerCT),(84,(nat6CT tr2 rGcdN)),(85,(nat6CT pos2 rDivN))] [34]
theorem dbi_ok : TblOk Tryz.prog dbi:=listE_ok (by simp only [List.mem_singleton,forall_eq]; exact flt) ⟨⟨de5,de5_ok,rfl⟩,⟨de4,de4_ok,rfl⟩,⟨de6,de6_ok,rfl⟩,⟨qt1,qt1_ok,rfl⟩,⟨de3d,de3d_ok,rfl⟩,⟨dc4,dc4_ok,rfl⟩,⟨dc3,dc3_ok,rfl⟩,⟨dn5,dn5_ok,rfl⟩,⟨dn6,dn6_ok,rfl⟩,trivial⟩
attribute [go_sem] dbi
def ofQCT : CT:=mkCT [nQ,nC] false fun l K=>match l with
 | [.inr [.b s,.ints .u32 xs,.b t,.ints .u32 ys],.inr [.i .i64 p,.i .i64 r,.i .i64 mn,.i .i64 mx]] =>
   (xs.length ≤ 140737488355328 ∧ ys.length ≤ 140737488355328 ∧ InB 4294967296 xs ∧ InB 4294967296 ys) ∧
   (if okCx p r mn mx = true then (if okQ s xs t ys = true then K (rDS (ofD s (V 4294967296 xs) (V 4294967296 ys) ⟨p,r,mn,mx⟩) (ofS s (V 4294967296 xs) (V 4294967296 ys) ⟨p,r,mn,mx⟩)) else K (rBad 6 (-1))) else K (rBad 4 (-9)))
 | _=>False
set_option maxHeartbeats 3200000 in
theorem ofQ_bad (s t : Bool) (xs ys : List Int) (p r mn mx : Int) (h1 : xs.length ≤ 140737488355328) (h2 : ys.length ≤ 140737488355328) (b1 : InB 4294967296 xs) (b2 : InB 4294967296 ys) :
  (okCx p r mn mx = false → Ret Tryz.prog 28 false [.inr [.b s,.ints .u32 xs,.b t,.ints .u32 ys],.inr [.i .i64 p,.i .i64 r,.i .i64 mn,.i .i64 mx]] (rBad 4 (-9))) ∧
  (okCx p r mn mx = true → okQ s xs t ys = false → Ret Tryz.prog 28 false [.inr [.b s,.ints .u32 xs,.b t,.ints .u32 ys],.inr [.i .i64 p,.i .i64 r,.i .i64 mn,.i .i64 mx]] (rBad 6 (-1))):=by
 refine ⟨fun o0=>?_,fun o0 o1=>?_⟩
 ·(refine q_H Tryz.func28 (fun F=>?_); simp only [q_z,q_y,Tryz.ntmps28,Tryz.results28])
  repeat' (first|with_reducible refine q_0 ?_|((with_reducible first|refine q_q dbi_ok fun K hK=>?_|refine q_r dbi_ok fun K hK=>?_);simp (maxSteps:=2000000) only [go_sem,↓reduceIte,reduceCtorEq,Nat.reduceLeDiff,Nat.reduceLT,Nat.reduceBEq,Nat.reduceAdd,o0];(repeat1' with_reducible first|apply And.intro|(intro _;try exact q_v)|(refine hK _ ?_;clear hK K))<;>(try (clear hK K;exact q_u)))|(with_reducible refine q_s ?_;(first|apply q_J|apply q_K|apply q_L|apply q_M|apply q_N|apply q_O)<;>try (intro _;try exact q_v)))
  all_goals first | omega | assumption | exact q_B [nDc] rfl rfl | exact q_A rfl | skip
 ·(refine q_H Tryz.func28 (fun F=>?_); simp only [q_z,q_y,Tryz.ntmps28,Tryz.results28])
  repeat' (first|with_reducible refine q_0 ?_|((with_reducible first|refine q_q dbi_ok fun K hK=>?_|refine q_r dbi_ok fun K hK=>?_);simp (maxSteps:=2000000) only [go_sem,↓reduceIte,reduceCtorEq,Nat.reduceLeDiff,Nat.reduceLT,Nat.reduceBEq,Nat.reduceAdd,o0,o1];(repeat1' with_reducible first|apply And.intro|(intro _;try exact q_v)|(refine hK _ ?_;clear hK K))<;>(try (clear hK K;exact q_u)))|(with_reducible refine q_s ?_;(first|apply q_J|apply q_K|apply q_L|apply q_M|apply q_N|apply q_O)<;>try (intro _;try exact q_v)))
  all_goals first | omega | assumption | exact q_B [nDc] rfl rfl | exact q_A rfl | skip
set_option maxHeartbeats 3200000 in
theorem ofQ_good (s : Bool) (m d : Nat) (p r mn mx : Int) (o0 : okCx p r mn mx = true) (o1 : okQ s (dg 4294967296 m) false (dg 4294967296 d) = true) (hd : 0 < d) (l1 : (dg 4294967296 m).length ≤ 128) (l2 : (dg 4294967296 d).length ≤ 128) :
  Ret Tryz.prog 28 false [.inr [.b s,.ints .u32 (dg 4294967296 m),.b false,.ints .u32 (dg 4294967296 d)],.inr [.i .i64 p,.i .i64 r,.i .i64 mn,.i .i64 mx]] (rDS (ofD s m d ⟨p,r,mn,mx⟩) (ofS s m d ⟨p,r,mn,mx⟩)):=by
 have hP:=PF_of hd l1 l2
 unfold ofD ofS
 (refine q_H Tryz.func28 (fun F=>?_); simp only [q_z,q_y,Tryz.ntmps28,Tryz.results28])
 repeat' (first|with_reducible refine q_0 ?_|((with_reducible first|refine q_q dbi_ok fun K hK=>?_|refine q_r dbi_ok fun K hK=>?_);simp (maxSteps:=2000000) only [go_sem,↓reduceIte,reduceCtorEq,Nat.reduceLeDiff,Nat.reduceLT,Nat.reduceBEq,Nat.reduceAdd,o0,o1,V32];(repeat1' with_reducible first|apply And.intro|(intro _;try exact q_v)|(refine hK _ ?_;clear hK K))<;>(try (clear hK K;exact q_u)))|(with_reducible refine q_s ?_;(first|apply q_J|apply q_K|apply q_L|apply q_M|apply q_N|apply q_O)<;>try (intro _;try exact q_v)))
 all_goals first | omega | assumption | exact q_A rfl | skip
def di1 : Cfg:=addT 28 ofQCT cf0
theorem di1_ok : TblOk Tryz.prog di1:=q_I cf0_ok Tryz.func28 fun l K hk=>by
 split at hk
 ·rename_i s xs t ys p r mn mx
  obtain ⟨⟨h1,h2,b1,b2⟩,h⟩:=hk
  obtain ⟨q1,q2⟩:=ofQ_bad s t xs ys p r mn mx h1 h2 b1 b2
  split at h
  ·rename_i o0
   split at h
   ·rename_i o1
    obtain ⟨k1,k2,rfl,k4,k5⟩:=okQ_z o1
    have e1:=dg_V 4294967296 (by omega) xs b1 (okZ_trd k1)
    have e2:=dg_V 4294967296 (by omega) ys b2 (okZ_trd k2)
    have k6:=okZ_len k1
    have k7:=okZ_len k2
    have hd : 0 < V 4294967296 ys:=by rw [← e2] at k4; exact (dg_len_pos _ _ (by omega)).1 k4
    have:=ofQ_good s (V 4294967296 xs) (V 4294967296 ys) p r mn mx o0 (by rw [e1,e2]; exact o1) hd (by rw [e1]; exact k6) (by rw [e2]; exact k7)
    rw [e1,e2] at this
    exact ⟨_,this,h⟩
   ·rename_i o1; exact ⟨_,q2 o0 (by simpa using o1),h⟩
  ·rename_i o0; exact ⟨_,q1 (by simpa using o0),h⟩
 ·exact hk.elim

def ratD (A : Dc) : AV:=rQ (sg A.neg (drN A)) (drD A)
set_option maxHeartbeats 3200000 in
theorem ratio_ok (s : Bool) (m : Nat) (e : Int) (h : OkD ⟨0,s,m,e⟩) : Ret Tryz.prog 19 false [.inr (gDc ⟨0,s,m,e⟩)] (ratD ⟨0,s,m,e⟩):=by
 have o1:=okD_g h
 obtain ⟨g1,g2⟩:=dr_len h
 obtain ⟨a1,a2,a3⟩:=okd_exp h
 have hdp:=drD_pos ⟨0,s,m,e⟩
 have l1:=coef_len a1
 unfold ratD rQ
 simp only at o1 a1 a2 a3 l1 ⊢
 obtain ⟨e1,e2⟩:=rd_sg s (drN ⟨0,s,m,e⟩) hdp
 rw [e1,e2]
 clear e1 e2
 have u1 : drN ⟨0,s,m,e⟩ = m * 10 ^ e.toNat:=rfl
 have u2 : drD ⟨0,s,m,e⟩ = 10 ^ (-e).toNat:=rfl
 have one1 : ([1] : List Int) = dg 4294967296 1:=rfl
 generalize hN : drN ⟨0,s,m,e⟩ = N at *
 generalize hD : drD ⟨0,s,m,e⟩ = D at *
 have hg : 0 < Nat.gcd N D:=Nat.gcd_pos_of_pos_right _ hdp
 have n1:=ds_600 (n:=N) (by omega)
 have n2:=ds_600 (n:=D) (by omega)
 have hgl : (dg 4294967296 (Nat.gcd N D)).length ≤ 600:=Nat.le_trans (dg_len_mono (by omega) (Nat.gcd_le_right _ hdp)) n2
 generalize hG : Nat.gcd N D = g at *
 have q1 : (dg 4294967296 (N / g)).length ≤ 600:=Nat.le_trans (dg_len_mono (by omega) (Nat.div_le_self _ _)) n1
 have q2 : (dg 4294967296 (D / g)).length ≤ 600:=Nat.le_trans (dg_len_mono (by omega) (Nat.div_le_self _ _)) n2
 have hp:=dg_len_pos 4294967296 (N / g) (by omega)
 have w1:=sg_abs s (N / g)
 have w2:=sg_negd s (N / g)
 have w3 : decide (0 < N / g) = decide (0 < ((dg 4294967296 (N / g)).length : Int)):=by congr 1; exact propext ⟨fun h=>by omega,fun h=>by omega⟩
 rw [w3] at w2
 clear h hN hD
 by_cases hf : (dg 4294967296 (N / g)).length ≤ 128 ∧ (dg 4294967296 (D / g)).length ≤ 128
 ·obtain ⟨f1,f2,f3,f4⟩:=f_fit (z:=sg s (N / g)) (d:=D / g) (by unfold fQ; rw [w1]; exact hf)
  obtain ⟨y1,y2⟩:=hf
  unfold rF
  rw [f1,f2,f3,f4,gQ,w1,w2]
  clear w1 w2 w3 f1 f2 f3 f4
  by_cases he : 0 ≤ e
  ·have u3 : (-e).toNat = 0:=by omega
   rw [u3,Nat.pow_zero] at u2
   subst u2
   have u1:=u1.symm
   cases s
   all_goals
    (refine q_H Tryz.func19 (fun F=>?_); simp only [q_z,q_y,Tryz.ntmps19,Tryz.results19])
    repeat' (first|with_reducible refine q_0 ?_|((with_reducible first|refine q_q dbi_ok fun K hK=>?_|refine q_r dbi_ok fun K hK=>?_);simp (maxSteps:=2000000) only [go_sem,↓reduceIte,reduceCtorEq,Nat.reduceLeDiff,Nat.reduceLT,Nat.reduceBEq,Nat.reduceAdd,o1,V32,one1,u1,hG];(repeat1' with_reducible first|apply And.intro|(intro _;try exact q_v)|(refine hK _ ?_;clear hK K))<;>(try (clear hK K;exact q_u)))|(with_reducible refine q_s ?_;(first|apply q_J|apply q_K|apply q_L|apply q_M|apply q_N|apply q_O)<;>try (intro _;try exact q_v)))
    all_goals first | omega | assumption | exact q_A rfl | skip
  ·have u3 : e.toNat = 0:=by omega
   rw [u3,Nat.pow_zero,Nat.mul_one] at u1
   subst u1
   have u2 : 10 ^ (0 - e).toNat = D:=by rw [u2,Int.zero_sub]
   cases s
   all_goals
    (refine q_H Tryz.func19 (fun F=>?_); simp only [q_z,q_y,Tryz.ntmps19,Tryz.results19])
    repeat' (first|with_reducible refine q_0 ?_|((with_reducible first|refine q_q dbi_ok fun K hK=>?_|refine q_r dbi_ok fun K hK=>?_);simp (maxSteps:=2000000) only [go_sem,↓reduceIte,reduceCtorEq,Nat.reduceLeDiff,Nat.reduceLT,Nat.reduceBEq,Nat.reduceAdd,o1,V32,one1,u2,hG];(repeat1' with_reducible first|apply And.intro|(intro _;try exact q_v)|(refine hK _ ?_;clear hK K))<;>(try (clear hK K;exact q_u)))|(with_reducible refine q_s ?_;(first|apply q_J|apply q_K|apply q_L|apply q_M|apply q_N|apply q_O)<;>try (intro _;try exact q_v)))
    all_goals first | omega | assumption | exact q_A rfl | skip
 ·obtain ⟨f1,f2,f3,f4⟩:=f_big (z:=sg s (N / g)) (d:=D / g) (by unfold fQ; rw [w1]; exact hf)
  unfold rF
  rw [f1,f2,f3,f4]
  clear w1 w2 w3 f1 f2 f3 f4
  have hf' : ¬ (dg 4294967296 (N / g)).length ≤ 128 ∨ ¬ (dg 4294967296 (D / g)).length ≤ 128:=by omega
  by_cases he : 0 ≤ e
  ·have u3 : (-e).toNat = 0:=by omega
   rw [u3,Nat.pow_zero] at u2
   subst u2
   have u1:=u1.symm
   (refine q_H Tryz.func19 (fun F=>?_); simp only [q_z,q_y,Tryz.ntmps19,Tryz.results19])
   repeat' (first|with_reducible refine q_0 ?_|((with_reducible first|refine q_q dbi_ok fun K hK=>?_|refine q_r dbi_ok fun K hK=>?_);simp (maxSteps:=2000000) only [go_sem,↓reduceIte,reduceCtorEq,Nat.reduceLeDiff,Nat.reduceLT,Nat.reduceBEq,Nat.reduceAdd,o1,V32,one1,u1,hG];(repeat1' with_reducible first|apply And.intro|(intro _;try exact q_v)|(refine hK _ ?_;clear hK K))<;>(try (clear hK K;exact q_u)))|(with_reducible refine q_s ?_;(first|apply q_J|apply q_K|apply q_L|apply q_M|apply q_N|apply q_O)<;>try (intro _;try exact q_v)))
   all_goals first | omega | assumption | exact q_B [nQ] rfl rfl | skip
  ·have u3 : e.toNat = 0:=by omega
   rw [u3,Nat.pow_zero,Nat.mul_one] at u1
   subst u1
   have u2 : 10 ^ (0 - e).toNat = D:=by rw [u2,Int.zero_sub]
   (refine q_H Tryz.func19 (fun F=>?_); simp only [q_z,q_y,Tryz.ntmps19,Tryz.results19])
   repeat' (first|with_reducible refine q_0 ?_|((with_reducible first|refine q_q dbi_ok fun K hK=>?_|refine q_r dbi_ok fun K hK=>?_);simp (maxSteps:=2000000) only [go_sem,↓reduceIte,reduceCtorEq,Nat.reduceLeDiff,Nat.reduceLT,Nat.reduceBEq,Nat.reduceAdd,o1,V32,one1,u2,hG];(repeat1' with_reducible first|apply And.intro|(intro _;try exact q_v)|(refine hK _ ?_;clear hK K))<;>(try (clear hK K;exact q_u)))|(with_reducible refine q_s ?_;(first|apply q_J|apply q_K|apply q_L|apply q_M|apply q_N|apply q_O)<;>try (intro _;try exact q_v)))
   all_goals first | omega | assumption | exact q_B [nQ] rfl rfl | skip
set_option maxHeartbeats 3200000 in
theorem ratio_bad (k : Int) (s a : Bool) (xs : List Int) (e : Int) (h1 : xs.length ≤ 140737488355328) (b1 : InB 4294967296 xs) :
  (okD k s a xs e = false → Ret Tryz.prog 19 false [.inr [.i .i64 k,.b s,.b a,.ints .u32 xs,.i .i64 e]] (.t [zQ,fltQ 6 (-1)])) ∧
  (okD k s a xs e = true → k ≠ 0 → Ret Tryz.prog 19 false [.inr [.i .i64 k,.b s,.b a,.ints .u32 xs,.i .i64 e]] (.t [zQ,fltQ 13 (-1)])):=by
 refine ⟨fun o0=>?_,fun o0 o1=>?_⟩
 ·(refine q_H Tryz.func19 (fun F=>?_); simp only [q_z,q_y,Tryz.ntmps19,Tryz.results19])
  repeat' (first|with_reducible refine q_0 ?_|((with_reducible first|refine q_q dbi_ok fun K hK=>?_|refine q_r dbi_ok fun K hK=>?_);simp (maxSteps:=2000000) only [go_sem,↓reduceIte,reduceCtorEq,Nat.reduceLeDiff,Nat.reduceLT,Nat.reduceBEq,Nat.reduceAdd,o0];(repeat1' with_reducible first|apply And.intro|(intro _;try exact q_v)|(refine hK _ ?_;clear hK K))<;>(try (clear hK K;exact q_u)))|(with_reducible refine q_s ?_;(first|apply q_J|apply q_K|apply q_L|apply q_M|apply q_N|apply q_O)<;>try (intro _;try exact q_v)))
  all_goals first | omega | assumption | exact q_B [nQ] rfl rfl | exact q_A rfl | skip
 ·(refine q_H Tryz.func19 (fun F=>?_); simp only [q_z,q_y,Tryz.ntmps19,Tryz.results19])
  repeat' (first|with_reducible refine q_0 ?_|((with_reducible first|refine q_q dbi_ok fun K hK=>?_|refine q_r dbi_ok fun K hK=>?_);simp (maxSteps:=2000000) only [go_sem,↓reduceIte,reduceCtorEq,Nat.reduceLeDiff,Nat.reduceLT,Nat.reduceBEq,Nat.reduceAdd,o0];(repeat1' with_reducible first|apply And.intro|(intro _;try exact q_v)|(refine hK _ ?_;clear hK K))<;>(try (clear hK K;exact q_u)))|(with_reducible refine q_s ?_;(first|apply q_J|apply q_K|apply q_L|apply q_M|apply q_N|apply q_O)<;>try (intro _;try exact q_v)))
  all_goals first | omega | assumption | exact q_B [nQ] rfl rfl | exact q_A rfl | skip
def ratDCT : CT:=mkCT [nDc] false fun l K=>match l with
 | [.inr [.i .i64 k,.b s,.b a,.ints .u32 xs,.i .i64 e]] =>
   (xs.length ≤ 140737488355328 ∧ InB 4294967296 xs) ∧
   (okD k s a xs e = false → K (.t [zQ,fltQ 6 (-1)])) ∧ (okD k s a xs e = true ∧ k ≠ 0 → K (.t [zQ,fltQ 13 (-1)])) ∧ (okD k s a xs e = true ∧ k = 0 → K (ratD ⟨k,s,V 4294967296 xs,e⟩))
 | _=>False
def di2 : Cfg:=addT 19 ratDCT cf0
theorem di2_ok : TblOk Tryz.prog di2:=q_I cf0_ok Tryz.func19 fun l K hk=>by
 split at hk
 ·rename_i k s a xs e
  obtain ⟨⟨h1,b1⟩,k1,k2,k3⟩:=hk
  obtain ⟨q1,q2⟩:=ratio_bad k s a xs e h1 b1
  cases o : okD k s a xs e
  ·exact ⟨_,q1 o,k1 o⟩
  ·by_cases h0 : k = 0
   ·have h:=k3 ⟨o,h0⟩
    subst h0
    obtain ⟨e1,r1⟩:=gDc_of o b1
    rw [e1]
    exact ⟨_,ratio_ok _ _ _ r1,h⟩
   ·exact ⟨_,q2 o h0,k2 ⟨o,h0⟩⟩
 ·exact hk.elim
attribute [go_sem] ofQCT ratD ratDCT
end Go.Proofs.YtgkajjifbcmoeaaGreatDoor

namespace Go.Abs
set_option linter.unusedSimpArgs false
set_option linter.unusedVariables false
end Go.Abs
namespace Go.Proofs.YtgkajjifbcmoeaaGreatDoor
set_option linter.unusedSimpArgs false
set_option linter.unusedVariables false
open Go.Abs Go.Proofs.NatL

abbrev z5 : List AV:=[.c (.i .i64 0),.c (.b false),.c (.b false),.c .nil,.c (.i .i64 0)]
attribute [go_sem] z5
end Go.Proofs.YtgkajjifbcmoeaaGreatDoor
