import Derived.Test.YtgkajjifbcmoeaaGreatDoorP23
import Derived.Test.YtgkajjifbcmoeaaGreatDoorP28
namespace Go.Proofs.NatL
set_option linter.unusedSimpArgs false
set_option linter.unusedVariables false
theorem dgs_bad {l : List Int} {i : Nat} (hi : i < l.length) (h : l.getD i 0 < 48 ∨ 57 < l.getD i 0) : dgs l = false:=by
 unfold dgs
 have : l.all (fun c=>decide (48 ≤ c ∧ c ≤ 57)) = false:=by
  rw [List.all_eq_false]
  refine ⟨l[i],List.getElem_mem hi,?_⟩
  rw [getD_eq l i hi] at h
  simp; omega
 rw [this,Bool.and_false]
theorem dgs_good {l : List Int} (h : ∀ i,i < l.length → 48 ≤ l.getD i 0 ∧ l.getD i 0 ≤ 57) : dgs l = decide (l ≠ []):=by
 unfold dgs
 have : l.all (fun c=>decide (48 ≤ c ∧ c ≤ 57)) = true:=by
  rw [List.all_eq_true]
  intro x hx
  obtain ⟨i,hi,rfl⟩:=List.getElem_of_mem hx
  have:=h i hi
  rw [getD_eq l i hi] at this
  exact decide_eq_true this
 rw [this,Bool.and_true]
 cases l <;> rfl
end Go.Proofs.NatL
namespace Go.Proofs.YtgkajjifbcmoeaaGreatDoor
set_option linter.unusedSimpArgs false
set_option linter.unusedVariables false
open Go.Abs Go.Proofs.NatL

def dt1 : Cfg:=listT [(99,sCutCT)] [34]
theorem dt1_ok : TblOk Tryz.prog dt1:=listE_ok (by simp only [List.mem_singleton,forall_eq]; exact flt) ⟨⟨sd4,sd4_ok,rfl⟩,trivial⟩
attribute [go_sem] dt1
set_option maxHeartbeats 1600000 in
theorem allDigits_ret (s : ByteArray) (hm : (bytesOf s).length ≤ 100000) : Ret Tryz.prog 101 false [.inl (.str s)] (.c (.b (dgs (bytesOf s)))):=by
 have hs:=str_size s
 have hq : (!(s.toList == (ByteArray.mk #[]).toList)) = decide (bytesOf s ≠ []):=by rw [str_eq]; simp; rfl
 have bad:=fun {i : Nat}=>dgs_bad (l:=bytesOf s) (i:=i)
 have good:=dgs_good (l:=bytesOf s)
 (refine q_H Tryz.func101 (fun F=>?_); simp only [q_z,q_y,Tryz.ntmps101,Tryz.results101])
 repeat' (first|with_reducible refine q_0 ?_|((with_reducible first|refine q_q dt1_ok fun K hK=>?_|refine q_r dt1_ok fun K hK=>?_);simp (maxSteps:=2000000) only [go_sem,↓reduceIte,reduceCtorEq,Nat.reduceLeDiff,Nat.reduceLT,Nat.reduceBEq,Nat.reduceAdd,hs];(repeat1' with_reducible first|apply And.intro|(intro _;try exact q_v)|(refine hK _ ?_;clear hK K))<;>(try (clear hK K;exact q_u)))|(with_reducible refine q_s ?_;(first|apply q_J|apply q_K|apply q_L|apply q_M|apply q_N|apply q_O)<;>try (intro _;try exact q_v)))
 all_goals first | omega | skip
 refine q_G (ι:={ i : Nat // i ≤ (bytesOf s).length ∧ ∀ j,j < i → 48 ≤ (bytesOf s).getD j 0 ∧ (bytesOf s).getD j 0 ≤ 57 }) (fun i=>⟨22,[(0,.c (.str s)),(5,.c (.i .i64 (bytesOf s).length)),(6,.c (.i .i64 (i.1 : Nat)))],⟨[],[],[]⟩,0⟩) (fun i=>(bytesOf s).length - i.1) ⟨0,by omega,fun j h=>by omega⟩ ?_ ?_
 ·exact q_D
 rintro ⟨i,g1,g2⟩
 simp only at g1 g2 ⊢
 have hat:=str_at s i
 rcases Nat.lt_or_ge i (bytesOf s).length with hi | hi
 ·by_cases hc : 48 ≤ (bytesOf s).getD i 0 ∧ (bytesOf s).getD i 0 ≤ 57
  ·clear bad good
   obtain ⟨hc1,hc2⟩:=hc
   repeat' (first|with_reducible refine q_0 ?_|((with_reducible first|refine q_q dt1_ok fun K hK=>?_|refine q_r dt1_ok fun K hK=>?_);simp (maxSteps:=2000000) only [go_sem,↓reduceIte,reduceCtorEq,Nat.reduceLeDiff,Nat.reduceLT,Nat.reduceBEq,Nat.reduceAdd,hs,hat];(repeat1' with_reducible first|apply And.intro|(intro _;try exact q_v)|(refine hK _ ?_;clear hK K))<;>(try (clear hK K;exact q_u)))|(with_reducible refine q_s ?_;(first|apply q_J|apply q_K|apply q_L|apply q_M|apply q_N|apply q_O)<;>try (intro _;try exact q_v)))
   all_goals first | omega | skip
   refine q_F ⟨i + 1,hi,fun j hj=>?_⟩ ?_ (by simp only; omega)
   ·rcases Nat.lt_or_ge j i with h | h
    ·exact g2 j h
    ·have : j = i:=by omega
     subst this; exact ⟨hc1,hc2⟩
   ·exact q_D
  ·have hb:=bad hi (by omega)
   rw [hb]
   clear bad good
   by_cases hc1 : (bytesOf s).getD i 0 < 48
   ·repeat' (first|with_reducible refine q_0 ?_|((with_reducible first|refine q_q dt1_ok fun K hK=>?_|refine q_r dt1_ok fun K hK=>?_);simp (maxSteps:=2000000) only [go_sem,↓reduceIte,reduceCtorEq,Nat.reduceLeDiff,Nat.reduceLT,Nat.reduceBEq,Nat.reduceAdd,hs,hat];(repeat1' with_reducible first|apply And.intro|(intro _;try exact q_v)|(refine hK _ ?_;clear hK K))<;>(try (clear hK K;exact q_u)))|(with_reducible refine q_s ?_;(first|apply q_J|apply q_K|apply q_L|apply q_M|apply q_N|apply q_O)<;>try (intro _;try exact q_v)))
    all_goals first | omega | exact q_A rfl | skip
   ·repeat' (first|with_reducible refine q_0 ?_|((with_reducible first|refine q_q dt1_ok fun K hK=>?_|refine q_r dt1_ok fun K hK=>?_);simp (maxSteps:=2000000) only [go_sem,↓reduceIte,reduceCtorEq,Nat.reduceLeDiff,Nat.reduceLT,Nat.reduceBEq,Nat.reduceAdd,hs,hat];(repeat1' with_reducible first|apply And.intro|(intro _;try exact q_v)|(refine hK _ ?_;clear hK K))<;>(try (clear hK K;exact q_u)))|(with_reducible refine q_s ?_;(first|apply q_J|apply q_K|apply q_L|apply q_M|apply q_N|apply q_O)<;>try (intro _;try exact q_v)))
    all_goals first | omega | exact q_A rfl | skip
 ·have hi' : i = (bytesOf s).length:=by omega
  subst hi'
  have hg:=good g2
  rw [hg]
  clear bad good
  repeat' (first|with_reducible refine q_0 ?_|((with_reducible first|refine q_q dt1_ok fun K hK=>?_|refine q_r dt1_ok fun K hK=>?_);simp (maxSteps:=2000000) only [go_sem,↓reduceIte,reduceCtorEq,Nat.reduceLeDiff,Nat.reduceLT,Nat.reduceBEq,Nat.reduceAdd,hs,hq];(repeat1' with_reducible first|apply And.intro|(intro _;try exact q_v)|(refine hK _ ?_;clear hK K))<;>(try (clear hK K;exact q_u)))|(with_reducible refine q_s ?_;(first|apply q_J|apply q_K|apply q_L|apply q_M|apply q_N|apply q_O)<;>try (intro _;try exact q_v)))
  all_goals first | omega | exact q_A rfl | skip
def allDigitsCT : CT:=mkCT [] true fun l K=>match l with
 | [.inl (.str s)]=>(bytesOf s).length ≤ 100000 ∧ K (.c (.b (dgs (bytesOf s))))
 | _=>False
def dh1 : Cfg:=addT 101 allDigitsCT cf0
theorem dh1_ok : TblOk Tryz.prog dh1:=q_I cf0_ok Tryz.func101 fun l K h=>by
 split at h
 ·exact ⟨_,(allDigits_ret _ h.1).plain rfl,h.2⟩
 ·exact h.elim
attribute [go_sem] allDigitsCT
def iReadDCT : CT:=mkCT [] false fun l K=>match l with
 | [.inl (.str s),.inl (.i .i64 b)]=>(b = 10 ∧ (bytesOf s).length ≤ 4097) ∧ K (parseO 10 (bytesOf s))
 | _=>False
def dh2 : Cfg:=addT 103 iReadDCT cf0
theorem dh2_ok : TblOk Tryz.prog dh2:=q_I cf0_ok Tryz.func103 fun l K h=>by
 split at h
 ·rename_i s b
  obtain ⟨⟨rfl,h1⟩,h2⟩:=h
  obtain ⟨_,_,hr,_⟩:=iu7_ok.2 103 iParseCT rfl
  exact hr rfl rfl [.inl (.str s),.inl (.i .i64 10)] K ⟨fun h=>by omega,fun _=>⟨fun h=>by omega,fun _=>h2⟩⟩
 ·exact h.elim
attribute [go_sem] iReadDCT
end Go.Proofs.YtgkajjifbcmoeaaGreatDoor

namespace Go.Proofs.YtgkajjifbcmoeaaGreatDoor
set_option linter.unusedSimpArgs false
set_option linter.unusedVariables false
open Go.Abs Go.Proofs.NatL

theorem mt_so : (ByteArray.mk #[]) = strOf []:=rfl
theorem dot_so : (ByteArray.mk #[46]) = strOf [46]:=rfl
def dt2 : Cfg:=listT [(78,atCT),(98,sCutPCT),(99,sCutCT),(102,trimLCT),(101,allDigitsCT),(103,iReadDCT),(74,infiniteCT),(72,noneDCT)] [34]
theorem dt2_ok : TblOk Tryz.prog dt2:=listE_ok (by simp only [List.mem_singleton,forall_eq]; exact flt) ⟨⟨de6,de6_ok,rfl⟩,⟨sd8,sd8_ok,rfl⟩,⟨sd4,sd4_ok,rfl⟩,⟨sd10,sd10_ok,rfl⟩,⟨dh1,dh1_ok,rfl⟩,⟨dh2,dh2_ok,rfl⟩,⟨de2,de2_ok,rfl⟩,⟨df3,df3_ok,rfl⟩,trivial⟩
attribute [go_sem] dt2
set_option maxRecDepth 100000 in
set_option maxHeartbeats 3200000 in
theorem parse1_ret : Ret Tryz.prog 30 false [.inl (.str { data:=#[49,46,50,48] })] (.t [.inr (gDc ⟨0,false,120,(-2)⟩),fltQ 0 0]):=by
 have b1 : bytesOf { data:=#[49,46,50,48] } = [49,46,50,48]:=rfl
 have b2 : bytesOf { data:=#[45] } = [45]:=rfl
 have b3 : bytesOf { data:=#[69] } = [69]:=rfl
 have b4 : bytesOf { data:=#[46] } = [46]:=rfl
 have b5 : bytesOf { data:=#[48] } = [48]:=rfl
 have s1:=str_size { data:=#[49,46,50,48] }
 rw [b1] at s1
 have p1 : hasP [49,46,50,48] [45] = false:=by decide
 have d1 : ([69] : List Int).getD 0 0 = 69:=rfl
 have d2 : ([46] : List Int).getD 0 0 = 46:=rfl
 have d3 : ([48] : List Int).getD 0 0 = 48:=rfl
 have o1 : bytesOf (strOf [49,46,50,48]) = [49,46,50,48]:=by decide
 have o2 : bytesOf (strOf [49]) = [49]:=by decide
 have o3 : bytesOf (strOf [50,48]) = [50,48]:=by decide
 have o4 : bytesOf (strOf [49,50,48]) = [49,50,48]:=by decide
 have o5 : bytesOf (strOf [49,50,48]) = [49,50,48]:=by decide
 have q1 : ((strOf [49,46,50,48]).toList == (ByteArray.mk #[105,110,102,105,110,105,116,101]).toList) = false:=by rw [str_eq]; decide
 have q2 : ((ByteArray.mk #[49,46,50,48]).toList == (ByteArray.mk #[110,111,110,101]).toList) = false:=by rw [str_eq]; decide
 have q3 : ((strOf [49,50,48]).toList == (ByteArray.mk #[]).toList) = false:=by rw [str_eq]; decide
 have c1 : cutL 69 [49,46,50,48] = [49,46,50,48]:=by decide
 have c2 : cutF 69 [49,46,50,48] = false:=by decide
 have c3 : cutL 46 [49,46,50,48] = [49]:=by decide
 have c4 : cutR 46 [49,46,50,48] = [50,48]:=by decide
 have c5 : cutF 46 [49,46,50,48] = true:=by decide
 have g1 : dgs [49] = true:=by decide
 have g2 : dgs [50,48] = true:=by decide
 have a1 : strOf [49] ++ strOf [50,48] = strOf [49,50,48]:=so_app _ _
 have t1 : dropC 48 [49,50,48] = [49,50,48]:=by decide
 have z1:=so_size [50,48]
 have z2:=so_size [49,50,48]
 have z3:=so_size [49]
 have hp : parseO 10 [49,50,48] = .t [.inr (gI 120),fltQ 0 0]:=by
  have h : pz 10 [49,50,48] = some 120:=by decide
  obtain ⟨f1,f2,f3⟩:=cl_fit (k:=128) (z:=120) (by decide)
  unfold parseO; rw [h]; simp only; rw [f1,f2,f3]
 (refine q_H Tryz.func30 (fun F=>?_); simp only [q_z,q_y,Tryz.ntmps30,Tryz.results30])
 repeat' (first|with_reducible refine q_0 ?_|((with_reducible first|refine q_q dt2_ok fun K hK=>?_|refine q_r dt2_ok fun K hK=>?_);simp (maxSteps:=2000000) only [go_sem,↓reduceIte,reduceCtorEq,Nat.reduceLeDiff,Nat.reduceLT,Nat.reduceBEq,Nat.reduceAdd,d1,d2,d3,s1,b1,b2,b3,b4,b5,p1,o1,o2,o3,o4,o5,q1,q2,q3,c1,c2,c3,c4,c5,g1,g2,a1,t1,z1,z2,z3,hp];(repeat1' with_reducible first|apply And.intro|(intro _;try exact q_v)|(refine hK _ ?_;clear hK K))<;>(try (clear hK K;exact q_u)))|(with_reducible refine q_s ?_;(first|apply q_J|apply q_K|apply q_L|apply q_M|apply q_N|apply q_O)<;>try (intro _;try exact q_v)))
 all_goals first | omega | exact q_A rfl | skip
set_option maxRecDepth 100000 in
set_option maxHeartbeats 3200000 in
theorem parse2_ret : Ret Tryz.prog 30 false [.inl (.str { data:=#[48,46,48,48,53] })] (.t [.inr (gDc ⟨0,false,5,(-3)⟩),fltQ 0 0]):=by
 have b1 : bytesOf { data:=#[48,46,48,48,53] } = [48,46,48,48,53]:=rfl
 have b2 : bytesOf { data:=#[45] } = [45]:=rfl
 have b3 : bytesOf { data:=#[69] } = [69]:=rfl
 have b4 : bytesOf { data:=#[46] } = [46]:=rfl
 have b5 : bytesOf { data:=#[48] } = [48]:=rfl
 have s1:=str_size { data:=#[48,46,48,48,53] }
 rw [b1] at s1
 have p1 : hasP [48,46,48,48,53] [45] = false:=by decide
 have d1 : ([69] : List Int).getD 0 0 = 69:=rfl
 have d2 : ([46] : List Int).getD 0 0 = 46:=rfl
 have d3 : ([48] : List Int).getD 0 0 = 48:=rfl
 have o1 : bytesOf (strOf [48,46,48,48,53]) = [48,46,48,48,53]:=by decide
 have o2 : bytesOf (strOf [48]) = [48]:=by decide
 have o3 : bytesOf (strOf [48,48,53]) = [48,48,53]:=by decide
 have o4 : bytesOf (strOf [48,48,48,53]) = [48,48,48,53]:=by decide
 have o5 : bytesOf (strOf [53]) = [53]:=by decide
 have q1 : ((strOf [48,46,48,48,53]).toList == (ByteArray.mk #[105,110,102,105,110,105,116,101]).toList) = false:=by rw [str_eq]; decide
 have q2 : ((ByteArray.mk #[48,46,48,48,53]).toList == (ByteArray.mk #[110,111,110,101]).toList) = false:=by rw [str_eq]; decide
 have q3 : ((strOf [53]).toList == (ByteArray.mk #[]).toList) = false:=by rw [str_eq]; decide
 have c1 : cutL 69 [48,46,48,48,53] = [48,46,48,48,53]:=by decide
 have c2 : cutF 69 [48,46,48,48,53] = false:=by decide
 have c3 : cutL 46 [48,46,48,48,53] = [48]:=by decide
 have c4 : cutR 46 [48,46,48,48,53] = [48,48,53]:=by decide
 have c5 : cutF 46 [48,46,48,48,53] = true:=by decide
 have g1 : dgs [48] = true:=by decide
 have g2 : dgs [48,48,53] = true:=by decide
 have a1 : strOf [48] ++ strOf [48,48,53] = strOf [48,48,48,53]:=so_app _ _
 have t1 : dropC 48 [48,48,48,53] = [53]:=by decide
 have z1:=so_size [48,48,53]
 have z2:=so_size [53]
 have z3:=so_size [48]
 have hp : parseO 10 [53] = .t [.inr (gI 5),fltQ 0 0]:=by
  have h : pz 10 [53] = some 5:=by decide
  obtain ⟨f1,f2,f3⟩:=cl_fit (k:=128) (z:=5) (by decide)
  unfold parseO; rw [h]; simp only; rw [f1,f2,f3]
 (refine q_H Tryz.func30 (fun F=>?_); simp only [q_z,q_y,Tryz.ntmps30,Tryz.results30])
 repeat' (first|with_reducible refine q_0 ?_|((with_reducible first|refine q_q dt2_ok fun K hK=>?_|refine q_r dt2_ok fun K hK=>?_);simp (maxSteps:=2000000) only [go_sem,↓reduceIte,reduceCtorEq,Nat.reduceLeDiff,Nat.reduceLT,Nat.reduceBEq,Nat.reduceAdd,d1,d2,d3,s1,b1,b2,b3,b4,b5,p1,o1,o2,o3,o4,o5,q1,q2,q3,c1,c2,c3,c4,c5,g1,g2,a1,t1,z1,z2,z3,hp];(repeat1' with_reducible first|apply And.intro|(intro _;try exact q_v)|(refine hK _ ?_;clear hK K))<;>(try (clear hK K;exact q_u)))|(with_reducible refine q_s ?_;(first|apply q_J|apply q_K|apply q_L|apply q_M|apply q_N|apply q_O)<;>try (intro _;try exact q_v)))
 all_goals first | omega | exact q_A rfl | skip
def dt3 : Cfg:=listT [(78,atCT),(62,validDCT),(79,iTextCT)] [34]
theorem dt3_ok : TblOk Tryz.prog dt3:=listE_ok (by simp only [List.mem_singleton,forall_eq]; exact flt) ⟨⟨de6,de6_ok,rfl⟩,⟨de4,de4_ok,rfl⟩,⟨iu2,iu2_ok,rfl⟩,trivial⟩
attribute [go_sem] dt3
set_option maxRecDepth 100000 in
set_option maxHeartbeats 3200000 in
theorem text1_ret : Ret Tryz.prog 17 false [.inr (gDc ⟨0,false,120, -2⟩)] (.t [.inl (.str (strOf [49,46,50,48])),fltQ 0 0]):=by
 obtain ⟨U,hU⟩ : ∃ x : Nat,x = 120:=⟨_,rfl⟩
 rw [← hU]
 have o1 : okD 0 false false (dg 4294967296 U) (-2) = true:=okD_g (D:=⟨0,false,U, -2⟩) (.inl ⟨rfl,by simp,by simp,by rw [hU]; decide⟩)
 have o2 : okZ false (dg 4294967296 U) = true:=okZ_n' (by rw [hU]; decide)
 have lU : (dg 4294967296 U).length ≤ 128:=by rw [hU]; decide
 have ht : textI (sv 4294967296 false (dg 4294967296 U)) 10 = [49,50,48]:=by rw [hU]; decide
 have ten : (10 : Int).toNat = 10:=rfl
 have z1:=so_size [49,50,48]
 have x1 : (strOf [49,50,48]).extract 0 1 = strOf [49]:=by rw [so_sub]; rfl
 have x2 : (strOf [49,50,48]).extract 1 3 = strOf [50,48]:=by rw [so_sub]; rfl
 have e2 : strOf [49,46,50,48] = strOf [] ++ strOf [49] ++ strOf [46] ++ strOf [50,48]:=by rw [so_app,so_app,so_app]; rfl
 have e3 : (((3 : Nat) : Int) + -2).toNat = 1:=rfl
 have s0:=so_size []
 have s1:=so_size [46]
 have s2:=so_size [49]
 have s3 : (strOf [50,48]).size = 2:=so_size _
 have s4 : (strOf [] ++ strOf [49]).size = 1:=by rw [so_app,so_size]; rfl
 have s5 : (strOf [] ++ strOf [49] ++ strOf [46]).size = 2:=by rw [so_app,so_app,so_size]; rfl
 clear hU
 (refine q_H Tryz.func17 (fun F=>?_); simp only [q_z,q_y,Tryz.ntmps17,Tryz.results17])
 repeat' (first|with_reducible refine q_0 ?_|((with_reducible first|refine q_q dt3_ok fun K hK=>?_|refine q_r dt3_ok fun K hK=>?_);simp (maxSteps:=2000000) only [go_sem,↓reduceIte,reduceCtorEq,Nat.reduceLeDiff,Nat.reduceLT,Nat.reduceBEq,Nat.reduceAdd,o1,o2,ht,ten,z1,x1,x2,mt_so,dot_so,s0,s1,s2,s3,s4,s5,e3,to_nat1];(repeat1' with_reducible first|apply And.intro|(intro _;try exact q_v)|(refine hK _ ?_;clear hK K))<;>(try (clear hK K;exact q_u)))|(with_reducible refine q_s ?_;(first|apply q_J|apply q_K|apply q_L|apply q_M|apply q_N|apply q_O)<;>try (intro _;try exact q_v)))
 all_goals first | omega | exact q_A (by rw [e2]; rfl) | skip
set_option maxRecDepth 100000 in
set_option maxHeartbeats 3200000 in
theorem text2_ret : Ret Tryz.prog 17 false [.inr (gDc ⟨0,false,121, -2⟩)] (.t [.inl (.str (strOf [49,46,50,49])),fltQ 0 0]):=by
 obtain ⟨U,hU⟩ : ∃ x : Nat,x = 121:=⟨_,rfl⟩
 rw [← hU]
 have o1 : okD 0 false false (dg 4294967296 U) (-2) = true:=okD_g (D:=⟨0,false,U, -2⟩) (.inl ⟨rfl,by simp,by simp,by rw [hU]; decide⟩)
 have o2 : okZ false (dg 4294967296 U) = true:=okZ_n' (by rw [hU]; decide)
 have lU : (dg 4294967296 U).length ≤ 128:=by rw [hU]; decide
 have ht : textI (sv 4294967296 false (dg 4294967296 U)) 10 = [49,50,49]:=by rw [hU]; decide
 have ten : (10 : Int).toNat = 10:=rfl
 have z1:=so_size [49,50,49]
 have x1 : (strOf [49,50,49]).extract 0 1 = strOf [49]:=by rw [so_sub]; rfl
 have x2 : (strOf [49,50,49]).extract 1 3 = strOf [50,49]:=by rw [so_sub]; rfl
 have e2 : strOf [49,46,50,49] = strOf [] ++ strOf [49] ++ strOf [46] ++ strOf [50,49]:=by rw [so_app,so_app,so_app]; rfl
 have e3 : (((3 : Nat) : Int) + -2).toNat = 1:=rfl
 have s0:=so_size []
 have s1:=so_size [46]
 have s2:=so_size [49]
 have s3 : (strOf [50,49]).size = 2:=so_size _
 have s4 : (strOf [] ++ strOf [49]).size = 1:=by rw [so_app,so_size]; rfl
 have s5 : (strOf [] ++ strOf [49] ++ strOf [46]).size = 2:=by rw [so_app,so_app,so_size]; rfl
 clear hU
 (refine q_H Tryz.func17 (fun F=>?_); simp only [q_z,q_y,Tryz.ntmps17,Tryz.results17])
 repeat' (first|with_reducible refine q_0 ?_|((with_reducible first|refine q_q dt3_ok fun K hK=>?_|refine q_r dt3_ok fun K hK=>?_);simp (maxSteps:=2000000) only [go_sem,↓reduceIte,reduceCtorEq,Nat.reduceLeDiff,Nat.reduceLT,Nat.reduceBEq,Nat.reduceAdd,o1,o2,ht,ten,z1,x1,x2,mt_so,dot_so,s0,s1,s2,s3,s4,s5,e3,to_nat1];(repeat1' with_reducible first|apply And.intro|(intro _;try exact q_v)|(refine hK _ ?_;clear hK K))<;>(try (clear hK K;exact q_u)))|(with_reducible refine q_s ?_;(first|apply q_J|apply q_K|apply q_L|apply q_M|apply q_N|apply q_O)<;>try (intro _;try exact q_v)))
 all_goals first | omega | exact q_A (by rw [e2]; rfl) | skip
end Go.Proofs.YtgkajjifbcmoeaaGreatDoor

namespace Go.Proofs.YtgkajjifbcmoeaaGreatDoor
set_option linter.unusedSimpArgs false
set_option linter.unusedVariables false
open Go.Abs Go.Proofs.NatL

def exParseCT : CT:=mkCT [] false fun l K=>match l with
 | [.inl (.str s)]=>(bytesOf s = [49,46,50,48] → K (.t [.inr (gDc ⟨0,false,120, -2⟩),fltQ 0 0])) ∧ (bytesOf s = [48,46,48,48,53] → K (.t [.inr (gDc ⟨0,false,5, -3⟩),fltQ 0 0])) ∧ (bytesOf s = [49,46,50,48] ∨ bytesOf s = [48,46,48,48,53])
 | _=>False
def dh3 : Cfg:=addT 30 exParseCT cf0
theorem dh3_ok : TblOk Tryz.prog dh3:=q_I cf0_ok Tryz.func30 fun l K h=>by
 split at h
 ·rename_i s
  obtain ⟨h1,h2,h3⟩:=h
  rcases h3 with h3 | h3
  ·have e : s = { data:=#[49,46,50,48] }:=bytes_inj h3
   exact ⟨_,by rw [e]; exact parse1_ret,h1 h3⟩
  ·have e : s = { data:=#[48,46,48,48,53] }:=bytes_inj h3
   exact ⟨_,by rw [e]; exact parse2_ret,h2 h3⟩
 ·exact h.elim
def exTextCT : CT:=mkCT [nDc] false fun l K=>match l with
 | [.inr [.i .i64 k,.b s,.b a,.ints .u32 xs,.i .i64 e]]=>(k = 0 ∧ s = false ∧ a = false ∧ e = -2 ∧ InB 4294967296 xs ∧ Trd xs) ∧ (V 4294967296 xs = 120 → K (.t [.inl (.str (strOf [49,46,50,48])),fltQ 0 0])) ∧ (V 4294967296 xs = 121 → K (.t [.inl (.str (strOf [49,46,50,49])),fltQ 0 0])) ∧ (V 4294967296 xs = 120 ∨ V 4294967296 xs = 121)
 | _=>False
def dh4 : Cfg:=addT 17 exTextCT cf0
theorem dh4_ok : TblOk Tryz.prog dh4:=q_I cf0_ok Tryz.func17 fun l K h=>by
 split at h
 ·rename_i k s a xs e
  obtain ⟨⟨rfl,rfl,rfl,rfl,h4,h5⟩,h1,h2,h3⟩:=h
  have e1:=dg_V 4294967296 (by omega) xs h4 h5
  rcases h3 with h3 | h3
  ·have:=text1_ret
   rw [h3] at e1
   simp only [gDc,e1] at this
   exact ⟨_,this,h1 h3⟩
  ·have:=text2_ret
   rw [h3] at e1
   simp only [gDc,e1] at this
   exact ⟨_,this,h2 h3⟩
 ·exact h.elim
attribute [go_sem] exParseCT exTextCT
theorem exA1 : addD ⟨0,false,120, -2⟩ ⟨0,false,5, -3⟩ ⟨3,6, -99,99⟩ = ⟨0,false,120, -2⟩:=by rfl
theorem exS1 : addS ⟨0,false,120, -2⟩ ⟨0,false,5, -3⟩ ⟨3,6, -99,99⟩ = 1:=by rfl
theorem exA2 : addD ⟨0,false,120, -2⟩ ⟨0,false,5, -3⟩ ⟨3,1, -99,99⟩ = ⟨0,false,121, -2⟩:=by rfl
theorem exS2 : addS ⟨0,false,120, -2⟩ ⟨0,false,5, -3⟩ ⟨3,1, -99,99⟩ = 1:=by rfl
def dt4 : Cfg:=listT [(30,exParseCT),(17,exTextCT),(24,(op2CT addD addS))] [34]
theorem dt4_ok : TblOk Tryz.prog dt4:=listE_ok (by simp only [List.mem_singleton,forall_eq]; exact flt) ⟨⟨dh3,dh3_ok,rfl⟩,⟨dh4,dh4_ok,rfl⟩,⟨dg1x,dg1x_ok,rfl⟩,trivial⟩
attribute [go_sem] dt4
set_option maxRecDepth 100000 in
set_option maxHeartbeats 3200000 in
theorem tenths_ret : Ret Tryz.prog 31 false [] (.c (.b true)):=by
 have b1 : bytesOf { data:=#[49,46,50,48] } = [49,46,50,48]:=rfl
 have b2 : bytesOf { data:=#[48,46,48,48,53] } = [48,46,48,48,53]:=rfl
 have n1 : ([49,46,50,48] : List Int) = [48,46,48,48,53] ↔ False:=by decide
 have n2 : ([48,46,48,48,53] : List Int) = [49,46,50,48] ↔ False:=by decide
 have k1 : okCx 3 6 (-99) 99 = true:=rfl
 have k2 : okCx 3 1 (-99) 99 = true:=rfl
 have o1 : okD 0 false false (dg 4294967296 120) (-2) = true:=okD_g (D:=⟨0,false,120, -2⟩) (.inl ⟨rfl,by simp,by simp,by decide⟩)
 have o2 : okD 0 false false (dg 4294967296 5) (-3) = true:=okD_g (D:=⟨0,false,5, -3⟩) (.inl ⟨rfl,by simp,by simp,by decide⟩)
 have l1 : (dg 4294967296 120).length ≤ 128:=by decide
 have l2 : (dg 4294967296 5).length ≤ 128:=by decide
 have a1:=exA1
 have a2:=exA2
 have a3:=exS1
 have a4:=exS2
 have q1 : ((strOf [49,46,50,48]).toList == (ByteArray.mk #[49,46,50,48]).toList) = true:=by rw [str_eq]; decide
 have q2 : ((strOf [49,46,50,49]).toList == (ByteArray.mk #[49,46,50,49]).toList) = true:=by rw [str_eq]; decide
 have w1 : ((120 : Nat) = 121) = False:=by simp
 have w2 : ((121 : Nat) = 120) = False:=by simp
 (refine q_H Tryz.func31 (fun F=>?_); simp only [q_z,q_y,Tryz.ntmps31,Tryz.results31])
 repeat' (first|with_reducible refine q_0 ?_|((with_reducible first|refine q_q dt4_ok fun K hK=>?_|refine q_r dt4_ok fun K hK=>?_);simp (maxSteps:=2000000) only [go_sem,↓reduceIte,reduceCtorEq,Nat.reduceLeDiff,Nat.reduceLT,Nat.reduceBEq,Nat.reduceAdd,b1,b2,n1,n2,k1,k2,o1,o2,V32,a1,a2,a3,a4,q1,q2,w1,w2];(repeat1' with_reducible first|apply And.intro|(intro _;try exact q_v)|(refine hK _ ?_;clear hK K))<;>(try (clear hK K;exact q_u)))|(with_reducible refine q_s ?_;(first|apply q_J|apply q_K|apply q_L|apply q_M|apply q_N|apply q_O)<;>try (intro _;try exact q_v)))
 all_goals first | omega | assumption | exact q_A rfl | skip
def tenthsCT : CT:=mkCT [] true fun l K=>match l with
 | []=>K (.c (.b true))
 | _=>False
def dh5 : Cfg:=addT 31 tenthsCT cf0
theorem dh5_ok : TblOk Tryz.prog dh5:=q_I cf0_ok Tryz.func31 fun l K h=>by
 split at h
 ·exact ⟨_,tenths_ret.plain rfl,h⟩
 ·exact h.elim
attribute [go_sem] tenthsCT
end Go.Proofs.YtgkajjifbcmoeaaGreatDoor

namespace Go.Proofs.YtgkajjifbcmoeaaGreatDoor
set_option linter.unusedSimpArgs false
set_option linter.unusedVariables false
open Go.Abs Go.Proofs.NatL Go.ChangeShapes Go.WideShapes Go.ChangeAt Go.RowKit

theorem own_knob : ownKnob Tryz.prog.godebug = none:=by kernel_rfl
theorem kids : Kids Tryz.prog (· < Tryz.prog.types.size):=kids_rows (by kernel_rfl) (by kernel_rfl)
theorem full : ∀ t e,t < Tryz.prog.types.size → Tryz.prog.underlying t = some (.slice e) → 0 < Tryz.prog.cellsOf e:=slices_full_of Tryz.prog (by kernel_rfl)
theorem cells_u32 : Tryz.prog.cellsOf 105 = 1:=by kernel_rfl
theorem bytes_u32 : Tryz.prog.bytesOf 105 = 4:=by kernel_rfl

theorem u32_in {xs : List Int} (h : ∀ n ∈ xs,(Lit.int .u32 n).wf = true) : InB 4294967296 xs:=fun x hx=>by
 have:=bounds_u32 (h x hx)
 omega

end Go.Proofs.YtgkajjifbcmoeaaGreatDoor

namespace Go.Proofs.YtgkajjifbcmoeaaGreatDoor
set_option linter.unusedSimpArgs false
set_option linter.unusedVariables false
open Go.Abs Go.Proofs.NatL Go.ChangeShapes Go.WideShapes Go.ChangeAt Go.RowKit

theorem cells_bool : Tryz.prog.cellsOf 4 = 1:=by kernel_rfl
theorem cells_limbs : Tryz.prog.cellsOf 22 = 1:=by kernel_rfl

end Go.Proofs.YtgkajjifbcmoeaaGreatDoor

namespace Go.Proofs.YtgkajjifbcmoeaaGreatDoor
set_option linter.unusedSimpArgs false
set_option linter.unusedVariables false
open Go.Abs Go.Proofs.NatL Go.ChangeShapes Go.WideShapes Go.ChangeAt Go.RowKit

set_option maxRecDepth 100000 in
theorem int_cells {H : Type} {enc : TypeId × Value → H} {W : World} {fuel : Nat} {cs : List Value} {x : DataW H × List MemPlace} (h : DataW.trod enc Tryz.prog W 0 (fun _=>true) true fuel 24 cs = some x) (hs : Sized Tryz.prog 24 x.1) :
  ∃ (s : Bool) (xs : List Int),RdL W Top [.b s,.ints .u32 xs] cs ∧ xs.length ≤ 140737488355328 ∧ InB 4294967296 xs:=by
 obtain ⟨y0,y1,n,rfl,hl,h0,h1⟩:=trod_struct2 Tryz.underlying24 h
 simp only at h0 h1 hl
 rw [cells_bool] at h0
 rw [cells_limbs] at h1
 obtain ⟨s,e0,rfl⟩:=DataW.trod_bool Tryz.underlying4 h0
 obtain ⟨xs,u,e1,ho,hrd,hm,hw,hd⟩:=rd_ints Tryz.underlying22 Tryz.underlying105 cells_u32 h1
 obtain ⟨s0,hs'⟩:=szd_cons (szd_struct Tryz.underlying24 hs)
 obtain ⟨s1, -⟩:=szd_cons hs'
 have hl2:=szd_slice (n:=xs.length) Tryz.underlying22 s1 (by
  rcases hd with ⟨h1,h2⟩ | h1
  ·exact .inl ⟨h1,by rw [h2]; rfl⟩
  ·exact .inr h1)
 rw [bytes_u32] at hl2
 have hcells : cs = [.bool s,u]:=by
  have hlen : cs.length = 2:=by rw [hl]; kernel_rfl
  match cs,hlen with
  | [a,b],_ =>
   simp at e0 e1
   rw [e0,e1]
 refine ⟨s,xs,?_,by simp only [reachBytes] at hl2; omega,u32_in hw⟩
 rw [hcells]
 exact rdL_append (rdL_one (.b s)) (rdL_one hrd)

theorem cells_Int : Tryz.prog.cellsOf 24 = 2:=by kernel_rfl

end Go.Proofs.YtgkajjifbcmoeaaGreatDoor

namespace Go.Proofs.YtgkajjifbcmoeaaGreatDoor
set_option linter.unusedSimpArgs false
set_option linter.unusedVariables false
open Go.Abs Go.Proofs.NatL Go.ChangeShapes Go.WideShapes Go.ChangeAt Go.RowKit

set_option maxRecDepth 100000 in
theorem open_Ratio {H : Type} {enc : TypeId × Value → H} {W : World} {base : Nat} {v : Value} {d : DataW H} {p : List MemPlace} (hval : Value.okWide Tryz.prog W .any base 41 v) (h : DataW.Trod enc Tryz.prog W 0 (fun _=>true) true 41 v d p) (hs : Sized Tryz.prog 41 d) :
  ∃ (s0 : Bool) (xs0 : List Int) (s1 : Bool) (xs1 : List Int),RdS W Top (.inr [.b s0,.ints .u32 xs0,.b s1,.ints .u32 xs1]) v ∧
   (xs0.length ≤ 140737488355328 ∧ xs1.length ≤ 140737488355328) ∧ (InB 4294967296 xs0 ∧ InB 4294967296 xs1):=by
 obtain ⟨cs,rfl,hcs⟩:=okWide_struct Tryz.underlying41 hval
 obtain ⟨fuel,hf⟩:=h
 obtain ⟨ys,n,_,hy,hl,hlen,hfs⟩:=DataW.trod_struct Tryz.underlying41 hf
 cases hy
 match ys,hlen with
 | [y0,y1],_ =>
 have f0 : DataW.trod enc Tryz.prog W 0 (fun _=>true) true n 24 ((cs.toList.drop 0).take (Tryz.prog.cellsOf 24)) = some y0:=hfs 0 _ rfl
 rw [cells_Int] at f0
 have f1 : DataW.trod enc Tryz.prog W 0 (fun _=>true) true n 24 ((cs.toList.drop 2).take (Tryz.prog.cellsOf 24)) = some y1:=hfs 1 _ rfl
 rw [cells_Int] at f1
 have hl : cs.toList.length = Tryz.prog.cellsOf 41:=hl
 obtain ⟨z0,hs⟩:=szd_cons (szd_struct Tryz.underlying41 hs)
 obtain ⟨z1,hs⟩:=szd_cons hs
 obtain ⟨s0,xs0,r0,l0,b0⟩:=int_cells f0 z0
 obtain ⟨s1,xs1,r1,l1,b1⟩:=int_cells f1 z1
 refine ⟨s0,xs0,s1,xs1,⟨cs,rfl,?_⟩,⟨l0,l1⟩,⟨b0,b1⟩⟩
 have hlen : cs.toList.length = 4:=by rw [hl]; kernel_rfl
 match hq : cs.toList,hlen with
 | [a0,a1,a2,a3],_ =>
 rw [hq] at r0 r1
 simp only [List.drop_zero,List.drop_succ_cons,List.take_succ_cons,List.take_zero,List.cons.injEq,and_true] at r0 r1
 exact rdL_append r0 r1
end Go.Proofs.YtgkajjifbcmoeaaGreatDoor

namespace Go.Proofs.YtgkajjifbcmoeaaGreatDoor
set_option linter.unusedSimpArgs false
set_option linter.unusedVariables false
open Go.Abs Go.Proofs.NatL Go.ChangeShapes Go.WideShapes Go.ChangeAt Go.RowKit

theorem cells_int : Tryz.prog.cellsOf 3 = 1:=by kernel_rfl
set_option maxRecDepth 100000 in
theorem open_Context {H : Type} {enc : TypeId × Value → H} {W : World} {base : Nat} {v : Value} {d : DataW H} {p : List MemPlace} (hval : Value.okWide Tryz.prog W .any base 28 v) (h : DataW.Trod enc Tryz.prog W 0 (fun _=>true) true 28 v d p) :
  ∃ (k l m n : Int),RdS W Top (.inr [.i .i64 k,.i .i64 l,.i .i64 m,.i .i64 n]) v:=by
 obtain ⟨cs,rfl,hcs⟩:=okWide_struct Tryz.underlying28 hval
 obtain ⟨fuel,hf⟩:=h
 obtain ⟨ys,n,_,hy,hl,hlen,hfs⟩:=DataW.trod_struct Tryz.underlying28 hf
 cases hy
 match ys,hlen with
 | [y0,y1,y2,y3],_ =>
 have f0 : DataW.trod enc Tryz.prog W 0 (fun _=>true) true n 3 ((cs.toList.drop 0).take (Tryz.prog.cellsOf 3)) = some y0:=hfs 0 _ rfl
 rw [cells_int] at f0
 have f1 : DataW.trod enc Tryz.prog W 0 (fun _=>true) true n 3 ((cs.toList.drop 1).take (Tryz.prog.cellsOf 3)) = some y1:=hfs 1 _ rfl
 rw [cells_int] at f1
 have f2 : DataW.trod enc Tryz.prog W 0 (fun _=>true) true n 3 ((cs.toList.drop 2).take (Tryz.prog.cellsOf 3)) = some y2:=hfs 2 _ rfl
 rw [cells_int] at f2
 have f3 : DataW.trod enc Tryz.prog W 0 (fun _=>true) true n 3 ((cs.toList.drop 3).take (Tryz.prog.cellsOf 3)) = some y3:=hfs 3 _ rfl
 rw [cells_int] at f3
 have hl : cs.toList.length = Tryz.prog.cellsOf 28:=hl
 obtain ⟨k0,e0,_,_⟩:=DataW.trod_int Tryz.underlying3 f0
 obtain ⟨k1,e1,_,_⟩:=DataW.trod_int Tryz.underlying3 f1
 obtain ⟨k2,e2,_,_⟩:=DataW.trod_int Tryz.underlying3 f2
 obtain ⟨k3,e3,_,_⟩:=DataW.trod_int Tryz.underlying3 f3
 refine ⟨k0,k1,k2,k3,⟨cs,rfl,?_⟩⟩
 have hlen : cs.toList.length = 4:=by rw [hl]; kernel_rfl
 match hq : cs.toList,hlen with
 | [a0,a1,a2,a3],_ =>
 rw [hq] at e0 e1 e2 e3
 simp only [List.drop_zero,List.drop_succ_cons,List.take_succ_cons,List.take_zero,List.cons.injEq,and_true] at e0 e1 e2 e3
 subst e0; subst e1; subst e2; subst e3
 exact rdL_append (rdL_one (.i .i64 _)) (rdL_append (rdL_one (.i .i64 _)) (rdL_append (rdL_one (.i .i64 _)) (rdL_one (.i .i64 _))))
end Go.Proofs.YtgkajjifbcmoeaaGreatDoor
