import Derived.Test.YtncededjmcmidaaV12
import Derived.Test.YtncededjmcmidaaV6
namespace Go.Proofs.Ytncededjmcmidaa
set_option linter.unusedSimpArgs false
set_option linter.unusedVariables false
open Go.Abs Go.Proofs.NatL

set_option maxRecDepth 100000 in
set_option maxHeartbeats 16000000 in
theorem hcodes_ret (l : List Int) (hl : l.length ≤ 140737488355328) : Ret Try.prog 3 false [.inl (.ints .i64 l)] (.c (.b true)):=by
 have hs : okSd l 0:=⟨by omega,by omega,hl⟩
 have hw:=wF_ok hs
 generalize hW : wF l 0 = W at *
 obtain ⟨os,k0⟩:=W
 obtain ⟨hs1,hwk,_⟩:=hw
 simp only at hs1 hwk
 have hp:=hwk.pr
 have ho:=hwk.h
 have hn:=hwk.n
 have hd:=dO_map hp
 (refine q_H Try.func3 (fun F=>?_); simp only [q_z,q_y,Try.ntmps3,Try.results3])
 refine seq_cut5 (ι:={ p : Vl × Vl // OkW os.length p.1 ∧ OkW os.length p.2 }) (fun p=>⟨133,[(4,.bx 3 0),(6,.bx 10 0),(7,.bx 11 0)],⟨[(3,[.c (.sl 10 (os.map obC))]),(10,vcA p.1.1),(11,vcA p.1.2)],[],[]⟩,12⟩) (fun Y hY=>?_) ?_
 ·refine seq_cut3 (ι:=Unit) (fun _=>⟨133,[(3,.bx 0 0),(4,.bx 3 0),(5,.c (.i .i64 50))],⟨[(0,sB l k0),(3,[.c (.sl 10 (os.map obC))])],[],[]⟩,4⟩) (fun Z hZ=>?_) ?_
  ·repeat' (first|with_reducible refine q_0 ?_|((with_reducible first|refine q_q ha17_ok fun K hK=>?_|refine q_r ha17_ok fun K hK=>?_);simp (maxSteps:=2000000) only [go_sem,↓reduceIte,reduceCtorEq,Nat.reduceLeDiff,Nat.reduceLT,Nat.reduceBEq,Nat.reduceAdd,hW,List.length_map];(repeat1' with_reducible first|apply And.intro|(intro _;try exact q_v)|(refine hK _ ?_;clear hK K))<;>(try (clear hK K;exact q_u)))|(with_reducible refine q_s ?_;(first|apply q_J|apply q_K|apply q_L|apply q_M|apply q_N|apply q_O)<;>try (intro _;try exact q_v)))
   all_goals first | omega | contradiction | exact hs | exact cut_fit hZ () (by exact q_D) | skip
  rintro ⟨⟩
  refine q_a ?_
  (refine awp_late ha17_ok [.k,.k,.k,.k,.k,.k,.k,.k,.l,.l,.t,.t] (fun K hK=>?_);simp (maxSteps:=2000000) only [go_sem,↓reduceIte,reduceCtorEq,Nat.reduceLeDiff,Nat.reduceLT,Nat.reduceBEq,Nat.reduceAdd,List.length_map];(repeat1' with_reducible first|apply And.intro|(intro _;try exact q_v)|(refine hK _ ?_;clear hK K))<;>(try (clear hK K;exact q_u)))
  all_goals first | omega | exact hs1 | exact keep_of [3,3] ⟨rfl,rfl,trivial⟩ | skip
  rename_i v1 v2 v3 v4
  have w1:=okW_of v1
  have w2:=okW_of v3
  have k4:=nxV_in l (vaK l (vaK l k0 os.length 50) os.length 50) (n:=20) (by omega)
  repeat' (first|with_reducible refine q_0 ?_|((with_reducible first|refine q_q ha17_ok fun K hK=>?_|refine q_r ha17_ok fun K hK=>?_);simp (maxSteps:=2000000) only [go_sem,↓reduceIte,reduceCtorEq,Nat.reduceLeDiff,Nat.reduceLT,Nat.reduceBEq,Nat.reduceAdd,List.length_map];(repeat1' with_reducible first|apply And.intro|(intro _;try exact q_v)|(refine hK _ ?_;clear hK K))<;>(try (clear hK K;exact q_u)))|(with_reducible refine q_s ?_;(first|apply q_J|apply q_K|apply q_L|apply q_M|apply q_N|apply q_O)<;>try (intro _;try exact q_v)))
  all_goals first | omega | exact v4 | skip
  ·exact cut_fit hY ⟨(⟨9,false,[],false,[],ByteArray.empty,0⟩,_),okW_zero _ 9 (by omega),w2⟩ (by exact q_D)
  ·exact cut_fit hY ⟨(_,_),w1,w2⟩ (by exact q_D)
 ·rintro ⟨⟨v,u⟩,hv,hu⟩
  simp only at hv hu ⊢
  have hv1:=(keyF_in ho hv).1
  have hu1:=(keyF_in ho hu).1
  have hv2:=(keyF_in ho hv).2
  have hz:=keyF_z os v
  have hz':=keyF_z os u
  obtain ⟨k,a,x,b,y,t,r⟩:=v
  obtain ⟨k',a',x',b',y',t',r'⟩:=u
  have hsm : smF os ⟨k,a,x,b,y,t,r⟩ ⟨k',a',x',b',y',t',r'⟩ = smF os ⟨k,a,x,b,y,t,r⟩ ⟨k',a',x',b',y',t',r'⟩:=rfl
  conv at hsm=>rhs; unfold smF
  generalize hS : smF os ⟨k,a,x,b,y,t,r⟩ ⟨k',a',x',b',y',t',r'⟩ = S at *
  generalize hX : keyF os ⟨k,a,x,b,y,t,r⟩ = X at *
  generalize hY : keyF os ⟨k',a',x',b',y',t',r'⟩ = Z at *
  obtain ⟨xs,c1,i1⟩:=X
  obtain ⟨ys,c2,i2⟩:=Z
  simp only at hv1 hu1 hv2 hz hz' hsm
  have h12:=strOf_cmp hu1 hv1
  have h11 : ((strOf xs).toList == (strOf xs).toList) = true:=by simp
  simp only [vcA]
  by_cases h1 : c1 = 0
  ·subst h1
   obtain rfl:=hz rfl
   rw [if_neg (by simp)] at hsm
   by_cases h2 : c2 = 0
   ·subst h2
    obtain rfl:=hz' rfl
    rw [if_neg (by simp)] at hsm
    subst hsm
    repeat' (first|with_reducible refine q_0 ?_|((with_reducible first|refine q_q ha17_ok fun K hK=>?_|refine q_r ha17_ok fun K hK=>?_);simp (maxSteps:=2000000) only [go_sem,↓reduceIte,reduceCtorEq,Nat.reduceLeDiff,Nat.reduceLT,Nat.reduceBEq,Nat.reduceAdd,hd,hX,hY,hS,h11,h12];(repeat1' with_reducible first|apply And.intro|(intro _;try exact q_v)|(refine hK _ ?_;clear hK K))<;>(try (clear hK K;exact q_u)))|(with_reducible refine q_s ?_;(first|apply q_J|apply q_K|apply q_L|apply q_M|apply q_N|apply q_O)<;>try (intro _;try exact q_v)))
    all_goals first | omega | contradiction | exact hp _ (by assumption) | exact q_A (by by_cases e : xs = ys <;> simp [e,eq_comm,resAV,q_y]) | skip
   ·rw [if_pos h2] at hsm
    subst hsm
    repeat' (first|with_reducible refine q_0 ?_|((with_reducible first|refine q_q ha17_ok fun K hK=>?_|refine q_r ha17_ok fun K hK=>?_);simp (maxSteps:=2000000) only [go_sem,↓reduceIte,reduceCtorEq,Nat.reduceLeDiff,Nat.reduceLT,Nat.reduceBEq,Nat.reduceAdd,hd,hX,hY,hS,h11,h12];(repeat1' with_reducible first|apply And.intro|(intro _;try exact q_v)|(refine hK _ ?_;clear hK K))<;>(try (clear hK K;exact q_u)))|(with_reducible refine q_s ?_;(first|apply q_J|apply q_K|apply q_L|apply q_M|apply q_N|apply q_O)<;>try (intro _;try exact q_v)))
    all_goals first | omega | contradiction | exact hp _ (by assumption) | exact q_A rfl | skip
  ·rw [if_pos h1] at hsm
   subst hsm
   repeat' (first|with_reducible refine q_0 ?_|((with_reducible first|refine q_q ha17_ok fun K hK=>?_|refine q_r ha17_ok fun K hK=>?_);simp (maxSteps:=2000000) only [go_sem,↓reduceIte,reduceCtorEq,Nat.reduceLeDiff,Nat.reduceLT,Nat.reduceBEq,Nat.reduceAdd,hd,hX,hY,hS,h11,h12];(repeat1' with_reducible first|apply And.intro|(intro _;try exact q_v)|(refine hK _ ?_;clear hK K))<;>(try (clear hK K;exact q_u)))|(with_reducible refine q_s ?_;(first|apply q_J|apply q_K|apply q_L|apply q_M|apply q_N|apply q_O)<;>try (intro _;try exact q_v)))
   all_goals first | omega | contradiction | exact hp _ (by assumption) | exact q_A rfl | skip
end Go.Proofs.Ytncededjmcmidaa
