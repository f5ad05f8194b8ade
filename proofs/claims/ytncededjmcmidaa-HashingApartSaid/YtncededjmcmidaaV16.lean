import Derived.Test.YtncededjmcmidaaV12
import Derived.Test.YtncededjmcmidaaV15
namespace Go.Proofs.Ytncededjmcmidaa
set_option linter.unusedSimpArgs false
set_option linter.unusedVariables false
open Go.Abs Go.Proofs.NatL

theorem take_cmp {os : List Ob} (ho : HOk os) {u v : Vl} (hu : OkW os.length u) (hv : OkW os.length v) (h1 : (keyF os u).2.1 = 0) (h2 : (keyF os v).2.1 = 0) : decide ((keyF os u).1 = (keyF os v).1.take (keyF os u).1.length) = decide ((keyF os u).1 = (keyF os v).1):=by
 rw [decide_eq_decide]
 refine ⟨keyF_free ho hu hv h1 h2,fun h=>?_⟩
 rw [← h,List.take_length]
theorem keyF_nil (os : List Ob) (v : Vl) (h : (keyF os v).2.1 ≠ 0) : (keyF os v).1 = []:=by
 have hk:=cvL_key os 1000 [v] []
 have hkF : keyF os v = keyG os 1000 [v] []:=rfl
 rw [hkF] at h ⊢
 by_cases h0 : (cvL os 1000 [v] []).2.2.1 = 0
 ·rw [(hk.1 h0).1] at h; exact absurd rfl h
 ·rw [hk.2 h0]
theorem inB_take {B : Nat} {xs : List Int} (h : InB B xs) (n : Nat) : InB B (xs.take n):=fun x hx=>h x (List.mem_of_mem_take hx)
set_option maxRecDepth 100000 in
set_option maxHeartbeats 16000000 in
theorem hapart_ret (l : List Int) (hl : l.length ≤ 140737488355328) : Ret Try.prog 4 false [.inl (.ints .i64 l)] (.c (.b true)):=by
 have hs : okSd l 0:=⟨by omega,by omega,hl⟩
 have hw:=wF_ok hs
 generalize hW : wF l 0 = W at *
 obtain ⟨os,k0⟩:=W
 obtain ⟨hs1,hwk,_⟩:=hw
 simp only at hs1 hwk
 have hp:=hwk.pr
 have ho:=hwk.h
 have hn:=hwk.n
 have hd:=dO_map hp
 (refine q_H Try.func4 (fun F=>?_); simp only [q_z,q_y,Try.ntmps4,Try.results4])
 refine seq_cut4 (ι:={ p : Vl × Vl // OkW os.length p.1 ∧ OkW os.length p.2 }) (fun p=>⟨99,[(4,.bx 3 0),(6,.bx 10 0),(7,.bx 11 0)],⟨[(3,[.c (.sl 10 (os.map obC))]),(10,vcA p.1.1),(11,vcA p.1.2)],[],[]⟩,12⟩) (fun Y hY=>?_) ?_
 ·refine seq_cut3 (ι:=Unit) (fun _=>⟨99,[(3,.bx 0 0),(4,.bx 3 0),(5,.c (.i .i64 50))],⟨[(0,sB l k0),(3,[.c (.sl 10 (os.map obC))])],[],[]⟩,4⟩) (fun Z hZ=>?_) ?_
  ·repeat' (first|with_reducible refine q_0 ?_|((with_reducible first|refine q_q ha17_ok fun K hK=>?_|refine q_r ha17_ok fun K hK=>?_);simp (maxSteps:=2000000) only [go_sem,↓reduceIte,reduceCtorEq,Nat.reduceLeDiff,Nat.reduceLT,Nat.reduceBEq,Nat.reduceAdd,hW,List.length_map];(repeat1' with_reducible first|apply And.intro|(intro _;try exact q_v)|(refine hK _ ?_;clear hK K))<;>(try (clear hK K;exact q_u)))|(with_reducible refine q_s ?_;(first|apply q_J|apply q_K|apply q_L|apply q_M|apply q_N|apply q_O)<;>try (intro _;try exact q_v)))
   all_goals first | omega | contradiction | exact hs | exact cut_fit hZ () (by exact q_D) | skip
  rintro ⟨⟩
  refine q_a ?_
  (refine awp_late ha17_ok [.k,.k,.k,.k,.k,.k,.k,.k,.l,.l,.t,.t] (fun K hK=>?_);simp (maxSteps:=2000000) only [go_sem,↓reduceIte,reduceCtorEq,Nat.reduceLeDiff,Nat.reduceLT,Nat.reduceBEq,Nat.reduceAdd,List.length_map];(repeat1' with_reducible first|apply And.intro|(intro _;try exact q_v)|(refine hK _ ?_;clear hK K))<;>(try (clear hK K;exact q_u)))
  all_goals first | omega | exact hs1 | exact keep_of [3,3] ⟨rfl,rfl,trivial⟩ | skip
  rename_i v1 v2 v3 v4
  repeat' (first|with_reducible refine q_0 ?_|((with_reducible first|refine q_q ha17_ok fun K hK=>?_|refine q_r ha17_ok fun K hK=>?_);simp (maxSteps:=2000000) only [go_sem,↓reduceIte,reduceCtorEq,Nat.reduceLeDiff,Nat.reduceLT,Nat.reduceBEq,Nat.reduceAdd,List.length_map];(repeat1' with_reducible first|apply And.intro|(intro _;try exact q_v)|(refine hK _ ?_;clear hK K))<;>(try (clear hK K;exact q_u)))|(with_reducible refine q_s ?_;(first|apply q_J|apply q_K|apply q_L|apply q_M|apply q_N|apply q_O)<;>try (intro _;try exact q_v)))
  all_goals first | omega | exact v4 | skip
  exact cut_fit hY ⟨(_,_),okW_of v1,okW_of v3⟩ (by exact q_D)
 ·rintro ⟨⟨u,v⟩,hu,hv⟩
  simp only at hv hu ⊢
  have hu1:=keyF_in ho hu
  have hv1:=keyF_in ho hv
  have hz:=keyF_z os u
  have hz':=keyF_z os v
  have hnil:=keyF_nil os u
  have ha:=take_cmp ho hu hv
  have hb:=take_cmp ho hv hu
  obtain ⟨k,a,x,b,y,t,r⟩:=u
  obtain ⟨k',a',x',b',y',t',r'⟩:=v
  have hsm : smF os ⟨k,a,x,b,y,t,r⟩ ⟨k',a',x',b',y',t',r'⟩ = smF os ⟨k,a,x,b,y,t,r⟩ ⟨k',a',x',b',y',t',r'⟩:=rfl
  conv at hsm=>rhs; unfold smF
  generalize hS : smF os ⟨k,a,x,b,y,t,r⟩ ⟨k',a',x',b',y',t',r'⟩ = S at *
  generalize hX : keyF os ⟨k,a,x,b,y,t,r⟩ = X at *
  generalize hY : keyF os ⟨k',a',x',b',y',t',r'⟩ = Z at *
  obtain ⟨xs,c1,i1⟩:=X
  obtain ⟨ys,c2,i2⟩:=Z
  simp only at hu1 hv1 hz hz' hsm ha hb hnil
  have h1t:=strOf_cmp hu1.1 (inB_take hv1.1 xs.length)
  have h2t:=strOf_cmp hv1.1 (inB_take hu1.1 ys.length)
  simp only [vcA]
  by_cases h1 : c1 = 0
  ·subst h1
   obtain rfl:=hz rfl
   rw [if_neg (by simp)] at hsm
   by_cases h2 : c2 = 0
   ·subst h2
    obtain rfl:=hz' rfl
    rw [if_neg (by simp)] at hsm
    subst hsm
    rw [ha rfl rfl] at h1t
    rw [hb rfl rfl] at h2t
    repeat' (first|with_reducible refine q_0 ?_|((with_reducible first|refine q_q ha17_ok fun K hK=>?_|refine q_r ha17_ok fun K hK=>?_);simp (maxSteps:=2000000) only [go_sem,↓reduceIte,reduceCtorEq,Nat.reduceLeDiff,Nat.reduceLT,Nat.reduceBEq,Nat.reduceAdd,hd,hX,hY,hS,h1t,h2t,Int.toNat_natCast,List.drop_zero];(repeat1' with_reducible first|apply And.intro|(intro _;try exact q_v)|(refine hK _ ?_;clear hK K))<;>(try (clear hK K;exact q_u)))|(with_reducible refine q_s ?_;(first|apply q_J|apply q_K|apply q_L|apply q_M|apply q_N|apply q_O)<;>try (intro _;try exact q_v)))
    all_goals first | omega | contradiction | exact hp _ (by assumption) | exact q_A rfl | skip
    all_goals by_cases e : xs = ys
    all_goals first | (subst e; refine q_A ?_; simp [resAV,q_y]; done) | (refine q_A ?_; simp [resAV,q_y,e]; done) | (exfalso; subst e; simp_all; done) | (exfalso; have e' : ¬ ys = xs:=fun h=>e h.symm; simp_all; done) | skip
   ·rw [if_pos h2] at hsm
    subst hsm
    repeat' (first|with_reducible refine q_0 ?_|((with_reducible first|refine q_q ha17_ok fun K hK=>?_|refine q_r ha17_ok fun K hK=>?_);simp (maxSteps:=2000000) only [go_sem,↓reduceIte,reduceCtorEq,Nat.reduceLeDiff,Nat.reduceLT,Nat.reduceBEq,Nat.reduceAdd,hd,hX,hY,hS];(repeat1' with_reducible first|apply And.intro|(intro _;try exact q_v)|(refine hK _ ?_;clear hK K))<;>(try (clear hK K;exact q_u)))|(with_reducible refine q_s ?_;(first|apply q_J|apply q_K|apply q_L|apply q_M|apply q_N|apply q_O)<;>try (intro _;try exact q_v)))
    all_goals first | omega | contradiction | exact hp _ (by assumption) | exact q_A rfl | skip
  ·rw [if_pos h1] at hsm
   subst hsm
   obtain rfl:=hnil h1
   repeat' (first|with_reducible refine q_0 ?_|((with_reducible first|refine q_q ha17_ok fun K hK=>?_|refine q_r ha17_ok fun K hK=>?_);simp (maxSteps:=2000000) only [go_sem,↓reduceIte,reduceCtorEq,Nat.reduceLeDiff,Nat.reduceLT,Nat.reduceBEq,Nat.reduceAdd,hd,hX,hY,hS];(repeat1' with_reducible first|apply And.intro|(intro _;try exact q_v)|(refine hK _ ?_;clear hK K))<;>(try (clear hK K;exact q_u)))|(with_reducible refine q_s ?_;(first|apply q_J|apply q_K|apply q_L|apply q_M|apply q_N|apply q_O)<;>try (intro _;try exact q_v)))
   all_goals first | omega | contradiction | exact hp _ (by assumption) | exact q_A rfl | skip
end Go.Proofs.Ytncededjmcmidaa
