import Derived.Test.YtncededjmcmidaaX8
namespace Go.Proofs.Ytncededjmcmidaa
set_option linter.unusedSimpArgs false
set_option linter.unusedVariables false
open Go.Abs Go.Proofs.NatL

abbrev woH (l : List Int) (k : Int) (os : List Ob) : Hp:=⟨[(0,sB l k),(1,[.c (.sl 10 (os.map obC))])],[],[]⟩
def ha10 : Cfg:=listT [(13,nextCT),(45,integerCT),(12,valueCT),(44,keysOfCT),(43,classesCT)] [39]
theorem ha10_ok : TblOk Try.prog ha10:=listE_ok (by simp only [List.mem_singleton,forall_eq]; exact flt) ⟨⟨h1t,h1t_ok,rfl⟩,⟨h2a,h2a_ok,rfl⟩,⟨h6a,h6a_ok,rfl⟩,⟨h10a,h10a_ok,rfl⟩,⟨h11c,h11c_ok,rfl⟩,trivial⟩
attribute [go_sem] ha10
theorem awp_last {cf : Cfg} (hcf : TblOk Try.prog cf) {F : Fr} {Q : Exit → St → Prop} {st : St} {id : Nat} {ops : Array Oper} {l : Oper} (hl : ops.toList.getLast? = some l)
  (h : ∀ K : St → Prop,(∀ st,Q .normal st → K st) → evalOps Try.prog cf true ops.toList.dropLast ops.toList.dropLast st (fun st'=>∃ st2,Fit st' st2 ∧ evalOps Try.prog cf false ops.toList [l] st2 K))
  (hmix : Try.prog.follows .mixedOrders = true:=by kernel_rfl) (hord : ordOkS cf st ops.toList.dropLast.toArray (Region.before ops.toList.dropLast.toArray) = true:=by kernel_rfl) (hlast : lastOk ops.toList.dropLast.toArray l = true:=by kernel_rfl) : AWp Try.prog F (.region id ops true) Q st:=by
 have e : ops.toList.dropLast.toArray.push l = ops:=by
  apply Array.ext'
  simp only [Array.toList_push,List.toList_toArray]
  have hne : ops.toList ≠ []:=fun h=>by rw [h] at hl; cases hl
  rw [List.getLast?_eq_some_getLast hne] at hl
  cases hl
  exact List.dropLast_concat_getLast hne
 have:=awp_draw_last (id:=id) (Q:=Q) (F:=F) hcf hmix hord hlast (fun K hK=>by rw [e]; exact h K hK)
 rw [e] at this
 exact this
theorem join_to {Q : Exit → St → Prop} {st : St} {ι : Type} {mid : ι → St} (i : ι) (h : FitP st (mid i)) : Join mid Q .normal st:=⟨i,h⟩
set_option maxRecDepth 100000 in
set_option maxHeartbeats 8000000 in
theorem world_ret (l : List Int) (k : Int) (h : okSd l k) : RetG Try.prog 11 (sH l k) [.bx 0 0] (woH l (wF l k).2 (wF l k).1) [.g [.sl 10 ((wF l k).1.map obC)],.c (.i .i64 50)]:=by
 have hc9:=clL_len 49
 have hx8:=nxV_in l k (n:=8) (by omega)
 generalize hR : wG l ((nxV l k 8).toNat + 1) (nxK l k) os0 = R
 have hW : wF l k = lG l ((nxV l k 8).toNat + 1) 50 R.2 R.1:=by rw [← hR]; rfl
 rw [hW]
 generalize hRR : lG l ((nxV l k 8).toNat + 1) 50 R.2 R.1 = RR
 (refine ret_ge Try.func11 (fun F bs=>?_); simp only [avSl,ancs,hnx,Nat.reduceAdd,Nat.reduceLeDiff,if_true,if_false,List.length_cons,List.length_nil,List.cons_append,List.nil_append,Try.ntmps11,Try.results11])
 repeat' (first|with_reducible refine q_0 ?_|((with_reducible first|refine q_q ha10_ok fun K hK=>?_|refine q_r ha10_ok fun K hK=>?_);simp (maxSteps:=2000000) only [go_sem,↓reduceIte,reduceCtorEq,Nat.reduceLeDiff,Nat.reduceLT,Nat.reduceBEq,Nat.reduceAdd,List.length_map,hc9];(repeat1' with_reducible first|apply And.intro|(intro _;try exact q_v)|(refine hK _ ?_;clear hK K))<;>(try (clear hK K;exact q_u)))|(with_reducible refine q_s ?_;(first|apply q_J|apply q_K|apply q_L|apply q_M|apply q_N|apply q_O)<;>try (intro _;try exact q_v)))
 all_goals first | omega | skip
 refine awp_last_nil 4 (BH:=⟨1,54,10,.sl 10 ((clL 49).map obC ++ [[.i .i64 9,.str ⟨#[84,104,105,110,103]⟩,.i .i64 0,.ints .i64 [0],.ints .i64 [49,0],.nil,.nil,.nil,.i .i64 0,.i .i64 0]])⟩) (row':=obC thing) rfl rfl rfl (by simp only [relL,obC,itC,thing,List.map_nil]; simp [C.rows,C.z]) ?_
 refine awp_ghost 2000 1000 34 7 (by omega) (by simp only; omega) rfl ?_
 refine awp_ghost 2001 1001 34 7 (by omega) (by simp only; omega) rfl ?_
 refine awp_ghost 2002 1002 34 7 (by omega) (by simp only; omega) rfl ?_
 refine awp_ghost 2003 1003 34 7 (by omega) (by simp only; omega) rfl ?_
 refine awp_ghost 2004 1004 34 7 (by omega) (by simp only; omega) rfl ?_
 refine awp_ghost 2005 1005 34 7 (by omega) (by simp only; omega) rfl ?_
 refine awp_ghost 2006 1006 34 7 (by omega) (by simp only; omega) rfl ?_
 refine awp_ghost 2007 1007 34 7 (by omega) (by simp only; omega) rfl ?_
 refine loop_rb (ι:={ p : Nat × Int × List Ob × List Ob × List (Option (Value × List Vl)) // p.1 ≤ 8 ∧ okSd l p.2.1 ∧ WOk p.2.2.1 ∧ (p.2.2.1.length + p.1 = 51 + (nxV l k 8).toNat ∧ ∀ o ∈ p.2.2.1,o.k = 2 → o.it.length ≤ 3) ∧ TH 50 p.2.2.2.2 p.2.2.1 p.2.2.2.1 ∧ wG l p.1 p.2.1 p.2.2.1 = R })
  (fun p=>⟨167,[(0,.bx 0 0),(2,.bx 1 0),(4,.bx 6 0),(5,.c (.i .i64 49)),(6,.c (.i .i64 50)),(7,.c (.i .i64 p.1.1)),(2000,.lk 1000 0 (gV p.1.2.2.2.2 0)),(2001,.lk 1001 0 (gV p.1.2.2.2.2 1)),(2002,.lk 1002 0 (gV p.1.2.2.2.2 2)),(2003,.lk 1003 0 (gV p.1.2.2.2.2 3)),(2004,.lk 1004 0 (gV p.1.2.2.2.2 4)),(2005,.lk 1005 0 (gV p.1.2.2.2.2 5)),(2006,.lk 1006 0 (gV p.1.2.2.2.2 6)),(2007,.lk 1007 0 (gV p.1.2.2.2.2 7)),(1000,.anc 0 (bs 0))],⟨[(0,sB l p.1.2.1),(1,[.c .nil]),(6,[.own 4 0])],[(4,⟨0,54,10,.sl 10 (p.1.2.2.2.1.map obC)⟩),(1000,⟨0,34,7,.sl 7 ((gL p.1.2.2.2.2 0).map vC)⟩),(1001,⟨0,34,7,.sl 7 ((gL p.1.2.2.2.2 1).map vC)⟩),(1002,⟨0,34,7,.sl 7 ((gL p.1.2.2.2.2 2).map vC)⟩),(1003,⟨0,34,7,.sl 7 ((gL p.1.2.2.2.2 3).map vC)⟩),(1004,⟨0,34,7,.sl 7 ((gL p.1.2.2.2.2 4).map vC)⟩),(1005,⟨0,34,7,.sl 7 ((gL p.1.2.2.2.2 5).map vC)⟩),(1006,⟨0,34,7,.sl 7 ((gL p.1.2.2.2.2 6).map vC)⟩),(1007,⟨0,34,7,.sl 7 ((gL p.1.2.2.2.2 7).map vC)⟩)],[]⟩,1100⟩) (fun p=>p.1.1)
  ⟨((nxV l k 8).toNat + 1,nxK l k,os0,os0,[]),by simp only; omega,nxK_ok h,os0_ok,⟨by simp only [os0_len]; omega,os0_k⟩,th0,hR⟩ ?_ ?_
 ·have e7 : (((nxV l k 8).toNat + 1 : Nat) : Int) = nxV l k 8 + 1:=by omega
  simp only [e7,gV_0 (gh:=[]) (q:=0) (Nat.zero_le _),gL_0 (gh:=[]) (q:=0) (Nat.zero_le _),gV_0 (gh:=[]) (q:=1) (Nat.zero_le _),gL_0 (gh:=[]) (q:=1) (Nat.zero_le _),gV_0 (gh:=[]) (q:=2) (Nat.zero_le _),gL_0 (gh:=[]) (q:=2) (Nat.zero_le _),gV_0 (gh:=[]) (q:=3) (Nat.zero_le _),gL_0 (gh:=[]) (q:=3) (Nat.zero_le _),gV_0 (gh:=[]) (q:=4) (Nat.zero_le _),gL_0 (gh:=[]) (q:=4) (Nat.zero_le _),gV_0 (gh:=[]) (q:=5) (Nat.zero_le _),gL_0 (gh:=[]) (q:=5) (Nat.zero_le _),gV_0 (gh:=[]) (q:=6) (Nat.zero_le _),gL_0 (gh:=[]) (q:=6) (Nat.zero_le _),gV_0 (gh:=[]) (q:=7) (Nat.zero_le _),gL_0 (gh:=[]) (q:=7) (Nat.zero_le _),List.map_nil,os0,List.map_append,List.map_cons]
  exact q_D
 rintro ⟨⟨m,k',os,ot,gh⟩,g1,g2,g3,⟨g4,g8⟩,g5,g6⟩
 simp only at g1 g2 g3 g4 g5 g6 ⊢
 have hn:=g5.n
 cases m with

 | zero =>
  obtain rfl : R = (os,k'):=g6.symm
  simp only at hRR
  repeat' (first|with_reducible refine q_0 ?_|((with_reducible first|refine q_q ha10_ok fun K hK=>?_|refine q_r ha10_ok fun K hK=>?_);simp (maxSteps:=2000000) only [go_sem,↓reduceIte,reduceCtorEq,Nat.reduceLeDiff,Nat.reduceLT,Nat.reduceBEq,Nat.reduceAdd,List.length_map,hn];(repeat1' with_reducible first|apply And.intro|(intro _;try exact q_v)|(refine hK _ ?_;clear hK K))<;>(try (clear hK K;exact q_u)))|(with_reducible refine q_s ?_;(first|apply q_J|apply q_K|apply q_L|apply q_M|apply q_N|apply q_O)<;>try (intro _;try exact q_v)))
  all_goals first | omega | contradiction | skip
  refine roundr_exit ?_
  repeat' (first|with_reducible refine q_0 ?_|((with_reducible first|refine q_q ha10_ok fun K hK=>?_|refine q_r ha10_ok fun K hK=>?_);simp (maxSteps:=2000000) only [go_sem,↓reduceIte,reduceCtorEq,Nat.reduceLeDiff,Nat.reduceLT,Nat.reduceBEq,Nat.reduceAdd,List.length_map,hn];(repeat1' with_reducible first|apply And.intro|(intro _;try exact q_v)|(refine hK _ ?_;clear hK K))<;>(try (clear hK K;exact q_u)))|(with_reducible refine q_s ?_;(first|apply q_J|apply q_K|apply q_L|apply q_M|apply q_N|apply q_O)<;>try (intro _;try exact q_v)))
  all_goals first | omega | contradiction | skip
  refine loop_rb (ι:={ p : Nat × Int × List Ob × List Ob × List (Option (Value × List Vl)) // (50 ≤ p.1 ∧ p.1 ≤ 51 + (nxV l k 8).toNat) ∧ okSd l p.2.1 ∧ WOk p.2.2.1 ∧ (p.2.2.1.length = 51 + (nxV l k 8).toNat ∧ ∀ j,p.1 ≤ j → j < p.2.2.1.length → (p.2.2.1.getD j ob0).k = 2 → (p.2.2.1.getD j ob0).it.length ≤ 3) ∧ TH p.1 p.2.2.2.2 p.2.2.1 p.2.2.2.1 ∧ lG l (51 + (nxV l k 8).toNat - p.1) p.1 p.2.1 p.2.2.1 = RR })
   (fun p=>⟨167,[(0,.bx 0 0),(2,.bx 1 0),(4,.bx 6 0),(6,.c (.i .i64 50)),(11,.c (.i .i64 (p.1.1 : Nat))),(2000,gX p.1.1 p.1.2.2.2.2 0 1000),(2001,gX p.1.1 p.1.2.2.2.2 1 1001),(2002,gX p.1.1 p.1.2.2.2.2 2 1002),(2003,gX p.1.1 p.1.2.2.2.2 3 1003),(2004,gX p.1.1 p.1.2.2.2.2 4 1004),(2005,gX p.1.1 p.1.2.2.2.2 5 1005),(2006,gX p.1.1 p.1.2.2.2.2 6 1006),(2007,gX p.1.1 p.1.2.2.2.2 7 1007),(1000,.anc 0 (bs 0))],⟨[(0,sB l p.1.2.1),(1,[.c .nil]),(6,[.own 4 0])],[(4,⟨0,54,10,.sl 10 (p.1.2.2.2.1.map obC)⟩),(1000,⟨0,34,7,.sl 7 ((gL p.1.2.2.2.2 0).map vC)⟩),(1001,⟨0,34,7,.sl 7 ((gL p.1.2.2.2.2 1).map vC)⟩),(1002,⟨0,34,7,.sl 7 ((gL p.1.2.2.2.2 2).map vC)⟩),(1003,⟨0,34,7,.sl 7 ((gL p.1.2.2.2.2 3).map vC)⟩),(1004,⟨0,34,7,.sl 7 ((gL p.1.2.2.2.2 4).map vC)⟩),(1005,⟨0,34,7,.sl 7 ((gL p.1.2.2.2.2 5).map vC)⟩),(1006,⟨0,34,7,.sl 7 ((gL p.1.2.2.2.2 6).map vC)⟩),(1007,⟨0,34,7,.sl 7 ((gL p.1.2.2.2.2 7).map vC)⟩)],[]⟩,2000⟩) (fun p=>51 + (nxV l k 8).toNat - p.1.1)
   ⟨(50,k',os,ot,gh),by simp only; omega,g2,g3,⟨by simp only; omega,fun j _ hj e=>g8 _ (at_mem hj) e⟩,g5,by simp only; rw [show 51 + (nxV l k 8).toNat - 50 = (nxV l k 8).toNat + 1 by omega]; exact hRR⟩ ?_ ?_
  ·simp only [gX_lk (i:=50) (gh:=gh) (q:=0) (id:=1000) (by omega),gX_lk (i:=50) (gh:=gh) (q:=1) (id:=1001) (by omega),gX_lk (i:=50) (gh:=gh) (q:=2) (id:=1002) (by omega),gX_lk (i:=50) (gh:=gh) (q:=3) (id:=1003) (by omega),gX_lk (i:=50) (gh:=gh) (q:=4) (id:=1004) (by omega),gX_lk (i:=50) (gh:=gh) (q:=5) (id:=1005) (by omega),gX_lk (i:=50) (gh:=gh) (q:=6) (id:=1006) (by omega),gX_lk (i:=50) (gh:=gh) (q:=7) (id:=1007) (by omega)]; exact q_D
  clear hRR hn g2 g3 g4 g5 g6 g8
  clear gh
  rintro ⟨⟨i,k2,os2,ot2,gh⟩,g1,g2,g3,⟨g4,g8⟩,g5,g6⟩
  simp only at g1 g2 g3 g4 g8 g5 g6 ⊢
  have hn:=g5.n
  by_cases hlast : i = 51 + (nxV l k 8).toNat
  ·have e0:=g5.eq (by omega)
   subst e0
   rw [show 51 + (nxV l k 8).toNat - i = 0 by omega] at g6
   obtain rfl : RR = (ot2,k2):=g6.symm
   repeat' (first|with_reducible refine q_0 ?_|((with_reducible first|refine q_q ha10_ok fun K hK=>?_|refine q_r ha10_ok fun K hK=>?_);simp (maxSteps:=2000000) only [go_sem,↓reduceIte,reduceCtorEq,Nat.reduceLeDiff,Nat.reduceLT,Nat.reduceBEq,Nat.reduceAdd,List.length_map,hn];(repeat1' with_reducible first|apply And.intro|(intro _;try exact q_v)|(refine hK _ ?_;clear hK K))<;>(try (clear hK K;exact q_u)))|(with_reducible refine q_s ?_;(first|apply q_J|apply q_K|apply q_L|apply q_M|apply q_N|apply q_O)<;>try (intro _;try exact q_v)))
   all_goals first | omega | contradiction | skip
   refine roundr_exit ?_
   repeat' (first|with_reducible refine q_0 ?_|((with_reducible first|refine q_q ha10_ok fun K hK=>?_|refine q_r ha10_ok fun K hK=>?_);simp (maxSteps:=2000000) only [go_sem,↓reduceIte,reduceCtorEq,Nat.reduceLeDiff,Nat.reduceLT,Nat.reduceBEq,Nat.reduceAdd,List.length_map,hn];(repeat1' with_reducible first|apply And.intro|(intro _;try exact q_v)|(refine hK _ ?_;clear hK K))<;>(try (clear hK K;exact q_u)))|(with_reducible refine q_s ?_;(first|apply q_J|apply q_K|apply q_L|apply q_M|apply q_N|apply q_O)<;>try (intro _;try exact q_v)))
   all_goals first | omega | contradiction | skip
   exact ends_g [(2,.bx 1 0),(3,.c (.i .i64 50))] 1400 (by exact q_D) rfl
  ·have hi : i < os2.length:=by omega
   have hq : i = 50 ∨ i = 51 ∨ i = 52 ∨ i = 53 ∨ i = 54 ∨ i = 55 ∨ i = 56 ∨ i = 57:=by omega
   have hat:=obC_at2 ot2 (i:=i) (by omega)
   have hget:=obC_get ot2 (i:=i) (by omega)
   have hraw:=(g3.o _ (at_mem hi)).raw
   have hwo:=fun kk (hk : okSd l kk)=>wok_set (i:=i) g3 hk hi (g8 i (Nat.le_refl _) hi)
   have hnx:=fun o=>g5.next hi o
   have hss:=set_self hi
   obtain ⟨mm,hmm⟩ : ∃ mm,51 + (nxV l k 8).toNat - i = mm + 1:=⟨51 + (nxV l k 8).toNat - i - 1,by omega⟩
   have hmm2 : 51 + (nxV l k 8).toNat - (i + 1) = mm:=by omega
   rw [hmm] at g6
   have h83 : ∀ o,∀ j,i + 1 ≤ j → j < (os2.set i o).length → ((os2.set i o).getD j ob0).k = 2 → ((os2.set i o).getD j ob0).it.length ≤ 3:=fun o j hj hjl e=>by
    rw [obSet_ne (by omega)] at e ⊢
    exact g8 j (by omega) (by simpa using hjl) e
   rcases hx : gh.getD (i - 50) none with _ | ⟨v,its⟩
   ·obtain ⟨e1,e2⟩:=g5.at0 hi hx
    rw [e1] at hat
    have hlO : lO os2.length l k2 (os2.getD i ob0) = (os2.getD i ob0,k2):=by unfold lO; rw [if_neg e2]
    have g7:=g6
    rw [lG_step l k2 os2 hlO] at g7
    have hw2:=(hwo k2 g2).2
    rw [hlO] at hw2
    have hth:=hnx (os2.getD i ob0)
    have hto : ot2.set i (os2.getD i ob0) = ot2:=by rw [← e1]; exact set_self (by omega)
    rw [hto] at hth
    have h84:=h83 (os2.getD i ob0)
    rw [hss] at h84 hw2 hth g7
    generalize os2.getD i ob0 = o at *
    obtain ⟨ok,onm,ocl,orf,ood,oraw,oit,oks⟩:=o
    simp only at e2 hraw
    subst hraw
    simp only [obC,itC] at hat
    rcases hq with rfl | rfl | rfl | rfl | rfl | rfl | rfl | rfl
    ·simp only [gX_lk (i:=50) (gh:=gh) (q:=0) (id:=1000) (by omega),gX_lk (i:=50) (gh:=gh) (q:=1) (id:=1001) (by omega),gX_lk (i:=50) (gh:=gh) (q:=2) (id:=1002) (by omega),gX_lk (i:=50) (gh:=gh) (q:=3) (id:=1003) (by omega),gX_lk (i:=50) (gh:=gh) (q:=4) (id:=1004) (by omega),gX_lk (i:=50) (gh:=gh) (q:=5) (id:=1005) (by omega),gX_lk (i:=50) (gh:=gh) (q:=6) (id:=1006) (by omega),gX_lk (i:=50) (gh:=gh) (q:=7) (id:=1007) (by omega)]
     repeat' (first|with_reducible refine q_0 ?_|((with_reducible first|refine q_q ha10_ok fun K hK=>?_|refine q_r ha10_ok fun K hK=>?_);simp (maxSteps:=2000000) only [go_sem,↓reduceIte,reduceCtorEq,Nat.reduceLeDiff,Nat.reduceLT,Nat.reduceBEq,Nat.reduceAdd,List.length_map,hn,hat];(repeat1' with_reducible first|apply And.intro|(intro _;try exact q_v)|(refine hK _ ?_;clear hK K))<;>(try (clear hK K;exact q_u)))|(with_reducible refine q_s ?_;(first|apply q_J|apply q_K|apply q_L|apply q_M|apply q_N|apply q_O)<;>try (intro _;try exact q_v)))
     all_goals first | omega | contradiction | skip
     refine roundr_n [] ⟨(50 + 1,k2,os2,ot2,gh),by simp only; omega,g2,hw2,⟨g4,h84⟩,hth,by simp only [hmm2]; exact g7⟩ ?_ (by simp only; omega)
     simp only [gX_u (i:=50 + 1) (gh:=gh) (q:=0) (id:=1000) (by omega),gX_lk (i:=50 + 1) (gh:=gh) (q:=1) (id:=1001) (by omega),gX_lk (i:=50 + 1) (gh:=gh) (q:=2) (id:=1002) (by omega),gX_lk (i:=50 + 1) (gh:=gh) (q:=3) (id:=1003) (by omega),gX_lk (i:=50 + 1) (gh:=gh) (q:=4) (id:=1004) (by omega),gX_lk (i:=50 + 1) (gh:=gh) (q:=5) (id:=1005) (by omega),gX_lk (i:=50 + 1) (gh:=gh) (q:=6) (id:=1006) (by omega),gX_lk (i:=50 + 1) (gh:=gh) (q:=7) (id:=1007) (by omega),swp]; exact q_D
    ·simp only [gX_u (i:=51) (gh:=gh) (q:=0) (id:=1000) (by omega),gX_lk (i:=51) (gh:=gh) (q:=1) (id:=1001) (by omega),gX_lk (i:=51) (gh:=gh) (q:=2) (id:=1002) (by omega),gX_lk (i:=51) (gh:=gh) (q:=3) (id:=1003) (by omega),gX_lk (i:=51) (gh:=gh) (q:=4) (id:=1004) (by omega),gX_lk (i:=51) (gh:=gh) (q:=5) (id:=1005) (by omega),gX_lk (i:=51) (gh:=gh) (q:=6) (id:=1006) (by omega),gX_lk (i:=51) (gh:=gh) (q:=7) (id:=1007) (by omega)]
     repeat' (first|with_reducible refine q_0 ?_|((with_reducible first|refine q_q ha10_ok fun K hK=>?_|refine q_r ha10_ok fun K hK=>?_);simp (maxSteps:=2000000) only [go_sem,↓reduceIte,reduceCtorEq,Nat.reduceLeDiff,Nat.reduceLT,Nat.reduceBEq,Nat.reduceAdd,List.length_map,hn,hat];(repeat1' with_reducible first|apply And.intro|(intro _;try exact q_v)|(refine hK _ ?_;clear hK K))<;>(try (clear hK K;exact q_u)))|(with_reducible refine q_s ?_;(first|apply q_J|apply q_K|apply q_L|apply q_M|apply q_N|apply q_O)<;>try (intro _;try exact q_v)))
     all_goals first | omega | contradiction | skip
     refine roundr_n [] ⟨(51 + 1,k2,os2,ot2,gh),by simp only; omega,g2,hw2,⟨g4,h84⟩,hth,by simp only [hmm2]; exact g7⟩ ?_ (by simp only; omega)
     simp only [gX_u (i:=51 + 1) (gh:=gh) (q:=0) (id:=1000) (by omega),gX_u (i:=51 + 1) (gh:=gh) (q:=1) (id:=1001) (by omega),gX_lk (i:=51 + 1) (gh:=gh) (q:=2) (id:=1002) (by omega),gX_lk (i:=51 + 1) (gh:=gh) (q:=3) (id:=1003) (by omega),gX_lk (i:=51 + 1) (gh:=gh) (q:=4) (id:=1004) (by omega),gX_lk (i:=51 + 1) (gh:=gh) (q:=5) (id:=1005) (by omega),gX_lk (i:=51 + 1) (gh:=gh) (q:=6) (id:=1006) (by omega),gX_lk (i:=51 + 1) (gh:=gh) (q:=7) (id:=1007) (by omega),swp]; exact q_D
    ·simp only [gX_u (i:=52) (gh:=gh) (q:=0) (id:=1000) (by omega),gX_u (i:=52) (gh:=gh) (q:=1) (id:=1001) (by omega),gX_lk (i:=52) (gh:=gh) (q:=2) (id:=1002) (by omega),gX_lk (i:=52) (gh:=gh) (q:=3) (id:=1003) (by omega),gX_lk (i:=52) (gh:=gh) (q:=4) (id:=1004) (by omega),gX_lk (i:=52) (gh:=gh) (q:=5) (id:=1005) (by omega),gX_lk (i:=52) (gh:=gh) (q:=6) (id:=1006) (by omega),gX_lk (i:=52) (gh:=gh) (q:=7) (id:=1007) (by omega)]
     repeat' (first|with_reducible refine q_0 ?_|((with_reducible first|refine q_q ha10_ok fun K hK=>?_|refine q_r ha10_ok fun K hK=>?_);simp (maxSteps:=2000000) only [go_sem,↓reduceIte,reduceCtorEq,Nat.reduceLeDiff,Nat.reduceLT,Nat.reduceBEq,Nat.reduceAdd,List.length_map,hn,hat];(repeat1' with_reducible first|apply And.intro|(intro _;try exact q_v)|(refine hK _ ?_;clear hK K))<;>(try (clear hK K;exact q_u)))|(with_reducible refine q_s ?_;(first|apply q_J|apply q_K|apply q_L|apply q_M|apply q_N|apply q_O)<;>try (intro _;try exact q_v)))
     all_goals first | omega | contradiction | skip
     refine roundr_n [] ⟨(52 + 1,k2,os2,ot2,gh),by simp only; omega,g2,hw2,⟨g4,h84⟩,hth,by simp only [hmm2]; exact g7⟩ ?_ (by simp only; omega)
     simp only [gX_u (i:=52 + 1) (gh:=gh) (q:=0) (id:=1000) (by omega),gX_u (i:=52 + 1) (gh:=gh) (q:=1) (id:=1001) (by omega),gX_u (i:=52 + 1) (gh:=gh) (q:=2) (id:=1002) (by omega),gX_lk (i:=52 + 1) (gh:=gh) (q:=3) (id:=1003) (by omega),gX_lk (i:=52 + 1) (gh:=gh) (q:=4) (id:=1004) (by omega),gX_lk (i:=52 + 1) (gh:=gh) (q:=5) (id:=1005) (by omega),gX_lk (i:=52 + 1) (gh:=gh) (q:=6) (id:=1006) (by omega),gX_lk (i:=52 + 1) (gh:=gh) (q:=7) (id:=1007) (by omega),swp]; exact q_D
    ·simp only [gX_u (i:=53) (gh:=gh) (q:=0) (id:=1000) (by omega),gX_u (i:=53) (gh:=gh) (q:=1) (id:=1001) (by omega),gX_u (i:=53) (gh:=gh) (q:=2) (id:=1002) (by omega),gX_lk (i:=53) (gh:=gh) (q:=3) (id:=1003) (by omega),gX_lk (i:=53) (gh:=gh) (q:=4) (id:=1004) (by omega),gX_lk (i:=53) (gh:=gh) (q:=5) (id:=1005) (by omega),gX_lk (i:=53) (gh:=gh) (q:=6) (id:=1006) (by omega),gX_lk (i:=53) (gh:=gh) (q:=7) (id:=1007) (by omega)]
     repeat' (first|with_reducible refine q_0 ?_|((with_reducible first|refine q_q ha10_ok fun K hK=>?_|refine q_r ha10_ok fun K hK=>?_);simp (maxSteps:=2000000) only [go_sem,↓reduceIte,reduceCtorEq,Nat.reduceLeDiff,Nat.reduceLT,Nat.reduceBEq,Nat.reduceAdd,List.length_map,hn,hat];(repeat1' with_reducible first|apply And.intro|(intro _;try exact q_v)|(refine hK _ ?_;clear hK K))<;>(try (clear hK K;exact q_u)))|(with_reducible refine q_s ?_;(first|apply q_J|apply q_K|apply q_L|apply q_M|apply q_N|apply q_O)<;>try (intro _;try exact q_v)))
     all_goals first | omega | contradiction | skip
     refine roundr_n [] ⟨(53 + 1,k2,os2,ot2,gh),by simp only; omega,g2,hw2,⟨g4,h84⟩,hth,by simp only [hmm2]; exact g7⟩ ?_ (by simp only; omega)
     simp only [gX_u (i:=53 + 1) (gh:=gh) (q:=0) (id:=1000) (by omega),gX_u (i:=53 + 1) (gh:=gh) (q:=1) (id:=1001) (by omega),gX_u (i:=53 + 1) (gh:=gh) (q:=2) (id:=1002) (by omega),gX_u (i:=53 + 1) (gh:=gh) (q:=3) (id:=1003) (by omega),gX_lk (i:=53 + 1) (gh:=gh) (q:=4) (id:=1004) (by omega),gX_lk (i:=53 + 1) (gh:=gh) (q:=5) (id:=1005) (by omega),gX_lk (i:=53 + 1) (gh:=gh) (q:=6) (id:=1006) (by omega),gX_lk (i:=53 + 1) (gh:=gh) (q:=7) (id:=1007) (by omega),swp]; exact q_D
    ·simp only [gX_u (i:=54) (gh:=gh) (q:=0) (id:=1000) (by omega),gX_u (i:=54) (gh:=gh) (q:=1) (id:=1001) (by omega),gX_u (i:=54) (gh:=gh) (q:=2) (id:=1002) (by omega),gX_u (i:=54) (gh:=gh) (q:=3) (id:=1003) (by omega),gX_lk (i:=54) (gh:=gh) (q:=4) (id:=1004) (by omega),gX_lk (i:=54) (gh:=gh) (q:=5) (id:=1005) (by omega),gX_lk (i:=54) (gh:=gh) (q:=6) (id:=1006) (by omega),gX_lk (i:=54) (gh:=gh) (q:=7) (id:=1007) (by omega)]
     repeat' (first|with_reducible refine q_0 ?_|((with_reducible first|refine q_q ha10_ok fun K hK=>?_|refine q_r ha10_ok fun K hK=>?_);simp (maxSteps:=2000000) only [go_sem,↓reduceIte,reduceCtorEq,Nat.reduceLeDiff,Nat.reduceLT,Nat.reduceBEq,Nat.reduceAdd,List.length_map,hn,hat];(repeat1' with_reducible first|apply And.intro|(intro _;try exact q_v)|(refine hK _ ?_;clear hK K))<;>(try (clear hK K;exact q_u)))|(with_reducible refine q_s ?_;(first|apply q_J|apply q_K|apply q_L|apply q_M|apply q_N|apply q_O)<;>try (intro _;try exact q_v)))
     all_goals first | omega | contradiction | skip
     refine roundr_n [] ⟨(54 + 1,k2,os2,ot2,gh),by simp only; omega,g2,hw2,⟨g4,h84⟩,hth,by simp only [hmm2]; exact g7⟩ ?_ (by simp only; omega)
     simp only [gX_u (i:=54 + 1) (gh:=gh) (q:=0) (id:=1000) (by omega),gX_u (i:=54 + 1) (gh:=gh) (q:=1) (id:=1001) (by omega),gX_u (i:=54 + 1) (gh:=gh) (q:=2) (id:=1002) (by omega),gX_u (i:=54 + 1) (gh:=gh) (q:=3) (id:=1003) (by omega),gX_u (i:=54 + 1) (gh:=gh) (q:=4) (id:=1004) (by omega),gX_lk (i:=54 + 1) (gh:=gh) (q:=5) (id:=1005) (by omega),gX_lk (i:=54 + 1) (gh:=gh) (q:=6) (id:=1006) (by omega),gX_lk (i:=54 + 1) (gh:=gh) (q:=7) (id:=1007) (by omega),swp]; exact q_D
    ·simp only [gX_u (i:=55) (gh:=gh) (q:=0) (id:=1000) (by omega),gX_u (i:=55) (gh:=gh) (q:=1) (id:=1001) (by omega),gX_u (i:=55) (gh:=gh) (q:=2) (id:=1002) (by omega),gX_u (i:=55) (gh:=gh) (q:=3) (id:=1003) (by omega),gX_u (i:=55) (gh:=gh) (q:=4) (id:=1004) (by omega),gX_lk (i:=55) (gh:=gh) (q:=5) (id:=1005) (by omega),gX_lk (i:=55) (gh:=gh) (q:=6) (id:=1006) (by omega),gX_lk (i:=55) (gh:=gh) (q:=7) (id:=1007) (by omega)]
     repeat' (first|with_reducible refine q_0 ?_|((with_reducible first|refine q_q ha10_ok fun K hK=>?_|refine q_r ha10_ok fun K hK=>?_);simp (maxSteps:=2000000) only [go_sem,↓reduceIte,reduceCtorEq,Nat.reduceLeDiff,Nat.reduceLT,Nat.reduceBEq,Nat.reduceAdd,List.length_map,hn,hat];(repeat1' with_reducible first|apply And.intro|(intro _;try exact q_v)|(refine hK _ ?_;clear hK K))<;>(try (clear hK K;exact q_u)))|(with_reducible refine q_s ?_;(first|apply q_J|apply q_K|apply q_L|apply q_M|apply q_N|apply q_O)<;>try (intro _;try exact q_v)))
     all_goals first | omega | contradiction | skip
     refine roundr_n [] ⟨(55 + 1,k2,os2,ot2,gh),by simp only; omega,g2,hw2,⟨g4,h84⟩,hth,by simp only [hmm2]; exact g7⟩ ?_ (by simp only; omega)
     simp only [gX_u (i:=55 + 1) (gh:=gh) (q:=0) (id:=1000) (by omega),gX_u (i:=55 + 1) (gh:=gh) (q:=1) (id:=1001) (by omega),gX_u (i:=55 + 1) (gh:=gh) (q:=2) (id:=1002) (by omega),gX_u (i:=55 + 1) (gh:=gh) (q:=3) (id:=1003) (by omega),gX_u (i:=55 + 1) (gh:=gh) (q:=4) (id:=1004) (by omega),gX_u (i:=55 + 1) (gh:=gh) (q:=5) (id:=1005) (by omega),gX_lk (i:=55 + 1) (gh:=gh) (q:=6) (id:=1006) (by omega),gX_lk (i:=55 + 1) (gh:=gh) (q:=7) (id:=1007) (by omega),swp]; exact q_D
    ·simp only [gX_u (i:=56) (gh:=gh) (q:=0) (id:=1000) (by omega),gX_u (i:=56) (gh:=gh) (q:=1) (id:=1001) (by omega),gX_u (i:=56) (gh:=gh) (q:=2) (id:=1002) (by omega),gX_u (i:=56) (gh:=gh) (q:=3) (id:=1003) (by omega),gX_u (i:=56) (gh:=gh) (q:=4) (id:=1004) (by omega),gX_u (i:=56) (gh:=gh) (q:=5) (id:=1005) (by omega),gX_lk (i:=56) (gh:=gh) (q:=6) (id:=1006) (by omega),gX_lk (i:=56) (gh:=gh) (q:=7) (id:=1007) (by omega)]
     repeat' (first|with_reducible refine q_0 ?_|((with_reducible first|refine q_q ha10_ok fun K hK=>?_|refine q_r ha10_ok fun K hK=>?_);simp (maxSteps:=2000000) only [go_sem,↓reduceIte,reduceCtorEq,Nat.reduceLeDiff,Nat.reduceLT,Nat.reduceBEq,Nat.reduceAdd,List.length_map,hn,hat];(repeat1' with_reducible first|apply And.intro|(intro _;try exact q_v)|(refine hK _ ?_;clear hK K))<;>(try (clear hK K;exact q_u)))|(with_reducible refine q_s ?_;(first|apply q_J|apply q_K|apply q_L|apply q_M|apply q_N|apply q_O)<;>try (intro _;try exact q_v)))
     all_goals first | omega | contradiction | skip
     refine roundr_n [] ⟨(56 + 1,k2,os2,ot2,gh),by simp only; omega,g2,hw2,⟨g4,h84⟩,hth,by simp only [hmm2]; exact g7⟩ ?_ (by simp only; omega)
     simp only [gX_u (i:=56 + 1) (gh:=gh) (q:=0) (id:=1000) (by omega),gX_u (i:=56 + 1) (gh:=gh) (q:=1) (id:=1001) (by omega),gX_u (i:=56 + 1) (gh:=gh) (q:=2) (id:=1002) (by omega),gX_u (i:=56 + 1) (gh:=gh) (q:=3) (id:=1003) (by omega),gX_u (i:=56 + 1) (gh:=gh) (q:=4) (id:=1004) (by omega),gX_u (i:=56 + 1) (gh:=gh) (q:=5) (id:=1005) (by omega),gX_u (i:=56 + 1) (gh:=gh) (q:=6) (id:=1006) (by omega),gX_lk (i:=56 + 1) (gh:=gh) (q:=7) (id:=1007) (by omega),swp]; exact q_D
    ·simp only [gX_u (i:=57) (gh:=gh) (q:=0) (id:=1000) (by omega),gX_u (i:=57) (gh:=gh) (q:=1) (id:=1001) (by omega),gX_u (i:=57) (gh:=gh) (q:=2) (id:=1002) (by omega),gX_u (i:=57) (gh:=gh) (q:=3) (id:=1003) (by omega),gX_u (i:=57) (gh:=gh) (q:=4) (id:=1004) (by omega),gX_u (i:=57) (gh:=gh) (q:=5) (id:=1005) (by omega),gX_u (i:=57) (gh:=gh) (q:=6) (id:=1006) (by omega),gX_lk (i:=57) (gh:=gh) (q:=7) (id:=1007) (by omega)]
     repeat' (first|with_reducible refine q_0 ?_|((with_reducible first|refine q_q ha10_ok fun K hK=>?_|refine q_r ha10_ok fun K hK=>?_);simp (maxSteps:=2000000) only [go_sem,↓reduceIte,reduceCtorEq,Nat.reduceLeDiff,Nat.reduceLT,Nat.reduceBEq,Nat.reduceAdd,List.length_map,hn,hat];(repeat1' with_reducible first|apply And.intro|(intro _;try exact q_v)|(refine hK _ ?_;clear hK K))<;>(try (clear hK K;exact q_u)))|(with_reducible refine q_s ?_;(first|apply q_J|apply q_K|apply q_L|apply q_M|apply q_N|apply q_O)<;>try (intro _;try exact q_v)))
     all_goals first | omega | contradiction | skip
     refine roundr_n [] ⟨(57 + 1,k2,os2,ot2,gh),by simp only; omega,g2,hw2,⟨g4,h84⟩,hth,by simp only [hmm2]; exact g7⟩ ?_ (by simp only; omega)
     simp only [gX_u (i:=57 + 1) (gh:=gh) (q:=0) (id:=1000) (by omega),gX_u (i:=57 + 1) (gh:=gh) (q:=1) (id:=1001) (by omega),gX_u (i:=57 + 1) (gh:=gh) (q:=2) (id:=1002) (by omega),gX_u (i:=57 + 1) (gh:=gh) (q:=3) (id:=1003) (by omega),gX_u (i:=57 + 1) (gh:=gh) (q:=4) (id:=1004) (by omega),gX_u (i:=57 + 1) (gh:=gh) (q:=5) (id:=1005) (by omega),gX_u (i:=57 + 1) (gh:=gh) (q:=6) (id:=1006) (by omega),gX_u (i:=57 + 1) (gh:=gh) (q:=7) (id:=1007) (by omega),swp]; exact q_D
   ·obtain ⟨e1,e2,e3⟩:=g5.at1 hi hx
    have hii:=g8 i (Nat.le_refl _) hi e1
    rw [e3] at hget hat
    by_cases hx3 : nxV l k2 3 = 1
    ·have hlO : lO os2.length l k2 (os2.getD i ob0) = ({ os2.getD i ob0 with it:=(os2.getD i ob0).it ++ [vaV l (nxK l k2) os2.length 50] },vaK l (nxK l k2) os2.length 50):=by unfold lO; rw [if_pos e1,if_pos hx3]
     have g7:=g6
     rw [lG_step l k2 os2 hlO] at g7
     have hw2:=hwo k2 g2
     rw [hlO] at hw2
     have hth:=hnx { os2.getD i ob0 with it:=(os2.getD i ob0).it ++ [vaV l (nxK l k2) os2.length 50] }
     have h84:=h83 { os2.getD i ob0 with it:=(os2.getD i ob0).it ++ [vaV l (nxK l k2) os2.length 50] }
     clear hlO
     generalize os2.getD i ob0 = o at *
     obtain ⟨ok,onm,ocl,orf,ood,oraw,oit,oks⟩:=o
     simp only at e1 e2 hraw hii g7 hw2 hth h84
     subst hraw; subst e1; subst e2
     have hcon : ∀ (r : List C),r = [.i .i64 2,.str onm,.i .i64 ocl,.ints .i64 orf,.ints .i64 ood,.sl 1 [],.sl 7 ((oit ++ [vaV l (nxK l k2) os2.length 50]).map vC),.sl 7 (oks.map vC),.i .i64 0,.i .i64 0] → (ot2.map obC).set i r = (ot2.set i ⟨2,onm,ocl,orf,ood,none,oit ++ [vaV l (nxK l k2) os2.length 50],oks⟩).map obC:=fun r hr=>by rw [hr,List.map_set]; rfl
     simp only [obC,itC] at hat hget
     rcases hq with rfl | rfl | rfl | rfl | rfl | rfl | rfl | rfl
     ·obtain ⟨hgv,hgl⟩:=gV_at (q:=0) hx
      rw [← hgv] at hat
      simp only [gX_lk (i:=50) (gh:=gh) (q:=0) (id:=1000) (by omega),gX_lk (i:=50) (gh:=gh) (q:=1) (id:=1001) (by omega),gX_lk (i:=50) (gh:=gh) (q:=2) (id:=1002) (by omega),gX_lk (i:=50) (gh:=gh) (q:=3) (id:=1003) (by omega),gX_lk (i:=50) (gh:=gh) (q:=4) (id:=1004) (by omega),gX_lk (i:=50) (gh:=gh) (q:=5) (id:=1005) (by omega),gX_lk (i:=50) (gh:=gh) (q:=6) (id:=1006) (by omega),gX_lk (i:=50) (gh:=gh) (q:=7) (id:=1007) (by omega)]
      refine seq_join (ι:=Unit) (fun _=>⟨167,[(0,.bx 0 0),(2,.bx 1 0),(4,.bx 6 0),(6,.c (.i .i64 50)),(11,.c (.i .i64 (50 : Nat))),(2000,.lk 1000 0 (gV gh 0)),(2001,.lk 1001 0 (gV gh 1)),(2002,.lk 1002 0 (gV gh 2)),(2003,.lk 1003 0 (gV gh 3)),(2004,.lk 1004 0 (gV gh 4)),(2005,.lk 1005 0 (gV gh 5)),(2006,.lk 1006 0 (gV gh 6)),(2007,.lk 1007 0 (gV gh 7)),(1000,.anc 0 (bs 0))],⟨[(0,sB l k2),(1,[.c .nil]),(6,[.own 4 0])],[(4,⟨0,54,10,.sl 10 (ot2.map obC)⟩),(1000,⟨0,34,7,.sl 7 ((gL gh 0).map vC)⟩),(1001,⟨0,34,7,.sl 7 ((gL gh 1).map vC)⟩),(1002,⟨0,34,7,.sl 7 ((gL gh 2).map vC)⟩),(1003,⟨0,34,7,.sl 7 ((gL gh 3).map vC)⟩),(1004,⟨0,34,7,.sl 7 ((gL gh 4).map vC)⟩),(1005,⟨0,34,7,.sl 7 ((gL gh 5).map vC)⟩),(1006,⟨0,34,7,.sl 7 ((gL gh 6).map vC)⟩),(1007,⟨0,34,7,.sl 7 ((gL gh 7).map vC)⟩)],[]⟩,1400⟩) ?_ (fun _=>?_)
      ·repeat' (first|with_reducible refine q_0 ?_|((with_reducible first|refine q_q ha10_ok fun K hK=>?_|refine q_r ha10_ok fun K hK=>?_);simp (maxSteps:=2000000) only [go_sem,↓reduceIte,reduceCtorEq,Nat.reduceLeDiff,Nat.reduceLT,Nat.reduceBEq,Nat.reduceAdd,List.length_map,hn];(repeat1' with_reducible first|apply And.intro|(intro _;try exact q_v)|(refine hK _ ?_;clear hK K))<;>(try (clear hK K;exact q_u)))|(with_reducible refine q_s ?_;(first|apply q_J|apply q_K|apply q_L|apply q_M|apply q_N|apply q_O)<;>try (intro _;try exact q_v)))
       all_goals first | omega | exact join_to () q_D | skip
      with_reducible apply q_a
      with_reducible apply q_e
      refine seq_cut2 (ι:=Unit) (fun _=>⟨167,[(0,.bx 0 0),(2,.bx 1 0),(4,.bx 6 0),(6,.c (.i .i64 50)),(11,.c (.i .i64 (50 : Nat))),(12,.bx 1400 0),(151,.c (.b true)),(2000,.lk 1000 0 (gV gh 0)),(2001,.lk 1001 0 (gV gh 1)),(2002,.lk 1002 0 (gV gh 2)),(2003,.lk 1003 0 (gV gh 3)),(2004,.lk 1004 0 (gV gh 4)),(2005,.lk 1005 0 (gV gh 5)),(2006,.lk 1006 0 (gV gh 6)),(2007,.lk 1007 0 (gV gh 7)),(1000,.anc 0 (bs 0))],⟨[(0,sB l (nxK l k2)),(1,[.c .nil]),(6,[.own 4 0]),(1400,[.c (.i .i64 2),.c (.str onm),.c (.i .i64 ocl),.c (.ints .i64 orf),.c (.ints .i64 ood),.c (.sl 1 []),.c (.a (gV gh 0)),.c (.sl 7 (oks.map vC)),.c (.i .i64 0),.c (.i .i64 0)])],[(4,⟨0,54,10,.sl 10 (ot2.map obC)⟩),(1000,⟨0,34,7,.sl 7 ((gL gh 0).map vC)⟩),(1001,⟨0,34,7,.sl 7 ((gL gh 1).map vC)⟩),(1002,⟨0,34,7,.sl 7 ((gL gh 2).map vC)⟩),(1003,⟨0,34,7,.sl 7 ((gL gh 3).map vC)⟩),(1004,⟨0,34,7,.sl 7 ((gL gh 4).map vC)⟩),(1005,⟨0,34,7,.sl 7 ((gL gh 5).map vC)⟩),(1006,⟨0,34,7,.sl 7 ((gL gh 6).map vC)⟩),(1007,⟨0,34,7,.sl 7 ((gL gh 7).map vC)⟩)],[]⟩,1500⟩) (fun Y hY=>?_) ?_
      ·repeat' (first|with_reducible refine q_0 ?_|((with_reducible first|refine q_q ha10_ok fun K hK=>?_|refine q_r ha10_ok fun K hK=>?_);simp (maxSteps:=2000000) only [go_sem,↓reduceIte,reduceCtorEq,Nat.reduceLeDiff,Nat.reduceLT,Nat.reduceBEq,Nat.reduceAdd,List.length_map,hn,hat];(repeat1' with_reducible first|apply And.intro|(intro _;try exact q_v)|(refine hK _ ?_;clear hK K))<;>(try (clear hK K;exact q_u)))|(with_reducible refine q_s ?_;(first|apply q_J|apply q_K|apply q_L|apply q_M|apply q_N|apply q_O)<;>try (intro _;try exact q_v)))
       all_goals first | omega | contradiction | skip
       all_goals exact cut_fit hY () (by simp only [hx3]; exact q_D)
      intro _
      with_reducible refine q_s ?_
      with_reducible apply q_J
      refine awp_lk 2060 4 6 0 4 0 rfl rfl rfl rfl rfl (fun u hu=>?_)
      obtain ⟨pp,cap,rfl,hpp⟩:=hu.2 os2.length (by simp only [C.len,List.length_map,hn])
      obtain ⟨gb,rfl⟩:=hpp (by omega)
      simp only [St.cell,St.slot,List.set_cons_zero,List.set_cons_succ]
      refine awp_unlk 2000 1400 6 1000 0 (v:=gV gh 0) rfl rfl rfl rfl rfl ?_
      simp only [St.cell,St.slot,List.set_cons_zero,List.set_cons_succ]
      refine awp_last (aqT_ok ha10_ok) rfl (fun K hK=>?_)
      simp only [List.dropLast_cons_cons,List.dropLast_singleton]
      simp (maxSteps:=2000000) only [go_sem,↓reduceIte,reduceCtorEq,Nat.reduceLeDiff,Nat.reduceLT,Nat.reduceBEq,Nat.reduceAdd]
      repeat1' with_reducible first | apply And.intro | intro _
      all_goals first | omega | exact nxK_ok g2 | rfl | exact keep_of [6,1400,6] ⟨rfl,rfl,rfl,trivial⟩ | exact keep_of [1400,6] ⟨rfl,rfl,trivial⟩ | exact keep_of [6,6] ⟨rfl,rfl,trivial⟩ | (rw [hgl,List.length_map]; omega) | skip
      refine ⟨_,fit_oel 164 2060 4 0 (i:=50) (off:=6) rfl rfl rfl rfl (by omega),?_⟩
      simp only [List.getLast_cons_cons,List.getLast_singleton]
      simp (maxSteps:=2000000) only [go_sem,↓reduceIte,reduceCtorEq,Nat.reduceLeDiff,Nat.reduceLT,Nat.reduceBEq,Nat.reduceAdd]
      refine hK _ ?_
      with_reducible apply q_i
      with_reducible apply q_b
      refine awp_unlk 2060 6 0 4 0 (v:=.slice (some ⟨gb,0,none⟩) os2.length cap) rfl rfl rfl rfl rfl ?_
      refine awp_ghost 2061 1900 34 7 (by omega) (by simp only [St.cell]; omega) rfl ?_
      simp only [St.cell,Hp.addBuf,List.set_cons_zero]
      rw [hat]
      simp only [List.set_cons_succ,List.set_cons_zero]
      rw [hcon _ (by rw [hgl,List.map_append]; rfl)]
      repeat' (first|with_reducible refine q_0 ?_|((with_reducible first|refine q_q ha10_ok fun K hK=>?_|refine q_r ha10_ok fun K hK=>?_);simp (maxSteps:=2000000) only [go_sem,↓reduceIte,reduceCtorEq,Nat.reduceLeDiff,Nat.reduceLT,Nat.reduceBEq,Nat.reduceAdd,List.length_map];(repeat1' with_reducible first|apply And.intro|(intro _;try exact q_v)|(refine hK _ ?_;clear hK K))<;>(try (clear hK K;exact q_u)))|(with_reducible refine q_s ?_;(first|apply q_J|apply q_K|apply q_L|apply q_M|apply q_N|apply q_O)<;>try (intro _;try exact q_v)))
      all_goals first | omega | skip
      refine roundr_n [(1900,1000)] ⟨(50 + 1,vaK l (nxK l k2) os2.length 50,os2.set 50 ⟨2,onm,ocl,orf,ood,none,oit ++ [vaV l (nxK l k2) os2.length 50],oks⟩,ot2.set 50 ⟨2,onm,ocl,orf,ood,none,oit ++ [vaV l (nxK l k2) os2.length 50],oks⟩,gh.set 0 none),by simp only; omega,hw2.1,hw2.2,⟨by simp only [List.length_set]; exact g4,h84⟩,hth.forget (by omega),by simp only [hmm2]; exact g7⟩ ?_ (by simp only; omega)
      simp only [gL_set0 gh 0,List.map_nil,gL_set (gh:=gh) (q:=0) (p:=1) (by omega),gL_set (gh:=gh) (q:=0) (p:=2) (by omega),gL_set (gh:=gh) (q:=0) (p:=3) (by omega),gL_set (gh:=gh) (q:=0) (p:=4) (by omega),gL_set (gh:=gh) (q:=0) (p:=5) (by omega),gL_set (gh:=gh) (q:=0) (p:=6) (by omega),gL_set (gh:=gh) (q:=0) (p:=7) (by omega),gX_u (i:=50 + 1) (gh:=gh.set 0 none) (q:=0) (id:=1000) (by omega),gX_lk (i:=50 + 1) (gh:=gh.set 0 none) (q:=1) (id:=1001) (by omega),gV_set (gh:=gh) (q:=0) (p:=1) (by omega),gX_lk (i:=50 + 1) (gh:=gh.set 0 none) (q:=2) (id:=1002) (by omega),gV_set (gh:=gh) (q:=0) (p:=2) (by omega),gX_lk (i:=50 + 1) (gh:=gh.set 0 none) (q:=3) (id:=1003) (by omega),gV_set (gh:=gh) (q:=0) (p:=3) (by omega),gX_lk (i:=50 + 1) (gh:=gh.set 0 none) (q:=4) (id:=1004) (by omega),gV_set (gh:=gh) (q:=0) (p:=4) (by omega),gX_lk (i:=50 + 1) (gh:=gh.set 0 none) (q:=5) (id:=1005) (by omega),gV_set (gh:=gh) (q:=0) (p:=5) (by omega),gX_lk (i:=50 + 1) (gh:=gh.set 0 none) (q:=6) (id:=1006) (by omega),gV_set (gh:=gh) (q:=0) (p:=6) (by omega),gX_lk (i:=50 + 1) (gh:=gh.set 0 none) (q:=7) (id:=1007) (by omega),gV_set (gh:=gh) (q:=0) (p:=7) (by omega),swp]; exact q_D
     ·obtain ⟨hgv,hgl⟩:=gV_at (q:=1) hx
      rw [← hgv] at hat
      simp only [gX_u (i:=51) (gh:=gh) (q:=0) (id:=1000) (by omega),gX_lk (i:=51) (gh:=gh) (q:=1) (id:=1001) (by omega),gX_lk (i:=51) (gh:=gh) (q:=2) (id:=1002) (by omega),gX_lk (i:=51) (gh:=gh) (q:=3) (id:=1003) (by omega),gX_lk (i:=51) (gh:=gh) (q:=4) (id:=1004) (by omega),gX_lk (i:=51) (gh:=gh) (q:=5) (id:=1005) (by omega),gX_lk (i:=51) (gh:=gh) (q:=6) (id:=1006) (by omega),gX_lk (i:=51) (gh:=gh) (q:=7) (id:=1007) (by omega)]
      refine seq_join (ι:=Unit) (fun _=>⟨167,[(0,.bx 0 0),(2,.bx 1 0),(4,.bx 6 0),(6,.c (.i .i64 50)),(11,.c (.i .i64 (51 : Nat))),(2000,.u),(2001,.lk 1001 0 (gV gh 1)),(2002,.lk 1002 0 (gV gh 2)),(2003,.lk 1003 0 (gV gh 3)),(2004,.lk 1004 0 (gV gh 4)),(2005,.lk 1005 0 (gV gh 5)),(2006,.lk 1006 0 (gV gh 6)),(2007,.lk 1007 0 (gV gh 7)),(1000,.anc 0 (bs 0))],⟨[(0,sB l k2),(1,[.c .nil]),(6,[.own 4 0])],[(4,⟨0,54,10,.sl 10 (ot2.map obC)⟩),(1000,⟨0,34,7,.sl 7 ((gL gh 0).map vC)⟩),(1001,⟨0,34,7,.sl 7 ((gL gh 1).map vC)⟩),(1002,⟨0,34,7,.sl 7 ((gL gh 2).map vC)⟩),(1003,⟨0,34,7,.sl 7 ((gL gh 3).map vC)⟩),(1004,⟨0,34,7,.sl 7 ((gL gh 4).map vC)⟩),(1005,⟨0,34,7,.sl 7 ((gL gh 5).map vC)⟩),(1006,⟨0,34,7,.sl 7 ((gL gh 6).map vC)⟩),(1007,⟨0,34,7,.sl 7 ((gL gh 7).map vC)⟩)],[]⟩,1400⟩) ?_ (fun _=>?_)
      ·repeat' (first|with_reducible refine q_0 ?_|((with_reducible first|refine q_q ha10_ok fun K hK=>?_|refine q_r ha10_ok fun K hK=>?_);simp (maxSteps:=2000000) only [go_sem,↓reduceIte,reduceCtorEq,Nat.reduceLeDiff,Nat.reduceLT,Nat.reduceBEq,Nat.reduceAdd,List.length_map,hn];(repeat1' with_reducible first|apply And.intro|(intro _;try exact q_v)|(refine hK _ ?_;clear hK K))<;>(try (clear hK K;exact q_u)))|(with_reducible refine q_s ?_;(first|apply q_J|apply q_K|apply q_L|apply q_M|apply q_N|apply q_O)<;>try (intro _;try exact q_v)))
       all_goals first | omega | exact join_to () q_D | skip
      with_reducible apply q_a
      with_reducible apply q_e
      refine seq_cut2 (ι:=Unit) (fun _=>⟨167,[(0,.bx 0 0),(2,.bx 1 0),(4,.bx 6 0),(6,.c (.i .i64 50)),(11,.c (.i .i64 (51 : Nat))),(12,.bx 1400 0),(151,.c (.b true)),(2000,.u),(2001,.lk 1001 0 (gV gh 1)),(2002,.lk 1002 0 (gV gh 2)),(2003,.lk 1003 0 (gV gh 3)),(2004,.lk 1004 0 (gV gh 4)),(2005,.lk 1005 0 (gV gh 5)),(2006,.lk 1006 0 (gV gh 6)),(2007,.lk 1007 0 (gV gh 7)),(1000,.anc 0 (bs 0))],⟨[(0,sB l (nxK l k2)),(1,[.c .nil]),(6,[.own 4 0]),(1400,[.c (.i .i64 2),.c (.str onm),.c (.i .i64 ocl),.c (.ints .i64 orf),.c (.ints .i64 ood),.c (.sl 1 []),.c (.a (gV gh 1)),.c (.sl 7 (oks.map vC)),.c (.i .i64 0),.c (.i .i64 0)])],[(4,⟨0,54,10,.sl 10 (ot2.map obC)⟩),(1000,⟨0,34,7,.sl 7 ((gL gh 0).map vC)⟩),(1001,⟨0,34,7,.sl 7 ((gL gh 1).map vC)⟩),(1002,⟨0,34,7,.sl 7 ((gL gh 2).map vC)⟩),(1003,⟨0,34,7,.sl 7 ((gL gh 3).map vC)⟩),(1004,⟨0,34,7,.sl 7 ((gL gh 4).map vC)⟩),(1005,⟨0,34,7,.sl 7 ((gL gh 5).map vC)⟩),(1006,⟨0,34,7,.sl 7 ((gL gh 6).map vC)⟩),(1007,⟨0,34,7,.sl 7 ((gL gh 7).map vC)⟩)],[]⟩,1500⟩) (fun Y hY=>?_) ?_
      ·repeat' (first|with_reducible refine q_0 ?_|((with_reducible first|refine q_q ha10_ok fun K hK=>?_|refine q_r ha10_ok fun K hK=>?_);simp (maxSteps:=2000000) only [go_sem,↓reduceIte,reduceCtorEq,Nat.reduceLeDiff,Nat.reduceLT,Nat.reduceBEq,Nat.reduceAdd,List.length_map,hn,hat];(repeat1' with_reducible first|apply And.intro|(intro _;try exact q_v)|(refine hK _ ?_;clear hK K))<;>(try (clear hK K;exact q_u)))|(with_reducible refine q_s ?_;(first|apply q_J|apply q_K|apply q_L|apply q_M|apply q_N|apply q_O)<;>try (intro _;try exact q_v)))
       all_goals first | omega | contradiction | skip
       all_goals exact cut_fit hY () (by simp only [hx3]; exact q_D)
      intro _
      with_reducible refine q_s ?_
      with_reducible apply q_J
      refine awp_lk 2060 4 6 0 4 0 rfl rfl rfl rfl rfl (fun u hu=>?_)
      obtain ⟨pp,cap,rfl,hpp⟩:=hu.2 os2.length (by simp only [C.len,List.length_map,hn])
      obtain ⟨gb,rfl⟩:=hpp (by omega)
      simp only [St.cell,St.slot,List.set_cons_zero,List.set_cons_succ]
      refine awp_unlk 2001 1400 6 1001 0 (v:=gV gh 1) rfl rfl rfl rfl rfl ?_
      simp only [St.cell,St.slot,List.set_cons_zero,List.set_cons_succ]
      refine awp_last (aqT_ok ha10_ok) rfl (fun K hK=>?_)
      simp only [List.dropLast_cons_cons,List.dropLast_singleton]
      simp (maxSteps:=2000000) only [go_sem,↓reduceIte,reduceCtorEq,Nat.reduceLeDiff,Nat.reduceLT,Nat.reduceBEq,Nat.reduceAdd]
      repeat1' with_reducible first | apply And.intro | intro _
      all_goals first | omega | exact nxK_ok g2 | rfl | exact keep_of [6,1400,6] ⟨rfl,rfl,rfl,trivial⟩ | exact keep_of [1400,6] ⟨rfl,rfl,trivial⟩ | exact keep_of [6,6] ⟨rfl,rfl,trivial⟩ | (rw [hgl,List.length_map]; omega) | skip
      refine ⟨_,fit_oel 164 2060 4 0 (i:=51) (off:=6) rfl rfl rfl rfl (by omega),?_⟩
      simp only [List.getLast_cons_cons,List.getLast_singleton]
      simp (maxSteps:=2000000) only [go_sem,↓reduceIte,reduceCtorEq,Nat.reduceLeDiff,Nat.reduceLT,Nat.reduceBEq,Nat.reduceAdd]
      refine hK _ ?_
      with_reducible apply q_i
      with_reducible apply q_b
      refine awp_unlk 2060 6 0 4 0 (v:=.slice (some ⟨gb,0,none⟩) os2.length cap) rfl rfl rfl rfl rfl ?_
      refine awp_ghost 2061 1900 34 7 (by omega) (by simp only [St.cell]; omega) rfl ?_
      simp only [St.cell,Hp.addBuf,List.set_cons_zero]
      rw [hat]
      simp only [List.set_cons_succ,List.set_cons_zero]
      rw [hcon _ (by rw [hgl,List.map_append]; rfl)]
      repeat' (first|with_reducible refine q_0 ?_|((with_reducible first|refine q_q ha10_ok fun K hK=>?_|refine q_r ha10_ok fun K hK=>?_);simp (maxSteps:=2000000) only [go_sem,↓reduceIte,reduceCtorEq,Nat.reduceLeDiff,Nat.reduceLT,Nat.reduceBEq,Nat.reduceAdd,List.length_map];(repeat1' with_reducible first|apply And.intro|(intro _;try exact q_v)|(refine hK _ ?_;clear hK K))<;>(try (clear hK K;exact q_u)))|(with_reducible refine q_s ?_;(first|apply q_J|apply q_K|apply q_L|apply q_M|apply q_N|apply q_O)<;>try (intro _;try exact q_v)))
      all_goals first | omega | skip
      refine roundr_n [(1900,1001)] ⟨(51 + 1,vaK l (nxK l k2) os2.length 50,os2.set 51 ⟨2,onm,ocl,orf,ood,none,oit ++ [vaV l (nxK l k2) os2.length 50],oks⟩,ot2.set 51 ⟨2,onm,ocl,orf,ood,none,oit ++ [vaV l (nxK l k2) os2.length 50],oks⟩,gh.set 1 none),by simp only; omega,hw2.1,hw2.2,⟨by simp only [List.length_set]; exact g4,h84⟩,hth.forget (by omega),by simp only [hmm2]; exact g7⟩ ?_ (by simp only; omega)
      simp only [gL_set0 gh 1,List.map_nil,gL_set (gh:=gh) (q:=1) (p:=0) (by omega),gL_set (gh:=gh) (q:=1) (p:=2) (by omega),gL_set (gh:=gh) (q:=1) (p:=3) (by omega),gL_set (gh:=gh) (q:=1) (p:=4) (by omega),gL_set (gh:=gh) (q:=1) (p:=5) (by omega),gL_set (gh:=gh) (q:=1) (p:=6) (by omega),gL_set (gh:=gh) (q:=1) (p:=7) (by omega),gX_u (i:=51 + 1) (gh:=gh.set 1 none) (q:=0) (id:=1000) (by omega),gX_u (i:=51 + 1) (gh:=gh.set 1 none) (q:=1) (id:=1001) (by omega),gX_lk (i:=51 + 1) (gh:=gh.set 1 none) (q:=2) (id:=1002) (by omega),gV_set (gh:=gh) (q:=1) (p:=2) (by omega),gX_lk (i:=51 + 1) (gh:=gh.set 1 none) (q:=3) (id:=1003) (by omega),gV_set (gh:=gh) (q:=1) (p:=3) (by omega),gX_lk (i:=51 + 1) (gh:=gh.set 1 none) (q:=4) (id:=1004) (by omega),gV_set (gh:=gh) (q:=1) (p:=4) (by omega),gX_lk (i:=51 + 1) (gh:=gh.set 1 none) (q:=5) (id:=1005) (by omega),gV_set (gh:=gh) (q:=1) (p:=5) (by omega),gX_lk (i:=51 + 1) (gh:=gh.set 1 none) (q:=6) (id:=1006) (by omega),gV_set (gh:=gh) (q:=1) (p:=6) (by omega),gX_lk (i:=51 + 1) (gh:=gh.set 1 none) (q:=7) (id:=1007) (by omega),gV_set (gh:=gh) (q:=1) (p:=7) (by omega),swp]; exact q_D
     ·obtain ⟨hgv,hgl⟩:=gV_at (q:=2) hx
      rw [← hgv] at hat
      simp only [gX_u (i:=52) (gh:=gh) (q:=0) (id:=1000) (by omega),gX_u (i:=52) (gh:=gh) (q:=1) (id:=1001) (by omega),gX_lk (i:=52) (gh:=gh) (q:=2) (id:=1002) (by omega),gX_lk (i:=52) (gh:=gh) (q:=3) (id:=1003) (by omega),gX_lk (i:=52) (gh:=gh) (q:=4) (id:=1004) (by omega),gX_lk (i:=52) (gh:=gh) (q:=5) (id:=1005) (by omega),gX_lk (i:=52) (gh:=gh) (q:=6) (id:=1006) (by omega),gX_lk (i:=52) (gh:=gh) (q:=7) (id:=1007) (by omega)]
      refine seq_join (ι:=Unit) (fun _=>⟨167,[(0,.bx 0 0),(2,.bx 1 0),(4,.bx 6 0),(6,.c (.i .i64 50)),(11,.c (.i .i64 (52 : Nat))),(2000,.u),(2001,.u),(2002,.lk 1002 0 (gV gh 2)),(2003,.lk 1003 0 (gV gh 3)),(2004,.lk 1004 0 (gV gh 4)),(2005,.lk 1005 0 (gV gh 5)),(2006,.lk 1006 0 (gV gh 6)),(2007,.lk 1007 0 (gV gh 7)),(1000,.anc 0 (bs 0))],⟨[(0,sB l k2),(1,[.c .nil]),(6,[.own 4 0])],[(4,⟨0,54,10,.sl 10 (ot2.map obC)⟩),(1000,⟨0,34,7,.sl 7 ((gL gh 0).map vC)⟩),(1001,⟨0,34,7,.sl 7 ((gL gh 1).map vC)⟩),(1002,⟨0,34,7,.sl 7 ((gL gh 2).map vC)⟩),(1003,⟨0,34,7,.sl 7 ((gL gh 3).map vC)⟩),(1004,⟨0,34,7,.sl 7 ((gL gh 4).map vC)⟩),(1005,⟨0,34,7,.sl 7 ((gL gh 5).map vC)⟩),(1006,⟨0,34,7,.sl 7 ((gL gh 6).map vC)⟩),(1007,⟨0,34,7,.sl 7 ((gL gh 7).map vC)⟩)],[]⟩,1400⟩) ?_ (fun _=>?_)
      ·repeat' (first|with_reducible refine q_0 ?_|((with_reducible first|refine q_q ha10_ok fun K hK=>?_|refine q_r ha10_ok fun K hK=>?_);simp (maxSteps:=2000000) only [go_sem,↓reduceIte,reduceCtorEq,Nat.reduceLeDiff,Nat.reduceLT,Nat.reduceBEq,Nat.reduceAdd,List.length_map,hn];(repeat1' with_reducible first|apply And.intro|(intro _;try exact q_v)|(refine hK _ ?_;clear hK K))<;>(try (clear hK K;exact q_u)))|(with_reducible refine q_s ?_;(first|apply q_J|apply q_K|apply q_L|apply q_M|apply q_N|apply q_O)<;>try (intro _;try exact q_v)))
       all_goals first | omega | exact join_to () q_D | skip
      with_reducible apply q_a
      with_reducible apply q_e
      refine seq_cut2 (ι:=Unit) (fun _=>⟨167,[(0,.bx 0 0),(2,.bx 1 0),(4,.bx 6 0),(6,.c (.i .i64 50)),(11,.c (.i .i64 (52 : Nat))),(12,.bx 1400 0),(151,.c (.b true)),(2000,.u),(2001,.u),(2002,.lk 1002 0 (gV gh 2)),(2003,.lk 1003 0 (gV gh 3)),(2004,.lk 1004 0 (gV gh 4)),(2005,.lk 1005 0 (gV gh 5)),(2006,.lk 1006 0 (gV gh 6)),(2007,.lk 1007 0 (gV gh 7)),(1000,.anc 0 (bs 0))],⟨[(0,sB l (nxK l k2)),(1,[.c .nil]),(6,[.own 4 0]),(1400,[.c (.i .i64 2),.c (.str onm),.c (.i .i64 ocl),.c (.ints .i64 orf),.c (.ints .i64 ood),.c (.sl 1 []),.c (.a (gV gh 2)),.c (.sl 7 (oks.map vC)),.c (.i .i64 0),.c (.i .i64 0)])],[(4,⟨0,54,10,.sl 10 (ot2.map obC)⟩),(1000,⟨0,34,7,.sl 7 ((gL gh 0).map vC)⟩),(1001,⟨0,34,7,.sl 7 ((gL gh 1).map vC)⟩),(1002,⟨0,34,7,.sl 7 ((gL gh 2).map vC)⟩),(1003,⟨0,34,7,.sl 7 ((gL gh 3).map vC)⟩),(1004,⟨0,34,7,.sl 7 ((gL gh 4).map vC)⟩),(1005,⟨0,34,7,.sl 7 ((gL gh 5).map vC)⟩),(1006,⟨0,34,7,.sl 7 ((gL gh 6).map vC)⟩),(1007,⟨0,34,7,.sl 7 ((gL gh 7).map vC)⟩)],[]⟩,1500⟩) (fun Y hY=>?_) ?_
      ·repeat' (first|with_reducible refine q_0 ?_|((with_reducible first|refine q_q ha10_ok fun K hK=>?_|refine q_r ha10_ok fun K hK=>?_);simp (maxSteps:=2000000) only [go_sem,↓reduceIte,reduceCtorEq,Nat.reduceLeDiff,Nat.reduceLT,Nat.reduceBEq,Nat.reduceAdd,List.length_map,hn,hat];(repeat1' with_reducible first|apply And.intro|(intro _;try exact q_v)|(refine hK _ ?_;clear hK K))<;>(try (clear hK K;exact q_u)))|(with_reducible refine q_s ?_;(first|apply q_J|apply q_K|apply q_L|apply q_M|apply q_N|apply q_O)<;>try (intro _;try exact q_v)))
       all_goals first | omega | contradiction | skip
       all_goals exact cut_fit hY () (by simp only [hx3]; exact q_D)
      intro _
      with_reducible refine q_s ?_
      with_reducible apply q_J
      refine awp_lk 2060 4 6 0 4 0 rfl rfl rfl rfl rfl (fun u hu=>?_)
      obtain ⟨pp,cap,rfl,hpp⟩:=hu.2 os2.length (by simp only [C.len,List.length_map,hn])
      obtain ⟨gb,rfl⟩:=hpp (by omega)
      simp only [St.cell,St.slot,List.set_cons_zero,List.set_cons_succ]
      refine awp_unlk 2002 1400 6 1002 0 (v:=gV gh 2) rfl rfl rfl rfl rfl ?_
      simp only [St.cell,St.slot,List.set_cons_zero,List.set_cons_succ]
      refine awp_last (aqT_ok ha10_ok) rfl (fun K hK=>?_)
      simp only [List.dropLast_cons_cons,List.dropLast_singleton]
      simp (maxSteps:=2000000) only [go_sem,↓reduceIte,reduceCtorEq,Nat.reduceLeDiff,Nat.reduceLT,Nat.reduceBEq,Nat.reduceAdd]
      repeat1' with_reducible first | apply And.intro | intro _
      all_goals first | omega | exact nxK_ok g2 | rfl | exact keep_of [6,1400,6] ⟨rfl,rfl,rfl,trivial⟩ | exact keep_of [1400,6] ⟨rfl,rfl,trivial⟩ | exact keep_of [6,6] ⟨rfl,rfl,trivial⟩ | (rw [hgl,List.length_map]; omega) | skip
      refine ⟨_,fit_oel 164 2060 4 0 (i:=52) (off:=6) rfl rfl rfl rfl (by omega),?_⟩
      simp only [List.getLast_cons_cons,List.getLast_singleton]
      simp (maxSteps:=2000000) only [go_sem,↓reduceIte,reduceCtorEq,Nat.reduceLeDiff,Nat.reduceLT,Nat.reduceBEq,Nat.reduceAdd]
      refine hK _ ?_
      with_reducible apply q_i
      with_reducible apply q_b
      refine awp_unlk 2060 6 0 4 0 (v:=.slice (some ⟨gb,0,none⟩) os2.length cap) rfl rfl rfl rfl rfl ?_
      refine awp_ghost 2061 1900 34 7 (by omega) (by simp only [St.cell]; omega) rfl ?_
      simp only [St.cell,Hp.addBuf,List.set_cons_zero]
      rw [hat]
      simp only [List.set_cons_succ,List.set_cons_zero]
      rw [hcon _ (by rw [hgl,List.map_append]; rfl)]
      repeat' (first|with_reducible refine q_0 ?_|((with_reducible first|refine q_q ha10_ok fun K hK=>?_|refine q_r ha10_ok fun K hK=>?_);simp (maxSteps:=2000000) only [go_sem,↓reduceIte,reduceCtorEq,Nat.reduceLeDiff,Nat.reduceLT,Nat.reduceBEq,Nat.reduceAdd,List.length_map];(repeat1' with_reducible first|apply And.intro|(intro _;try exact q_v)|(refine hK _ ?_;clear hK K))<;>(try (clear hK K;exact q_u)))|(with_reducible refine q_s ?_;(first|apply q_J|apply q_K|apply q_L|apply q_M|apply q_N|apply q_O)<;>try (intro _;try exact q_v)))
      all_goals first | omega | skip
      refine roundr_n [(1900,1002)] ⟨(52 + 1,vaK l (nxK l k2) os2.length 50,os2.set 52 ⟨2,onm,ocl,orf,ood,none,oit ++ [vaV l (nxK l k2) os2.length 50],oks⟩,ot2.set 52 ⟨2,onm,ocl,orf,ood,none,oit ++ [vaV l (nxK l k2) os2.length 50],oks⟩,gh.set 2 none),by simp only; omega,hw2.1,hw2.2,⟨by simp only [List.length_set]; exact g4,h84⟩,hth.forget (by omega),by simp only [hmm2]; exact g7⟩ ?_ (by simp only; omega)
      simp only [gL_set0 gh 2,List.map_nil,gL_set (gh:=gh) (q:=2) (p:=0) (by omega),gL_set (gh:=gh) (q:=2) (p:=1) (by omega),gL_set (gh:=gh) (q:=2) (p:=3) (by omega),gL_set (gh:=gh) (q:=2) (p:=4) (by omega),gL_set (gh:=gh) (q:=2) (p:=5) (by omega),gL_set (gh:=gh) (q:=2) (p:=6) (by omega),gL_set (gh:=gh) (q:=2) (p:=7) (by omega),gX_u (i:=52 + 1) (gh:=gh.set 2 none) (q:=0) (id:=1000) (by omega),gX_u (i:=52 + 1) (gh:=gh.set 2 none) (q:=1) (id:=1001) (by omega),gX_u (i:=52 + 1) (gh:=gh.set 2 none) (q:=2) (id:=1002) (by omega),gX_lk (i:=52 + 1) (gh:=gh.set 2 none) (q:=3) (id:=1003) (by omega),gV_set (gh:=gh) (q:=2) (p:=3) (by omega),gX_lk (i:=52 + 1) (gh:=gh.set 2 none) (q:=4) (id:=1004) (by omega),gV_set (gh:=gh) (q:=2) (p:=4) (by omega),gX_lk (i:=52 + 1) (gh:=gh.set 2 none) (q:=5) (id:=1005) (by omega),gV_set (gh:=gh) (q:=2) (p:=5) (by omega),gX_lk (i:=52 + 1) (gh:=gh.set 2 none) (q:=6) (id:=1006) (by omega),gV_set (gh:=gh) (q:=2) (p:=6) (by omega),gX_lk (i:=52 + 1) (gh:=gh.set 2 none) (q:=7) (id:=1007) (by omega),gV_set (gh:=gh) (q:=2) (p:=7) (by omega),swp]; exact q_D
     ·obtain ⟨hgv,hgl⟩:=gV_at (q:=3) hx
      rw [← hgv] at hat
      simp only [gX_u (i:=53) (gh:=gh) (q:=0) (id:=1000) (by omega),gX_u (i:=53) (gh:=gh) (q:=1) (id:=1001) (by omega),gX_u (i:=53) (gh:=gh) (q:=2) (id:=1002) (by omega),gX_lk (i:=53) (gh:=gh) (q:=3) (id:=1003) (by omega),gX_lk (i:=53) (gh:=gh) (q:=4) (id:=1004) (by omega),gX_lk (i:=53) (gh:=gh) (q:=5) (id:=1005) (by omega),gX_lk (i:=53) (gh:=gh) (q:=6) (id:=1006) (by omega),gX_lk (i:=53) (gh:=gh) (q:=7) (id:=1007) (by omega)]
      refine seq_join (ι:=Unit) (fun _=>⟨167,[(0,.bx 0 0),(2,.bx 1 0),(4,.bx 6 0),(6,.c (.i .i64 50)),(11,.c (.i .i64 (53 : Nat))),(2000,.u),(2001,.u),(2002,.u),(2003,.lk 1003 0 (gV gh 3)),(2004,.lk 1004 0 (gV gh 4)),(2005,.lk 1005 0 (gV gh 5)),(2006,.lk 1006 0 (gV gh 6)),(2007,.lk 1007 0 (gV gh 7)),(1000,.anc 0 (bs 0))],⟨[(0,sB l k2),(1,[.c .nil]),(6,[.own 4 0])],[(4,⟨0,54,10,.sl 10 (ot2.map obC)⟩),(1000,⟨0,34,7,.sl 7 ((gL gh 0).map vC)⟩),(1001,⟨0,34,7,.sl 7 ((gL gh 1).map vC)⟩),(1002,⟨0,34,7,.sl 7 ((gL gh 2).map vC)⟩),(1003,⟨0,34,7,.sl 7 ((gL gh 3).map vC)⟩),(1004,⟨0,34,7,.sl 7 ((gL gh 4).map vC)⟩),(1005,⟨0,34,7,.sl 7 ((gL gh 5).map vC)⟩),(1006,⟨0,34,7,.sl 7 ((gL gh 6).map vC)⟩),(1007,⟨0,34,7,.sl 7 ((gL gh 7).map vC)⟩)],[]⟩,1400⟩) ?_ (fun _=>?_)
      ·repeat' (first|with_reducible refine q_0 ?_|((with_reducible first|refine q_q ha10_ok fun K hK=>?_|refine q_r ha10_ok fun K hK=>?_);simp (maxSteps:=2000000) only [go_sem,↓reduceIte,reduceCtorEq,Nat.reduceLeDiff,Nat.reduceLT,Nat.reduceBEq,Nat.reduceAdd,List.length_map,hn];(repeat1' with_reducible first|apply And.intro|(intro _;try exact q_v)|(refine hK _ ?_;clear hK K))<;>(try (clear hK K;exact q_u)))|(with_reducible refine q_s ?_;(first|apply q_J|apply q_K|apply q_L|apply q_M|apply q_N|apply q_O)<;>try (intro _;try exact q_v)))
       all_goals first | omega | exact join_to () q_D | skip
      with_reducible apply q_a
      with_reducible apply q_e
      refine seq_cut2 (ι:=Unit) (fun _=>⟨167,[(0,.bx 0 0),(2,.bx 1 0),(4,.bx 6 0),(6,.c (.i .i64 50)),(11,.c (.i .i64 (53 : Nat))),(12,.bx 1400 0),(151,.c (.b true)),(2000,.u),(2001,.u),(2002,.u),(2003,.lk 1003 0 (gV gh 3)),(2004,.lk 1004 0 (gV gh 4)),(2005,.lk 1005 0 (gV gh 5)),(2006,.lk 1006 0 (gV gh 6)),(2007,.lk 1007 0 (gV gh 7)),(1000,.anc 0 (bs 0))],⟨[(0,sB l (nxK l k2)),(1,[.c .nil]),(6,[.own 4 0]),(1400,[.c (.i .i64 2),.c (.str onm),.c (.i .i64 ocl),.c (.ints .i64 orf),.c (.ints .i64 ood),.c (.sl 1 []),.c (.a (gV gh 3)),.c (.sl 7 (oks.map vC)),.c (.i .i64 0),.c (.i .i64 0)])],[(4,⟨0,54,10,.sl 10 (ot2.map obC)⟩),(1000,⟨0,34,7,.sl 7 ((gL gh 0).map vC)⟩),(1001,⟨0,34,7,.sl 7 ((gL gh 1).map vC)⟩),(1002,⟨0,34,7,.sl 7 ((gL gh 2).map vC)⟩),(1003,⟨0,34,7,.sl 7 ((gL gh 3).map vC)⟩),(1004,⟨0,34,7,.sl 7 ((gL gh 4).map vC)⟩),(1005,⟨0,34,7,.sl 7 ((gL gh 5).map vC)⟩),(1006,⟨0,34,7,.sl 7 ((gL gh 6).map vC)⟩),(1007,⟨0,34,7,.sl 7 ((gL gh 7).map vC)⟩)],[]⟩,1500⟩) (fun Y hY=>?_) ?_
      ·repeat' (first|with_reducible refine q_0 ?_|((with_reducible first|refine q_q ha10_ok fun K hK=>?_|refine q_r ha10_ok fun K hK=>?_);simp (maxSteps:=2000000) only [go_sem,↓reduceIte,reduceCtorEq,Nat.reduceLeDiff,Nat.reduceLT,Nat.reduceBEq,Nat.reduceAdd,List.length_map,hn,hat];(repeat1' with_reducible first|apply And.intro|(intro _;try exact q_v)|(refine hK _ ?_;clear hK K))<;>(try (clear hK K;exact q_u)))|(with_reducible refine q_s ?_;(first|apply q_J|apply q_K|apply q_L|apply q_M|apply q_N|apply q_O)<;>try (intro _;try exact q_v)))
       all_goals first | omega | contradiction | skip
       all_goals exact cut_fit hY () (by simp only [hx3]; exact q_D)
      intro _
      with_reducible refine q_s ?_
      with_reducible apply q_J
      refine awp_lk 2060 4 6 0 4 0 rfl rfl rfl rfl rfl (fun u hu=>?_)
      obtain ⟨pp,cap,rfl,hpp⟩:=hu.2 os2.length (by simp only [C.len,List.length_map,hn])
      obtain ⟨gb,rfl⟩:=hpp (by omega)
      simp only [St.cell,St.slot,List.set_cons_zero,List.set_cons_succ]
      refine awp_unlk 2003 1400 6 1003 0 (v:=gV gh 3) rfl rfl rfl rfl rfl ?_
      simp only [St.cell,St.slot,List.set_cons_zero,List.set_cons_succ]
      refine awp_last (aqT_ok ha10_ok) rfl (fun K hK=>?_)
      simp only [List.dropLast_cons_cons,List.dropLast_singleton]
      simp (maxSteps:=2000000) only [go_sem,↓reduceIte,reduceCtorEq,Nat.reduceLeDiff,Nat.reduceLT,Nat.reduceBEq,Nat.reduceAdd]
      repeat1' with_reducible first | apply And.intro | intro _
      all_goals first | omega | exact nxK_ok g2 | rfl | exact keep_of [6,1400,6] ⟨rfl,rfl,rfl,trivial⟩ | exact keep_of [1400,6] ⟨rfl,rfl,trivial⟩ | exact keep_of [6,6] ⟨rfl,rfl,trivial⟩ | (rw [hgl,List.length_map]; omega) | skip
      refine ⟨_,fit_oel 164 2060 4 0 (i:=53) (off:=6) rfl rfl rfl rfl (by omega),?_⟩
      simp only [List.getLast_cons_cons,List.getLast_singleton]
      simp (maxSteps:=2000000) only [go_sem,↓reduceIte,reduceCtorEq,Nat.reduceLeDiff,Nat.reduceLT,Nat.reduceBEq,Nat.reduceAdd]
      refine hK _ ?_
      with_reducible apply q_i
      with_reducible apply q_b
      refine awp_unlk 2060 6 0 4 0 (v:=.slice (some ⟨gb,0,none⟩) os2.length cap) rfl rfl rfl rfl rfl ?_
      refine awp_ghost 2061 1900 34 7 (by omega) (by simp only [St.cell]; omega) rfl ?_
      simp only [St.cell,Hp.addBuf,List.set_cons_zero]
      rw [hat]
      simp only [List.set_cons_succ,List.set_cons_zero]
      rw [hcon _ (by rw [hgl,List.map_append]; rfl)]
      repeat' (first|with_reducible refine q_0 ?_|((with_reducible first|refine q_q ha10_ok fun K hK=>?_|refine q_r ha10_ok fun K hK=>?_);simp (maxSteps:=2000000) only [go_sem,↓reduceIte,reduceCtorEq,Nat.reduceLeDiff,Nat.reduceLT,Nat.reduceBEq,Nat.reduceAdd,List.length_map];(repeat1' with_reducible first|apply And.intro|(intro _;try exact q_v)|(refine hK _ ?_;clear hK K))<;>(try (clear hK K;exact q_u)))|(with_reducible refine q_s ?_;(first|apply q_J|apply q_K|apply q_L|apply q_M|apply q_N|apply q_O)<;>try (intro _;try exact q_v)))
      all_goals first | omega | skip
      refine roundr_n [(1900,1003)] ⟨(53 + 1,vaK l (nxK l k2) os2.length 50,os2.set 53 ⟨2,onm,ocl,orf,ood,none,oit ++ [vaV l (nxK l k2) os2.length 50],oks⟩,ot2.set 53 ⟨2,onm,ocl,orf,ood,none,oit ++ [vaV l (nxK l k2) os2.length 50],oks⟩,gh.set 3 none),by simp only; omega,hw2.1,hw2.2,⟨by simp only [List.length_set]; exact g4,h84⟩,hth.forget (by omega),by simp only [hmm2]; exact g7⟩ ?_ (by simp only; omega)
      simp only [gL_set0 gh 3,List.map_nil,gL_set (gh:=gh) (q:=3) (p:=0) (by omega),gL_set (gh:=gh) (q:=3) (p:=1) (by omega),gL_set (gh:=gh) (q:=3) (p:=2) (by omega),gL_set (gh:=gh) (q:=3) (p:=4) (by omega),gL_set (gh:=gh) (q:=3) (p:=5) (by omega),gL_set (gh:=gh) (q:=3) (p:=6) (by omega),gL_set (gh:=gh) (q:=3) (p:=7) (by omega),gX_u (i:=53 + 1) (gh:=gh.set 3 none) (q:=0) (id:=1000) (by omega),gX_u (i:=53 + 1) (gh:=gh.set 3 none) (q:=1) (id:=1001) (by omega),gX_u (i:=53 + 1) (gh:=gh.set 3 none) (q:=2) (id:=1002) (by omega),gX_u (i:=53 + 1) (gh:=gh.set 3 none) (q:=3) (id:=1003) (by omega),gX_lk (i:=53 + 1) (gh:=gh.set 3 none) (q:=4) (id:=1004) (by omega),gV_set (gh:=gh) (q:=3) (p:=4) (by omega),gX_lk (i:=53 + 1) (gh:=gh.set 3 none) (q:=5) (id:=1005) (by omega),gV_set (gh:=gh) (q:=3) (p:=5) (by omega),gX_lk (i:=53 + 1) (gh:=gh.set 3 none) (q:=6) (id:=1006) (by omega),gV_set (gh:=gh) (q:=3) (p:=6) (by omega),gX_lk (i:=53 + 1) (gh:=gh.set 3 none) (q:=7) (id:=1007) (by omega),gV_set (gh:=gh) (q:=3) (p:=7) (by omega),swp]; exact q_D
     ·obtain ⟨hgv,hgl⟩:=gV_at (q:=4) hx
      rw [← hgv] at hat
      simp only [gX_u (i:=54) (gh:=gh) (q:=0) (id:=1000) (by omega),gX_u (i:=54) (gh:=gh) (q:=1) (id:=1001) (by omega),gX_u (i:=54) (gh:=gh) (q:=2) (id:=1002) (by omega),gX_u (i:=54) (gh:=gh) (q:=3) (id:=1003) (by omega),gX_lk (i:=54) (gh:=gh) (q:=4) (id:=1004) (by omega),gX_lk (i:=54) (gh:=gh) (q:=5) (id:=1005) (by omega),gX_lk (i:=54) (gh:=gh) (q:=6) (id:=1006) (by omega),gX_lk (i:=54) (gh:=gh) (q:=7) (id:=1007) (by omega)]
      refine seq_join (ι:=Unit) (fun _=>⟨167,[(0,.bx 0 0),(2,.bx 1 0),(4,.bx 6 0),(6,.c (.i .i64 50)),(11,.c (.i .i64 (54 : Nat))),(2000,.u),(2001,.u),(2002,.u),(2003,.u),(2004,.lk 1004 0 (gV gh 4)),(2005,.lk 1005 0 (gV gh 5)),(2006,.lk 1006 0 (gV gh 6)),(2007,.lk 1007 0 (gV gh 7)),(1000,.anc 0 (bs 0))],⟨[(0,sB l k2),(1,[.c .nil]),(6,[.own 4 0])],[(4,⟨0,54,10,.sl 10 (ot2.map obC)⟩),(1000,⟨0,34,7,.sl 7 ((gL gh 0).map vC)⟩),(1001,⟨0,34,7,.sl 7 ((gL gh 1).map vC)⟩),(1002,⟨0,34,7,.sl 7 ((gL gh 2).map vC)⟩),(1003,⟨0,34,7,.sl 7 ((gL gh 3).map vC)⟩),(1004,⟨0,34,7,.sl 7 ((gL gh 4).map vC)⟩),(1005,⟨0,34,7,.sl 7 ((gL gh 5).map vC)⟩),(1006,⟨0,34,7,.sl 7 ((gL gh 6).map vC)⟩),(1007,⟨0,34,7,.sl 7 ((gL gh 7).map vC)⟩)],[]⟩,1400⟩) ?_ (fun _=>?_)
      ·repeat' (first|with_reducible refine q_0 ?_|((with_reducible first|refine q_q ha10_ok fun K hK=>?_|refine q_r ha10_ok fun K hK=>?_);simp (maxSteps:=2000000) only [go_sem,↓reduceIte,reduceCtorEq,Nat.reduceLeDiff,Nat.reduceLT,Nat.reduceBEq,Nat.reduceAdd,List.length_map,hn];(repeat1' with_reducible first|apply And.intro|(intro _;try exact q_v)|(refine hK _ ?_;clear hK K))<;>(try (clear hK K;exact q_u)))|(with_reducible refine q_s ?_;(first|apply q_J|apply q_K|apply q_L|apply q_M|apply q_N|apply q_O)<;>try (intro _;try exact q_v)))
       all_goals first | omega | exact join_to () q_D | skip
      with_reducible apply q_a
      with_reducible apply q_e
      refine seq_cut2 (ι:=Unit) (fun _=>⟨167,[(0,.bx 0 0),(2,.bx 1 0),(4,.bx 6 0),(6,.c (.i .i64 50)),(11,.c (.i .i64 (54 : Nat))),(12,.bx 1400 0),(151,.c (.b true)),(2000,.u),(2001,.u),(2002,.u),(2003,.u),(2004,.lk 1004 0 (gV gh 4)),(2005,.lk 1005 0 (gV gh 5)),(2006,.lk 1006 0 (gV gh 6)),(2007,.lk 1007 0 (gV gh 7)),(1000,.anc 0 (bs 0))],⟨[(0,sB l (nxK l k2)),(1,[.c .nil]),(6,[.own 4 0]),(1400,[.c (.i .i64 2),.c (.str onm),.c (.i .i64 ocl),.c (.ints .i64 orf),.c (.ints .i64 ood),.c (.sl 1 []),.c (.a (gV gh 4)),.c (.sl 7 (oks.map vC)),.c (.i .i64 0),.c (.i .i64 0)])],[(4,⟨0,54,10,.sl 10 (ot2.map obC)⟩),(1000,⟨0,34,7,.sl 7 ((gL gh 0).map vC)⟩),(1001,⟨0,34,7,.sl 7 ((gL gh 1).map vC)⟩),(1002,⟨0,34,7,.sl 7 ((gL gh 2).map vC)⟩),(1003,⟨0,34,7,.sl 7 ((gL gh 3).map vC)⟩),(1004,⟨0,34,7,.sl 7 ((gL gh 4).map vC)⟩),(1005,⟨0,34,7,.sl 7 ((gL gh 5).map vC)⟩),(1006,⟨0,34,7,.sl 7 ((gL gh 6).map vC)⟩),(1007,⟨0,34,7,.sl 7 ((gL gh 7).map vC)⟩)],[]⟩,1500⟩) (fun Y hY=>?_) ?_
      ·repeat' (first|with_reducible refine q_0 ?_|((with_reducible first|refine q_q ha10_ok fun K hK=>?_|refine q_r ha10_ok fun K hK=>?_);simp (maxSteps:=2000000) only [go_sem,↓reduceIte,reduceCtorEq,Nat.reduceLeDiff,Nat.reduceLT,Nat.reduceBEq,Nat.reduceAdd,List.length_map,hn,hat];(repeat1' with_reducible first|apply And.intro|(intro _;try exact q_v)|(refine hK _ ?_;clear hK K))<;>(try (clear hK K;exact q_u)))|(with_reducible refine q_s ?_;(first|apply q_J|apply q_K|apply q_L|apply q_M|apply q_N|apply q_O)<;>try (intro _;try exact q_v)))
       all_goals first | omega | contradiction | skip
       all_goals exact cut_fit hY () (by simp only [hx3]; exact q_D)
      intro _
      with_reducible refine q_s ?_
      with_reducible apply q_J
      refine awp_lk 2060 4 6 0 4 0 rfl rfl rfl rfl rfl (fun u hu=>?_)
      obtain ⟨pp,cap,rfl,hpp⟩:=hu.2 os2.length (by simp only [C.len,List.length_map,hn])
      obtain ⟨gb,rfl⟩:=hpp (by omega)
      simp only [St.cell,St.slot,List.set_cons_zero,List.set_cons_succ]
      refine awp_unlk 2004 1400 6 1004 0 (v:=gV gh 4) rfl rfl rfl rfl rfl ?_
      simp only [St.cell,St.slot,List.set_cons_zero,List.set_cons_succ]
      refine awp_last (aqT_ok ha10_ok) rfl (fun K hK=>?_)
      simp only [List.dropLast_cons_cons,List.dropLast_singleton]
      simp (maxSteps:=2000000) only [go_sem,↓reduceIte,reduceCtorEq,Nat.reduceLeDiff,Nat.reduceLT,Nat.reduceBEq,Nat.reduceAdd]
      repeat1' with_reducible first | apply And.intro | intro _
      all_goals first | omega | exact nxK_ok g2 | rfl | exact keep_of [6,1400,6] ⟨rfl,rfl,rfl,trivial⟩ | exact keep_of [1400,6] ⟨rfl,rfl,trivial⟩ | exact keep_of [6,6] ⟨rfl,rfl,trivial⟩ | (rw [hgl,List.length_map]; omega) | skip
      refine ⟨_,fit_oel 164 2060 4 0 (i:=54) (off:=6) rfl rfl rfl rfl (by omega),?_⟩
      simp only [List.getLast_cons_cons,List.getLast_singleton]
      simp (maxSteps:=2000000) only [go_sem,↓reduceIte,reduceCtorEq,Nat.reduceLeDiff,Nat.reduceLT,Nat.reduceBEq,Nat.reduceAdd]
      refine hK _ ?_
      with_reducible apply q_i
      with_reducible apply q_b
      refine awp_unlk 2060 6 0 4 0 (v:=.slice (some ⟨gb,0,none⟩) os2.length cap) rfl rfl rfl rfl rfl ?_
      refine awp_ghost 2061 1900 34 7 (by omega) (by simp only [St.cell]; omega) rfl ?_
      simp only [St.cell,Hp.addBuf,List.set_cons_zero]
      rw [hat]
      simp only [List.set_cons_succ,List.set_cons_zero]
      rw [hcon _ (by rw [hgl,List.map_append]; rfl)]
      repeat' (first|with_reducible refine q_0 ?_|((with_reducible first|refine q_q ha10_ok fun K hK=>?_|refine q_r ha10_ok fun K hK=>?_);simp (maxSteps:=2000000) only [go_sem,↓reduceIte,reduceCtorEq,Nat.reduceLeDiff,Nat.reduceLT,Nat.reduceBEq,Nat.reduceAdd,List.length_map];(repeat1' with_reducible first|apply And.intro|(intro _;try exact q_v)|(refine hK _ ?_;clear hK K))<;>(try (clear hK K;exact q_u)))|(with_reducible refine q_s ?_;(first|apply q_J|apply q_K|apply q_L|apply q_M|apply q_N|apply q_O)<;>try (intro _;try exact q_v)))
      all_goals first | omega | skip
      refine roundr_n [(1900,1004)] ⟨(54 + 1,vaK l (nxK l k2) os2.length 50,os2.set 54 ⟨2,onm,ocl,orf,ood,none,oit ++ [vaV l (nxK l k2) os2.length 50],oks⟩,ot2.set 54 ⟨2,onm,ocl,orf,ood,none,oit ++ [vaV l (nxK l k2) os2.length 50],oks⟩,gh.set 4 none),by simp only; omega,hw2.1,hw2.2,⟨by simp only [List.length_set]; exact g4,h84⟩,hth.forget (by omega),by simp only [hmm2]; exact g7⟩ ?_ (by simp only; omega)
      simp only [gL_set0 gh 4,List.map_nil,gL_set (gh:=gh) (q:=4) (p:=0) (by omega),gL_set (gh:=gh) (q:=4) (p:=1) (by omega),gL_set (gh:=gh) (q:=4) (p:=2) (by omega),gL_set (gh:=gh) (q:=4) (p:=3) (by omega),gL_set (gh:=gh) (q:=4) (p:=5) (by omega),gL_set (gh:=gh) (q:=4) (p:=6) (by omega),gL_set (gh:=gh) (q:=4) (p:=7) (by omega),gX_u (i:=54 + 1) (gh:=gh.set 4 none) (q:=0) (id:=1000) (by omega),gX_u (i:=54 + 1) (gh:=gh.set 4 none) (q:=1) (id:=1001) (by omega),gX_u (i:=54 + 1) (gh:=gh.set 4 none) (q:=2) (id:=1002) (by omega),gX_u (i:=54 + 1) (gh:=gh.set 4 none) (q:=3) (id:=1003) (by omega),gX_u (i:=54 + 1) (gh:=gh.set 4 none) (q:=4) (id:=1004) (by omega),gX_lk (i:=54 + 1) (gh:=gh.set 4 none) (q:=5) (id:=1005) (by omega),gV_set (gh:=gh) (q:=4) (p:=5) (by omega),gX_lk (i:=54 + 1) (gh:=gh.set 4 none) (q:=6) (id:=1006) (by omega),gV_set (gh:=gh) (q:=4) (p:=6) (by omega),gX_lk (i:=54 + 1) (gh:=gh.set 4 none) (q:=7) (id:=1007) (by omega),gV_set (gh:=gh) (q:=4) (p:=7) (by omega),swp]; exact q_D
     ·obtain ⟨hgv,hgl⟩:=gV_at (q:=5) hx
      rw [← hgv] at hat
      simp only [gX_u (i:=55) (gh:=gh) (q:=0) (id:=1000) (by omega),gX_u (i:=55) (gh:=gh) (q:=1) (id:=1001) (by omega),gX_u (i:=55) (gh:=gh) (q:=2) (id:=1002) (by omega),gX_u (i:=55) (gh:=gh) (q:=3) (id:=1003) (by omega),gX_u (i:=55) (gh:=gh) (q:=4) (id:=1004) (by omega),gX_lk (i:=55) (gh:=gh) (q:=5) (id:=1005) (by omega),gX_lk (i:=55) (gh:=gh) (q:=6) (id:=1006) (by omega),gX_lk (i:=55) (gh:=gh) (q:=7) (id:=1007) (by omega)]
      refine seq_join (ι:=Unit) (fun _=>⟨167,[(0,.bx 0 0),(2,.bx 1 0),(4,.bx 6 0),(6,.c (.i .i64 50)),(11,.c (.i .i64 (55 : Nat))),(2000,.u),(2001,.u),(2002,.u),(2003,.u),(2004,.u),(2005,.lk 1005 0 (gV gh 5)),(2006,.lk 1006 0 (gV gh 6)),(2007,.lk 1007 0 (gV gh 7)),(1000,.anc 0 (bs 0))],⟨[(0,sB l k2),(1,[.c .nil]),(6,[.own 4 0])],[(4,⟨0,54,10,.sl 10 (ot2.map obC)⟩),(1000,⟨0,34,7,.sl 7 ((gL gh 0).map vC)⟩),(1001,⟨0,34,7,.sl 7 ((gL gh 1).map vC)⟩),(1002,⟨0,34,7,.sl 7 ((gL gh 2).map vC)⟩),(1003,⟨0,34,7,.sl 7 ((gL gh 3).map vC)⟩),(1004,⟨0,34,7,.sl 7 ((gL gh 4).map vC)⟩),(1005,⟨0,34,7,.sl 7 ((gL gh 5).map vC)⟩),(1006,⟨0,34,7,.sl 7 ((gL gh 6).map vC)⟩),(1007,⟨0,34,7,.sl 7 ((gL gh 7).map vC)⟩)],[]⟩,1400⟩) ?_ (fun _=>?_)
      ·repeat' (first|with_reducible refine q_0 ?_|((with_reducible first|refine q_q ha10_ok fun K hK=>?_|refine q_r ha10_ok fun K hK=>?_);simp (maxSteps:=2000000) only [go_sem,↓reduceIte,reduceCtorEq,Nat.reduceLeDiff,Nat.reduceLT,Nat.reduceBEq,Nat.reduceAdd,List.length_map,hn];(repeat1' with_reducible first|apply And.intro|(intro _;try exact q_v)|(refine hK _ ?_;clear hK K))<;>(try (clear hK K;exact q_u)))|(with_reducible refine q_s ?_;(first|apply q_J|apply q_K|apply q_L|apply q_M|apply q_N|apply q_O)<;>try (intro _;try exact q_v)))
       all_goals first | omega | exact join_to () q_D | skip
      with_reducible apply q_a
      with_reducible apply q_e
      refine seq_cut2 (ι:=Unit) (fun _=>⟨167,[(0,.bx 0 0),(2,.bx 1 0),(4,.bx 6 0),(6,.c (.i .i64 50)),(11,.c (.i .i64 (55 : Nat))),(12,.bx 1400 0),(151,.c (.b true)),(2000,.u),(2001,.u),(2002,.u),(2003,.u),(2004,.u),(2005,.lk 1005 0 (gV gh 5)),(2006,.lk 1006 0 (gV gh 6)),(2007,.lk 1007 0 (gV gh 7)),(1000,.anc 0 (bs 0))],⟨[(0,sB l (nxK l k2)),(1,[.c .nil]),(6,[.own 4 0]),(1400,[.c (.i .i64 2),.c (.str onm),.c (.i .i64 ocl),.c (.ints .i64 orf),.c (.ints .i64 ood),.c (.sl 1 []),.c (.a (gV gh 5)),.c (.sl 7 (oks.map vC)),.c (.i .i64 0),.c (.i .i64 0)])],[(4,⟨0,54,10,.sl 10 (ot2.map obC)⟩),(1000,⟨0,34,7,.sl 7 ((gL gh 0).map vC)⟩),(1001,⟨0,34,7,.sl 7 ((gL gh 1).map vC)⟩),(1002,⟨0,34,7,.sl 7 ((gL gh 2).map vC)⟩),(1003,⟨0,34,7,.sl 7 ((gL gh 3).map vC)⟩),(1004,⟨0,34,7,.sl 7 ((gL gh 4).map vC)⟩),(1005,⟨0,34,7,.sl 7 ((gL gh 5).map vC)⟩),(1006,⟨0,34,7,.sl 7 ((gL gh 6).map vC)⟩),(1007,⟨0,34,7,.sl 7 ((gL gh 7).map vC)⟩)],[]⟩,1500⟩) (fun Y hY=>?_) ?_
      ·repeat' (first|with_reducible refine q_0 ?_|((with_reducible first|refine q_q ha10_ok fun K hK=>?_|refine q_r ha10_ok fun K hK=>?_);simp (maxSteps:=2000000) only [go_sem,↓reduceIte,reduceCtorEq,Nat.reduceLeDiff,Nat.reduceLT,Nat.reduceBEq,Nat.reduceAdd,List.length_map,hn,hat];(repeat1' with_reducible first|apply And.intro|(intro _;try exact q_v)|(refine hK _ ?_;clear hK K))<;>(try (clear hK K;exact q_u)))|(with_reducible refine q_s ?_;(first|apply q_J|apply q_K|apply q_L|apply q_M|apply q_N|apply q_O)<;>try (intro _;try exact q_v)))
       all_goals first | omega | contradiction | skip
       all_goals exact cut_fit hY () (by simp only [hx3]; exact q_D)
      intro _
      with_reducible refine q_s ?_
      with_reducible apply q_J
      refine awp_lk 2060 4 6 0 4 0 rfl rfl rfl rfl rfl (fun u hu=>?_)
      obtain ⟨pp,cap,rfl,hpp⟩:=hu.2 os2.length (by simp only [C.len,List.length_map,hn])
      obtain ⟨gb,rfl⟩:=hpp (by omega)
      simp only [St.cell,St.slot,List.set_cons_zero,List.set_cons_succ]
      refine awp_unlk 2005 1400 6 1005 0 (v:=gV gh 5) rfl rfl rfl rfl rfl ?_
      simp only [St.cell,St.slot,List.set_cons_zero,List.set_cons_succ]
      refine awp_last (aqT_ok ha10_ok) rfl (fun K hK=>?_)
      simp only [List.dropLast_cons_cons,List.dropLast_singleton]
      simp (maxSteps:=2000000) only [go_sem,↓reduceIte,reduceCtorEq,Nat.reduceLeDiff,Nat.reduceLT,Nat.reduceBEq,Nat.reduceAdd]
      repeat1' with_reducible first | apply And.intro | intro _
      all_goals first | omega | exact nxK_ok g2 | rfl | exact keep_of [6,1400,6] ⟨rfl,rfl,rfl,trivial⟩ | exact keep_of [1400,6] ⟨rfl,rfl,trivial⟩ | exact keep_of [6,6] ⟨rfl,rfl,trivial⟩ | (rw [hgl,List.length_map]; omega) | skip
      refine ⟨_,fit_oel 164 2060 4 0 (i:=55) (off:=6) rfl rfl rfl rfl (by omega),?_⟩
      simp only [List.getLast_cons_cons,List.getLast_singleton]
      simp (maxSteps:=2000000) only [go_sem,↓reduceIte,reduceCtorEq,Nat.reduceLeDiff,Nat.reduceLT,Nat.reduceBEq,Nat.reduceAdd]
      refine hK _ ?_
      with_reducible apply q_i
      with_reducible apply q_b
      refine awp_unlk 2060 6 0 4 0 (v:=.slice (some ⟨gb,0,none⟩) os2.length cap) rfl rfl rfl rfl rfl ?_
      refine awp_ghost 2061 1900 34 7 (by omega) (by simp only [St.cell]; omega) rfl ?_
      simp only [St.cell,Hp.addBuf,List.set_cons_zero]
      rw [hat]
      simp only [List.set_cons_succ,List.set_cons_zero]
      rw [hcon _ (by rw [hgl,List.map_append]; rfl)]
      repeat' (first|with_reducible refine q_0 ?_|((with_reducible first|refine q_q ha10_ok fun K hK=>?_|refine q_r ha10_ok fun K hK=>?_);simp (maxSteps:=2000000) only [go_sem,↓reduceIte,reduceCtorEq,Nat.reduceLeDiff,Nat.reduceLT,Nat.reduceBEq,Nat.reduceAdd,List.length_map];(repeat1' with_reducible first|apply And.intro|(intro _;try exact q_v)|(refine hK _ ?_;clear hK K))<;>(try (clear hK K;exact q_u)))|(with_reducible refine q_s ?_;(first|apply q_J|apply q_K|apply q_L|apply q_M|apply q_N|apply q_O)<;>try (intro _;try exact q_v)))
      all_goals first | omega | skip
      refine roundr_n [(1900,1005)] ⟨(55 + 1,vaK l (nxK l k2) os2.length 50,os2.set 55 ⟨2,onm,ocl,orf,ood,none,oit ++ [vaV l (nxK l k2) os2.length 50],oks⟩,ot2.set 55 ⟨2,onm,ocl,orf,ood,none,oit ++ [vaV l (nxK l k2) os2.length 50],oks⟩,gh.set 5 none),by simp only; omega,hw2.1,hw2.2,⟨by simp only [List.length_set]; exact g4,h84⟩,hth.forget (by omega),by simp only [hmm2]; exact g7⟩ ?_ (by simp only; omega)
      simp only [gL_set0 gh 5,List.map_nil,gL_set (gh:=gh) (q:=5) (p:=0) (by omega),gL_set (gh:=gh) (q:=5) (p:=1) (by omega),gL_set (gh:=gh) (q:=5) (p:=2) (by omega),gL_set (gh:=gh) (q:=5) (p:=3) (by omega),gL_set (gh:=gh) (q:=5) (p:=4) (by omega),gL_set (gh:=gh) (q:=5) (p:=6) (by omega),gL_set (gh:=gh) (q:=5) (p:=7) (by omega),gX_u (i:=55 + 1) (gh:=gh.set 5 none) (q:=0) (id:=1000) (by omega),gX_u (i:=55 + 1) (gh:=gh.set 5 none) (q:=1) (id:=1001) (by omega),gX_u (i:=55 + 1) (gh:=gh.set 5 none) (q:=2) (id:=1002) (by omega),gX_u (i:=55 + 1) (gh:=gh.set 5 none) (q:=3) (id:=1003) (by omega),gX_u (i:=55 + 1) (gh:=gh.set 5 none) (q:=4) (id:=1004) (by omega),gX_u (i:=55 + 1) (gh:=gh.set 5 none) (q:=5) (id:=1005) (by omega),gX_lk (i:=55 + 1) (gh:=gh.set 5 none) (q:=6) (id:=1006) (by omega),gV_set (gh:=gh) (q:=5) (p:=6) (by omega),gX_lk (i:=55 + 1) (gh:=gh.set 5 none) (q:=7) (id:=1007) (by omega),gV_set (gh:=gh) (q:=5) (p:=7) (by omega),swp]; exact q_D
     ·obtain ⟨hgv,hgl⟩:=gV_at (q:=6) hx
      rw [← hgv] at hat
      simp only [gX_u (i:=56) (gh:=gh) (q:=0) (id:=1000) (by omega),gX_u (i:=56) (gh:=gh) (q:=1) (id:=1001) (by omega),gX_u (i:=56) (gh:=gh) (q:=2) (id:=1002) (by omega),gX_u (i:=56) (gh:=gh) (q:=3) (id:=1003) (by omega),gX_u (i:=56) (gh:=gh) (q:=4) (id:=1004) (by omega),gX_u (i:=56) (gh:=gh) (q:=5) (id:=1005) (by omega),gX_lk (i:=56) (gh:=gh) (q:=6) (id:=1006) (by omega),gX_lk (i:=56) (gh:=gh) (q:=7) (id:=1007) (by omega)]
      refine seq_join (ι:=Unit) (fun _=>⟨167,[(0,.bx 0 0),(2,.bx 1 0),(4,.bx 6 0),(6,.c (.i .i64 50)),(11,.c (.i .i64 (56 : Nat))),(2000,.u),(2001,.u),(2002,.u),(2003,.u),(2004,.u),(2005,.u),(2006,.lk 1006 0 (gV gh 6)),(2007,.lk 1007 0 (gV gh 7)),(1000,.anc 0 (bs 0))],⟨[(0,sB l k2),(1,[.c .nil]),(6,[.own 4 0])],[(4,⟨0,54,10,.sl 10 (ot2.map obC)⟩),(1000,⟨0,34,7,.sl 7 ((gL gh 0).map vC)⟩),(1001,⟨0,34,7,.sl 7 ((gL gh 1).map vC)⟩),(1002,⟨0,34,7,.sl 7 ((gL gh 2).map vC)⟩),(1003,⟨0,34,7,.sl 7 ((gL gh 3).map vC)⟩),(1004,⟨0,34,7,.sl 7 ((gL gh 4).map vC)⟩),(1005,⟨0,34,7,.sl 7 ((gL gh 5).map vC)⟩),(1006,⟨0,34,7,.sl 7 ((gL gh 6).map vC)⟩),(1007,⟨0,34,7,.sl 7 ((gL gh 7).map vC)⟩)],[]⟩,1400⟩) ?_ (fun _=>?_)
      ·repeat' (first|with_reducible refine q_0 ?_|((with_reducible first|refine q_q ha10_ok fun K hK=>?_|refine q_r ha10_ok fun K hK=>?_);simp (maxSteps:=2000000) only [go_sem,↓reduceIte,reduceCtorEq,Nat.reduceLeDiff,Nat.reduceLT,Nat.reduceBEq,Nat.reduceAdd,List.length_map,hn];(repeat1' with_reducible first|apply And.intro|(intro _;try exact q_v)|(refine hK _ ?_;clear hK K))<;>(try (clear hK K;exact q_u)))|(with_reducible refine q_s ?_;(first|apply q_J|apply q_K|apply q_L|apply q_M|apply q_N|apply q_O)<;>try (intro _;try exact q_v)))
       all_goals first | omega | exact join_to () q_D | skip
      with_reducible apply q_a
      with_reducible apply q_e
      refine seq_cut2 (ι:=Unit) (fun _=>⟨167,[(0,.bx 0 0),(2,.bx 1 0),(4,.bx 6 0),(6,.c (.i .i64 50)),(11,.c (.i .i64 (56 : Nat))),(12,.bx 1400 0),(151,.c (.b true)),(2000,.u),(2001,.u),(2002,.u),(2003,.u),(2004,.u),(2005,.u),(2006,.lk 1006 0 (gV gh 6)),(2007,.lk 1007 0 (gV gh 7)),(1000,.anc 0 (bs 0))],⟨[(0,sB l (nxK l k2)),(1,[.c .nil]),(6,[.own 4 0]),(1400,[.c (.i .i64 2),.c (.str onm),.c (.i .i64 ocl),.c (.ints .i64 orf),.c (.ints .i64 ood),.c (.sl 1 []),.c (.a (gV gh 6)),.c (.sl 7 (oks.map vC)),.c (.i .i64 0),.c (.i .i64 0)])],[(4,⟨0,54,10,.sl 10 (ot2.map obC)⟩),(1000,⟨0,34,7,.sl 7 ((gL gh 0).map vC)⟩),(1001,⟨0,34,7,.sl 7 ((gL gh 1).map vC)⟩),(1002,⟨0,34,7,.sl 7 ((gL gh 2).map vC)⟩),(1003,⟨0,34,7,.sl 7 ((gL gh 3).map vC)⟩),(1004,⟨0,34,7,.sl 7 ((gL gh 4).map vC)⟩),(1005,⟨0,34,7,.sl 7 ((gL gh 5).map vC)⟩),(1006,⟨0,34,7,.sl 7 ((gL gh 6).map vC)⟩),(1007,⟨0,34,7,.sl 7 ((gL gh 7).map vC)⟩)],[]⟩,1500⟩) (fun Y hY=>?_) ?_
      ·repeat' (first|with_reducible refine q_0 ?_|((with_reducible first|refine q_q ha10_ok fun K hK=>?_|refine q_r ha10_ok fun K hK=>?_);simp (maxSteps:=2000000) only [go_sem,↓reduceIte,reduceCtorEq,Nat.reduceLeDiff,Nat.reduceLT,Nat.reduceBEq,Nat.reduceAdd,List.length_map,hn,hat];(repeat1' with_reducible first|apply And.intro|(intro _;try exact q_v)|(refine hK _ ?_;clear hK K))<;>(try (clear hK K;exact q_u)))|(with_reducible refine q_s ?_;(first|apply q_J|apply q_K|apply q_L|apply q_M|apply q_N|apply q_O)<;>try (intro _;try exact q_v)))
       all_goals first | omega | contradiction | skip
       all_goals exact cut_fit hY () (by simp only [hx3]; exact q_D)
      intro _
      with_reducible refine q_s ?_
      with_reducible apply q_J
      refine awp_lk 2060 4 6 0 4 0 rfl rfl rfl rfl rfl (fun u hu=>?_)
      obtain ⟨pp,cap,rfl,hpp⟩:=hu.2 os2.length (by simp only [C.len,List.length_map,hn])
      obtain ⟨gb,rfl⟩:=hpp (by omega)
      simp only [St.cell,St.slot,List.set_cons_zero,List.set_cons_succ]
      refine awp_unlk 2006 1400 6 1006 0 (v:=gV gh 6) rfl rfl rfl rfl rfl ?_
      simp only [St.cell,St.slot,List.set_cons_zero,List.set_cons_succ]
      refine awp_last (aqT_ok ha10_ok) rfl (fun K hK=>?_)
      simp only [List.dropLast_cons_cons,List.dropLast_singleton]
      simp (maxSteps:=2000000) only [go_sem,↓reduceIte,reduceCtorEq,Nat.reduceLeDiff,Nat.reduceLT,Nat.reduceBEq,Nat.reduceAdd]
      repeat1' with_reducible first | apply And.intro | intro _
      all_goals first | omega | exact nxK_ok g2 | rfl | exact keep_of [6,1400,6] ⟨rfl,rfl,rfl,trivial⟩ | exact keep_of [1400,6] ⟨rfl,rfl,trivial⟩ | exact keep_of [6,6] ⟨rfl,rfl,trivial⟩ | (rw [hgl,List.length_map]; omega) | skip
      refine ⟨_,fit_oel 164 2060 4 0 (i:=56) (off:=6) rfl rfl rfl rfl (by omega),?_⟩
      simp only [List.getLast_cons_cons,List.getLast_singleton]
      simp (maxSteps:=2000000) only [go_sem,↓reduceIte,reduceCtorEq,Nat.reduceLeDiff,Nat.reduceLT,Nat.reduceBEq,Nat.reduceAdd]
      refine hK _ ?_
      with_reducible apply q_i
      with_reducible apply q_b
      refine awp_unlk 2060 6 0 4 0 (v:=.slice (some ⟨gb,0,none⟩) os2.length cap) rfl rfl rfl rfl rfl ?_
      refine awp_ghost 2061 1900 34 7 (by omega) (by simp only [St.cell]; omega) rfl ?_
      simp only [St.cell,Hp.addBuf,List.set_cons_zero]
      rw [hat]
      simp only [List.set_cons_succ,List.set_cons_zero]
      rw [hcon _ (by rw [hgl,List.map_append]; rfl)]
      repeat' (first|with_reducible refine q_0 ?_|((with_reducible first|refine q_q ha10_ok fun K hK=>?_|refine q_r ha10_ok fun K hK=>?_);simp (maxSteps:=2000000) only [go_sem,↓reduceIte,reduceCtorEq,Nat.reduceLeDiff,Nat.reduceLT,Nat.reduceBEq,Nat.reduceAdd,List.length_map];(repeat1' with_reducible first|apply And.intro|(intro _;try exact q_v)|(refine hK _ ?_;clear hK K))<;>(try (clear hK K;exact q_u)))|(with_reducible refine q_s ?_;(first|apply q_J|apply q_K|apply q_L|apply q_M|apply q_N|apply q_O)<;>try (intro _;try exact q_v)))
      all_goals first | omega | skip
      refine roundr_n [(1900,1006)] ⟨(56 + 1,vaK l (nxK l k2) os2.length 50,os2.set 56 ⟨2,onm,ocl,orf,ood,none,oit ++ [vaV l (nxK l k2) os2.length 50],oks⟩,ot2.set 56 ⟨2,onm,ocl,orf,ood,none,oit ++ [vaV l (nxK l k2) os2.length 50],oks⟩,gh.set 6 none),by simp only; omega,hw2.1,hw2.2,⟨by simp only [List.length_set]; exact g4,h84⟩,hth.forget (by omega),by simp only [hmm2]; exact g7⟩ ?_ (by simp only; omega)
      simp only [gL_set0 gh 6,List.map_nil,gL_set (gh:=gh) (q:=6) (p:=0) (by omega),gL_set (gh:=gh) (q:=6) (p:=1) (by omega),gL_set (gh:=gh) (q:=6) (p:=2) (by omega),gL_set (gh:=gh) (q:=6) (p:=3) (by omega),gL_set (gh:=gh) (q:=6) (p:=4) (by omega),gL_set (gh:=gh) (q:=6) (p:=5) (by omega),gL_set (gh:=gh) (q:=6) (p:=7) (by omega),gX_u (i:=56 + 1) (gh:=gh.set 6 none) (q:=0) (id:=1000) (by omega),gX_u (i:=56 + 1) (gh:=gh.set 6 none) (q:=1) (id:=1001) (by omega),gX_u (i:=56 + 1) (gh:=gh.set 6 none) (q:=2) (id:=1002) (by omega),gX_u (i:=56 + 1) (gh:=gh.set 6 none) (q:=3) (id:=1003) (by omega),gX_u (i:=56 + 1) (gh:=gh.set 6 none) (q:=4) (id:=1004) (by omega),gX_u (i:=56 + 1) (gh:=gh.set 6 none) (q:=5) (id:=1005) (by omega),gX_u (i:=56 + 1) (gh:=gh.set 6 none) (q:=6) (id:=1006) (by omega),gX_lk (i:=56 + 1) (gh:=gh.set 6 none) (q:=7) (id:=1007) (by omega),gV_set (gh:=gh) (q:=6) (p:=7) (by omega),swp]; exact q_D
     ·obtain ⟨hgv,hgl⟩:=gV_at (q:=7) hx
      rw [← hgv] at hat
      simp only [gX_u (i:=57) (gh:=gh) (q:=0) (id:=1000) (by omega),gX_u (i:=57) (gh:=gh) (q:=1) (id:=1001) (by omega),gX_u (i:=57) (gh:=gh) (q:=2) (id:=1002) (by omega),gX_u (i:=57) (gh:=gh) (q:=3) (id:=1003) (by omega),gX_u (i:=57) (gh:=gh) (q:=4) (id:=1004) (by omega),gX_u (i:=57) (gh:=gh) (q:=5) (id:=1005) (by omega),gX_u (i:=57) (gh:=gh) (q:=6) (id:=1006) (by omega),gX_lk (i:=57) (gh:=gh) (q:=7) (id:=1007) (by omega)]
      refine seq_join (ι:=Unit) (fun _=>⟨167,[(0,.bx 0 0),(2,.bx 1 0),(4,.bx 6 0),(6,.c (.i .i64 50)),(11,.c (.i .i64 (57 : Nat))),(2000,.u),(2001,.u),(2002,.u),(2003,.u),(2004,.u),(2005,.u),(2006,.u),(2007,.lk 1007 0 (gV gh 7)),(1000,.anc 0 (bs 0))],⟨[(0,sB l k2),(1,[.c .nil]),(6,[.own 4 0])],[(4,⟨0,54,10,.sl 10 (ot2.map obC)⟩),(1000,⟨0,34,7,.sl 7 ((gL gh 0).map vC)⟩),(1001,⟨0,34,7,.sl 7 ((gL gh 1).map vC)⟩),(1002,⟨0,34,7,.sl 7 ((gL gh 2).map vC)⟩),(1003,⟨0,34,7,.sl 7 ((gL gh 3).map vC)⟩),(1004,⟨0,34,7,.sl 7 ((gL gh 4).map vC)⟩),(1005,⟨0,34,7,.sl 7 ((gL gh 5).map vC)⟩),(1006,⟨0,34,7,.sl 7 ((gL gh 6).map vC)⟩),(1007,⟨0,34,7,.sl 7 ((gL gh 7).map vC)⟩)],[]⟩,1400⟩) ?_ (fun _=>?_)
      ·repeat' (first|with_reducible refine q_0 ?_|((with_reducible first|refine q_q ha10_ok fun K hK=>?_|refine q_r ha10_ok fun K hK=>?_);simp (maxSteps:=2000000) only [go_sem,↓reduceIte,reduceCtorEq,Nat.reduceLeDiff,Nat.reduceLT,Nat.reduceBEq,Nat.reduceAdd,List.length_map,hn];(repeat1' with_reducible first|apply And.intro|(intro _;try exact q_v)|(refine hK _ ?_;clear hK K))<;>(try (clear hK K;exact q_u)))|(with_reducible refine q_s ?_;(first|apply q_J|apply q_K|apply q_L|apply q_M|apply q_N|apply q_O)<;>try (intro _;try exact q_v)))
       all_goals first | omega | exact join_to () q_D | skip
      with_reducible apply q_a
      with_reducible apply q_e
      refine seq_cut2 (ι:=Unit) (fun _=>⟨167,[(0,.bx 0 0),(2,.bx 1 0),(4,.bx 6 0),(6,.c (.i .i64 50)),(11,.c (.i .i64 (57 : Nat))),(12,.bx 1400 0),(151,.c (.b true)),(2000,.u),(2001,.u),(2002,.u),(2003,.u),(2004,.u),(2005,.u),(2006,.u),(2007,.lk 1007 0 (gV gh 7)),(1000,.anc 0 (bs 0))],⟨[(0,sB l (nxK l k2)),(1,[.c .nil]),(6,[.own 4 0]),(1400,[.c (.i .i64 2),.c (.str onm),.c (.i .i64 ocl),.c (.ints .i64 orf),.c (.ints .i64 ood),.c (.sl 1 []),.c (.a (gV gh 7)),.c (.sl 7 (oks.map vC)),.c (.i .i64 0),.c (.i .i64 0)])],[(4,⟨0,54,10,.sl 10 (ot2.map obC)⟩),(1000,⟨0,34,7,.sl 7 ((gL gh 0).map vC)⟩),(1001,⟨0,34,7,.sl 7 ((gL gh 1).map vC)⟩),(1002,⟨0,34,7,.sl 7 ((gL gh 2).map vC)⟩),(1003,⟨0,34,7,.sl 7 ((gL gh 3).map vC)⟩),(1004,⟨0,34,7,.sl 7 ((gL gh 4).map vC)⟩),(1005,⟨0,34,7,.sl 7 ((gL gh 5).map vC)⟩),(1006,⟨0,34,7,.sl 7 ((gL gh 6).map vC)⟩),(1007,⟨0,34,7,.sl 7 ((gL gh 7).map vC)⟩)],[]⟩,1500⟩) (fun Y hY=>?_) ?_
      ·repeat' (first|with_reducible refine q_0 ?_|((with_reducible first|refine q_q ha10_ok fun K hK=>?_|refine q_r ha10_ok fun K hK=>?_);simp (maxSteps:=2000000) only [go_sem,↓reduceIte,reduceCtorEq,Nat.reduceLeDiff,Nat.reduceLT,Nat.reduceBEq,Nat.reduceAdd,List.length_map,hn,hat];(repeat1' with_reducible first|apply And.intro|(intro _;try exact q_v)|(refine hK _ ?_;clear hK K))<;>(try (clear hK K;exact q_u)))|(with_reducible refine q_s ?_;(first|apply q_J|apply q_K|apply q_L|apply q_M|apply q_N|apply q_O)<;>try (intro _;try exact q_v)))
       all_goals first | omega | contradiction | skip
       all_goals exact cut_fit hY () (by simp only [hx3]; exact q_D)
      intro _
      with_reducible refine q_s ?_
      with_reducible apply q_J
      refine awp_lk 2060 4 6 0 4 0 rfl rfl rfl rfl rfl (fun u hu=>?_)
      obtain ⟨pp,cap,rfl,hpp⟩:=hu.2 os2.length (by simp only [C.len,List.length_map,hn])
      obtain ⟨gb,rfl⟩:=hpp (by omega)
      simp only [St.cell,St.slot,List.set_cons_zero,List.set_cons_succ]
      refine awp_unlk 2007 1400 6 1007 0 (v:=gV gh 7) rfl rfl rfl rfl rfl ?_
      simp only [St.cell,St.slot,List.set_cons_zero,List.set_cons_succ]
      refine awp_last (aqT_ok ha10_ok) rfl (fun K hK=>?_)
      simp only [List.dropLast_cons_cons,List.dropLast_singleton]
      simp (maxSteps:=2000000) only [go_sem,↓reduceIte,reduceCtorEq,Nat.reduceLeDiff,Nat.reduceLT,Nat.reduceBEq,Nat.reduceAdd]
      repeat1' with_reducible first | apply And.intro | intro _
      all_goals first | omega | exact nxK_ok g2 | rfl | exact keep_of [6,1400,6] ⟨rfl,rfl,rfl,trivial⟩ | exact keep_of [1400,6] ⟨rfl,rfl,trivial⟩ | exact keep_of [6,6] ⟨rfl,rfl,trivial⟩ | (rw [hgl,List.length_map]; omega) | skip
      refine ⟨_,fit_oel 164 2060 4 0 (i:=57) (off:=6) rfl rfl rfl rfl (by omega),?_⟩
      simp only [List.getLast_cons_cons,List.getLast_singleton]
      simp (maxSteps:=2000000) only [go_sem,↓reduceIte,reduceCtorEq,Nat.reduceLeDiff,Nat.reduceLT,Nat.reduceBEq,Nat.reduceAdd]
      refine hK _ ?_
      with_reducible apply q_i
      with_reducible apply q_b
      refine awp_unlk 2060 6 0 4 0 (v:=.slice (some ⟨gb,0,none⟩) os2.length cap) rfl rfl rfl rfl rfl ?_
      refine awp_ghost 2061 1900 34 7 (by omega) (by simp only [St.cell]; omega) rfl ?_
      simp only [St.cell,Hp.addBuf,List.set_cons_zero]
      rw [hat]
      simp only [List.set_cons_succ,List.set_cons_zero]
      rw [hcon _ (by rw [hgl,List.map_append]; rfl)]
      repeat' (first|with_reducible refine q_0 ?_|((with_reducible first|refine q_q ha10_ok fun K hK=>?_|refine q_r ha10_ok fun K hK=>?_);simp (maxSteps:=2000000) only [go_sem,↓reduceIte,reduceCtorEq,Nat.reduceLeDiff,Nat.reduceLT,Nat.reduceBEq,Nat.reduceAdd,List.length_map];(repeat1' with_reducible first|apply And.intro|(intro _;try exact q_v)|(refine hK _ ?_;clear hK K))<;>(try (clear hK K;exact q_u)))|(with_reducible refine q_s ?_;(first|apply q_J|apply q_K|apply q_L|apply q_M|apply q_N|apply q_O)<;>try (intro _;try exact q_v)))
      all_goals first | omega | skip
      refine roundr_n [(1900,1007)] ⟨(57 + 1,vaK l (nxK l k2) os2.length 50,os2.set 57 ⟨2,onm,ocl,orf,ood,none,oit ++ [vaV l (nxK l k2) os2.length 50],oks⟩,ot2.set 57 ⟨2,onm,ocl,orf,ood,none,oit ++ [vaV l (nxK l k2) os2.length 50],oks⟩,gh.set 7 none),by simp only; omega,hw2.1,hw2.2,⟨by simp only [List.length_set]; exact g4,h84⟩,hth.forget (by omega),by simp only [hmm2]; exact g7⟩ ?_ (by simp only; omega)
      simp only [gL_set0 gh 7,List.map_nil,gL_set (gh:=gh) (q:=7) (p:=0) (by omega),gL_set (gh:=gh) (q:=7) (p:=1) (by omega),gL_set (gh:=gh) (q:=7) (p:=2) (by omega),gL_set (gh:=gh) (q:=7) (p:=3) (by omega),gL_set (gh:=gh) (q:=7) (p:=4) (by omega),gL_set (gh:=gh) (q:=7) (p:=5) (by omega),gL_set (gh:=gh) (q:=7) (p:=6) (by omega),gX_u (i:=57 + 1) (gh:=gh.set 7 none) (q:=0) (id:=1000) (by omega),gX_u (i:=57 + 1) (gh:=gh.set 7 none) (q:=1) (id:=1001) (by omega),gX_u (i:=57 + 1) (gh:=gh.set 7 none) (q:=2) (id:=1002) (by omega),gX_u (i:=57 + 1) (gh:=gh.set 7 none) (q:=3) (id:=1003) (by omega),gX_u (i:=57 + 1) (gh:=gh.set 7 none) (q:=4) (id:=1004) (by omega),gX_u (i:=57 + 1) (gh:=gh.set 7 none) (q:=5) (id:=1005) (by omega),gX_u (i:=57 + 1) (gh:=gh.set 7 none) (q:=6) (id:=1006) (by omega),gX_u (i:=57 + 1) (gh:=gh.set 7 none) (q:=7) (id:=1007) (by omega),swp]; exact q_D
    ·have hlO : lO os2.length l k2 (os2.getD i ob0) = (os2.getD i ob0,nxK l k2):=by unfold lO; rw [if_pos e1,if_neg hx3]
     have g7:=g6
     rw [lG_step l k2 os2 hlO] at g7
     have hw2:=(hwo k2 g2).2
     rw [hlO] at hw2
     have hth:=hnx (os2.getD i ob0)
     have h84:=h83 (os2.getD i ob0)
     rw [hss] at h84 hw2 hth g7
     have hat2:=obC_at2 (ot2.set i (os2.getD i ob0)) (i:=i) (by simp; omega)
     rw [obSet_self (by omega)] at hat2
     generalize os2.getD i ob0 = o at *
     obtain ⟨ok,onm,ocl,orf,ood,oraw,oit,oks⟩:=o
     simp only at e1 e2 hraw
     subst hraw; subst e1; subst e2
     have hcon : ∀ (r : List C),r = [.i .i64 2,.str onm,.i .i64 ocl,.ints .i64 orf,.ints .i64 ood,.sl 1 [],.sl 7 (oit.map vC),.sl 7 (oks.map vC),.i .i64 0,.i .i64 0] → (ot2.map obC).set i r = (ot2.set i ⟨2,onm,ocl,orf,ood,none,oit,oks⟩).map obC:=fun r hr=>by rw [hr,List.map_set]; rfl
     simp only [obC,itC] at hat hget hat2
     rcases hq with rfl | rfl | rfl | rfl | rfl | rfl | rfl | rfl
     ·obtain ⟨hgv,hgl⟩:=gV_at (q:=0) hx
      simp only [gX_lk (i:=50) (gh:=gh) (q:=0) (id:=1000) (by omega),gX_lk (i:=50) (gh:=gh) (q:=1) (id:=1001) (by omega),gX_lk (i:=50) (gh:=gh) (q:=2) (id:=1002) (by omega),gX_lk (i:=50) (gh:=gh) (q:=3) (id:=1003) (by omega),gX_lk (i:=50) (gh:=gh) (q:=4) (id:=1004) (by omega),gX_lk (i:=50) (gh:=gh) (q:=5) (id:=1005) (by omega),gX_lk (i:=50) (gh:=gh) (q:=6) (id:=1006) (by omega),gX_lk (i:=50) (gh:=gh) (q:=7) (id:=1007) (by omega)]
      refine awp_unlk_row 2000 4 1000 0 50 6 (v:=gV gh 0) (z:=10) rfl rfl rfl (by omega) rfl rfl hget (by rw [hgv]; rfl) ?_
      simp only [List.set_cons_succ,List.set_cons_zero,hgl]
      rw [hcon _ rfl]
      repeat' (first|with_reducible refine q_0 ?_|((with_reducible first|refine q_q ha10_ok fun K hK=>?_|refine q_r ha10_ok fun K hK=>?_);simp (maxSteps:=2000000) only [go_sem,↓reduceIte,reduceCtorEq,Nat.reduceLeDiff,Nat.reduceLT,Nat.reduceBEq,Nat.reduceAdd,List.length_map,List.length_set,hn,hat2];(repeat1' with_reducible first|apply And.intro|(intro _;try exact q_v)|(refine hK _ ?_;clear hK K))<;>(try (clear hK K;exact q_u)))|(with_reducible refine q_s ?_;(first|apply q_J|apply q_K|apply q_L|apply q_M|apply q_N|apply q_O)<;>try (intro _;try exact q_v)))
      all_goals first | omega | contradiction | skip
      refine roundr_n [] ⟨(50 + 1,nxK l k2,os2,ot2.set 50 ⟨2,onm,ocl,orf,ood,none,oit,oks⟩,gh),by simp only; omega,nxK_ok g2,hw2,⟨g4,h84⟩,hth,by simp only [hmm2]; exact g7⟩ ?_ (by simp only; omega)
      simp only [gX_u (i:=50 + 1) (gh:=gh) (q:=0) (id:=1000) (by omega),gX_lk (i:=50 + 1) (gh:=gh) (q:=1) (id:=1001) (by omega),gX_lk (i:=50 + 1) (gh:=gh) (q:=2) (id:=1002) (by omega),gX_lk (i:=50 + 1) (gh:=gh) (q:=3) (id:=1003) (by omega),gX_lk (i:=50 + 1) (gh:=gh) (q:=4) (id:=1004) (by omega),gX_lk (i:=50 + 1) (gh:=gh) (q:=5) (id:=1005) (by omega),gX_lk (i:=50 + 1) (gh:=gh) (q:=6) (id:=1006) (by omega),gX_lk (i:=50 + 1) (gh:=gh) (q:=7) (id:=1007) (by omega),swp,hgl]; exact q_D
     ·obtain ⟨hgv,hgl⟩:=gV_at (q:=1) hx
      simp only [gX_u (i:=51) (gh:=gh) (q:=0) (id:=1000) (by omega),gX_lk (i:=51) (gh:=gh) (q:=1) (id:=1001) (by omega),gX_lk (i:=51) (gh:=gh) (q:=2) (id:=1002) (by omega),gX_lk (i:=51) (gh:=gh) (q:=3) (id:=1003) (by omega),gX_lk (i:=51) (gh:=gh) (q:=4) (id:=1004) (by omega),gX_lk (i:=51) (gh:=gh) (q:=5) (id:=1005) (by omega),gX_lk (i:=51) (gh:=gh) (q:=6) (id:=1006) (by omega),gX_lk (i:=51) (gh:=gh) (q:=7) (id:=1007) (by omega)]
      refine awp_unlk_row 2001 4 1001 0 51 6 (v:=gV gh 1) (z:=10) rfl rfl rfl (by omega) rfl rfl hget (by rw [hgv]; rfl) ?_
      simp only [List.set_cons_succ,List.set_cons_zero,hgl]
      rw [hcon _ rfl]
      repeat' (first|with_reducible refine q_0 ?_|((with_reducible first|refine q_q ha10_ok fun K hK=>?_|refine q_r ha10_ok fun K hK=>?_);simp (maxSteps:=2000000) only [go_sem,↓reduceIte,reduceCtorEq,Nat.reduceLeDiff,Nat.reduceLT,Nat.reduceBEq,Nat.reduceAdd,List.length_map,List.length_set,hn,hat2];(repeat1' with_reducible first|apply And.intro|(intro _;try exact q_v)|(refine hK _ ?_;clear hK K))<;>(try (clear hK K;exact q_u)))|(with_reducible refine q_s ?_;(first|apply q_J|apply q_K|apply q_L|apply q_M|apply q_N|apply q_O)<;>try (intro _;try exact q_v)))
      all_goals first | omega | contradiction | skip
      refine roundr_n [] ⟨(51 + 1,nxK l k2,os2,ot2.set 51 ⟨2,onm,ocl,orf,ood,none,oit,oks⟩,gh),by simp only; omega,nxK_ok g2,hw2,⟨g4,h84⟩,hth,by simp only [hmm2]; exact g7⟩ ?_ (by simp only; omega)
      simp only [gX_u (i:=51 + 1) (gh:=gh) (q:=0) (id:=1000) (by omega),gX_u (i:=51 + 1) (gh:=gh) (q:=1) (id:=1001) (by omega),gX_lk (i:=51 + 1) (gh:=gh) (q:=2) (id:=1002) (by omega),gX_lk (i:=51 + 1) (gh:=gh) (q:=3) (id:=1003) (by omega),gX_lk (i:=51 + 1) (gh:=gh) (q:=4) (id:=1004) (by omega),gX_lk (i:=51 + 1) (gh:=gh) (q:=5) (id:=1005) (by omega),gX_lk (i:=51 + 1) (gh:=gh) (q:=6) (id:=1006) (by omega),gX_lk (i:=51 + 1) (gh:=gh) (q:=7) (id:=1007) (by omega),swp,hgl]; exact q_D
     ·obtain ⟨hgv,hgl⟩:=gV_at (q:=2) hx
      simp only [gX_u (i:=52) (gh:=gh) (q:=0) (id:=1000) (by omega),gX_u (i:=52) (gh:=gh) (q:=1) (id:=1001) (by omega),gX_lk (i:=52) (gh:=gh) (q:=2) (id:=1002) (by omega),gX_lk (i:=52) (gh:=gh) (q:=3) (id:=1003) (by omega),gX_lk (i:=52) (gh:=gh) (q:=4) (id:=1004) (by omega),gX_lk (i:=52) (gh:=gh) (q:=5) (id:=1005) (by omega),gX_lk (i:=52) (gh:=gh) (q:=6) (id:=1006) (by omega),gX_lk (i:=52) (gh:=gh) (q:=7) (id:=1007) (by omega)]
      refine awp_unlk_row 2002 4 1002 0 52 6 (v:=gV gh 2) (z:=10) rfl rfl rfl (by omega) rfl rfl hget (by rw [hgv]; rfl) ?_
      simp only [List.set_cons_succ,List.set_cons_zero,hgl]
      rw [hcon _ rfl]
      repeat' (first|with_reducible refine q_0 ?_|((with_reducible first|refine q_q ha10_ok fun K hK=>?_|refine q_r ha10_ok fun K hK=>?_);simp (maxSteps:=2000000) only [go_sem,↓reduceIte,reduceCtorEq,Nat.reduceLeDiff,Nat.reduceLT,Nat.reduceBEq,Nat.reduceAdd,List.length_map,List.length_set,hn,hat2];(repeat1' with_reducible first|apply And.intro|(intro _;try exact q_v)|(refine hK _ ?_;clear hK K))<;>(try (clear hK K;exact q_u)))|(with_reducible refine q_s ?_;(first|apply q_J|apply q_K|apply q_L|apply q_M|apply q_N|apply q_O)<;>try (intro _;try exact q_v)))
      all_goals first | omega | contradiction | skip
      refine roundr_n [] ⟨(52 + 1,nxK l k2,os2,ot2.set 52 ⟨2,onm,ocl,orf,ood,none,oit,oks⟩,gh),by simp only; omega,nxK_ok g2,hw2,⟨g4,h84⟩,hth,by simp only [hmm2]; exact g7⟩ ?_ (by simp only; omega)
      simp only [gX_u (i:=52 + 1) (gh:=gh) (q:=0) (id:=1000) (by omega),gX_u (i:=52 + 1) (gh:=gh) (q:=1) (id:=1001) (by omega),gX_u (i:=52 + 1) (gh:=gh) (q:=2) (id:=1002) (by omega),gX_lk (i:=52 + 1) (gh:=gh) (q:=3) (id:=1003) (by omega),gX_lk (i:=52 + 1) (gh:=gh) (q:=4) (id:=1004) (by omega),gX_lk (i:=52 + 1) (gh:=gh) (q:=5) (id:=1005) (by omega),gX_lk (i:=52 + 1) (gh:=gh) (q:=6) (id:=1006) (by omega),gX_lk (i:=52 + 1) (gh:=gh) (q:=7) (id:=1007) (by omega),swp,hgl]; exact q_D
     ·obtain ⟨hgv,hgl⟩:=gV_at (q:=3) hx
      simp only [gX_u (i:=53) (gh:=gh) (q:=0) (id:=1000) (by omega),gX_u (i:=53) (gh:=gh) (q:=1) (id:=1001) (by omega),gX_u (i:=53) (gh:=gh) (q:=2) (id:=1002) (by omega),gX_lk (i:=53) (gh:=gh) (q:=3) (id:=1003) (by omega),gX_lk (i:=53) (gh:=gh) (q:=4) (id:=1004) (by omega),gX_lk (i:=53) (gh:=gh) (q:=5) (id:=1005) (by omega),gX_lk (i:=53) (gh:=gh) (q:=6) (id:=1006) (by omega),gX_lk (i:=53) (gh:=gh) (q:=7) (id:=1007) (by omega)]
      refine awp_unlk_row 2003 4 1003 0 53 6 (v:=gV gh 3) (z:=10) rfl rfl rfl (by omega) rfl rfl hget (by rw [hgv]; rfl) ?_
      simp only [List.set_cons_succ,List.set_cons_zero,hgl]
      rw [hcon _ rfl]
      repeat' (first|with_reducible refine q_0 ?_|((with_reducible first|refine q_q ha10_ok fun K hK=>?_|refine q_r ha10_ok fun K hK=>?_);simp (maxSteps:=2000000) only [go_sem,↓reduceIte,reduceCtorEq,Nat.reduceLeDiff,Nat.reduceLT,Nat.reduceBEq,Nat.reduceAdd,List.length_map,List.length_set,hn,hat2];(repeat1' with_reducible first|apply And.intro|(intro _;try exact q_v)|(refine hK _ ?_;clear hK K))<;>(try (clear hK K;exact q_u)))|(with_reducible refine q_s ?_;(first|apply q_J|apply q_K|apply q_L|apply q_M|apply q_N|apply q_O)<;>try (intro _;try exact q_v)))
      all_goals first | omega | contradiction | skip
      refine roundr_n [] ⟨(53 + 1,nxK l k2,os2,ot2.set 53 ⟨2,onm,ocl,orf,ood,none,oit,oks⟩,gh),by simp only; omega,nxK_ok g2,hw2,⟨g4,h84⟩,hth,by simp only [hmm2]; exact g7⟩ ?_ (by simp only; omega)
      simp only [gX_u (i:=53 + 1) (gh:=gh) (q:=0) (id:=1000) (by omega),gX_u (i:=53 + 1) (gh:=gh) (q:=1) (id:=1001) (by omega),gX_u (i:=53 + 1) (gh:=gh) (q:=2) (id:=1002) (by omega),gX_u (i:=53 + 1) (gh:=gh) (q:=3) (id:=1003) (by omega),gX_lk (i:=53 + 1) (gh:=gh) (q:=4) (id:=1004) (by omega),gX_lk (i:=53 + 1) (gh:=gh) (q:=5) (id:=1005) (by omega),gX_lk (i:=53 + 1) (gh:=gh) (q:=6) (id:=1006) (by omega),gX_lk (i:=53 + 1) (gh:=gh) (q:=7) (id:=1007) (by omega),swp,hgl]; exact q_D
     ·obtain ⟨hgv,hgl⟩:=gV_at (q:=4) hx
      simp only [gX_u (i:=54) (gh:=gh) (q:=0) (id:=1000) (by omega),gX_u (i:=54) (gh:=gh) (q:=1) (id:=1001) (by omega),gX_u (i:=54) (gh:=gh) (q:=2) (id:=1002) (by omega),gX_u (i:=54) (gh:=gh) (q:=3) (id:=1003) (by omega),gX_lk (i:=54) (gh:=gh) (q:=4) (id:=1004) (by omega),gX_lk (i:=54) (gh:=gh) (q:=5) (id:=1005) (by omega),gX_lk (i:=54) (gh:=gh) (q:=6) (id:=1006) (by omega),gX_lk (i:=54) (gh:=gh) (q:=7) (id:=1007) (by omega)]
      refine awp_unlk_row 2004 4 1004 0 54 6 (v:=gV gh 4) (z:=10) rfl rfl rfl (by omega) rfl rfl hget (by rw [hgv]; rfl) ?_
      simp only [List.set_cons_succ,List.set_cons_zero,hgl]
      rw [hcon _ rfl]
      repeat' (first|with_reducible refine q_0 ?_|((with_reducible first|refine q_q ha10_ok fun K hK=>?_|refine q_r ha10_ok fun K hK=>?_);simp (maxSteps:=2000000) only [go_sem,↓reduceIte,reduceCtorEq,Nat.reduceLeDiff,Nat.reduceLT,Nat.reduceBEq,Nat.reduceAdd,List.length_map,List.length_set,hn,hat2];(repeat1' with_reducible first|apply And.intro|(intro _;try exact q_v)|(refine hK _ ?_;clear hK K))<;>(try (clear hK K;exact q_u)))|(with_reducible refine q_s ?_;(first|apply q_J|apply q_K|apply q_L|apply q_M|apply q_N|apply q_O)<;>try (intro _;try exact q_v)))
      all_goals first | omega | contradiction | skip
      refine roundr_n [] ⟨(54 + 1,nxK l k2,os2,ot2.set 54 ⟨2,onm,ocl,orf,ood,none,oit,oks⟩,gh),by simp only; omega,nxK_ok g2,hw2,⟨g4,h84⟩,hth,by simp only [hmm2]; exact g7⟩ ?_ (by simp only; omega)
      simp only [gX_u (i:=54 + 1) (gh:=gh) (q:=0) (id:=1000) (by omega),gX_u (i:=54 + 1) (gh:=gh) (q:=1) (id:=1001) (by omega),gX_u (i:=54 + 1) (gh:=gh) (q:=2) (id:=1002) (by omega),gX_u (i:=54 + 1) (gh:=gh) (q:=3) (id:=1003) (by omega),gX_u (i:=54 + 1) (gh:=gh) (q:=4) (id:=1004) (by omega),gX_lk (i:=54 + 1) (gh:=gh) (q:=5) (id:=1005) (by omega),gX_lk (i:=54 + 1) (gh:=gh) (q:=6) (id:=1006) (by omega),gX_lk (i:=54 + 1) (gh:=gh) (q:=7) (id:=1007) (by omega),swp,hgl]; exact q_D
     ·obtain ⟨hgv,hgl⟩:=gV_at (q:=5) hx
      simp only [gX_u (i:=55) (gh:=gh) (q:=0) (id:=1000) (by omega),gX_u (i:=55) (gh:=gh) (q:=1) (id:=1001) (by omega),gX_u (i:=55) (gh:=gh) (q:=2) (id:=1002) (by omega),gX_u (i:=55) (gh:=gh) (q:=3) (id:=1003) (by omega),gX_u (i:=55) (gh:=gh) (q:=4) (id:=1004) (by omega),gX_lk (i:=55) (gh:=gh) (q:=5) (id:=1005) (by omega),gX_lk (i:=55) (gh:=gh) (q:=6) (id:=1006) (by omega),gX_lk (i:=55) (gh:=gh) (q:=7) (id:=1007) (by omega)]
      refine awp_unlk_row 2005 4 1005 0 55 6 (v:=gV gh 5) (z:=10) rfl rfl rfl (by omega) rfl rfl hget (by rw [hgv]; rfl) ?_
      simp only [List.set_cons_succ,List.set_cons_zero,hgl]
      rw [hcon _ rfl]
      repeat' (first|with_reducible refine q_0 ?_|((with_reducible first|refine q_q ha10_ok fun K hK=>?_|refine q_r ha10_ok fun K hK=>?_);simp (maxSteps:=2000000) only [go_sem,↓reduceIte,reduceCtorEq,Nat.reduceLeDiff,Nat.reduceLT,Nat.reduceBEq,Nat.reduceAdd,List.length_map,List.length_set,hn,hat2];(repeat1' with_reducible first|apply And.intro|(intro _;try exact q_v)|(refine hK _ ?_;clear hK K))<;>(try (clear hK K;exact q_u)))|(with_reducible refine q_s ?_;(first|apply q_J|apply q_K|apply q_L|apply q_M|apply q_N|apply q_O)<;>try (intro _;try exact q_v)))
      all_goals first | omega | contradiction | skip
      refine roundr_n [] ⟨(55 + 1,nxK l k2,os2,ot2.set 55 ⟨2,onm,ocl,orf,ood,none,oit,oks⟩,gh),by simp only; omega,nxK_ok g2,hw2,⟨g4,h84⟩,hth,by simp only [hmm2]; exact g7⟩ ?_ (by simp only; omega)
      simp only [gX_u (i:=55 + 1) (gh:=gh) (q:=0) (id:=1000) (by omega),gX_u (i:=55 + 1) (gh:=gh) (q:=1) (id:=1001) (by omega),gX_u (i:=55 + 1) (gh:=gh) (q:=2) (id:=1002) (by omega),gX_u (i:=55 + 1) (gh:=gh) (q:=3) (id:=1003) (by omega),gX_u (i:=55 + 1) (gh:=gh) (q:=4) (id:=1004) (by omega),gX_u (i:=55 + 1) (gh:=gh) (q:=5) (id:=1005) (by omega),gX_lk (i:=55 + 1) (gh:=gh) (q:=6) (id:=1006) (by omega),gX_lk (i:=55 + 1) (gh:=gh) (q:=7) (id:=1007) (by omega),swp,hgl]; exact q_D
     ·obtain ⟨hgv,hgl⟩:=gV_at (q:=6) hx
      simp only [gX_u (i:=56) (gh:=gh) (q:=0) (id:=1000) (by omega),gX_u (i:=56) (gh:=gh) (q:=1) (id:=1001) (by omega),gX_u (i:=56) (gh:=gh) (q:=2) (id:=1002) (by omega),gX_u (i:=56) (gh:=gh) (q:=3) (id:=1003) (by omega),gX_u (i:=56) (gh:=gh) (q:=4) (id:=1004) (by omega),gX_u (i:=56) (gh:=gh) (q:=5) (id:=1005) (by omega),gX_lk (i:=56) (gh:=gh) (q:=6) (id:=1006) (by omega),gX_lk (i:=56) (gh:=gh) (q:=7) (id:=1007) (by omega)]
      refine awp_unlk_row 2006 4 1006 0 56 6 (v:=gV gh 6) (z:=10) rfl rfl rfl (by omega) rfl rfl hget (by rw [hgv]; rfl) ?_
      simp only [List.set_cons_succ,List.set_cons_zero,hgl]
      rw [hcon _ rfl]
      repeat' (first|with_reducible refine q_0 ?_|((with_reducible first|refine q_q ha10_ok fun K hK=>?_|refine q_r ha10_ok fun K hK=>?_);simp (maxSteps:=2000000) only [go_sem,↓reduceIte,reduceCtorEq,Nat.reduceLeDiff,Nat.reduceLT,Nat.reduceBEq,Nat.reduceAdd,List.length_map,List.length_set,hn,hat2];(repeat1' with_reducible first|apply And.intro|(intro _;try exact q_v)|(refine hK _ ?_;clear hK K))<;>(try (clear hK K;exact q_u)))|(with_reducible refine q_s ?_;(first|apply q_J|apply q_K|apply q_L|apply q_M|apply q_N|apply q_O)<;>try (intro _;try exact q_v)))
      all_goals first | omega | contradiction | skip
      refine roundr_n [] ⟨(56 + 1,nxK l k2,os2,ot2.set 56 ⟨2,onm,ocl,orf,ood,none,oit,oks⟩,gh),by simp only; omega,nxK_ok g2,hw2,⟨g4,h84⟩,hth,by simp only [hmm2]; exact g7⟩ ?_ (by simp only; omega)
      simp only [gX_u (i:=56 + 1) (gh:=gh) (q:=0) (id:=1000) (by omega),gX_u (i:=56 + 1) (gh:=gh) (q:=1) (id:=1001) (by omega),gX_u (i:=56 + 1) (gh:=gh) (q:=2) (id:=1002) (by omega),gX_u (i:=56 + 1) (gh:=gh) (q:=3) (id:=1003) (by omega),gX_u (i:=56 + 1) (gh:=gh) (q:=4) (id:=1004) (by omega),gX_u (i:=56 + 1) (gh:=gh) (q:=5) (id:=1005) (by omega),gX_u (i:=56 + 1) (gh:=gh) (q:=6) (id:=1006) (by omega),gX_lk (i:=56 + 1) (gh:=gh) (q:=7) (id:=1007) (by omega),swp,hgl]; exact q_D
     ·obtain ⟨hgv,hgl⟩:=gV_at (q:=7) hx
      simp only [gX_u (i:=57) (gh:=gh) (q:=0) (id:=1000) (by omega),gX_u (i:=57) (gh:=gh) (q:=1) (id:=1001) (by omega),gX_u (i:=57) (gh:=gh) (q:=2) (id:=1002) (by omega),gX_u (i:=57) (gh:=gh) (q:=3) (id:=1003) (by omega),gX_u (i:=57) (gh:=gh) (q:=4) (id:=1004) (by omega),gX_u (i:=57) (gh:=gh) (q:=5) (id:=1005) (by omega),gX_u (i:=57) (gh:=gh) (q:=6) (id:=1006) (by omega),gX_lk (i:=57) (gh:=gh) (q:=7) (id:=1007) (by omega)]
      refine awp_unlk_row 2007 4 1007 0 57 6 (v:=gV gh 7) (z:=10) rfl rfl rfl (by omega) rfl rfl hget (by rw [hgv]; rfl) ?_
      simp only [List.set_cons_succ,List.set_cons_zero,hgl]
      rw [hcon _ rfl]
      repeat' (first|with_reducible refine q_0 ?_|((with_reducible first|refine q_q ha10_ok fun K hK=>?_|refine q_r ha10_ok fun K hK=>?_);simp (maxSteps:=2000000) only [go_sem,↓reduceIte,reduceCtorEq,Nat.reduceLeDiff,Nat.reduceLT,Nat.reduceBEq,Nat.reduceAdd,List.length_map,List.length_set,hn,hat2];(repeat1' with_reducible first|apply And.intro|(intro _;try exact q_v)|(refine hK _ ?_;clear hK K))<;>(try (clear hK K;exact q_u)))|(with_reducible refine q_s ?_;(first|apply q_J|apply q_K|apply q_L|apply q_M|apply q_N|apply q_O)<;>try (intro _;try exact q_v)))
      all_goals first | omega | contradiction | skip
      refine roundr_n [] ⟨(57 + 1,nxK l k2,os2,ot2.set 57 ⟨2,onm,ocl,orf,ood,none,oit,oks⟩,gh),by simp only; omega,nxK_ok g2,hw2,⟨g4,h84⟩,hth,by simp only [hmm2]; exact g7⟩ ?_ (by simp only; omega)
      simp only [gX_u (i:=57 + 1) (gh:=gh) (q:=0) (id:=1000) (by omega),gX_u (i:=57 + 1) (gh:=gh) (q:=1) (id:=1001) (by omega),gX_u (i:=57 + 1) (gh:=gh) (q:=2) (id:=1002) (by omega),gX_u (i:=57 + 1) (gh:=gh) (q:=3) (id:=1003) (by omega),gX_u (i:=57 + 1) (gh:=gh) (q:=4) (id:=1004) (by omega),gX_u (i:=57 + 1) (gh:=gh) (q:=5) (id:=1005) (by omega),gX_u (i:=57 + 1) (gh:=gh) (q:=6) (id:=1006) (by omega),gX_u (i:=57 + 1) (gh:=gh) (q:=7) (id:=1007) (by omega),swp,hgl]; exact q_D
 | succ m =>
  refine seq_join (ι:=Unit) (fun _=>⟨167,[(0,.bx 0 0),(2,.bx 1 0),(4,.bx 6 0),(5,.c (.i .i64 49)),(6,.c (.i .i64 50)),(7,.c (.i .i64 ((m + 1 : Nat) : Int))),(2000,.lk 1000 0 (gV gh 0)),(2001,.lk 1001 0 (gV gh 1)),(2002,.lk 1002 0 (gV gh 2)),(2003,.lk 1003 0 (gV gh 3)),(2004,.lk 1004 0 (gV gh 4)),(2005,.lk 1005 0 (gV gh 5)),(2006,.lk 1006 0 (gV gh 6)),(2007,.lk 1007 0 (gV gh 7)),(1000,.anc 0 (bs 0))],⟨[(0,sB l k'),(1,[.c .nil]),(6,[.own 4 0])],[(4,⟨0,54,10,.sl 10 (ot.map obC)⟩),(1000,⟨0,34,7,.sl 7 ((gL gh 0).map vC)⟩),(1001,⟨0,34,7,.sl 7 ((gL gh 1).map vC)⟩),(1002,⟨0,34,7,.sl 7 ((gL gh 2).map vC)⟩),(1003,⟨0,34,7,.sl 7 ((gL gh 3).map vC)⟩),(1004,⟨0,34,7,.sl 7 ((gL gh 4).map vC)⟩),(1005,⟨0,34,7,.sl 7 ((gL gh 5).map vC)⟩),(1006,⟨0,34,7,.sl 7 ((gL gh 6).map vC)⟩),(1007,⟨0,34,7,.sl 7 ((gL gh 7).map vC)⟩)],[]⟩,1100⟩) ?_ (fun _=>?_)
  ·repeat' (first|with_reducible refine q_0 ?_|((with_reducible first|refine q_q ha10_ok fun K hK=>?_|refine q_r ha10_ok fun K hK=>?_);simp (maxSteps:=2000000) only [go_sem,↓reduceIte,reduceCtorEq,Nat.reduceLeDiff,Nat.reduceLT,Nat.reduceBEq,Nat.reduceAdd];(repeat1' with_reducible first|apply And.intro|(intro _;try exact q_v)|(refine hK _ ?_;clear hK K))<;>(try (clear hK K;exact q_u)))|(with_reducible refine q_s ?_;(first|apply q_J|apply q_K|apply q_L|apply q_M|apply q_N|apply q_O)<;>try (intro _;try exact q_v)))
   all_goals first | omega | exact join_to () q_D | skip
  with_reducible apply q_a
  with_reducible apply q_e
  refine seq_cut2 (ι:={ p : Ob × Int // s1 os l k' = p ∧ p.1.k ≠ 5 } ⊕ { p : Ob × Int // s1 os l k' = p ∧ p.1.k = 5 }) (fun
   | .inl p=>⟨167,[(0,.bx 0 0),(2,.bx 1 0),(4,.bx 6 0),(5,.c (.i .i64 49)),(6,.c (.i .i64 50)),(7,.c (.i .i64 ((m + 1 : Nat) : Int))),(8,.bx 1100 0),(2000,.lk 1000 0 (gV gh 0)),(2001,.lk 1001 0 (gV gh 1)),(2002,.lk 1002 0 (gV gh 2)),(2003,.lk 1003 0 (gV gh 3)),(2004,.lk 1004 0 (gV gh 4)),(2005,.lk 1005 0 (gV gh 5)),(2006,.lk 1006 0 (gV gh 6)),(2007,.lk 1007 0 (gV gh 7)),(1000,.anc 0 (bs 0))],⟨[(0,sB l p.1.2),(1,[.c .nil]),(6,[.own 4 0]),(1100,[.c (.i .i64 p.1.1.k),.c (.str ByteArray.empty),.c (.i .i64 p.1.1.cl),.c (.ints .i64 []),.c (.ints .i64 []),.c (.sl 1 []),.c .nil,.c (.sl 7 (p.1.1.ks.map vC)),.c (.i .i64 0),.c (.i .i64 0)])],[(4,⟨0,54,10,.sl 10 (ot.map obC)⟩),(1000,⟨0,34,7,.sl 7 ((gL gh 0).map vC)⟩),(1001,⟨0,34,7,.sl 7 ((gL gh 1).map vC)⟩),(1002,⟨0,34,7,.sl 7 ((gL gh 2).map vC)⟩),(1003,⟨0,34,7,.sl 7 ((gL gh 3).map vC)⟩),(1004,⟨0,34,7,.sl 7 ((gL gh 4).map vC)⟩),(1005,⟨0,34,7,.sl 7 ((gL gh 5).map vC)⟩),(1006,⟨0,34,7,.sl 7 ((gL gh 6).map vC)⟩),(1007,⟨0,34,7,.sl 7 ((gL gh 7).map vC)⟩)],[]⟩,1140⟩
   | .inr p=>⟨167,[(0,.bx 0 0),(2,.bx 1 0),(4,.bx 6 0),(5,.c (.i .i64 49)),(6,.c (.i .i64 50)),(7,.c (.i .i64 ((m + 1 : Nat) : Int))),(8,.bx 1100 0),(2000,.lk 1000 0 (gV gh 0)),(2001,.lk 1001 0 (gV gh 1)),(2002,.lk 1002 0 (gV gh 2)),(2003,.lk 1003 0 (gV gh 3)),(2004,.lk 1004 0 (gV gh 4)),(2005,.lk 1005 0 (gV gh 5)),(2006,.lk 1006 0 (gV gh 6)),(2007,.lk 1007 0 (gV gh 7)),(1000,.anc 0 (bs 0))],⟨[(0,sB l p.1.2),(1,[.c .nil]),(6,[.own 4 0]),(1100,[.c (.i .i64 p.1.1.k),.c (.str ByteArray.empty),.c (.i .i64 p.1.1.cl),.c (.ints .i64 []),.c (.ints .i64 []),.c (.sl 1 []),.c (.sl 7 (p.1.1.it.map vC)),.c (.sl 7 (p.1.1.ks.map vC)),.c (.i .i64 0),.c (.i .i64 0)])],[(4,⟨0,54,10,.sl 10 (ot.map obC)⟩),(1000,⟨0,34,7,.sl 7 ((gL gh 0).map vC)⟩),(1001,⟨0,34,7,.sl 7 ((gL gh 1).map vC)⟩),(1002,⟨0,34,7,.sl 7 ((gL gh 2).map vC)⟩),(1003,⟨0,34,7,.sl 7 ((gL gh 3).map vC)⟩),(1004,⟨0,34,7,.sl 7 ((gL gh 4).map vC)⟩),(1005,⟨0,34,7,.sl 7 ((gL gh 5).map vC)⟩),(1006,⟨0,34,7,.sl 7 ((gL gh 6).map vC)⟩),(1007,⟨0,34,7,.sl 7 ((gL gh 7).map vC)⟩)],[]⟩,1140⟩) (fun Y hY=>?_) ?_
  ·have hdo:=dO_map (g5.pr g3)
   have hpr:=g5.pr g3
   have hhk:=g5.hok g3
   have h50 : Int.toNat 50 ≤ ot.length:=by rw [hn]; exact g3.n.1
   have hka : ∀ kk g,okSd l kk → ksF ot l kk 50 g = ksF os l kk 50 g:=fun kk g hk=>ksF_agr (f:=50) g3.h g5.agr hn hk
   have hk2:=hka (nxK l (nxK l k')) (decide (nxV l (nxK l k') 60 = 1)) (nxK_ok (nxK_ok g2))
   repeat' (first|with_reducible refine q_0 ?_|((with_reducible first|refine q_q ha10_ok fun K hK=>?_|refine q_r ha10_ok fun K hK=>?_);simp (maxSteps:=2000000) only [go_sem,↓reduceIte,reduceCtorEq,Nat.reduceLeDiff,Nat.reduceLT,Nat.reduceBEq,Nat.reduceAdd,hdo,hk2];(repeat1' with_reducible first|apply And.intro|(intro _;try exact q_v)|(refine hK _ ?_;clear hK K))<;>(try (clear hK K;exact q_u)))|(with_reducible refine q_s ?_;(first|apply q_J|apply q_K|apply q_L|apply q_M|apply q_N|apply q_O)<;>try (intro _;try exact q_v)))
   all_goals first | omega | exact hpr _ (by assumption) | exact h50 | rfl | exact keep_of [] trivial | exact keep_of [1100] ⟨rfl,trivial⟩ | exact keep_of [6] ⟨rfl,trivial⟩ | skip
   all_goals first
    | exact cut_fit hY (.inl ⟨_,s1_0 (by assumption),by simp [nO]⟩) (by simp only [nO,List.map_nil]; exact q_D)
    | exact cut_fit hY (.inl ⟨_,s1_1 (by assumption),by simp [nO]⟩) (by simp only [nO,List.map_nil]; exact q_D)
    | exact cut_fit hY (.inl ⟨_,s1_2 (by assumption),by simp [nO]⟩) (by simp only [nO,List.map_nil]; exact q_D)
    | exact cut_fit hY (.inl ⟨_,s1_3 (by assumption),by simp [nO]⟩) (by simp only [nO,List.map_nil]; exact q_D)
    | exact cut_fit hY (.inr ⟨_,s1_4 (by assumption),by simp [nO]⟩) (by simp only [nO,List.map_nil,List.map_cons,vC,intV]; exact q_D)
    | exact cut_fit hY (.inl ⟨_,s1_5 (by assumption) (by assumption) (by assumption) (by assumption) (by assumption),by simp [nO]⟩) (by simp only [nO,List.map_nil]; exact q_D)
    | skip

  have hL : ∀ kk,okSd l kk → OkW os.length (vaV l kk os.length 50) ∧ okSd l (vaK l kk os.length 50):=fun kk hkk=>by
   have:=vaV_ok (n:=(os.length : Int)) (f:=50) hkk
   exact ⟨okW_of (f:=50) this.1,this.2⟩
  obtain ⟨q1,kd,cl,it,ks,e,hks,hkd,hi,h5,h12,h3⟩:=s1_ok (os:=os) g2
  have hn58:=g3.n
  intro i1
  refine seq_join (ι:={ p : Ob × Int // s2 os.length l (s1 os l k') = p ∧ p.1.k ≠ 2 } ⊕ { p : Ob × Int // s2 os.length l (s1 os l k') = p ∧ p.1.k = 2 }) (fun
   | .inl p=>⟨167,[(0,.bx 0 0),(2,.bx 1 0),(4,.bx 6 0),(5,.c (.i .i64 49)),(6,.c (.i .i64 50)),(7,.c (.i .i64 ((m + 1 : Nat) : Int))),(8,.bx 1100 0),(2000,.lk 1000 0 (gV gh 0)),(2001,.lk 1001 0 (gV gh 1)),(2002,.lk 1002 0 (gV gh 2)),(2003,.lk 1003 0 (gV gh 3)),(2004,.lk 1004 0 (gV gh 4)),(2005,.lk 1005 0 (gV gh 5)),(2006,.lk 1006 0 (gV gh 6)),(2007,.lk 1007 0 (gV gh 7)),(1000,.anc 0 (bs 0))],⟨[(0,sB l p.1.2),(1,[.c .nil]),(6,[.own 4 0]),(1100,[.c (.i .i64 p.1.1.k),.c (.str ByteArray.empty),.c (.i .i64 p.1.1.cl),.c (.ints .i64 []),.c (.ints .i64 []),.c (.sl 1 []),.c (.sl 7 (p.1.1.it.map vC)),.c (.sl 7 (p.1.1.ks.map vC)),.c (.i .i64 0),.c (.i .i64 0)])],[(4,⟨0,54,10,.sl 10 (ot.map obC)⟩),(1000,⟨0,34,7,.sl 7 ((gL gh 0).map vC)⟩),(1001,⟨0,34,7,.sl 7 ((gL gh 1).map vC)⟩),(1002,⟨0,34,7,.sl 7 ((gL gh 2).map vC)⟩),(1003,⟨0,34,7,.sl 7 ((gL gh 3).map vC)⟩),(1004,⟨0,34,7,.sl 7 ((gL gh 4).map vC)⟩),(1005,⟨0,34,7,.sl 7 ((gL gh 5).map vC)⟩),(1006,⟨0,34,7,.sl 7 ((gL gh 6).map vC)⟩),(1007,⟨0,34,7,.sl 7 ((gL gh 7).map vC)⟩)],[]⟩,1200⟩
   | .inr p=>⟨167,[(0,.bx 0 0),(2,.bx 1 0),(4,.bx 6 0),(5,.c (.i .i64 49)),(6,.c (.i .i64 50)),(7,.c (.i .i64 ((m + 1 : Nat) : Int))),(8,.bx 1100 0),(2000,.lk 1000 0 (gV gh 0)),(2001,.lk 1001 0 (gV gh 1)),(2002,.lk 1002 0 (gV gh 2)),(2003,.lk 1003 0 (gV gh 3)),(2004,.lk 1004 0 (gV gh 4)),(2005,.lk 1005 0 (gV gh 5)),(2006,.lk 1006 0 (gV gh 6)),(2007,.lk 1007 0 (gV gh 7)),(1000,.anc 0 (bs 0))],⟨[(0,sB l p.1.2),(1,[.c .nil]),(6,[.own 4 0]),(1100,[.c (.i .i64 p.1.1.k),.c (.str ByteArray.empty),.c (.i .i64 p.1.1.cl),.c (.ints .i64 []),.c (.ints .i64 []),.c (.sl 1 []),.own 1150 0,.c (.sl 7 (p.1.1.ks.map vC)),.c (.i .i64 0),.c (.i .i64 0)])],[(4,⟨0,54,10,.sl 10 (ot.map obC)⟩),(1000,⟨0,34,7,.sl 7 ((gL gh 0).map vC)⟩),(1001,⟨0,34,7,.sl 7 ((gL gh 1).map vC)⟩),(1002,⟨0,34,7,.sl 7 ((gL gh 2).map vC)⟩),(1003,⟨0,34,7,.sl 7 ((gL gh 3).map vC)⟩),(1004,⟨0,34,7,.sl 7 ((gL gh 4).map vC)⟩),(1005,⟨0,34,7,.sl 7 ((gL gh 5).map vC)⟩),(1006,⟨0,34,7,.sl 7 ((gL gh 6).map vC)⟩),(1007,⟨0,34,7,.sl 7 ((gL gh 7).map vC)⟩),(1150,⟨0,34,7,.sl 7 (p.1.1.it.map vC)⟩)],[]⟩,1200⟩) ?_ ?_
  ·rcases i1 with (⟨⟨o,k1⟩,hp,hk5⟩ | ⟨⟨o,k1⟩,hp,hk5⟩)
   ·rw [hp] at q1 e
    simp only at q1 e hk5
    subst e
    have hit : it = []:=hi hk5
    subst hit
    have hs2 : s2 os.length l (s1 os l k') = s2 os.length l (nO kd cl [] ks,k1):=by rw [hp]
    rw [s2_nO] at hs2
    have hx4:=nxV_in l k1 (n:=4) (by omega)
    simp only [nO]
    by_cases hc : kd = 1 ∨ kd = 2
    ·rw [if_pos hc] at hs2
     obtain ⟨hks0,hcl0⟩:=h12 hc
     subst hks0; subst hcl0
     rcases hc with rfl | rfl
     ·
      generalize hI : itG l os.length 50 (nxV l k1 4).toNat (nxK l k1) [] = I at hs2
      repeat' (first|with_reducible refine q_0 ?_|((with_reducible first|refine q_q ha10_ok fun K hK=>?_|refine q_r ha10_ok fun K hK=>?_);simp (maxSteps:=2000000) only [go_sem,↓reduceIte,reduceCtorEq,Nat.reduceLeDiff,Nat.reduceLT,Nat.reduceBEq,Nat.reduceAdd,List.length_map,hn];(repeat1' with_reducible first|apply And.intro|(intro _;try exact q_v)|(refine hK _ ?_;clear hK K))<;>(try (clear hK K;exact q_u)))|(with_reducible refine q_s ?_;(first|apply q_J|apply q_K|apply q_L|apply q_M|apply q_N|apply q_O)<;>try (intro _;try exact q_v)))
      all_goals first | omega | contradiction | skip
      refine loop_rb (ι:={ q : Nat × Int × List Vl // q.1 ≤ 3 ∧ okSd l q.2.1 ∧ q.2.2.length + q.1 ≤ 3 ∧ itG l os.length 50 q.1 q.2.1 q.2.2 = I }) (fun q=>⟨167,[(0,.bx 0 0),(2,.bx 1 0),(4,.bx 6 0),(5,.c (.i .i64 49)),(6,.c (.i .i64 50)),(7,.c (.i .i64 ((m + 1 : Nat) : Int))),(8,.bx 1100 0),(9,.c (.i .i64 q.1.1)),(2000,.lk 1000 0 (gV gh 0)),(2001,.lk 1001 0 (gV gh 1)),(2002,.lk 1002 0 (gV gh 2)),(2003,.lk 1003 0 (gV gh 3)),(2004,.lk 1004 0 (gV gh 4)),(2005,.lk 1005 0 (gV gh 5)),(2006,.lk 1006 0 (gV gh 6)),(2007,.lk 1007 0 (gV gh 7)),(1000,.anc 0 (bs 0))],⟨[(0,sB l q.1.2.1),(1,[.c .nil]),(6,[.own 4 0]),(1100,[.c (.i .i64 1),.c (.str ByteArray.empty),.c (.i .i64 0),.c (.ints .i64 []),.c (.ints .i64 []),.c (.sl 1 []),.own 1150 0,.c (.sl 7 (([] : List Vl).map vC)),.c (.i .i64 0),.c (.i .i64 0)])],[(4,⟨0,54,10,.sl 10 (ot.map obC)⟩),(1000,⟨0,34,7,.sl 7 ((gL gh 0).map vC)⟩),(1001,⟨0,34,7,.sl 7 ((gL gh 1).map vC)⟩),(1002,⟨0,34,7,.sl 7 ((gL gh 2).map vC)⟩),(1003,⟨0,34,7,.sl 7 ((gL gh 3).map vC)⟩),(1004,⟨0,34,7,.sl 7 ((gL gh 4).map vC)⟩),(1005,⟨0,34,7,.sl 7 ((gL gh 5).map vC)⟩),(1006,⟨0,34,7,.sl 7 ((gL gh 6).map vC)⟩),(1007,⟨0,34,7,.sl 7 ((gL gh 7).map vC)⟩),(1150,⟨0,34,7,.sl 7 (q.1.2.2.map vC)⟩)],[]⟩,1200⟩) (fun q=>q.1.1) ⟨((nxV l k1 4).toNat,nxK l k1,[]),by simp only; omega,nxK_ok q1,by simp only [List.length_nil]; omega,hI⟩ ?_ ?_
      ·have e4 : (((nxV l k1 4).toNat : Nat) : Int) = nxV l k1 4:=by omega
       simp only [e4,List.map_nil]; exact q_D
      rintro ⟨⟨j,k2,acc⟩,r1,r2,r3,r4⟩
      simp only at r1 r2 r3 r4 ⊢
      have hl2:=hL k2 r2
      cases j with
      | zero =>
       obtain rfl : I = (acc,k2):=r4.symm
       repeat' (first|with_reducible refine q_0 ?_|((with_reducible first|refine q_q ha10_ok fun K hK=>?_|refine q_r ha10_ok fun K hK=>?_);simp (maxSteps:=2000000) only [go_sem,↓reduceIte,reduceCtorEq,Nat.reduceLeDiff,Nat.reduceLT,Nat.reduceBEq,Nat.reduceAdd,List.length_map,hn];(repeat1' with_reducible first|apply And.intro|(intro _;try exact q_v)|(refine hK _ ?_;clear hK K))<;>(try (clear hK K;exact q_u)))|(with_reducible refine q_s ?_;(first|apply q_J|apply q_K|apply q_L|apply q_M|apply q_N|apply q_O)<;>try (intro _;try exact q_v)))
       all_goals first | omega | contradiction | skip
       all_goals exact join_to (Q:=fun _ _=>True) (.inl ⟨_,hs2,by simp [nO]⟩) (by simp only [nO,List.map_nil]; exact q_D)
      | succ j =>
       repeat' (first|with_reducible refine q_0 ?_|((with_reducible first|refine q_q ha10_ok fun K hK=>?_|refine q_r ha10_ok fun K hK=>?_);simp (maxSteps:=2000000) only [go_sem,↓reduceIte,reduceCtorEq,Nat.reduceLeDiff,Nat.reduceLT,Nat.reduceBEq,Nat.reduceAdd,List.length_map,hn];(repeat1' with_reducible first|apply And.intro|(intro _;try exact q_v)|(refine hK _ ?_;clear hK K))<;>(try (clear hK K;exact q_u)))|(with_reducible refine q_s ?_;(first|apply q_J|apply q_K|apply q_L|apply q_M|apply q_N|apply q_O)<;>try (intro _;try exact q_v)))
       all_goals first | omega | contradiction | rfl | exact keep_of [] trivial | exact keep_of [1100] ⟨rfl,trivial⟩ | exact keep_of [6] ⟨rfl,trivial⟩ | exact keep_of [1100,6] ⟨rfl,rfl,trivial⟩ | exact keep_of [6,1100] ⟨rfl,rfl,trivial⟩ | skip
       refine roundr_n [] ⟨(j,vaK l k2 os.length 50,acc ++ [vaV l k2 os.length 50]),by simp only; omega,hl2.2,by simp only [List.length_append,List.length_cons,List.length_nil]; omega,r4⟩ ?_ (Nat.lt_succ_self j)
       simp only [List.map_append,List.map_cons,List.map_nil,vC,swp]; exact q_D
     ·
      generalize hI : itG l os.length 50 (nxV l k1 4).toNat (nxK l k1) [] = I at hs2
      repeat' (first|with_reducible refine q_0 ?_|((with_reducible first|refine q_q ha10_ok fun K hK=>?_|refine q_r ha10_ok fun K hK=>?_);simp (maxSteps:=2000000) only [go_sem,↓reduceIte,reduceCtorEq,Nat.reduceLeDiff,Nat.reduceLT,Nat.reduceBEq,Nat.reduceAdd,List.length_map,hn];(repeat1' with_reducible first|apply And.intro|(intro _;try exact q_v)|(refine hK _ ?_;clear hK K))<;>(try (clear hK K;exact q_u)))|(with_reducible refine q_s ?_;(first|apply q_J|apply q_K|apply q_L|apply q_M|apply q_N|apply q_O)<;>try (intro _;try exact q_v)))
      all_goals first | omega | contradiction | skip
      refine loop_rb (ι:={ q : Nat × Int × List Vl // q.1 ≤ 3 ∧ okSd l q.2.1 ∧ q.2.2.length + q.1 ≤ 3 ∧ itG l os.length 50 q.1 q.2.1 q.2.2 = I }) (fun q=>⟨167,[(0,.bx 0 0),(2,.bx 1 0),(4,.bx 6 0),(5,.c (.i .i64 49)),(6,.c (.i .i64 50)),(7,.c (.i .i64 ((m + 1 : Nat) : Int))),(8,.bx 1100 0),(9,.c (.i .i64 q.1.1)),(2000,.lk 1000 0 (gV gh 0)),(2001,.lk 1001 0 (gV gh 1)),(2002,.lk 1002 0 (gV gh 2)),(2003,.lk 1003 0 (gV gh 3)),(2004,.lk 1004 0 (gV gh 4)),(2005,.lk 1005 0 (gV gh 5)),(2006,.lk 1006 0 (gV gh 6)),(2007,.lk 1007 0 (gV gh 7)),(1000,.anc 0 (bs 0))],⟨[(0,sB l q.1.2.1),(1,[.c .nil]),(6,[.own 4 0]),(1100,[.c (.i .i64 2),.c (.str ByteArray.empty),.c (.i .i64 0),.c (.ints .i64 []),.c (.ints .i64 []),.c (.sl 1 []),.own 1150 0,.c (.sl 7 (([] : List Vl).map vC)),.c (.i .i64 0),.c (.i .i64 0)])],[(4,⟨0,54,10,.sl 10 (ot.map obC)⟩),(1000,⟨0,34,7,.sl 7 ((gL gh 0).map vC)⟩),(1001,⟨0,34,7,.sl 7 ((gL gh 1).map vC)⟩),(1002,⟨0,34,7,.sl 7 ((gL gh 2).map vC)⟩),(1003,⟨0,34,7,.sl 7 ((gL gh 3).map vC)⟩),(1004,⟨0,34,7,.sl 7 ((gL gh 4).map vC)⟩),(1005,⟨0,34,7,.sl 7 ((gL gh 5).map vC)⟩),(1006,⟨0,34,7,.sl 7 ((gL gh 6).map vC)⟩),(1007,⟨0,34,7,.sl 7 ((gL gh 7).map vC)⟩),(1150,⟨0,34,7,.sl 7 (q.1.2.2.map vC)⟩)],[]⟩,1200⟩) (fun q=>q.1.1) ⟨((nxV l k1 4).toNat,nxK l k1,[]),by simp only; omega,nxK_ok q1,by simp only [List.length_nil]; omega,hI⟩ ?_ ?_
      ·have e4 : (((nxV l k1 4).toNat : Nat) : Int) = nxV l k1 4:=by omega
       simp only [e4,List.map_nil]; exact q_D
      rintro ⟨⟨j,k2,acc⟩,r1,r2,r3,r4⟩
      simp only at r1 r2 r3 r4 ⊢
      have hl2:=hL k2 r2
      cases j with
      | zero =>
       obtain rfl : I = (acc,k2):=r4.symm
       repeat' (first|with_reducible refine q_0 ?_|((with_reducible first|refine q_q ha10_ok fun K hK=>?_|refine q_r ha10_ok fun K hK=>?_);simp (maxSteps:=2000000) only [go_sem,↓reduceIte,reduceCtorEq,Nat.reduceLeDiff,Nat.reduceLT,Nat.reduceBEq,Nat.reduceAdd,List.length_map,hn];(repeat1' with_reducible first|apply And.intro|(intro _;try exact q_v)|(refine hK _ ?_;clear hK K))<;>(try (clear hK K;exact q_u)))|(with_reducible refine q_s ?_;(first|apply q_J|apply q_K|apply q_L|apply q_M|apply q_N|apply q_O)<;>try (intro _;try exact q_v)))
       all_goals first | omega | contradiction | skip
       all_goals exact join_to (Q:=fun _ _=>True) (.inr ⟨_,hs2,by simp [nO]⟩) (by simp only [nO,List.map_nil]; exact q_D)
      | succ j =>
       repeat' (first|with_reducible refine q_0 ?_|((with_reducible first|refine q_q ha10_ok fun K hK=>?_|refine q_r ha10_ok fun K hK=>?_);simp (maxSteps:=2000000) only [go_sem,↓reduceIte,reduceCtorEq,Nat.reduceLeDiff,Nat.reduceLT,Nat.reduceBEq,Nat.reduceAdd,List.length_map,hn];(repeat1' with_reducible first|apply And.intro|(intro _;try exact q_v)|(refine hK _ ?_;clear hK K))<;>(try (clear hK K;exact q_u)))|(with_reducible refine q_s ?_;(first|apply q_J|apply q_K|apply q_L|apply q_M|apply q_N|apply q_O)<;>try (intro _;try exact q_v)))
       all_goals first | omega | contradiction | rfl | exact keep_of [] trivial | exact keep_of [1100] ⟨rfl,trivial⟩ | exact keep_of [6] ⟨rfl,trivial⟩ | exact keep_of [1100,6] ⟨rfl,rfl,trivial⟩ | exact keep_of [6,1100] ⟨rfl,rfl,trivial⟩ | skip
       refine roundr_n [] ⟨(j,vaK l k2 os.length 50,acc ++ [vaV l k2 os.length 50]),by simp only; omega,hl2.2,by simp only [List.length_append,List.length_cons,List.length_nil]; omega,r4⟩ ?_ (Nat.lt_succ_self j)
       simp only [List.map_append,List.map_cons,List.map_nil,vC,swp]; exact q_D
    ·rw [if_neg hc] at hs2
     have hkl:=hks.2.2
     by_cases hc3 : kd = 3
     ·rw [if_pos hc3] at hs2
      have hcl3:=h3 hc3
      subst hcl3; subst hc3
      generalize hI : itG l os.length 50 ks.length k1 [] = I at hs2
      repeat' (first|with_reducible refine q_0 ?_|((with_reducible first|refine q_q ha10_ok fun K hK=>?_|refine q_r ha10_ok fun K hK=>?_);simp (maxSteps:=2000000) only [go_sem,↓reduceIte,reduceCtorEq,Nat.reduceLeDiff,Nat.reduceLT,Nat.reduceBEq,Nat.reduceAdd,List.length_map,hn];(repeat1' with_reducible first|apply And.intro|(intro _;try exact q_v)|(refine hK _ ?_;clear hK K))<;>(try (clear hK K;exact q_u)))|(with_reducible refine q_s ?_;(first|apply q_J|apply q_K|apply q_L|apply q_M|apply q_N|apply q_O)<;>try (intro _;try exact q_v)))
      all_goals first | omega | contradiction | skip
      refine loop_rb (ι:={ q : Nat × Int × List Vl // q.1 ≤ ks.length ∧ okSd l q.2.1 ∧ q.2.2.length = q.1 ∧ itG l os.length 50 (ks.length - q.1) q.2.1 q.2.2 = I }) (fun q=>⟨167,[(0,.bx 0 0),(2,.bx 1 0),(4,.bx 6 0),(5,.c (.i .i64 49)),(6,.c (.i .i64 50)),(7,.c (.i .i64 ((m + 1 : Nat) : Int))),(8,.bx 1100 0),(10,.c (.i .i64 q.1.1)),(2000,.lk 1000 0 (gV gh 0)),(2001,.lk 1001 0 (gV gh 1)),(2002,.lk 1002 0 (gV gh 2)),(2003,.lk 1003 0 (gV gh 3)),(2004,.lk 1004 0 (gV gh 4)),(2005,.lk 1005 0 (gV gh 5)),(2006,.lk 1006 0 (gV gh 6)),(2007,.lk 1007 0 (gV gh 7)),(1000,.anc 0 (bs 0))],⟨[(0,sB l q.1.2.1),(1,[.c .nil]),(6,[.own 4 0]),(1100,[.c (.i .i64 3),.c (.str ByteArray.empty),.c (.i .i64 0),.c (.ints .i64 []),.c (.ints .i64 []),.c (.sl 1 []),.own 1150 0,.c (.sl 7 (ks.map vC)),.c (.i .i64 0),.c (.i .i64 0)])],[(4,⟨0,54,10,.sl 10 (ot.map obC)⟩),(1000,⟨0,34,7,.sl 7 ((gL gh 0).map vC)⟩),(1001,⟨0,34,7,.sl 7 ((gL gh 1).map vC)⟩),(1002,⟨0,34,7,.sl 7 ((gL gh 2).map vC)⟩),(1003,⟨0,34,7,.sl 7 ((gL gh 3).map vC)⟩),(1004,⟨0,34,7,.sl 7 ((gL gh 4).map vC)⟩),(1005,⟨0,34,7,.sl 7 ((gL gh 5).map vC)⟩),(1006,⟨0,34,7,.sl 7 ((gL gh 6).map vC)⟩),(1007,⟨0,34,7,.sl 7 ((gL gh 7).map vC)⟩),(1150,⟨0,34,7,.sl 7 (q.1.2.2.map vC)⟩)],[]⟩,1200⟩) (fun q=>ks.length - q.1.1) ⟨(0,k1,[]),Nat.zero_le _,q1,rfl,hI⟩ ?_ ?_
      ·simp only [List.map_nil]; exact q_D
      rintro ⟨⟨j,k2,acc⟩,r1,r2,r3,r4⟩
      simp only at r1 r2 r3 r4 ⊢
      have hl2:=hL k2 r2
      by_cases hj : j < ks.length
      ·obtain ⟨j',hj'⟩ : ∃ j',ks.length - j = j' + 1:=⟨ks.length - j - 1,by omega⟩
       have hj2 : ks.length - (j + 1) = j':=by omega
       rw [hj'] at r4
       repeat' (first|with_reducible refine q_0 ?_|((with_reducible first|refine q_q ha10_ok fun K hK=>?_|refine q_r ha10_ok fun K hK=>?_);simp (maxSteps:=2000000) only [go_sem,↓reduceIte,reduceCtorEq,Nat.reduceLeDiff,Nat.reduceLT,Nat.reduceBEq,Nat.reduceAdd,List.length_map,hn];(repeat1' with_reducible first|apply And.intro|(intro _;try exact q_v)|(refine hK _ ?_;clear hK K))<;>(try (clear hK K;exact q_u)))|(with_reducible refine q_s ?_;(first|apply q_J|apply q_K|apply q_L|apply q_M|apply q_N|apply q_O)<;>try (intro _;try exact q_v)))
       all_goals first | omega | contradiction | rfl | exact keep_of [] trivial | exact keep_of [1100] ⟨rfl,trivial⟩ | exact keep_of [6] ⟨rfl,trivial⟩ | exact keep_of [1100,6] ⟨rfl,rfl,trivial⟩ | exact keep_of [6,1100] ⟨rfl,rfl,trivial⟩ | skip
       refine roundr_n [] ⟨(j + 1,vaK l k2 os.length 50,acc ++ [vaV l k2 os.length 50]),by simp only; omega,hl2.2,by simp only [List.length_append,List.length_cons,List.length_nil]; omega,by simp only [hj2]; exact r4⟩ ?_ (by simp only; omega)
       simp only [List.map_append,List.map_cons,List.map_nil,vC,swp]; exact q_D
      ·have hj' : ks.length - j = 0:=by omega
       rw [hj'] at r4
       obtain rfl : I = (acc,k2):=r4.symm
       repeat' (first|with_reducible refine q_0 ?_|((with_reducible first|refine q_q ha10_ok fun K hK=>?_|refine q_r ha10_ok fun K hK=>?_);simp (maxSteps:=2000000) only [go_sem,↓reduceIte,reduceCtorEq,Nat.reduceLeDiff,Nat.reduceLT,Nat.reduceBEq,Nat.reduceAdd,List.length_map,hn];(repeat1' with_reducible first|apply And.intro|(intro _;try exact q_v)|(refine hK _ ?_;clear hK K))<;>(try (clear hK K;exact q_u)))|(with_reducible refine q_s ?_;(first|apply q_J|apply q_K|apply q_L|apply q_M|apply q_N|apply q_O)<;>try (intro _;try exact q_v)))
       all_goals first | omega | contradiction | skip
       all_goals exact join_to (Q:=fun _ _=>True) (.inl ⟨_,hs2,by simp [nO]⟩) (by simp only [nO,List.map_nil]; exact q_D)
     ·rw [if_neg hc3] at hs2
      have hk1 : ¬ kd = 1:=fun e=>hc (.inl e)
      have hk2 : ¬ kd = 2:=fun e=>hc (.inr e)
      repeat' (first|with_reducible refine q_0 ?_|((with_reducible first|refine q_q ha10_ok fun K hK=>?_|refine q_r ha10_ok fun K hK=>?_);simp (maxSteps:=2000000) only [go_sem,↓reduceIte,reduceCtorEq,Nat.reduceLeDiff,Nat.reduceLT,Nat.reduceBEq,Nat.reduceAdd,List.length_map,hn];(repeat1' with_reducible first|apply And.intro|(intro _;try exact q_v)|(refine hK _ ?_;clear hK K))<;>(try (clear hK K;exact q_u)))|(with_reducible refine q_s ?_;(first|apply q_J|apply q_K|apply q_L|apply q_M|apply q_N|apply q_O)<;>try (intro _;try exact q_v)))
      all_goals first | omega | contradiction | skip
      all_goals exact join_to (Q:=fun _ _=>True) (.inl ⟨_,hs2,by simpa [nO] using hk2⟩) (by simp only [nO,List.map_nil]; exact q_D)
   ·rw [hp] at q1 e
    simp only at q1 e hk5
    subst e
    have hk5' : kd = 5:=hk5
    subst hk5'
    have hs2 : s2 os.length l (s1 os l k') = s2 os.length l (nO 5 cl it ks,k1):=by rw [hp]
    rw [s2_nO,if_neg (by omega),if_neg (by omega)] at hs2
    simp only [nO]
    repeat' (first|with_reducible refine q_0 ?_|((with_reducible first|refine q_q ha10_ok fun K hK=>?_|refine q_r ha10_ok fun K hK=>?_);simp (maxSteps:=2000000) only [go_sem,↓reduceIte,reduceCtorEq,Nat.reduceLeDiff,Nat.reduceLT,Nat.reduceBEq,Nat.reduceAdd,List.length_map,hn];(repeat1' with_reducible first|apply And.intro|(intro _;try exact q_v)|(refine hK _ ?_;clear hK K))<;>(try (clear hK K;exact q_u)))|(with_reducible refine q_s ?_;(first|apply q_J|apply q_K|apply q_L|apply q_M|apply q_N|apply q_O)<;>try (intro _;try exact q_v)))
    all_goals first | omega | contradiction | skip
    all_goals exact join_to (Q:=fun _ _=>True) (.inl ⟨_,hs2,by simp [nO]⟩) (by simp only [nO,List.map_nil]; exact q_D)
  have hs2k:=s2_ok (os:=os) g2
  have hs23:=s2_3 (os:=os) g2
  rintro (⟨⟨o,k2⟩,hp,hk2⟩ | ⟨⟨o,k2⟩,hp,hk2⟩)
  ·rw [hp] at hs2k hs23
   obtain ⟨u1,u2,kd,cl,it,ks,e⟩:=hs2k
   simp only at u1 u2 e hk2
   subst e
   have g7 : wG l m k2 (os ++ [nO kd cl it ks]) = R:=by rw [← g6]; simp only [wG]; rw [hp]
   have hwa:=wok_app g3 (by omega) u2
   have hi3 : ∀ o ∈ os ++ [nO kd cl it ks],o.k = 2 → o.it.length ≤ 3:=fun o ho e=>by
    rcases List.mem_append.1 ho with ho | ho
    ·exact g8 o ho e
    ·rw [List.mem_singleton.1 ho] at e ⊢; exact hs23 e
   have hth:=g5.push (x:=none) (o:=nO kd cl it ks) (p:=nO kd cl it ks) rfl (fun e=>absurd e hk2)
   simp only [nO]
   repeat' (first|with_reducible refine q_0 ?_|((with_reducible first|refine q_q ha10_ok fun K hK=>?_|refine q_r ha10_ok fun K hK=>?_);simp (maxSteps:=2000000) only [go_sem,↓reduceIte,reduceCtorEq,Nat.reduceLeDiff,Nat.reduceLT,Nat.reduceBEq,Nat.reduceAdd,List.length_map,hn];(repeat1' with_reducible first|apply And.intro|(intro _;try exact q_v)|(refine hK _ ?_;clear hK K))<;>(try (clear hK K;exact q_u)))|(with_reducible refine q_s ?_;(first|apply q_J|apply q_K|apply q_L|apply q_M|apply q_N|apply q_O)<;>try (intro _;try exact q_v)))
   all_goals first | omega | contradiction | skip
   refine roundr_n [] ⟨(m,k2,os ++ [nO kd cl it ks],ot ++ [nO kd cl it ks],gh ++ [none]),by simp only; omega,u1,hwa,⟨by simp only [List.length_append,List.length_cons,List.length_nil]; omega,hi3⟩,hth,g7⟩ ?_ (Nat.lt_succ_self m)
   simp only [gV_none,gL_none,List.map_append,List.map_cons,List.map_nil,obC,itC,nO,swp]; exact q_D
  ·rw [hp] at hs2k hs23
   obtain ⟨u1,u2,kd,cl,it,ks,e⟩:=hs2k
   simp only at u1 u2 e hk2
   subst e
   have hkd2 : kd = 2:=hk2
   subst hkd2
   have g7 : wG l m k2 (os ++ [nO 2 cl it ks]) = R:=by rw [← g6]; simp only [wG]; rw [hp]
   have hwa:=wok_app g3 (by omega) u2
   have hgl:=g5.g
   have hi3 : ∀ o ∈ os ++ [nO 2 cl it ks],o.k = 2 → o.it.length ≤ 3:=fun o ho e=>by
    rcases List.mem_append.1 ho with ho | ho
    ·exact g8 o ho e
    ·rw [List.mem_singleton.1 ho] at e ⊢; exact hs23 e
   have hth:=fun v=>g5.push (x:=some (v,it)) (o:=nO 2 cl it ks) (p:={ nO 2 cl it ks with raw:=some v,it:=[] }) ⟨rfl,rfl,rfl⟩ (fun _=>by simp)
   have hq : gh.length = 0 ∨ gh.length = 1 ∨ gh.length = 2 ∨ gh.length = 3 ∨ gh.length = 4 ∨ gh.length = 5 ∨ gh.length = 6 ∨ gh.length = 7:=by omega
   simp only [nO]
   rcases hq with hq | hq | hq | hq | hq | hq | hq | hq
   ·refine awp_lk 2000 8 1100 6 1150 0 rfl rfl rfl rfl rfl (fun v hv=>?_)
    simp only [St.cell,St.slot,List.set_cons_zero,List.set_cons_succ]
    repeat' (first|with_reducible refine q_0 ?_|((with_reducible first|refine q_q ha10_ok fun K hK=>?_|refine q_r ha10_ok fun K hK=>?_);simp (maxSteps:=2000000) only [go_sem,↓reduceIte,reduceCtorEq,Nat.reduceLeDiff,Nat.reduceLT,Nat.reduceBEq,Nat.reduceAdd,List.length_map,hn];(repeat1' with_reducible first|apply And.intro|(intro _;try exact q_v)|(refine hK _ ?_;clear hK K))<;>(try (clear hK K;exact q_u)))|(with_reducible refine q_s ?_;(first|apply q_J|apply q_K|apply q_L|apply q_M|apply q_N|apply q_O)<;>try (intro _;try exact q_v)))
    all_goals first | omega | contradiction | skip
    refine roundr_n [(1150,1000)] ⟨(m,k2,os ++ [nO 2 cl it ks],ot ++ [{ nO 2 cl it ks with raw:=some v,it:=[] }],gh ++ [some (v,it)]),by simp only; omega,u1,hwa,⟨by simp only [List.length_append,List.length_cons,List.length_nil]; omega,hi3⟩,hth v,g7⟩ ?_ (Nat.lt_succ_self m)
    simp only [gV_last hq,gL_last hq,gV_ne (gh:=gh) (q:=1) (some (v,it)) (by omega),gL_ne (gh:=gh) (q:=1) (some (v,it)) (by omega),gV_ne (gh:=gh) (q:=2) (some (v,it)) (by omega),gL_ne (gh:=gh) (q:=2) (some (v,it)) (by omega),gV_ne (gh:=gh) (q:=3) (some (v,it)) (by omega),gL_ne (gh:=gh) (q:=3) (some (v,it)) (by omega),gV_ne (gh:=gh) (q:=4) (some (v,it)) (by omega),gL_ne (gh:=gh) (q:=4) (some (v,it)) (by omega),gV_ne (gh:=gh) (q:=5) (some (v,it)) (by omega),gL_ne (gh:=gh) (q:=5) (some (v,it)) (by omega),gV_ne (gh:=gh) (q:=6) (some (v,it)) (by omega),gL_ne (gh:=gh) (q:=6) (some (v,it)) (by omega),gV_ne (gh:=gh) (q:=7) (some (v,it)) (by omega),gL_ne (gh:=gh) (q:=7) (some (v,it)) (by omega),List.map_append,List.map_cons,List.map_nil,obC,itC,nO,swp]; exact q_D
   ·refine awp_lk 2001 8 1100 6 1150 0 rfl rfl rfl rfl rfl (fun v hv=>?_)
    simp only [St.cell,St.slot,List.set_cons_zero,List.set_cons_succ]
    repeat' (first|with_reducible refine q_0 ?_|((with_reducible first|refine q_q ha10_ok fun K hK=>?_|refine q_r ha10_ok fun K hK=>?_);simp (maxSteps:=2000000) only [go_sem,↓reduceIte,reduceCtorEq,Nat.reduceLeDiff,Nat.reduceLT,Nat.reduceBEq,Nat.reduceAdd,List.length_map,hn];(repeat1' with_reducible first|apply And.intro|(intro _;try exact q_v)|(refine hK _ ?_;clear hK K))<;>(try (clear hK K;exact q_u)))|(with_reducible refine q_s ?_;(first|apply q_J|apply q_K|apply q_L|apply q_M|apply q_N|apply q_O)<;>try (intro _;try exact q_v)))
    all_goals first | omega | contradiction | skip
    refine roundr_n [(1150,1001)] ⟨(m,k2,os ++ [nO 2 cl it ks],ot ++ [{ nO 2 cl it ks with raw:=some v,it:=[] }],gh ++ [some (v,it)]),by simp only; omega,u1,hwa,⟨by simp only [List.length_append,List.length_cons,List.length_nil]; omega,hi3⟩,hth v,g7⟩ ?_ (Nat.lt_succ_self m)
    simp only [gV_last hq,gL_last hq,gV_ne (gh:=gh) (q:=0) (some (v,it)) (by omega),gL_ne (gh:=gh) (q:=0) (some (v,it)) (by omega),gV_ne (gh:=gh) (q:=2) (some (v,it)) (by omega),gL_ne (gh:=gh) (q:=2) (some (v,it)) (by omega),gV_ne (gh:=gh) (q:=3) (some (v,it)) (by omega),gL_ne (gh:=gh) (q:=3) (some (v,it)) (by omega),gV_ne (gh:=gh) (q:=4) (some (v,it)) (by omega),gL_ne (gh:=gh) (q:=4) (some (v,it)) (by omega),gV_ne (gh:=gh) (q:=5) (some (v,it)) (by omega),gL_ne (gh:=gh) (q:=5) (some (v,it)) (by omega),gV_ne (gh:=gh) (q:=6) (some (v,it)) (by omega),gL_ne (gh:=gh) (q:=6) (some (v,it)) (by omega),gV_ne (gh:=gh) (q:=7) (some (v,it)) (by omega),gL_ne (gh:=gh) (q:=7) (some (v,it)) (by omega),List.map_append,List.map_cons,List.map_nil,obC,itC,nO,swp]; exact q_D
   ·refine awp_lk 2002 8 1100 6 1150 0 rfl rfl rfl rfl rfl (fun v hv=>?_)
    simp only [St.cell,St.slot,List.set_cons_zero,List.set_cons_succ]
    repeat' (first|with_reducible refine q_0 ?_|((with_reducible first|refine q_q ha10_ok fun K hK=>?_|refine q_r ha10_ok fun K hK=>?_);simp (maxSteps:=2000000) only [go_sem,↓reduceIte,reduceCtorEq,Nat.reduceLeDiff,Nat.reduceLT,Nat.reduceBEq,Nat.reduceAdd,List.length_map,hn];(repeat1' with_reducible first|apply And.intro|(intro _;try exact q_v)|(refine hK _ ?_;clear hK K))<;>(try (clear hK K;exact q_u)))|(with_reducible refine q_s ?_;(first|apply q_J|apply q_K|apply q_L|apply q_M|apply q_N|apply q_O)<;>try (intro _;try exact q_v)))
    all_goals first | omega | contradiction | skip
    refine roundr_n [(1150,1002)] ⟨(m,k2,os ++ [nO 2 cl it ks],ot ++ [{ nO 2 cl it ks with raw:=some v,it:=[] }],gh ++ [some (v,it)]),by simp only; omega,u1,hwa,⟨by simp only [List.length_append,List.length_cons,List.length_nil]; omega,hi3⟩,hth v,g7⟩ ?_ (Nat.lt_succ_self m)
    simp only [gV_last hq,gL_last hq,gV_ne (gh:=gh) (q:=0) (some (v,it)) (by omega),gL_ne (gh:=gh) (q:=0) (some (v,it)) (by omega),gV_ne (gh:=gh) (q:=1) (some (v,it)) (by omega),gL_ne (gh:=gh) (q:=1) (some (v,it)) (by omega),gV_ne (gh:=gh) (q:=3) (some (v,it)) (by omega),gL_ne (gh:=gh) (q:=3) (some (v,it)) (by omega),gV_ne (gh:=gh) (q:=4) (some (v,it)) (by omega),gL_ne (gh:=gh) (q:=4) (some (v,it)) (by omega),gV_ne (gh:=gh) (q:=5) (some (v,it)) (by omega),gL_ne (gh:=gh) (q:=5) (some (v,it)) (by omega),gV_ne (gh:=gh) (q:=6) (some (v,it)) (by omega),gL_ne (gh:=gh) (q:=6) (some (v,it)) (by omega),gV_ne (gh:=gh) (q:=7) (some (v,it)) (by omega),gL_ne (gh:=gh) (q:=7) (some (v,it)) (by omega),List.map_append,List.map_cons,List.map_nil,obC,itC,nO,swp]; exact q_D
   ·refine awp_lk 2003 8 1100 6 1150 0 rfl rfl rfl rfl rfl (fun v hv=>?_)
    simp only [St.cell,St.slot,List.set_cons_zero,List.set_cons_succ]
    repeat' (first|with_reducible refine q_0 ?_|((with_reducible first|refine q_q ha10_ok fun K hK=>?_|refine q_r ha10_ok fun K hK=>?_);simp (maxSteps:=2000000) only [go_sem,↓reduceIte,reduceCtorEq,Nat.reduceLeDiff,Nat.reduceLT,Nat.reduceBEq,Nat.reduceAdd,List.length_map,hn];(repeat1' with_reducible first|apply And.intro|(intro _;try exact q_v)|(refine hK _ ?_;clear hK K))<;>(try (clear hK K;exact q_u)))|(with_reducible refine q_s ?_;(first|apply q_J|apply q_K|apply q_L|apply q_M|apply q_N|apply q_O)<;>try (intro _;try exact q_v)))
    all_goals first | omega | contradiction | skip
    refine roundr_n [(1150,1003)] ⟨(m,k2,os ++ [nO 2 cl it ks],ot ++ [{ nO 2 cl it ks with raw:=some v,it:=[] }],gh ++ [some (v,it)]),by simp only; omega,u1,hwa,⟨by simp only [List.length_append,List.length_cons,List.length_nil]; omega,hi3⟩,hth v,g7⟩ ?_ (Nat.lt_succ_self m)
    simp only [gV_last hq,gL_last hq,gV_ne (gh:=gh) (q:=0) (some (v,it)) (by omega),gL_ne (gh:=gh) (q:=0) (some (v,it)) (by omega),gV_ne (gh:=gh) (q:=1) (some (v,it)) (by omega),gL_ne (gh:=gh) (q:=1) (some (v,it)) (by omega),gV_ne (gh:=gh) (q:=2) (some (v,it)) (by omega),gL_ne (gh:=gh) (q:=2) (some (v,it)) (by omega),gV_ne (gh:=gh) (q:=4) (some (v,it)) (by omega),gL_ne (gh:=gh) (q:=4) (some (v,it)) (by omega),gV_ne (gh:=gh) (q:=5) (some (v,it)) (by omega),gL_ne (gh:=gh) (q:=5) (some (v,it)) (by omega),gV_ne (gh:=gh) (q:=6) (some (v,it)) (by omega),gL_ne (gh:=gh) (q:=6) (some (v,it)) (by omega),gV_ne (gh:=gh) (q:=7) (some (v,it)) (by omega),gL_ne (gh:=gh) (q:=7) (some (v,it)) (by omega),List.map_append,List.map_cons,List.map_nil,obC,itC,nO,swp]; exact q_D
   ·refine awp_lk 2004 8 1100 6 1150 0 rfl rfl rfl rfl rfl (fun v hv=>?_)
    simp only [St.cell,St.slot,List.set_cons_zero,List.set_cons_succ]
    repeat' (first|with_reducible refine q_0 ?_|((with_reducible first|refine q_q ha10_ok fun K hK=>?_|refine q_r ha10_ok fun K hK=>?_);simp (maxSteps:=2000000) only [go_sem,↓reduceIte,reduceCtorEq,Nat.reduceLeDiff,Nat.reduceLT,Nat.reduceBEq,Nat.reduceAdd,List.length_map,hn];(repeat1' with_reducible first|apply And.intro|(intro _;try exact q_v)|(refine hK _ ?_;clear hK K))<;>(try (clear hK K;exact q_u)))|(with_reducible refine q_s ?_;(first|apply q_J|apply q_K|apply q_L|apply q_M|apply q_N|apply q_O)<;>try (intro _;try exact q_v)))
    all_goals first | omega | contradiction | skip
    refine roundr_n [(1150,1004)] ⟨(m,k2,os ++ [nO 2 cl it ks],ot ++ [{ nO 2 cl it ks with raw:=some v,it:=[] }],gh ++ [some (v,it)]),by simp only; omega,u1,hwa,⟨by simp only [List.length_append,List.length_cons,List.length_nil]; omega,hi3⟩,hth v,g7⟩ ?_ (Nat.lt_succ_self m)
    simp only [gV_last hq,gL_last hq,gV_ne (gh:=gh) (q:=0) (some (v,it)) (by omega),gL_ne (gh:=gh) (q:=0) (some (v,it)) (by omega),gV_ne (gh:=gh) (q:=1) (some (v,it)) (by omega),gL_ne (gh:=gh) (q:=1) (some (v,it)) (by omega),gV_ne (gh:=gh) (q:=2) (some (v,it)) (by omega),gL_ne (gh:=gh) (q:=2) (some (v,it)) (by omega),gV_ne (gh:=gh) (q:=3) (some (v,it)) (by omega),gL_ne (gh:=gh) (q:=3) (some (v,it)) (by omega),gV_ne (gh:=gh) (q:=5) (some (v,it)) (by omega),gL_ne (gh:=gh) (q:=5) (some (v,it)) (by omega),gV_ne (gh:=gh) (q:=6) (some (v,it)) (by omega),gL_ne (gh:=gh) (q:=6) (some (v,it)) (by omega),gV_ne (gh:=gh) (q:=7) (some (v,it)) (by omega),gL_ne (gh:=gh) (q:=7) (some (v,it)) (by omega),List.map_append,List.map_cons,List.map_nil,obC,itC,nO,swp]; exact q_D
   ·refine awp_lk 2005 8 1100 6 1150 0 rfl rfl rfl rfl rfl (fun v hv=>?_)
    simp only [St.cell,St.slot,List.set_cons_zero,List.set_cons_succ]
    repeat' (first|with_reducible refine q_0 ?_|((with_reducible first|refine q_q ha10_ok fun K hK=>?_|refine q_r ha10_ok fun K hK=>?_);simp (maxSteps:=2000000) only [go_sem,↓reduceIte,reduceCtorEq,Nat.reduceLeDiff,Nat.reduceLT,Nat.reduceBEq,Nat.reduceAdd,List.length_map,hn];(repeat1' with_reducible first|apply And.intro|(intro _;try exact q_v)|(refine hK _ ?_;clear hK K))<;>(try (clear hK K;exact q_u)))|(with_reducible refine q_s ?_;(first|apply q_J|apply q_K|apply q_L|apply q_M|apply q_N|apply q_O)<;>try (intro _;try exact q_v)))
    all_goals first | omega | contradiction | skip
    refine roundr_n [(1150,1005)] ⟨(m,k2,os ++ [nO 2 cl it ks],ot ++ [{ nO 2 cl it ks with raw:=some v,it:=[] }],gh ++ [some (v,it)]),by simp only; omega,u1,hwa,⟨by simp only [List.length_append,List.length_cons,List.length_nil]; omega,hi3⟩,hth v,g7⟩ ?_ (Nat.lt_succ_self m)
    simp only [gV_last hq,gL_last hq,gV_ne (gh:=gh) (q:=0) (some (v,it)) (by omega),gL_ne (gh:=gh) (q:=0) (some (v,it)) (by omega),gV_ne (gh:=gh) (q:=1) (some (v,it)) (by omega),gL_ne (gh:=gh) (q:=1) (some (v,it)) (by omega),gV_ne (gh:=gh) (q:=2) (some (v,it)) (by omega),gL_ne (gh:=gh) (q:=2) (some (v,it)) (by omega),gV_ne (gh:=gh) (q:=3) (some (v,it)) (by omega),gL_ne (gh:=gh) (q:=3) (some (v,it)) (by omega),gV_ne (gh:=gh) (q:=4) (some (v,it)) (by omega),gL_ne (gh:=gh) (q:=4) (some (v,it)) (by omega),gV_ne (gh:=gh) (q:=6) (some (v,it)) (by omega),gL_ne (gh:=gh) (q:=6) (some (v,it)) (by omega),gV_ne (gh:=gh) (q:=7) (some (v,it)) (by omega),gL_ne (gh:=gh) (q:=7) (some (v,it)) (by omega),List.map_append,List.map_cons,List.map_nil,obC,itC,nO,swp]; exact q_D
   ·refine awp_lk 2006 8 1100 6 1150 0 rfl rfl rfl rfl rfl (fun v hv=>?_)
    simp only [St.cell,St.slot,List.set_cons_zero,List.set_cons_succ]
    repeat' (first|with_reducible refine q_0 ?_|((with_reducible first|refine q_q ha10_ok fun K hK=>?_|refine q_r ha10_ok fun K hK=>?_);simp (maxSteps:=2000000) only [go_sem,↓reduceIte,reduceCtorEq,Nat.reduceLeDiff,Nat.reduceLT,Nat.reduceBEq,Nat.reduceAdd,List.length_map,hn];(repeat1' with_reducible first|apply And.intro|(intro _;try exact q_v)|(refine hK _ ?_;clear hK K))<;>(try (clear hK K;exact q_u)))|(with_reducible refine q_s ?_;(first|apply q_J|apply q_K|apply q_L|apply q_M|apply q_N|apply q_O)<;>try (intro _;try exact q_v)))
    all_goals first | omega | contradiction | skip
    refine roundr_n [(1150,1006)] ⟨(m,k2,os ++ [nO 2 cl it ks],ot ++ [{ nO 2 cl it ks with raw:=some v,it:=[] }],gh ++ [some (v,it)]),by simp only; omega,u1,hwa,⟨by simp only [List.length_append,List.length_cons,List.length_nil]; omega,hi3⟩,hth v,g7⟩ ?_ (Nat.lt_succ_self m)
    simp only [gV_last hq,gL_last hq,gV_ne (gh:=gh) (q:=0) (some (v,it)) (by omega),gL_ne (gh:=gh) (q:=0) (some (v,it)) (by omega),gV_ne (gh:=gh) (q:=1) (some (v,it)) (by omega),gL_ne (gh:=gh) (q:=1) (some (v,it)) (by omega),gV_ne (gh:=gh) (q:=2) (some (v,it)) (by omega),gL_ne (gh:=gh) (q:=2) (some (v,it)) (by omega),gV_ne (gh:=gh) (q:=3) (some (v,it)) (by omega),gL_ne (gh:=gh) (q:=3) (some (v,it)) (by omega),gV_ne (gh:=gh) (q:=4) (some (v,it)) (by omega),gL_ne (gh:=gh) (q:=4) (some (v,it)) (by omega),gV_ne (gh:=gh) (q:=5) (some (v,it)) (by omega),gL_ne (gh:=gh) (q:=5) (some (v,it)) (by omega),gV_ne (gh:=gh) (q:=7) (some (v,it)) (by omega),gL_ne (gh:=gh) (q:=7) (some (v,it)) (by omega),List.map_append,List.map_cons,List.map_nil,obC,itC,nO,swp]; exact q_D
   ·refine awp_lk 2007 8 1100 6 1150 0 rfl rfl rfl rfl rfl (fun v hv=>?_)
    simp only [St.cell,St.slot,List.set_cons_zero,List.set_cons_succ]
    repeat' (first|with_reducible refine q_0 ?_|((with_reducible first|refine q_q ha10_ok fun K hK=>?_|refine q_r ha10_ok fun K hK=>?_);simp (maxSteps:=2000000) only [go_sem,↓reduceIte,reduceCtorEq,Nat.reduceLeDiff,Nat.reduceLT,Nat.reduceBEq,Nat.reduceAdd,List.length_map,hn];(repeat1' with_reducible first|apply And.intro|(intro _;try exact q_v)|(refine hK _ ?_;clear hK K))<;>(try (clear hK K;exact q_u)))|(with_reducible refine q_s ?_;(first|apply q_J|apply q_K|apply q_L|apply q_M|apply q_N|apply q_O)<;>try (intro _;try exact q_v)))
    all_goals first | omega | contradiction | skip
    refine roundr_n [(1150,1007)] ⟨(m,k2,os ++ [nO 2 cl it ks],ot ++ [{ nO 2 cl it ks with raw:=some v,it:=[] }],gh ++ [some (v,it)]),by simp only; omega,u1,hwa,⟨by simp only [List.length_append,List.length_cons,List.length_nil]; omega,hi3⟩,hth v,g7⟩ ?_ (Nat.lt_succ_self m)
    simp only [gV_last hq,gL_last hq,gV_ne (gh:=gh) (q:=0) (some (v,it)) (by omega),gL_ne (gh:=gh) (q:=0) (some (v,it)) (by omega),gV_ne (gh:=gh) (q:=1) (some (v,it)) (by omega),gL_ne (gh:=gh) (q:=1) (some (v,it)) (by omega),gV_ne (gh:=gh) (q:=2) (some (v,it)) (by omega),gL_ne (gh:=gh) (q:=2) (some (v,it)) (by omega),gV_ne (gh:=gh) (q:=3) (some (v,it)) (by omega),gL_ne (gh:=gh) (q:=3) (some (v,it)) (by omega),gV_ne (gh:=gh) (q:=4) (some (v,it)) (by omega),gL_ne (gh:=gh) (q:=4) (some (v,it)) (by omega),gV_ne (gh:=gh) (q:=5) (some (v,it)) (by omega),gL_ne (gh:=gh) (q:=5) (some (v,it)) (by omega),gV_ne (gh:=gh) (q:=6) (some (v,it)) (by omega),gL_ne (gh:=gh) (q:=6) (some (v,it)) (by omega),List.map_append,List.map_cons,List.map_nil,obC,itC,nO,swp]; exact q_D
end Go.Proofs.Ytncededjmcmidaa
