import Derived.Test.YtgkajjifbcmoeaaGreatDoorM35
import Derived.Test.YtgkajjifbcmoeaaGreatDoorM36
import Derived.Test.YtgkajjifbcmoeaaGreatDoorM37
namespace Go.Proofs.NatL
set_option linter.unusedSimpArgs false
set_option linter.unusedVariables false
def stD (neg : Bool) (n : Nat) (exp : Int) (inex : Bool) (ideal p r mx : Int) : Dc:=if stO n exp inex ideal p mx then ovf neg p r mx else ⟨0,neg,(stCE n exp inex ideal p).1,(stCE n exp inex ideal p).2⟩
def stS (n : Nat) (exp first : Int) (inex : Bool) (ideal p mn mx : Int) : Int:=if stO n exp inex ideal p mx then 9 else (if first < mn then 2 else 0) + (if inex then 1 + (if first < mn then 4 else 0) else 0)
theorem fit_st {neg : Bool} {num den : Nat} (hn : 0 < num) (hd : 0 < den) {exp ideal p r mn mx : Int} (hp : 1 ≤ p) :
  fitD neg num den exp ideal p r mn mx = stD neg (rdE neg num den exp (fitEx num den exp p mn) r) (fitEx num den exp p mn) (decide (sE num den exp (fitEx num den exp p mn) ≠ 0)) ideal p r mx ∧
  fitS neg num den exp ideal p r mn mx = stS (rdE neg num den exp (fitEx num den exp p mn) r) (fitEx num den exp p mn) (firstE num den exp) (decide (sE num den exp (fitEx num den exp p mn) ≠ 0)) ideal p mn mx:=by
 have h0 : ¬ num = 0:=by omega
 have hce : fitCE neg num den exp ideal p r mn = stCE (rdE neg num den exp (fitEx num den exp p mn) r) (fitEx num den exp p mn) (decide (sE num den exp (fitEx num den exp p mn) ≠ 0)) ideal p:=by
  unfold stCE
  by_cases hs : sE num den exp (fitEx num den exp p mn) = 0
  ·have hl:=fit_exact_len (neg:=neg) (r:=r) hn hd hp hs (ideal - fitEx num den exp p mn).toNat
   rw [ce_exact hs,decide_eq_false (by simpa using hs)]
   simp only [Bool.false_eq_true,if_false]
   rw [if_neg (by omega)]
  ·rw [decide_eq_true (by simpa using hs)]
   simp only [if_true]
   by_cases h2 : p < (ds (rdE neg num den exp (fitEx num den exp p mn) r) : Int)
   ·rw [ce_long hs h2,if_pos h2]
   ·rw [ce_short hs h2,if_neg h2]
 unfold fitD fitS stD stS stO
 rw [if_neg h0,if_neg h0,hce]
 refine ⟨rfl,?_⟩
 congr 1
 ·unfold sigE
  by_cases hs : sE num den exp (fitEx num den exp p mn) = 0
  ·rw [if_pos hs,decide_eq_false (by simpa using hs)]; rfl
  ·rw [if_neg hs,decide_eq_true (by simpa using hs)]; rfl
end Go.Proofs.NatL
namespace Go.Proofs.YtgkajjifbcmoeaaGreatDoor
set_option linter.unusedSimpArgs false
set_option linter.unusedVariables false
open Go.Abs Go.Proofs.NatL

def eb8 : Cfg:=listT [(106,ofCT),(15,smallCT),(70,limbsCT)] [34]
theorem eb8_ok : TblOk Tryz.prog eb8:=listE_ok (by simp only [List.mem_singleton,forall_eq]; exact flt) ⟨⟨db6,db6_ok,rfl⟩,⟨nt7,nt7_ok,rfl⟩,⟨ch1,ch1_ok,rfl⟩,trivial⟩
attribute [go_sem] eb8
def valueCT : CT:=mkCT [nDc] false fun l K=>match l with
 | [.inr [.i .i64 k,.b s,.b t,.ints .u32 xs,.i .i64 e]]=>(InB 4294967296 xs ∧ xs.length ≤ 600) ∧ K (.g (gE s (V 4294967296 xs) 1 e))
 | _=>False
def es1 : Cfg:=addT 67 valueCT cf0
theorem es1_ok : TblOk Tryz.prog es1:=q_I cf0_ok Tryz.func67 fun l K h=>by
 split at h
 ·rename_i k s t xs e
  obtain ⟨⟨h1,h2⟩,h⟩:=h
  refine ⟨_,?_,h⟩
  have t0 : (1 : Int).toNat = 1:=rfl
  (refine q_H Tryz.func67 (fun F=>?_); simp only [q_z,q_y,Tryz.ntmps67,Tryz.results67])
  repeat' (first|(with_reducible first|apply q_a|apply q_b|apply q_c|apply q_d|apply q_e|apply q_f|apply q_g|apply q_h|apply q_i|apply q_j|apply q_k|apply q_m|apply q_n|apply q_o|apply q_p|refine q_l ?_)|((with_reducible first|refine q_q eb8_ok fun K hK=>?_|refine q_r eb8_ok fun K hK=>?_);simp (maxSteps:=2000000) only [go_sem,↓reduceIte,reduceCtorEq,Nat.reduceLeDiff,Nat.reduceLT,Nat.reduceBEq,Nat.reduceAdd,t0];(repeat1' with_reducible first|apply And.intro|(intro _;try exact q_v)|(refine hK _ ?_;clear hK K))<;>(try (clear hK K;exact q_u)))|(with_reducible refine q_s ?_;(first|apply q_J|apply q_K|apply q_L|apply q_M|apply q_N|apply q_O)<;>try (intro _;try exact q_v))|with_reducible refine q_t ?_)
  all_goals first | omega | assumption | exact q_A rfl | skip
 ·exact h.elim
def rfiniteCT : CT:=mkCT [.inl none,.inl (some (.ints .i64 []))] false fun l K=>match l with
 | [.inl (.b s),.inl (.ints .i64 xs),.inl (.i .i64 e)]=>(InB 65536 xs ∧ Trd xs ∧ xs.length ≤ 5000) ∧ K (.g (gDc ⟨0,s,V 65536 xs,e⟩))
 | _=>False
def es2 : Cfg:=addT 14 rfiniteCT cf0
theorem es2_ok : TblOk Tryz.prog es2:=q_I cf0_ok Tryz.func14 fun l K h=>by
 split at h
 ·rename_i s xs e
  obtain ⟨⟨h1,h2,h3⟩,h⟩:=h
  refine ⟨_,?_,h⟩
  (refine q_H Tryz.func14 (fun F=>?_); simp only [q_z,q_y,Tryz.ntmps14,Tryz.results14])
  repeat' (first|(with_reducible first|apply q_a|apply q_b|apply q_c|apply q_d|apply q_e|apply q_f|apply q_g|apply q_h|apply q_i|apply q_j|apply q_k|apply q_m|apply q_n|apply q_o|apply q_p|refine q_l ?_)|((with_reducible first|refine q_q eb8_ok fun K hK=>?_|refine q_r eb8_ok fun K hK=>?_);simp (maxSteps:=2000000) only [go_sem,↓reduceIte,reduceCtorEq,Nat.reduceLeDiff,Nat.reduceLT,Nat.reduceBEq,Nat.reduceAdd];(repeat1' with_reducible first|apply And.intro|(intro _;try exact q_v)|(refine hK _ ?_;clear hK K))<;>(try (clear hK K;exact q_u)))|(with_reducible refine q_s ?_;(first|apply q_J|apply q_K|apply q_L|apply q_M|apply q_N|apply q_O)<;>try (intro _;try exact q_v))|with_reducible refine q_t ?_)
  all_goals first | omega | assumption | exact q_A rfl | skip
 ·exact h.elim
def es3 : Cfg:=addT 111 infiniteCT cf0
theorem es3_ok : TblOk Tryz.prog es3:=q_I cf0_ok Tryz.func111 fun l K h=>by
 split at h
 ·refine ⟨_,?_,h⟩
  (refine q_H Tryz.func111 (fun F=>?_); simp only [q_z,q_y,Tryz.ntmps111,Tryz.results111])
  repeat' (first|(with_reducible first|apply q_a|apply q_b|apply q_c|apply q_d|apply q_e|apply q_f|apply q_g|apply q_h|apply q_i|apply q_j|apply q_k|apply q_m|apply q_n|apply q_o|apply q_p|refine q_l ?_)|((with_reducible first|refine q_q eb8_ok fun K hK=>?_|refine q_r eb8_ok fun K hK=>?_);simp (maxSteps:=2000000) only [go_sem,↓reduceIte,reduceCtorEq,Nat.reduceLeDiff,Nat.reduceLT,Nat.reduceBEq,Nat.reduceAdd];(repeat1' with_reducible first|apply And.intro|(intro _;try exact q_v)|(refine hK _ ?_;clear hK K))<;>(try (clear hK K;exact q_u)))|(with_reducible refine q_s ?_;(first|apply q_J|apply q_K|apply q_L|apply q_M|apply q_N|apply q_O)<;>try (intro _;try exact q_v))|with_reducible refine q_t ?_)
  all_goals first | omega | exact q_B [nDc] rfl rfl | exact q_A rfl | skip
 ·exact h.elim
def es4 : Cfg:=addT 110 noneDCT cf0
theorem es4_ok : TblOk Tryz.prog es4:=q_I cf0_ok Tryz.func110 fun l K h=>by
 split at h
 ·refine ⟨_,?_,h⟩
  (refine q_H Tryz.func110 (fun F=>?_); simp only [q_z,q_y,Tryz.ntmps110,Tryz.results110])
  repeat' (first|(with_reducible first|apply q_a|apply q_b|apply q_c|apply q_d|apply q_e|apply q_f|apply q_g|apply q_h|apply q_i|apply q_j|apply q_k|apply q_m|apply q_n|apply q_o|apply q_p|refine q_l ?_)|((with_reducible first|refine q_q eb8_ok fun K hK=>?_|refine q_r eb8_ok fun K hK=>?_);simp (maxSteps:=2000000) only [go_sem,↓reduceIte,reduceCtorEq,Nat.reduceLeDiff,Nat.reduceLT,Nat.reduceBEq,Nat.reduceAdd];(repeat1' with_reducible first|apply And.intro|(intro _;try exact q_v)|(refine hK _ ?_;clear hK K))<;>(try (clear hK K;exact q_u)))|(with_reducible refine q_s ?_;(first|apply q_J|apply q_K|apply q_L|apply q_M|apply q_N|apply q_O)<;>try (intro _;try exact q_v))|with_reducible refine q_t ?_)
  all_goals first | omega | exact q_B [nDc] rfl rfl | exact q_A rfl | skip
 ·exact h.elim
attribute [go_sem] valueCT rfiniteCT
end Go.Proofs.YtgkajjifbcmoeaaGreatDoor

namespace Go.Abs
set_option linter.unusedSimpArgs false
set_option linter.unusedVariables false
theorem join_told {Q : Exit → St → Prop} {st : St} {ι : Type} {mid : ι → St} (i : ι) (h : FitP st (mid i)) : Join mid Q .normal st:=⟨i,h⟩
end Go.Abs
namespace Go.Proofs.YtgkajjifbcmoeaaGreatDoor
set_option linter.unusedSimpArgs false
set_option linter.unusedVariables false
open Go.Abs Go.Proofs.NatL

def eba : Cfg:=listT [(121,halveCT),(105,figCT),(56,rtenCT),(15,smallCT),(181,(rnumCT (fun xs ys=>V 65536 ys ≤ V 65536 xs) (· - ·))),(14,rfiniteCT),(111,infiniteCT)] [34]
theorem eba_ok : TblOk Tryz.prog eba:=listE_ok (by simp only [List.mem_singleton,forall_eq]; exact flt) ⟨⟨rg1,rg1_ok,rfl⟩,⟨nt11,nt11_ok,rfl⟩,⟨er1,er1_ok,rfl⟩,⟨nt7,nt7_ok,rfl⟩,⟨db10,db10_ok,rfl⟩,⟨es2,es2_ok,rfl⟩,⟨es3,es3_ok,rfl⟩,trivial⟩
attribute [go_sem] eba
abbrev z5 : List AV:=[.c (.i .i64 0),.c (.b false),.c (.b false),.c .nil,.c (.i .i64 0)]
abbrev cx4 (p r mn mx : Int) : List AV:=[.c (.i .i64 p),.c (.i .i64 r),.c (.i .i64 mn),.c (.i .i64 mx)]
attribute [go_sem] z5 cx4
set_option maxRecDepth 100000 in
set_option maxHeartbeats 6400000 in
theorem settle_ret (s : Bool) (n : Nat) (e f : Int) (inex : Bool) (ideal p r mn mx : Int) (hn : ds n ≤ 5000) (he : -10000 ≤ e ∧ e ≤ 10000) (hi : -10000 ≤ ideal ∧ ideal ≤ 10000) (hc : okCx p r mn mx = true) :
  Ret Tryz.prog 132 false [.inl (.b s),.inl (.ints .i64 (dg 65536 n)),.inl (.i .i64 e),.inl (.i .i64 f),.inl (.b inex),.inl (.i .i64 ideal),.inr [.i .i64 p,.i .i64 r,.i .i64 mn,.i .i64 mx]]
   (.t [.inr (gDc (stD s n e inex ideal p r mx)),.inl (.i .i64 (stS n e f inex ideal p mn mx))]):=by
 obtain ⟨c1,c2,c3,c4,c5,c6,c7,c8⟩:=okCx_p hc
 have ten : (10 : Int).toNat = 10:=rfl
 have t0 : (1 : Int).toNat = 1:=rfl
 have hl:=ds_65b (n:=n) (by omega)
 obtain ⟨e1,e2⟩:=he
 obtain ⟨i1,i2⟩:=hi
 generalize hsg : (if f < mn then (2 : Int) else 0) + (if inex then 1 + (if f < mn then (4 : Int) else 0) else 0) = sg0
 have hsS : stS n e f inex ideal p mn mx = if stO n e inex ideal p mx then 9 else sg0:=by rw [← hsg]; rfl
 rw [hsS]
 have hq : stCE n e inex ideal p = (if p < (ds (if inex then (n,e) else twd (ideal - e).toNat n e).1 : Int) then ((if inex then (n,e) else twd (ideal - e).toNat n e).1 / 10,(if inex then (n,e) else twd (ideal - e).toNat n e).2 + 1) else (if inex then (n,e) else twd (ideal - e).toNat n e)):=rfl
 have hqb : ds (if inex then (n,e) else twd (ideal - e).toNat n e).1 ≤ 5000 ∧ -10000 ≤ (if inex then (n,e) else twd (ideal - e).toNat n e).2 ∧ (if inex then (n,e) else twd (ideal - e).toNat n e).2 ≤ 20000:=by
  cases inex
  ·simp only [Bool.false_eq_true,if_false]
   have w1:=(twd_le (ideal - e).toNat n e)
   have w2:=twd_exp (ideal - e).toNat n e
   have w3:=twd_len (ideal - e).toNat n e
   omega
  ·simp only [if_true]; omega
 generalize hQ : (if inex then (n,e) else twd (ideal - e).toNat n e) = Q at *
 have hO : stO n e inex ideal p mx ↔ (0 < (stCE n e inex ideal p).1 ∧ mx < (ds (stCE n e inex ideal p).1 : Int) - 1 + (stCE n e inex ideal p).2):=Iff.rfl
 unfold stD
 generalize hCE : stCE n e inex ideal p = CE at *
 obtain ⟨Cn,Ce⟩:=CE
 simp only at hO hq ⊢
 (refine q_H Tryz.func132 (fun F=>?_); simp only [q_z,q_y,Tryz.ntmps132,Tryz.results132])
 refine seq_cut4 (ι:=Unit) (fun _=>⟨124,[(0,.c (.b s)),(1,.c (.ints .i64 (dg 65536 n))),(2,.c (.i .i64 e)),(4,.c (.b inex)),(5,.c (.i .i64 ideal)),(13,.bx 0 0),(14,.bx 1 0),(16,.c (.i .i64 sg0))],⟨[(1,z5),(0,cx4 p r mn mx)],[],[]⟩,2⟩) (fun Y hY=>?_) ?_
 ·by_cases hf : f < mn
  ·simp only [if_pos hf] at hsg
   cases inex
   ·simp only [Bool.false_eq_true,if_false] at hsg
    repeat' (first|(with_reducible first|apply q_a|apply q_b|apply q_c|apply q_d|apply q_e|apply q_f|apply q_g|apply q_h|apply q_i|apply q_j|apply q_k|apply q_m|apply q_n|apply q_o|apply q_p|refine q_l ?_)|((with_reducible first|refine q_q eba_ok fun K hK=>?_|refine q_r eba_ok fun K hK=>?_);simp (maxSteps:=2000000) only [go_sem,↓reduceIte,reduceCtorEq,Nat.reduceLeDiff,Nat.reduceLT,Nat.reduceBEq,Nat.reduceAdd];(repeat1' with_reducible first|apply And.intro|(intro _;try exact q_v)|(refine hK _ ?_;clear hK K))<;>(try (clear hK K;exact q_u)))|(with_reducible refine q_s ?_;(first|apply q_J|apply q_K|apply q_L|apply q_M|apply q_N|apply q_O)<;>try (intro _;try exact q_v))|with_reducible refine q_t ?_)
    all_goals first | omega | exact cut_fit hY () (by subst hsg; exact q_D) | skip
   ·simp only [if_true] at hsg
    repeat' (first|(with_reducible first|apply q_a|apply q_b|apply q_c|apply q_d|apply q_e|apply q_f|apply q_g|apply q_h|apply q_i|apply q_j|apply q_k|apply q_m|apply q_n|apply q_o|apply q_p|refine q_l ?_)|((with_reducible first|refine q_q eba_ok fun K hK=>?_|refine q_r eba_ok fun K hK=>?_);simp (maxSteps:=2000000) only [go_sem,↓reduceIte,reduceCtorEq,Nat.reduceLeDiff,Nat.reduceLT,Nat.reduceBEq,Nat.reduceAdd];(repeat1' with_reducible first|apply And.intro|(intro _;try exact q_v)|(refine hK _ ?_;clear hK K))<;>(try (clear hK K;exact q_u)))|(with_reducible refine q_s ?_;(first|apply q_J|apply q_K|apply q_L|apply q_M|apply q_N|apply q_O)<;>try (intro _;try exact q_v))|with_reducible refine q_t ?_)
    all_goals first | omega | exact cut_fit hY () (by subst hsg; exact q_D) | skip
  ·simp only [if_neg hf] at hsg
   cases inex
   ·simp only [Bool.false_eq_true,if_false] at hsg
    repeat' (first|(with_reducible first|apply q_a|apply q_b|apply q_c|apply q_d|apply q_e|apply q_f|apply q_g|apply q_h|apply q_i|apply q_j|apply q_k|apply q_m|apply q_n|apply q_o|apply q_p|refine q_l ?_)|((with_reducible first|refine q_q eba_ok fun K hK=>?_|refine q_r eba_ok fun K hK=>?_);simp (maxSteps:=2000000) only [go_sem,↓reduceIte,reduceCtorEq,Nat.reduceLeDiff,Nat.reduceLT,Nat.reduceBEq,Nat.reduceAdd];(repeat1' with_reducible first|apply And.intro|(intro _;try exact q_v)|(refine hK _ ?_;clear hK K))<;>(try (clear hK K;exact q_u)))|(with_reducible refine q_s ?_;(first|apply q_J|apply q_K|apply q_L|apply q_M|apply q_N|apply q_O)<;>try (intro _;try exact q_v))|with_reducible refine q_t ?_)
    all_goals first | omega | exact cut_fit hY () (by subst hsg; exact q_D) | skip
   ·simp only [if_true] at hsg
    repeat' (first|(with_reducible first|apply q_a|apply q_b|apply q_c|apply q_d|apply q_e|apply q_f|apply q_g|apply q_h|apply q_i|apply q_j|apply q_k|apply q_m|apply q_n|apply q_o|apply q_p|refine q_l ?_)|((with_reducible first|refine q_q eba_ok fun K hK=>?_|refine q_r eba_ok fun K hK=>?_);simp (maxSteps:=2000000) only [go_sem,↓reduceIte,reduceCtorEq,Nat.reduceLeDiff,Nat.reduceLT,Nat.reduceBEq,Nat.reduceAdd];(repeat1' with_reducible first|apply And.intro|(intro _;try exact q_v)|(refine hK _ ?_;clear hK K))<;>(try (clear hK K;exact q_u)))|(with_reducible refine q_s ?_;(first|apply q_J|apply q_K|apply q_L|apply q_M|apply q_N|apply q_O)<;>try (intro _;try exact q_v))|with_reducible refine q_t ?_)
    all_goals first | omega | exact cut_fit hY () (by subst hsg; exact q_D) | skip
 intro _
 clear hsg
 refine seq_join (ι:=Unit) (fun _=>⟨124,[(0,.c (.b s)),(1,.c (.ints .i64 (dg 65536 Q.1))),(2,.c (.i .i64 Q.2)),(13,.bx 0 0),(14,.bx 1 0),(16,.c (.i .i64 sg0))],⟨[(1,z5),(0,cx4 p r mn mx)],[],[]⟩,2⟩) ?_ ?_
 ·with_reducible apply q_e
  refine q_G (ι:={ q : Nat × Int // (if inex then q else twd (ideal - q.2).toNat q.1 q.2) = Q ∧ ds q.1 ≤ 5000 ∧ -10000 ≤ q.2 ∧ q.2 ≤ 20000 }) (fun q=>⟨124,[(0,.c (.b s)),(1,.c (.ints .i64 (dg 65536 q.1.1))),(2,.c (.i .i64 q.1.2)),(4,.c (.b inex)),(5,.c (.i .i64 ideal)),(13,.bx 0 0),(14,.bx 1 0),(16,.c (.i .i64 sg0))],⟨[(1,z5),(0,cx4 p r mn mx)],[],[]⟩,2⟩) (fun q=>(ideal - q.1.2).toNat) ⟨(n,e),hQ,hn,by simp only; omega,by simp only; omega⟩ ?_ ?_
  ·exact q_D
  clear hqb hq hO
  rintro ⟨⟨k,x⟩,g1,g2,g3,g4⟩
  simp only at g1 g2 g3 g4 ⊢
  have lk:=ds_65b (n:=k) (by omega)
  cases inex
  ·simp only [Bool.false_eq_true,if_false] at g1
   by_cases hx : x < ideal
   ·obtain ⟨j,hj⟩ : ∃ j,(ideal - x).toNat = j + 1:=⟨(ideal - x).toNat - 1,by omega⟩
    have hj2 : (ideal - (x + 1)).toNat = j:=by omega
    rw [hj] at g1
    have ht : twd (j + 1) k x = if k % 10 = 0 then twd j (k / 10) (x + 1) else (k,x):=rfl
    rw [ht] at g1
    by_cases hk : k % 10 = 0
    ·rw [if_pos hk] at g1
     have hd:=ds_div10 k
     have hk2 : ((k % 10 : Nat) : Int) = 0:=by omega
     repeat' (first|(with_reducible first|apply q_a|apply q_b|apply q_c|apply q_d|apply q_e|apply q_f|apply q_g|apply q_h|apply q_i|apply q_j|apply q_k|apply q_m|apply q_n|apply q_o|apply q_p|refine q_l ?_)|((with_reducible first|refine q_q eba_ok fun K hK=>?_|refine q_r eba_ok fun K hK=>?_);simp (maxSteps:=2000000) only [go_sem,↓reduceIte,reduceCtorEq,Nat.reduceLeDiff,Nat.reduceLT,Nat.reduceBEq,Nat.reduceAdd,V65,ten,hk2];(repeat1' with_reducible first|apply And.intro|(intro _;try exact q_v)|(refine hK _ ?_;clear hK K))<;>(try (clear hK K;exact q_u)))|(with_reducible refine q_s ?_;(first|apply q_J|apply q_K|apply q_L|apply q_M|apply q_N|apply q_O)<;>try (intro _;try exact q_v))|with_reducible refine q_t ?_)
     all_goals first | omega | skip
     refine q_F ⟨(k / 10,x + 1),by simp only [Bool.false_eq_true,if_false]; rw [hj2]; exact g1,by simp only; omega,by simp only; omega,by simp only; omega⟩ ?_ (by simp only; omega)
     exact q_D
    ·rw [if_neg hk] at g1
     subst g1
     have hk2 : ¬ ((k % 10 : Nat) : Int) = 0:=by omega
     repeat' (first|(with_reducible first|apply q_a|apply q_b|apply q_c|apply q_d|apply q_e|apply q_f|apply q_g|apply q_h|apply q_i|apply q_j|apply q_k|apply q_m|apply q_n|apply q_o|apply q_p|refine q_l ?_)|((with_reducible first|refine q_q eba_ok fun K hK=>?_|refine q_r eba_ok fun K hK=>?_);simp (maxSteps:=2000000) only [go_sem,↓reduceIte,reduceCtorEq,Nat.reduceLeDiff,Nat.reduceLT,Nat.reduceBEq,Nat.reduceAdd,V65,ten];(repeat1' with_reducible first|apply And.intro|(intro _;try exact q_v)|(refine hK _ ?_;clear hK K))<;>(try (clear hK K;exact q_u)))|(with_reducible refine q_s ?_;(first|apply q_J|apply q_K|apply q_L|apply q_M|apply q_N|apply q_O)<;>try (intro _;try exact q_v))|with_reducible refine q_t ?_)
     all_goals first | omega | exact join_told () q_D | skip
   ·have hj : (ideal - x).toNat = 0:=by omega
    rw [hj] at g1
    have ht : twd 0 k x = (k,x):=rfl
    rw [ht] at g1
    subst g1
    repeat' (first|(with_reducible first|apply q_a|apply q_b|apply q_c|apply q_d|apply q_e|apply q_f|apply q_g|apply q_h|apply q_i|apply q_j|apply q_k|apply q_m|apply q_n|apply q_o|apply q_p|refine q_l ?_)|((with_reducible first|refine q_q eba_ok fun K hK=>?_|refine q_r eba_ok fun K hK=>?_);simp (maxSteps:=2000000) only [go_sem,↓reduceIte,reduceCtorEq,Nat.reduceLeDiff,Nat.reduceLT,Nat.reduceBEq,Nat.reduceAdd];(repeat1' with_reducible first|apply And.intro|(intro _;try exact q_v)|(refine hK _ ?_;clear hK K))<;>(try (clear hK K;exact q_u)))|(with_reducible refine q_s ?_;(first|apply q_J|apply q_K|apply q_L|apply q_M|apply q_N|apply q_O)<;>try (intro _;try exact q_v))|with_reducible refine q_t ?_)
    all_goals first | omega | exact join_told () q_D | skip
  ·simp only [if_true] at g1
   subst g1
   repeat' (first|(with_reducible first|apply q_a|apply q_b|apply q_c|apply q_d|apply q_e|apply q_f|apply q_g|apply q_h|apply q_i|apply q_j|apply q_k|apply q_m|apply q_n|apply q_o|apply q_p|refine q_l ?_)|((with_reducible first|refine q_q eba_ok fun K hK=>?_|refine q_r eba_ok fun K hK=>?_);simp (maxSteps:=2000000) only [go_sem,↓reduceIte,reduceCtorEq,Nat.reduceLeDiff,Nat.reduceLT,Nat.reduceBEq,Nat.reduceAdd];(repeat1' with_reducible first|apply And.intro|(intro _;try exact q_v)|(refine hK _ ?_;clear hK K))<;>(try (clear hK K;exact q_u)))|(with_reducible refine q_s ?_;(first|apply q_J|apply q_K|apply q_L|apply q_M|apply q_N|apply q_O)<;>try (intro _;try exact q_v))|with_reducible refine q_t ?_)
   all_goals first | omega | exact join_told () q_D | skip
 intro _
 clear hQ
 obtain ⟨Qn,Qe⟩:=Q
 simp only at hq hqb ⊢
 obtain ⟨qb1,qb2,qb3⟩:=hqb
 have lq:=ds_65b (n:=Qn) (by omega)
 have hd10:=ds_div10 Qn
 refine seq_join (ι:=Unit) (fun _=>⟨124,[(0,.c (.b s)),(1,.c (.ints .i64 (dg 65536 Cn))),(2,.c (.i .i64 Ce)),(13,.bx 0 0),(14,.bx 1 0),(16,.c (.i .i64 sg0))],⟨[(1,z5),(0,cx4 p r mn mx)],[],[]⟩,2⟩) ?_ ?_
 ·by_cases hl : p < (ds Qn : Int)
  ·rw [if_pos hl] at hq
   obtain ⟨rfl,rfl⟩:=Prod.mk.inj hq
   repeat' (first|(with_reducible first|apply q_a|apply q_b|apply q_c|apply q_d|apply q_e|apply q_f|apply q_g|apply q_h|apply q_i|apply q_j|apply q_k|apply q_m|apply q_n|apply q_o|apply q_p|refine q_l ?_)|((with_reducible first|refine q_q eba_ok fun K hK=>?_|refine q_r eba_ok fun K hK=>?_);simp (maxSteps:=2000000) only [go_sem,↓reduceIte,reduceCtorEq,Nat.reduceLeDiff,Nat.reduceLT,Nat.reduceBEq,Nat.reduceAdd,V65,ten,fig_len];(repeat1' with_reducible first|apply And.intro|(intro _;try exact q_v)|(refine hK _ ?_;clear hK K))<;>(try (clear hK K;exact q_u)))|(with_reducible refine q_s ?_;(first|apply q_J|apply q_K|apply q_L|apply q_M|apply q_N|apply q_O)<;>try (intro _;try exact q_v))|with_reducible refine q_t ?_)
   all_goals first | omega | exact join_told () q_D | skip
  ·rw [if_neg hl] at hq
   obtain ⟨rfl,rfl⟩:=Prod.mk.inj hq
   repeat' (first|(with_reducible first|apply q_a|apply q_b|apply q_c|apply q_d|apply q_e|apply q_f|apply q_g|apply q_h|apply q_i|apply q_j|apply q_k|apply q_m|apply q_n|apply q_o|apply q_p|refine q_l ?_)|((with_reducible first|refine q_q eba_ok fun K hK=>?_|refine q_r eba_ok fun K hK=>?_);simp (maxSteps:=2000000) only [go_sem,↓reduceIte,reduceCtorEq,Nat.reduceLeDiff,Nat.reduceLT,Nat.reduceBEq,Nat.reduceAdd,V65,ten,fig_len];(repeat1' with_reducible first|apply And.intro|(intro _;try exact q_v)|(refine hK _ ?_;clear hK K))<;>(try (clear hK K;exact q_u)))|(with_reducible refine q_s ?_;(first|apply q_J|apply q_K|apply q_L|apply q_M|apply q_N|apply q_O)<;>try (intro _;try exact q_v))|with_reducible refine q_t ?_)
   all_goals first | omega | exact join_told () q_D | skip
 intro _
 have hcb : ds Cn ≤ 5000 ∧ -10000 ≤ Ce ∧ Ce ≤ 20001:=by
  split at hq
  ·obtain ⟨rfl,rfl⟩:=Prod.mk.inj hq; omega
  ·obtain ⟨rfl,rfl⟩:=Prod.mk.inj hq; omega
 clear hq
 obtain ⟨cb1,cb2,cb3⟩:=hcb
 have lc:=ds_65b (n:=Cn) (by omega)
 have hd0:=ds_pos (n:=Cn)
 by_cases ho : stO n e inex ideal p mx
 ·obtain ⟨o1,o2⟩:=hO.1 ho
  rw [if_pos ho,if_pos ho]
  have o3:=hd0.2 o1
  have p0 : 10 ^ p.toNat - 1 ≤ 10 ^ p.toNat:=Nat.sub_le _ _
  have l10:=ds_65b (n:=10 ^ p.toNat) (by rw [ds_ten]; omega)
  have l11:=Nat.le_trans (dg_len_mono (B:=65536) (by omega) p0) l10
  have d1 : (dg 65536 1).length ≤ 1:=by decide
  have p1 : 1 ≤ 10 ^ p.toNat:=Nat.pow_pos (by omega)
  have hr : r = 0 ∨ r = 1 ∨ r = 2 ∨ r = 3 ∨ r = 4 ∨ r = 5 ∨ r = 6:=by omega
  clear hO hd0
  have cases2 : ∀ b : Bool,awayB r s true 1 = b → ovf s p r mx = if b = true then ⟨1,s,0,0⟩ else ⟨0,s,10 ^ p.toNat - 1,mx - p + 1⟩:=fun b hb=>by unfold ovf; rw [hb]
  rcases hr with rfl | rfl | rfl | rfl | rfl | rfl | rfl <;> cases s
  all_goals
   first
   | (rw [cases2 true rfl,if_pos rfl]; clear cases2)
   | (rw [cases2 false rfl,if_neg Bool.false_ne_true]; clear cases2)
  all_goals
   generalize hT : 10 ^ p.toNat = T at *
   repeat' (first|(with_reducible first|apply q_a|apply q_b|apply q_c|apply q_d|apply q_e|apply q_f|apply q_g|apply q_h|apply q_i|apply q_j|apply q_k|apply q_m|apply q_n|apply q_o|apply q_p|refine q_l ?_)|((with_reducible first|refine q_q eba_ok fun K hK=>?_|refine q_r eba_ok fun K hK=>?_);simp (maxSteps:=2000000) only [go_sem,↓reduceIte,reduceCtorEq,Nat.reduceLeDiff,Nat.reduceLT,Nat.reduceBEq,Nat.reduceAdd,V65,ten,t0,fig_len,hT];(repeat1' with_reducible first|apply And.intro|(intro _;try exact q_v)|(refine hK _ ?_;clear hK K))<;>(try (clear hK K;exact q_u)))|(with_reducible refine q_s ?_;(first|apply q_J|apply q_K|apply q_L|apply q_M|apply q_N|apply q_O)<;>try (intro _;try exact q_v))|with_reducible refine q_t ?_)
   all_goals first | omega | assumption | exact q_A rfl | skip
 ·rw [if_neg ho,if_neg ho]
  have ho' : ¬ (0 < Cn ∧ mx < (ds Cn : Int) - 1 + Ce):=fun h=>ho (hO.2 h)
  clear hO
  by_cases hc0 : 0 < Cn
  ·have o3:=hd0.2 hc0
   repeat' (first|(with_reducible first|apply q_a|apply q_b|apply q_c|apply q_d|apply q_e|apply q_f|apply q_g|apply q_h|apply q_i|apply q_j|apply q_k|apply q_m|apply q_n|apply q_o|apply q_p|refine q_l ?_)|((with_reducible first|refine q_q eba_ok fun K hK=>?_|refine q_r eba_ok fun K hK=>?_);simp (maxSteps:=2000000) only [go_sem,↓reduceIte,reduceCtorEq,Nat.reduceLeDiff,Nat.reduceLT,Nat.reduceBEq,Nat.reduceAdd,V65,ten,fig_len];(repeat1' with_reducible first|apply And.intro|(intro _;try exact q_v)|(refine hK _ ?_;clear hK K))<;>(try (clear hK K;exact q_u)))|(with_reducible refine q_s ?_;(first|apply q_J|apply q_K|apply q_L|apply q_M|apply q_N|apply q_O)<;>try (intro _;try exact q_v))|with_reducible refine q_t ?_)
   all_goals first | omega | assumption | exact q_A rfl | skip
  ·have o3 : ds Cn = 0:=by omega
   repeat' (first|(with_reducible first|apply q_a|apply q_b|apply q_c|apply q_d|apply q_e|apply q_f|apply q_g|apply q_h|apply q_i|apply q_j|apply q_k|apply q_m|apply q_n|apply q_o|apply q_p|refine q_l ?_)|((with_reducible first|refine q_q eba_ok fun K hK=>?_|refine q_r eba_ok fun K hK=>?_);simp (maxSteps:=2000000) only [go_sem,↓reduceIte,reduceCtorEq,Nat.reduceLeDiff,Nat.reduceLT,Nat.reduceBEq,Nat.reduceAdd,V65,ten,fig_len];(repeat1' with_reducible first|apply And.intro|(intro _;try exact q_v)|(refine hK _ ?_;clear hK K))<;>(try (clear hK K;exact q_u)))|(with_reducible refine q_s ?_;(first|apply q_J|apply q_K|apply q_L|apply q_M|apply q_N|apply q_O)<;>try (intro _;try exact q_v))|with_reducible refine q_t ?_)
   all_goals first | omega | assumption | exact q_A rfl | skip
def settleCT : CT:=mkCT [.inl none,.inl (some (.ints .i64 []))] false fun l K=>match l with
 | [.inl (.b s),.inl (.ints .i64 xs),.inl (.i .i64 e),.inl (.i .i64 f),.inl (.b inex),.inl (.i .i64 ideal),.inr [.i .i64 p,.i .i64 r,.i .i64 mn,.i .i64 mx]] =>
   (InB 65536 xs ∧ Trd xs ∧ ds (V 65536 xs) ≤ 5000 ∧ (-10000 ≤ e ∧ e ≤ 10000) ∧ (-10000 ≤ ideal ∧ ideal ≤ 10000) ∧ okCx p r mn mx = true) ∧
   K (.t [.inr (gDc (stD s (V 65536 xs) e inex ideal p r mx)),.inl (.i .i64 (stS (V 65536 xs) e f inex ideal p mn mx))])
 | _=>False
def es9 : Cfg:=addT 132 settleCT cf0
theorem es9_ok : TblOk Tryz.prog es9:=q_I cf0_ok Tryz.func132 fun l K h=>by
 split at h
 ·rename_i s xs e f inex ideal p r mn mx
  obtain ⟨⟨h1,h2,h3,h4,h5,h6⟩,h⟩:=h
  have e1:=dg_V 65536 (by omega) xs h1 h2
  have:=settle_ret s (V 65536 xs) e f inex ideal p r mn mx h3 h4 h5 h6
  rw [e1] at this
  exact ⟨_,this,h⟩
 ·exact h.elim
attribute [go_sem] settleCT
end Go.Proofs.YtgkajjifbcmoeaaGreatDoor

namespace Go.Proofs.YtgkajjifbcmoeaaGreatDoor
set_option linter.unusedSimpArgs false
set_option linter.unusedVariables false
open Go.Abs Go.Proofs.NatL

def ebb : Cfg:=listT [(126,(xRCT fgP rFs)),(122,rroundedCT),(132,settleCT),(14,rfiniteCT)] [34]
theorem ebb_ok : TblOk Tryz.prog ebb:=listE_ok (by simp only [List.mem_singleton,forall_eq]; exact flt) ⟨⟨er4,er4_ok,rfl⟩,⟨er5,er5_ok,rfl⟩,⟨es9,es9_ok,rfl⟩,⟨es2,es2_ok,rfl⟩,trivial⟩
attribute [go_sem] ebb
set_option maxHeartbeats 3200000 in
theorem rfit_ret (s : Bool) (num den : Nat) (e ideal p r mn mx : Int) (hP : PF num den e) (hc : okCx p r mn mx = true) (hi : -10000 ≤ ideal ∧ ideal ≤ 10000) :
  Ret Tryz.prog 64 false [.inr (gE s num den e),.inl (.i .i64 ideal),.inr [.i .i64 p,.i .i64 r,.i .i64 mn,.i .i64 mx]]
   (.t [.inr (gDc (fitD s num den e ideal p r mn mx)),.inl (.i .i64 (fitS s num den e ideal p r mn mx))]):=by
 obtain ⟨c1,c2,c3,c4,c5,c6,c7,c8⟩:=okCx_p hc
 have hPP:=hP
 obtain ⟨p1,p2,p3,p4,p5⟩:=hPP
 obtain ⟨i1,i2⟩:=hi
 have hz:=dg65_nil_iff num
 have l1:=ds_65b (n:=num) (by omega)
 have l2:=ds_65b (n:=den) (by omega)
 by_cases h0 : num = 0
 ·obtain ⟨f1,f2⟩:=fit_zero s den e ideal p r mn mx h0
  rw [f1,f2]
  have hz:=hz.2 h0
  have ht : tinyE p mn = mn - p + 1:=rfl
  rw [ht]
  by_cases k1 : mx < ideal
  ·have e1 : min (max ideal (mn - p + 1)) mx = mx:=by omega
   rw [e1]
   (refine q_H Tryz.func64 (fun F=>?_); simp only [q_z,q_y,Tryz.ntmps64,Tryz.results64])
   repeat' (first|(with_reducible first|apply q_a|apply q_b|apply q_c|apply q_d|apply q_e|apply q_f|apply q_g|apply q_h|apply q_i|apply q_j|apply q_k|apply q_m|apply q_n|apply q_o|apply q_p|refine q_l ?_)|((with_reducible first|refine q_q ebb_ok fun K hK=>?_|refine q_r ebb_ok fun K hK=>?_);simp (maxSteps:=2000000) only [go_sem,↓reduceIte,reduceCtorEq,Nat.reduceLeDiff,Nat.reduceLT,Nat.reduceBEq,Nat.reduceAdd,V65];(repeat1' with_reducible first|apply And.intro|(intro _;try exact q_v)|(refine hK _ ?_;clear hK K))<;>(try (clear hK K;exact q_u)))|(with_reducible refine q_s ?_;(first|apply q_J|apply q_K|apply q_L|apply q_M|apply q_N|apply q_O)<;>try (intro _;try exact q_v))|with_reducible refine q_t ?_)
   all_goals first | omega | assumption | exact q_A rfl | skip
  ·by_cases k2 : ideal < mn - p + 1
   ·have e1 : min (max ideal (mn - p + 1)) mx = mn - p + 1:=by omega
    rw [e1]
    (refine q_H Tryz.func64 (fun F=>?_); simp only [q_z,q_y,Tryz.ntmps64,Tryz.results64])
    repeat' (first|(with_reducible first|apply q_a|apply q_b|apply q_c|apply q_d|apply q_e|apply q_f|apply q_g|apply q_h|apply q_i|apply q_j|apply q_k|apply q_m|apply q_n|apply q_o|apply q_p|refine q_l ?_)|((with_reducible first|refine q_q ebb_ok fun K hK=>?_|refine q_r ebb_ok fun K hK=>?_);simp (maxSteps:=2000000) only [go_sem,↓reduceIte,reduceCtorEq,Nat.reduceLeDiff,Nat.reduceLT,Nat.reduceBEq,Nat.reduceAdd,V65];(repeat1' with_reducible first|apply And.intro|(intro _;try exact q_v)|(refine hK _ ?_;clear hK K))<;>(try (clear hK K;exact q_u)))|(with_reducible refine q_s ?_;(first|apply q_J|apply q_K|apply q_L|apply q_M|apply q_N|apply q_O)<;>try (intro _;try exact q_v))|with_reducible refine q_t ?_)
    all_goals first | omega | assumption | exact q_A rfl | skip
   ·have e1 : min (max ideal (mn - p + 1)) mx = ideal:=by omega
    rw [e1]
    (refine q_H Tryz.func64 (fun F=>?_); simp only [q_z,q_y,Tryz.ntmps64,Tryz.results64])
    repeat' (first|(with_reducible first|apply q_a|apply q_b|apply q_c|apply q_d|apply q_e|apply q_f|apply q_g|apply q_h|apply q_i|apply q_j|apply q_k|apply q_m|apply q_n|apply q_o|apply q_p|refine q_l ?_)|((with_reducible first|refine q_q ebb_ok fun K hK=>?_|refine q_r ebb_ok fun K hK=>?_);simp (maxSteps:=2000000) only [go_sem,↓reduceIte,reduceCtorEq,Nat.reduceLeDiff,Nat.reduceLT,Nat.reduceBEq,Nat.reduceAdd,V65];(repeat1' with_reducible first|apply And.intro|(intro _;try exact q_v)|(refine hK _ ?_;clear hK K))<;>(try (clear hK K;exact q_u)))|(with_reducible refine q_s ?_;(first|apply q_J|apply q_K|apply q_L|apply q_M|apply q_N|apply q_O)<;>try (intro _;try exact q_v))|with_reducible refine q_t ?_)
    all_goals first | omega | assumption | exact q_A rfl | skip
 have hn : 0 < num:=by omega
 have hz : ¬ ((dg 65536 num).length : Int) = 0:=fun h=>h0 (hz.1 h)
 obtain ⟨x1,x2⟩:=fitEx_bd hP hn ⟨c1,c2⟩ ⟨c5,c6⟩
 have hr:=rdE_len (neg:=s) (r:=r) (mn:=mn) hn p1 (exp:=e) ⟨c1,c2⟩
 obtain ⟨f1,f2⟩:=fit_st (neg:=s) (ideal:=ideal) (p:=p) (r:=r) (mn:=mn) (mx:=mx) hn p1 (exp:=e) c1
 rw [f1,f2]
 obtain ⟨b1,b2⟩:=first_bounds hn p1 e
 unfold guessE at b1 b2
 have hX : max (firstE num den e - p + 1) (mn - p + 1) = fitEx num den e p mn:=rfl
 obtain ⟨_,_,_,g4,g5⟩:=fit_at hP hn ⟨c1,c2⟩ ⟨c5,c6⟩
 generalize hR : rdE s num den e (fitEx num den e p mn) r = R at *
 generalize hSs : decide (sE num den e (fitEx num den e p mn) ≠ 0) = S at *
 generalize hF : firstE num den e = F at *
 generalize hXX : fitEx num den e p mn = X at *
 have l3:=ds_65b (n:=R) (by omega)
 by_cases hx : F - p + 1 < mn - p + 1
 ·have e1 : X = mn - p + 1:=by omega
  clear hX
  subst e1
  (refine q_H Tryz.func64 (fun F=>?_); simp only [q_z,q_y,Tryz.ntmps64,Tryz.results64])
  repeat' (first|(with_reducible first|apply q_a|apply q_b|apply q_c|apply q_d|apply q_e|apply q_f|apply q_g|apply q_h|apply q_i|apply q_j|apply q_k|apply q_m|apply q_n|apply q_o|apply q_p|refine q_l ?_)|((with_reducible first|refine q_q ebb_ok fun K hK=>?_|refine q_r ebb_ok fun K hK=>?_);simp (maxSteps:=2000000) only [go_sem,↓reduceIte,reduceCtorEq,Nat.reduceLeDiff,Nat.reduceLT,Nat.reduceBEq,Nat.reduceAdd,V65,hF,hR,hSs];(repeat1' with_reducible first|apply And.intro|(intro _;try exact q_v)|(refine hK _ ?_;clear hK K))<;>(try (clear hK K;exact q_u)))|(with_reducible refine q_s ?_;(first|apply q_J|apply q_K|apply q_L|apply q_M|apply q_N|apply q_O)<;>try (intro _;try exact q_v))|with_reducible refine q_t ?_)
  all_goals first | omega | assumption | exact q_A rfl | skip
 ·have e1 : X = F - p + 1:=by omega
  clear hX
  subst e1
  (refine q_H Tryz.func64 (fun F=>?_); simp only [q_z,q_y,Tryz.ntmps64,Tryz.results64])
  repeat' (first|(with_reducible first|apply q_a|apply q_b|apply q_c|apply q_d|apply q_e|apply q_f|apply q_g|apply q_h|apply q_i|apply q_j|apply q_k|apply q_m|apply q_n|apply q_o|apply q_p|refine q_l ?_)|((with_reducible first|refine q_q ebb_ok fun K hK=>?_|refine q_r ebb_ok fun K hK=>?_);simp (maxSteps:=2000000) only [go_sem,↓reduceIte,reduceCtorEq,Nat.reduceLeDiff,Nat.reduceLT,Nat.reduceBEq,Nat.reduceAdd,V65,hF,hR,hSs];(repeat1' with_reducible first|apply And.intro|(intro _;try exact q_v)|(refine hK _ ?_;clear hK K))<;>(try (clear hK K;exact q_u)))|(with_reducible refine q_s ?_;(first|apply q_J|apply q_K|apply q_L|apply q_M|apply q_N|apply q_O)<;>try (intro _;try exact q_v))|with_reducible refine q_t ?_)
  all_goals first | omega | assumption | exact q_A rfl | skip
def rfitCT : CT:=mkCT [nE,.inl none,.inr [none,none,none,none]] false fun l K=>match l with
 | [.inr [.b s,.ints .i64 xs,.ints .i64 ys,.i .i64 e],.inl (.i .i64 ideal),.inr [.i .i64 p,.i .i64 r,.i .i64 mn,.i .i64 mx]] =>
   (InB 65536 xs ∧ Trd xs ∧ InB 65536 ys ∧ Trd ys ∧ PF (V 65536 xs) (V 65536 ys) e ∧ okCx p r mn mx = true ∧ (-10000 ≤ ideal ∧ ideal ≤ 10000)) ∧
   K (.t [.inr (gDc (fitD s (V 65536 xs) (V 65536 ys) e ideal p r mn mx)),.inl (.i .i64 (fitS s (V 65536 xs) (V 65536 ys) e ideal p r mn mx))])
 | _=>False
def es10 : Cfg:=addT 64 rfitCT cf0
theorem es10_ok : TblOk Tryz.prog es10:=q_I cf0_ok Tryz.func64 fun l K h=>by
 split at h
 ·rename_i s xs ys e ideal p r mn mx
  obtain ⟨⟨h1,h2,h3,h4,h5,h6,h7⟩,h⟩:=h
  have e1:=dg_V 65536 (by omega) xs h1 h2
  have e2:=dg_V 65536 (by omega) ys h3 h4
  have:=rfit_ret s _ _ e ideal p r mn mx h5 h6 h7
  rw [gE,e1,e2] at this
  exact ⟨_,this,h⟩
 ·exact h.elim
attribute [go_sem] rfitCT
end Go.Proofs.YtgkajjifbcmoeaaGreatDoor
