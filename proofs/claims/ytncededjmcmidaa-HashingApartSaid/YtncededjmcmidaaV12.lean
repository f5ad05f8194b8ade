import Derived.Test.YtncededjmcmidaaV11
namespace Go.Proofs.Ytncededjmcmidaa
set_option linter.unusedSimpArgs false
set_option linter.unusedVariables false
open Go.Abs Go.Proofs.NatL

theorem wG_3 {l : List Int} : ∀ (m : Nat) (k : Int) (os : List Ob),os.length + m ≤ 58 → okSd l k → WOk os → (∀ o ∈ os,o.k = 2 → o.it.length ≤ 3) → ∀ o ∈ (wG l m k os).1,o.k = 2 → o.it.length ≤ 3
 | 0,k,os,_,_,_,h3=>h3
 | m + 1,k,os,hm,h,hw,h3=>by
  have g:=s2_ok (os:=os) h
  have g3:=s2_3 (os:=os) h
  refine wG_3 m _ (os ++ [(s2 os.length l (s1 os l k)).1]) (by simp; omega) g.1 (wok_app hw (by omega) g.2.1) fun o ho e=>?_
  rcases List.mem_append.1 ho with ho | ho
  ·exact h3 o ho e
  ·rw [List.mem_singleton.1 ho] at e ⊢; exact g3 e
theorem lG_ok {l : List Int} : ∀ (m i : Nat) (k : Int) (os : List Ob),i + m ≤ os.length → okSd l k → WOk os → (∀ j,i ≤ j → j < os.length → (os.getD j ob0).k = 2 → (os.getD j ob0).it.length ≤ 3) → okSd l (lG l m i k os).2 ∧ WOk (lG l m i k os).1 ∧ (lG l m i k os).1.length = os.length
 | 0,i,k,os,_,h,hw,_=>⟨h,hw,rfl⟩
 | m + 1,i,k,os,hm,h,hw,h3=>by
  have hi : i < os.length:=by omega
  have g:=wok_set (i:=i) hw h hi (h3 i (Nat.le_refl _) hi)
  have r:=lG_ok m (i + 1) (lO os.length l k (os.getD i ob0)).2 (os.set i (lO os.length l k (os.getD i ob0)).1) (by simp; omega) g.1 g.2 fun j hj hjl e=>by
   rw [obSet_ne (by omega)] at e ⊢
   exact h3 j (by omega) (by simpa using hjl) e
  exact ⟨r.1,r.2.1,by simp only [lG]; rw [r.2.2]; simp⟩
theorem wF_ok {l : List Int} {k : Int} (h : okSd l k) : okSd l (wF l k).2 ∧ WOk (wF l k).1 ∧ (wF l k).1.length = 51 + (nxV l k 8).toNat:=by
 have hx8:=nxV_in l k (n:=8) (by omega)
 have h1:=wG_ok (l:=l) ((nxV l k 8).toNat + 1) (nxK l k) os0 (by rw [os0_len]; omega) (nxK_ok h) os0_ok
 have h2:=wG_3 (l:=l) ((nxV l k 8).toNat + 1) (nxK l k) os0 (by rw [os0_len]; omega) (nxK_ok h) os0_ok os0_k
 have hl:=os0_len
 have h3:=lG_ok (l:=l) ((nxV l k 8).toNat + 1) 50 _ _ (by rw [h1.2.2]; omega) h1.1 h1.2.1 fun j _ hj e=>h2 _ (at_mem hj) e
 exact ⟨h3.1,h3.2.1,by show (lG _ _ _ _ _).1.length = _; rw [h3.2.2,h1.2.2]; omega⟩
def worldCT : CT:=mkCTG fun H al K=>match H,al with
 | ⟨[(0,[.c (.ints .i64 l),.c (.i .i64 k)])],[],[]⟩,[.bx 0 0]=>okSd l k ∧ (okSd l (wF l k).2 → WOk (wF l k).1 → K (woH l (wF l k).2 (wF l k).1) [.g [.sl 10 ((wF l k).1.map obC)],.c (.i .i64 50)])
 | _,_=>False
def h15a : Cfg:=addT 11 worldCT cf0
theorem h15a_ok : TblOk Try.prog h15a:=ctg_ok cf0_ok Try.func11 fun H al K h=>by
 split at h
 ·rename_i l k
  have t:=wF_ok h.1
  exact ⟨_,_,world_ret l k h.1,h.2 t.1 t.2.1⟩
 ·exact h.elim
attribute [go_sem] worldCT woH
end Go.Proofs.Ytncededjmcmidaa

namespace Go.Abs
set_option linter.unusedSimpArgs false
set_option linter.unusedVariables false
open Go.RowKit
variable {P : Program}
theorem ret_of_g {f : FuncId} {aa : List (C ⊕ List C)} {H' : Hp} {rs : List AV} {l : List (C ⊕ List C)} (h : RetG P f ⟨[],[],[]⟩ (aa.map q_y) H' rs) (hl : argsO H' false rs = some l) : Ret P f false aa (resAV l):=by
 intro w S vs hsz hvs
 have hs:=start_rep (n:=aa.length) (Nat.le_refl _) hsz hvs
 have hcall:=h w (fun b=>S b) [] ⟨fun _=>none,fun _=>none⟩ vs (fun _=>0) hs.h (fun i hi=>by simp at hi) (fun _ _=>rfl) (fun _ _=>rfl) (by simpa using hsz) (fun j y u hy hu=>by
  rw [List.getElem?_map] at hy
  obtain ⟨y',hy',rfl⟩:=Option.map_eq_some_iff.1 hy
  have hr:=hvs j y' u hy' hu
  have hst : Stays S (Fr.S ⟨w,fun b=>S b,[],[],fun _=>none⟩ ⟨fun _=>none,fun _=>none⟩) w w:=fun b hb hlt=>⟨.inl ⟨hb,hlt,by simp⟩,rfl⟩
  cases y' with
  | inl x=>exact Rd.mono hst hr
  | inr xs=>obtain ⟨us,rfl,hr⟩:=hr; exact ⟨us,rfl,hr.mono hst⟩)
 refine hcall.mono fun e w' ⟨m',vs',v,he,hrep,_,hlen,hv,hres⟩=>⟨v,he,⟨hrep.os,hrep.tape,hrep.output,hrep.size,fun k hk=>hrep.block k hk (by simp)⟩,?_⟩
 obtain ⟨hal,hai⟩:=argsO_spec hl
 have hS : ∀ (j : Nat) y u,l[j]? = some y → vs'[j]? = some u → RdS w' (fun b=>(false = false ∧ S b ∧ b < w.heap.size) ∨ w.heap.size ≤ b) y u:=by
  intro j y u hy hu
  have hj:=(List.getElem?_eq_some_iff.1 hy).1
  rw [hal] at hj
  have hx:=List.getElem?_eq_getElem hj
  have hr:=argO_rep (own:=true) rfl (fun _ _ h=>h) hrep (hai j _ y hx hy) (fun _=>rfl) (hres j _ u hx hu)
  refine RdS.mono (fun b hb hlt=>?_) (RdS.mono (callS_out hrep true) hr)
  refine ⟨?_,rfl⟩
  rcases hb with ⟨h1,h2⟩ | h1 | h1
  ·exact .inl ⟨rfl,h1,h2⟩
  ·exact .inr h1
  ·simp at h1
 subst hv
 have hll : vs'.length = l.length:=by omega
 rcases vs' with _ | ⟨v1,_ | ⟨v2,vs'⟩⟩ <;> rcases l with _ | ⟨y1,_ | ⟨y2,l'⟩⟩
 ·exact ⟨_,rfl,rfl,by simp⟩
 ·simp at hll
 ·simp at hll
 ·simp at hll
 ·have:=hS 0 y1 v1 rfl rfl
  cases y1 with
  | inl y=>exact this
  | inr y=>exact this
 ·simp at hll
 ·simp at hll
 ·simp at hll
 ·exact ⟨_,rfl,by simp at hll ⊢; omega,fun j y u hy hu=>hS j y u hy (by simpa using hu)⟩
end Go.Abs

namespace Go.Proofs.Ytncededjmcmidaa
set_option linter.unusedSimpArgs false
set_option linter.unusedVariables false
open Go.Abs Go.Proofs.NatL

theorem keyF_z (os : List Ob) (v : Vl) : (keyF os v).2.1 = 0 → (keyF os v).2.2 = 0:=by
 intro h
 have hk:=cvL_key os 1000 [v] []
 have hkF : keyF os v = keyG os 1000 [v] []:=rfl
 rw [hkF] at h ⊢
 by_cases h0 : (cvL os 1000 [v] []).2.2.1 = 0
 ·rw [(hk.1 h0).1]
 ·rw [hk.2 h0] at h; exact absurd h h0
theorem bequal_ret (x y : List Int) (hx : InB 256 x) (hy : InB 256 y) : Ret Try.prog 48 false [.inl (.ints .u8 x),.inl (.ints .u8 y)] (.c (.b (decide (x = y)))):=by
 have hc:=strOf_cmp hx hy
 (refine q_H Try.func48 (fun F=>?_); simp only [q_z,q_y,Try.ntmps48,Try.results48])
 repeat' (first|with_reducible refine q_0 ?_|((with_reducible first|refine q_q cf0_ok fun K hK=>?_|refine q_r cf0_ok fun K hK=>?_);simp (maxSteps:=2000000) only [go_sem,↓reduceIte,reduceCtorEq,Nat.reduceLeDiff,Nat.reduceLT,Nat.reduceBEq,Nat.reduceAdd,hc];(repeat1' with_reducible first|apply And.intro|(intro _;try exact q_v)|(refine hK _ ?_;clear hK K))<;>(try (clear hK K;exact q_u)))|(with_reducible refine q_s ?_;(first|apply q_J|apply q_K|apply q_L|apply q_M|apply q_N|apply q_O)<;>try (intro _;try exact q_v)))
 all_goals exact q_A rfl
def bequalCT : CT:=mkCT [.inl (some (.ints .u8 [])),.inl (some (.ints .u8 []))] true fun l K=>match l with
 | [.inl (.ints .u8 x),.inl (.ints .u8 y)]=>(InB 256 x ∧ InB 256 y) ∧ K (.c (.b (decide (x = y))))
 | _=>False
def h23a : Cfg:=addT 48 bequalCT cf0
theorem h23a_ok : TblOk Try.prog h23a:=q_I cf0_ok Try.func48 fun l K h=>by
 split at h
 ·exact ⟨_,(bequal_ret _ _ h.1.1 h.1.2).plain rfl,h.2⟩
 ·exact h.elim
def hashHCT : CT:=mkCT [.inr [none],nVal] true fun l K=>match l with
 | [.inr [.sl 10 rows],.inr [.i .i64 k,.b a,.ints .u32 x,.b b,.ints .u32 y,.str t,.i .i64 r]]=>((rows = (dO rows).map obC ∧ ∀ o ∈ dO rows,Pr o) ∧ HOk (dO rows) ∧ OkW (dO rows).length ⟨k,a,x,b,y,t,r⟩) ∧
  ((keyF (dO rows) ⟨k,a,x,b,y,t,r⟩).2.1 = 0 → K (.t [.inl (.i .u64 (hsF (keyF (dO rows) ⟨k,a,x,b,y,t,r⟩).1 hs0)),.inr [.i .i64 0,.i .i64 0]])) ∧
  ((keyF (dO rows) ⟨k,a,x,b,y,t,r⟩).2.1 ≠ 0 → K (.t [.inl (.i .u64 0),.inr [.i .i64 (keyF (dO rows) ⟨k,a,x,b,y,t,r⟩).2.1,.i .i64 (keyF (dO rows) ⟨k,a,x,b,y,t,r⟩).2.2]]))
 | _=>False
def h23b : Cfg:=addT 15 hashHCT cf0
theorem h23b_ok : TblOk Try.prog h23b:=q_I cf0_ok Try.func15 fun l K h=>by
 split at h
 ·rename_i rows k a x b y t r
  obtain ⟨⟨⟨h1,h2⟩,h3,h4⟩,hK1,hK2⟩:=h
  have hv:=hash_ret (dO rows) ⟨k,a,x,b,y,t,r⟩ h2 h3 h4
  have hz:=keyF_z (dO rows) ⟨k,a,x,b,y,t,r⟩
  rw [← h1] at hv
  generalize keyF (dO rows) ⟨k,a,x,b,y,t,r⟩ = X at *
  by_cases h0 : X.2.1 = 0
  ·rw [if_pos h0,h0,hz h0] at hv
   exact ⟨_,hv.plain rfl,hK1 h0⟩
  ·rw [if_neg h0] at hv
   exact ⟨_,hv.plain rfl,hK2 h0⟩
 ·exact h.elim
attribute [go_sem] bequalCT hashHCT
def ha15 : Cfg:=listT [(14,codeCT),(48,bequalCT)] [39]
theorem ha15_ok : TblOk Try.prog ha15:=listE_ok (by simp only [List.mem_singleton,forall_eq]; exact flt) ⟨⟨h22b,h22b_ok,rfl⟩,⟨h23a,h23a_ok,rfl⟩,trivial⟩
attribute [go_sem] ha15
def smF (os : List Ob) (u v : Vl) : Bool × Int × Int:=if (keyF os u).2.1 ≠ 0 then (false,(keyF os u).2.1,(keyF os u).2.2) else if (keyF os v).2.1 ≠ 0 then (false,(keyF os v).2.1,(keyF os v).2.2) else (decide ((keyF os u).1 = (keyF os v).1),0,0)
set_option maxRecDepth 100000 in
set_option maxHeartbeats 8000000 in
theorem hsame_ret (os : List Ob) (u v : Vl) (hp : ∀ o ∈ os,Pr o) (ho : HOk os) (hu : OkW os.length u) (hv : OkW os.length v) : Ret Try.prog 16 false [.inr [.sl 10 (os.map obC)],.inr (vC u),.inr (vC v)] (.t [.inl (.b (smF os u v).1),.inr [.i .i64 (smF os u v).2.1,.i .i64 (smF os u v).2.2]]):=by
 have hd:=dO_map hp
 have hu1:=(keyF_in ho hu).1
 have hv1:=(keyF_in ho hv).1
 unfold smF
 obtain ⟨k,a,x,b,y,t,r⟩:=u
 obtain ⟨k',a',x',b',y',t',r'⟩:=v
 generalize hX : keyF os ⟨k,a,x,b,y,t,r⟩ = X at *
 generalize hY : keyF os ⟨k',a',x',b',y',t',r'⟩ = Y at *
 obtain ⟨xs,c1,i1⟩:=X
 obtain ⟨ys,c2,i2⟩:=Y
 simp only at hu1 hv1 ⊢
 (refine q_H Try.func16 (fun F=>?_); simp only [q_z,q_y,Try.ntmps16,Try.results16])
 simp only [vC]
 by_cases h1 : c1 = 0
 ·subst h1
  by_cases h2 : c2 = 0
  ·subst h2
   repeat' (first|with_reducible refine q_0 ?_|((with_reducible first|refine q_q ha15_ok fun K hK=>?_|refine q_r ha15_ok fun K hK=>?_);simp (maxSteps:=2000000) only [go_sem,↓reduceIte,reduceCtorEq,Nat.reduceLeDiff,Nat.reduceLT,Nat.reduceBEq,Nat.reduceAdd,hd,hX,hY];(repeat1' with_reducible first|apply And.intro|(intro _;try exact q_v)|(refine hK _ ?_;clear hK K))<;>(try (clear hK K;exact q_u)))|(with_reducible refine q_s ?_;(first|apply q_J|apply q_K|apply q_L|apply q_M|apply q_N|apply q_O)<;>try (intro _;try exact q_v)))
   all_goals first | omega | contradiction | exact hp _ (by assumption) | exact q_A (by simp [resAV]) | skip
  ·repeat' (first|with_reducible refine q_0 ?_|((with_reducible first|refine q_q ha15_ok fun K hK=>?_|refine q_r ha15_ok fun K hK=>?_);simp (maxSteps:=2000000) only [go_sem,↓reduceIte,reduceCtorEq,Nat.reduceLeDiff,Nat.reduceLT,Nat.reduceBEq,Nat.reduceAdd,hd,hX,hY];(repeat1' with_reducible first|apply And.intro|(intro _;try exact q_v)|(refine hK _ ?_;clear hK K))<;>(try (clear hK K;exact q_u)))|(with_reducible refine q_s ?_;(first|apply q_J|apply q_K|apply q_L|apply q_M|apply q_N|apply q_O)<;>try (intro _;try exact q_v)))
   all_goals first | omega | contradiction | exact hp _ (by assumption) | exact q_A (by simp [resAV,h2]) | skip
 ·repeat' (first|with_reducible refine q_0 ?_|((with_reducible first|refine q_q ha15_ok fun K hK=>?_|refine q_r ha15_ok fun K hK=>?_);simp (maxSteps:=2000000) only [go_sem,↓reduceIte,reduceCtorEq,Nat.reduceLeDiff,Nat.reduceLT,Nat.reduceBEq,Nat.reduceAdd,hd,hX,hY];(repeat1' with_reducible first|apply And.intro|(intro _;try exact q_v)|(refine hK _ ?_;clear hK K))<;>(try (clear hK K;exact q_u)))|(with_reducible refine q_s ?_;(first|apply q_J|apply q_K|apply q_L|apply q_M|apply q_N|apply q_O)<;>try (intro _;try exact q_v)))
  all_goals first | omega | contradiction | exact hp _ (by assumption) | exact q_A (by simp [resAV,h1]) | skip
def sameHCT : CT:=mkCT [.inr [none],nVal,nVal] true fun l K=>match l with
 | [.inr [.sl 10 rows],.inr [.i .i64 k,.b a,.ints .u32 x,.b b,.ints .u32 y,.str t,.i .i64 r],.inr [.i .i64 k',.b a',.ints .u32 x',.b b',.ints .u32 y',.str t',.i .i64 r']]=>((rows = (dO rows).map obC ∧ ∀ o ∈ dO rows,Pr o) ∧ HOk (dO rows) ∧ OkW (dO rows).length ⟨k,a,x,b,y,t,r⟩ ∧ OkW (dO rows).length ⟨k',a',x',b',y',t',r'⟩) ∧
  K (.t [.inl (.b (smF (dO rows) ⟨k,a,x,b,y,t,r⟩ ⟨k',a',x',b',y',t',r'⟩).1),.inr [.i .i64 (smF (dO rows) ⟨k,a,x,b,y,t,r⟩ ⟨k',a',x',b',y',t',r'⟩).2.1,.i .i64 (smF (dO rows) ⟨k,a,x,b,y,t,r⟩ ⟨k',a',x',b',y',t',r'⟩).2.2]])
 | _=>False
def h23c : Cfg:=addT 16 sameHCT cf0
theorem h23c_ok : TblOk Try.prog h23c:=q_I cf0_ok Try.func16 fun l K h=>by
 split at h
 ·rename_i rows k a x b y t r k' a' x' b' y' t' r'
  obtain ⟨⟨⟨h1,h2⟩,h3,h4,h5⟩,hK⟩:=h
  have hv:=hsame_ret (dO rows) ⟨k,a,x,b,y,t,r⟩ ⟨k',a',x',b',y',t',r'⟩ h2 h3 h4 h5
  rw [← h1] at hv
  exact ⟨_,hv.plain rfl,hK⟩
 ·exact h.elim
def classesP : CT:=mkCT [] false fun l K=>match l with
 | []=>K (.g [.sl 10 ((clL 49).map obC)])
 | _=>False
def h23d : Cfg:=addT 43 classesP cf0
theorem h23d_ok : TblOk Try.prog h23d:=q_I cf0_ok Try.func43 fun l K h=>by
 split at h
 ·exact ⟨_,ret_of_g classes_ret (l:=[.inr [.sl 10 ((clL 49).map obC)]]) rfl,h⟩
 ·exact h.elim
attribute [go_sem] sameHCT classesP
end Go.Proofs.Ytncededjmcmidaa

namespace Go.Proofs.Ytncededjmcmidaa
set_option linter.unusedSimpArgs false
set_option linter.unusedVariables false
open Go.Abs Go.Proofs.NatL

theorem cl_hok : HOk (clL 49):=⟨by rw [clL_len]; omega,fun o ho h1=>by have:=(clL_k 49 o ho).1; omega⟩
theorem cl_pr : ∀ o ∈ clL 49,Pr o:=fun o ho=>.inl (clL_k 49 o ho).2.1
theorem five_code (os : List Ob) : keyF os (intV 5) = ([2,0,1,5,0,0,0],0,0):=by
 have e : dg 4294967296 5 = [5]:=by
  have:=dg_small 5 (by omega)
  simpa using this
 rw [int_code 5 (by omega)]
 simp [plB,intV,e,intB,hbs,hdg]
theorem nil_code (os : List Ob) : keyF os ⟨0,false,[],false,[],ByteArray.empty,0⟩ = ([0],0,0):=by simp [keyF,keyG,plB]
theorem un_code (os : List Ob) : keyF os ⟨9,false,[],false,[],ByteArray.empty,0⟩ = ([],27, -2):=by simp [keyF,keyG]
theorem str5 : ((strOf [2,0,1,5,0,0,0]).toList == (ByteArray.mk #[2,0,1,5,0,0,0]).toList) = true:=by
 rw [str_eq,bytes_strOf _ (by unfold InB; decide)]; decide
theorem okW_zero (n : Nat) (k : Int) (h : 0 ≤ k ∧ k ≤ 9 ∧ k ≠ 6) : OkW n ⟨k,false,[],false,[],ByteArray.empty,0⟩:=⟨⟨⟨by simp,inB_nil _⟩,⟨by simp,inB_nil _⟩,by simp,by simp only; omega,by simp only; omega⟩,fun h6=>by simp only at h6; omega⟩
def ha16 : Cfg:=listT [(14,codeCT),(15,hashHCT),(43,classesP),(19,hashedCT),(45,integerCT),(25,atCT)] [39]
theorem ha16_ok : TblOk Try.prog ha16:=listE_ok (by simp only [List.mem_singleton,forall_eq]; exact flt) ⟨⟨h22b,h22b_ok,rfl⟩,⟨h23b,h23b_ok,rfl⟩,⟨h23d,h23d_ok,rfl⟩,⟨h22c,h22c_ok,rfl⟩,⟨h2a,h2a_ok,rfl⟩,⟨cf2,cf2_ok,rfl⟩,trivial⟩
attribute [go_sem] ha16
set_option maxRecDepth 100000 in
set_option maxHeartbeats 8000000 in
theorem keys_ret : Ret Try.prog 18 false [] (.c (.b true)):=by
 have hd:=dO_map cl_pr
 have hok:=cl_hok
 have hpr:=cl_pr
 have h5:=five_code (clL 49)
 have h0:=nil_code (clL 49)
 have h9:=un_code (clL 49)
 have w5:=okW_int (clL 49).length 5 (by decide)
 have w0:=okW_zero (clL 49).length 0 (by omega)
 have w9:=okW_zero (clL 49).length 9 (by omega)
 generalize hos : clL 49 = os at *
 have e5 : dg 4294967296 (Int.natAbs 5) = [5]:=by rw [dg_small 5 (by omega)]; rfl
 simp only [intV,e5] at h5 w5
 (refine q_H Try.func18 (fun F=>?_); simp only [q_z,q_y,Try.ntmps18,Try.results18])
 repeat' (first|with_reducible refine q_0 ?_|((with_reducible first|refine q_q ha16_ok fun K hK=>?_|refine q_r ha16_ok fun K hK=>?_);simp (maxSteps:=2000000) only [go_sem,↓reduceIte,reduceCtorEq,Nat.reduceLeDiff,Nat.reduceLT,Nat.reduceBEq,Nat.reduceAdd,vC,intV,e5,hos,hd,h5,h0,h9,str5];(repeat1' with_reducible first|apply And.intro|(intro _;try exact q_v)|(refine hK _ ?_;clear hK K))<;>(try (clear hK K;exact q_u)))|(with_reducible refine q_s ?_;(first|apply q_J|apply q_K|apply q_L|apply q_M|apply q_N|apply q_O)<;>try (intro _;try exact q_v)))
 all_goals first | omega | contradiction | exact hpr _ (by assumption) | exact q_A rfl | skip
end Go.Proofs.Ytncededjmcmidaa

namespace Go.Proofs.Ytncededjmcmidaa
set_option linter.unusedSimpArgs false
set_option linter.unusedVariables false
open Go.Abs Go.Proofs.NatL

def keysHCT : CT:=mkCT [] true fun l K=>match l with
 | []=>K (.c (.b true))
 | _=>False
def h25a : Cfg:=addT 18 keysHCT cf0
theorem h25a_ok : TblOk Try.prog h25a:=q_I cf0_ok Try.func18 fun l K h=>by
 split at h
 ·exact ⟨_,keys_ret.plain rfl,h⟩
 ·exact h.elim
theorem seed_ret (l : List Int) : RetG Try.prog 10 ⟨[],[],[]⟩ [.c (.ints .i64 l)] (sH l 0) [.bx 0 0]:=by
 (refine ret_ge Try.func10 (fun F bs=>?_); simp only [avSl,ancs,hnx,Nat.reduceAdd,Nat.reduceLeDiff,if_true,if_false,List.length_cons,List.length_nil,List.cons_append,List.nil_append,Try.ntmps10,Try.results10])
 repeat' (first|with_reducible refine q_0 ?_|((with_reducible first|refine q_q cf0_ok fun K hK=>?_|refine q_r cf0_ok fun K hK=>?_);simp (maxSteps:=2000000) only [go_sem,↓reduceIte,reduceCtorEq,Nat.reduceLeDiff,Nat.reduceLT,Nat.reduceBEq,Nat.reduceAdd];(repeat1' with_reducible first|apply And.intro|(intro _;try exact q_v)|(refine hK _ ?_;clear hK K))<;>(try (clear hK K;exact q_u)))|(with_reducible refine q_s ?_;(first|apply q_J|apply q_K|apply q_L|apply q_M|apply q_N|apply q_O)<;>try (intro _;try exact q_v)))
 all_goals exact ends_g [(2,.bx 0 0)] 1 (by exact q_D) rfl
def seedCT : CT:=mkCTG fun H al K=>match H,al with
 | ⟨[],[],[]⟩,[.c (.ints .i64 l)]=>K (sH l 0) [.bx 0 0]
 | _,_=>False
def h25b : Cfg:=addT 10 seedCT cf0
theorem h25b_ok : TblOk Try.prog h25b:=ctg_ok cf0_ok Try.func10 fun H al K h=>by
 split at h
 ·exact ⟨_,_,seed_ret _,h⟩
 ·exact h.elim
set_option maxRecDepth 100000 in
set_option maxHeartbeats 4000000 in
theorem value_ret3 (l : List Int) (k : Int) (os : List (List C)) (f : Int) (h : okSd l k) (hf : 0 ≤ f ∧ f ≤ 100000) (hn : os.length ≤ 100000) : RetG Try.prog 12 (sH l k) [.bx 0 0,.g [.sl 10 os],.c (.i .i64 f)] (vaH l (vaK l k os.length f) (vaV l k os.length f)) [.g (vC (vaV l k os.length f))]:=by
 have h2:=nxK_ok h
 unfold vaV vaK
 by_cases h3 : (0:Int) < os.length - f
 ·rw [if_pos h3,if_pos h3]
  by_cases hx : nxV l k 2 = 1
  ·rw [if_pos hx,if_pos hx]
   (refine ret_ge Try.func12 (fun F bs=>?_); simp only [avSl,ancs,hnx,Nat.reduceAdd,Nat.reduceLeDiff,if_true,if_false,List.length_cons,List.length_nil,List.cons_append,List.nil_append,Try.ntmps12,Try.results12])
   repeat' (first|with_reducible refine q_0 ?_|((with_reducible first|refine q_q ha3_ok fun K hK=>?_|refine q_r ha3_ok fun K hK=>?_);simp (maxSteps:=2000000) only [go_sem,↓reduceIte,reduceCtorEq,Nat.reduceLeDiff,Nat.reduceLT,Nat.reduceBEq,Nat.reduceAdd,hx,h3];(repeat1' with_reducible first|apply And.intro|(intro _;try exact q_v)|(refine hK _ ?_;clear hK K))<;>(try (clear hK K;exact q_u)))|(with_reducible refine q_s ?_;(first|apply q_J|apply q_K|apply q_L|apply q_M|apply q_N|apply q_O)<;>try (intro _;try exact q_v)))
   all_goals first | omega | contradiction | assumption | rfl | (exact ends_g [(6,.bx 2 0)] 3 (by exact q_D) rfl) | skip
  ·rw [if_neg hx,if_neg hx]
   (refine ret_ge Try.func12 (fun F bs=>?_); simp only [avSl,ancs,hnx,Nat.reduceAdd,Nat.reduceLeDiff,if_true,if_false,List.length_cons,List.length_nil,List.cons_append,List.nil_append,Try.ntmps12,Try.results12])
   repeat' (first|with_reducible refine q_0 ?_|((with_reducible first|refine q_q ha3_ok fun K hK=>?_|refine q_r ha3_ok fun K hK=>?_);simp (maxSteps:=2000000) only [go_sem,↓reduceIte,reduceCtorEq,Nat.reduceLeDiff,Nat.reduceLT,Nat.reduceBEq,Nat.reduceAdd,hx,h3];(repeat1' with_reducible first|apply And.intro|(intro _;try exact q_v)|(refine hK _ ?_;clear hK K))<;>(try (clear hK K;exact q_u)))|(with_reducible refine q_s ?_;(first|apply q_J|apply q_K|apply q_L|apply q_M|apply q_N|apply q_O)<;>try (intro _;try exact q_v)))
   all_goals first | omega | contradiction | assumption | rfl | (exact ends_g [(6,.bx 2 0)] 3 (by exact q_D) rfl) | skip
 ·rw [if_neg h3,if_neg h3]
  (refine ret_ge Try.func12 (fun F bs=>?_); simp only [avSl,ancs,hnx,Nat.reduceAdd,Nat.reduceLeDiff,if_true,if_false,List.length_cons,List.length_nil,List.cons_append,List.nil_append,Try.ntmps12,Try.results12])
  repeat' (first|with_reducible refine q_0 ?_|((with_reducible first|refine q_q ha3_ok fun K hK=>?_|refine q_r ha3_ok fun K hK=>?_);simp (maxSteps:=2000000) only [go_sem,↓reduceIte,reduceCtorEq,Nat.reduceLeDiff,Nat.reduceLT,Nat.reduceBEq,Nat.reduceAdd,h3];(repeat1' with_reducible first|apply And.intro|(intro _;try exact q_v)|(refine hK _ ?_;clear hK K))<;>(try (clear hK K;exact q_u)))|(with_reducible refine q_s ?_;(first|apply q_J|apply q_K|apply q_L|apply q_M|apply q_N|apply q_O)<;>try (intro _;try exact q_v)))
  all_goals first | omega | contradiction | assumption | rfl | (exact ends_g [(6,.bx 2 0)] 3 (by exact q_D) rfl) | skip
def valueGCT : CT:=mkCTG fun H al K=>match H,al with
 | ⟨[(0,[.c (.ints .i64 l),.c (.i .i64 k)])],[],[]⟩,[.bx 0 0,.g [.sl 10 os],.c (.i .i64 f)]=>(okSd l k ∧ (0 ≤ f ∧ f ≤ 100000) ∧ os.length ≤ 100000) ∧ (OkV os.length f (vaV l k os.length f) → okSd l (vaK l k os.length f) → K (vaH l (vaK l k os.length f) (vaV l k os.length f)) [.g (vC (vaV l k os.length f))])
 | _,_=>False
def h25c : Cfg:=addT 12 valueGCT cf0
theorem h25c_ok : TblOk Try.prog h25c:=ctg_ok cf0_ok Try.func12 fun H al K h=>by
 split at h
 ·rename_i l k os f
  obtain ⟨⟨h1,h2,h3⟩,hK⟩:=h
  have t:=vaV_ok (n:=os.length) (f:=f) h1
  exact ⟨_,_,value_ret3 l k os f h1 h2 h3,hK t.1 t.2⟩
 ·exact h.elim
def keyPCT : CT:=mkCT [.inr [none],nVal] false fun l K=>match l with
 | [.inr [.sl 10 rows],.inr [.i .i64 k,.b a,.ints .u32 x,.b b,.ints .u32 y,.str t,.i .i64 r]]=>(rows = (dO rows).map obC ∧ HOk (dO rows) ∧ OkW (dO rows).length ⟨k,a,x,b,y,t,r⟩) ∧ K (.t [.inl (.ints .u8 (keyF (dO rows) ⟨k,a,x,b,y,t,r⟩).1),.inr [.i .i64 (keyF (dO rows) ⟨k,a,x,b,y,t,r⟩).2.1,.i .i64 (keyF (dO rows) ⟨k,a,x,b,y,t,r⟩).2.2]])
 | _=>False
def h25d : Cfg:=addT 17 keyPCT cf0
theorem h25d_ok : TblOk Try.prog h25d:=q_I cf0_ok Try.func17 fun l K h=>by
 split at h
 ·rename_i rows k a x b y t r
  obtain ⟨⟨h1,h2,h3⟩,hK⟩:=h
  refine ⟨_,?_,hK⟩
  have:=key_ret (dO rows) ⟨k,a,x,b,y,t,r⟩ h2 h3
  rw [← h1] at this
  exact this
 ·exact h.elim
attribute [go_sem] keysHCT seedCT valueGCT keyPCT
def ha17 : Cfg:=listT [(14,codeCT),(15,hashHCT),(16,sameHCT),(19,hashedCT),(18,keysHCT),(10,seedCT),(12,valueGCT),(13,nextCT),(11,worldCT),(17,keyPCT)] [39]
theorem ha17_ok : TblOk Try.prog ha17:=listE_ok (by simp only [List.mem_singleton,forall_eq]; exact flt) ⟨⟨h22b,h22b_ok,rfl⟩,⟨h23b,h23b_ok,rfl⟩,⟨h23c,h23c_ok,rfl⟩,⟨h22c,h22c_ok,rfl⟩,⟨h25a,h25a_ok,rfl⟩,⟨h25b,h25b_ok,rfl⟩,⟨h25c,h25c_ok,rfl⟩,⟨h1t,h1t_ok,rfl⟩,⟨h15a,h15a_ok,rfl⟩,⟨h25d,h25d_ok,rfl⟩,trivial⟩
attribute [go_sem] ha17
end Go.Proofs.Ytncededjmcmidaa

namespace Go.Abs
set_option linter.unusedSimpArgs false
set_option linter.unusedVariables false
open Go.RowKit
variable {P : Program}

def noLnT : TE → Bool
 | .ln _=>false
 | _=>true
def noLn : AV → Bool
 | .ln _=>false
 | .fn _ caps=>caps.all noLnT
 | .tt l=>l.all noLnT
 | .gt l=>l.all noLnT
 | _=>true
structure Frames (F F2 : Fr) (H H2 : Hp) (m m2 : Mp) (w w2 : World) (ln : Bool) : Prop where
 st : Stays (F.S m) (F2.S m2) w w2
 bx : ∀ i b,m.bx i = some b → m2.bx i = some b
 bf : m2.bf = m.bf
 buf : H2.buf = H.buf
 bor : H2.bor = H.bor
 br : F2.br = F.br
 ln : ln = true → ∀ x v,F.Lent x v → F2.Lent x v
section
variable {F F2 : Fr} {H H2 : Hp} {m m2 : Mp} {w w2 : World} {ln : Bool}
theorem Frames.repT (k : Frames F F2 H H2 m m2 w w2 ln) {x : TE} {v : Value} (hx : ln = true ∨ noLnT x = true) (h : RepT F H m w x v) : RepT F2 H2 m2 w2 x v:=by
 cases x with
 | s x=>exact RdS.mono k.st h
 | own id ver=>simp only [RepT,k.bf,k.buf] at h ⊢; exact h
 | bx id off=>obtain ⟨b,h1,h2⟩:=h; exact ⟨b,k.bx id b h1,h2⟩
 | mp id=>obtain ⟨b,h1,h2⟩:=h; exact ⟨b,k.bx id b h1,h2⟩
 | ln x =>
  rcases hx with hx | hx
  ·exact k.ln hx _ _ h
  ·cases hx
 | u=>trivial
theorem Frames.repW (k : Frames F F2 H H2 m m2 w w2 ln) {x : C ⊕ (Nat × Nat × Nat × Nat)} {v : Value} (h : RepW F H m w x v) : RepW F2 H2 m2 w2 x v:=by
 cases x with
 | inl x=>exact Rd.mono k.st h
 | inr x=>obtain ⟨id,ver,lo,len⟩:=x; simp only [RepW,k.bf,k.buf] at h ⊢; exact h
theorem Frames.rep (k : Frames F F2 H H2 m m2 w w2 ln) {x : AV} {v : Value} (hx : ln = true ∨ noLn x = true) (h : RepA F H m w x v) : RepA F2 H2 m2 w2 x v:=by
 have lst : ∀ (l : List TE),(ln = true ∨ l.all noLnT = true) → ∀ (vs : Array Value),(∀ (j : Nat) y u,l[j]? = some y → vs[j]? = some u → RepT F H m w y u) → ∀ (j : Nat) y u,l[j]? = some y → vs[j]? = some u → RepT F2 H2 m2 w2 y u:=by
  intro l hl vs h j y u hy hu
  exact k.repT (hl.imp id fun hl=>List.all_eq_true.1 hl y (List.mem_of_getElem? hy)) (h j y u hy hu)
 cases x with
 | c x=>exact Rd.mono k.st h
 | g x=>obtain ⟨vs,rfl,h⟩:=h; exact ⟨vs,rfl,h.mono k.st⟩
 | t x=>obtain ⟨vs,rfl,h1,h2⟩:=h; exact ⟨vs,rfl,h1,fun j y u hy hu=>RdS.mono k.st (h2 j y u hy hu)⟩
 | bx id off=>obtain ⟨b,h1,h2⟩:=h; exact ⟨b,k.bx id b h1,h2⟩
 | mp id=>obtain ⟨b,h1,h2⟩:=h; exact ⟨b,k.bx id b h1,h2⟩
 | own id ver=>simp only [RepA,k.bf,k.buf] at h ⊢; exact h
 | oel id ver i off=>simp only [RepA,k.bf,k.buf] at h ⊢; exact h
 | win id ver lo len=>simp only [RepA,k.bf,k.buf] at h ⊢; exact h
 | bw j lo len=>simp only [RepA,k.br,k.bor] at h ⊢; exact h
 | bel j i off=>simp only [RepA,k.br,k.bor] at h ⊢; exact h
 | el xs =>
  obtain ⟨b,off,h1,h2,h3⟩:=h
  have hS : ∀ {j : Nat} {y : C},xs[j]? = some y → F.S m b:=fun hy=>h2 fun e=>by rw [e] at hy; simp at hy
  refine ⟨b,off,h1,fun hne=>?_,fun j y hy=>?_⟩
  ·cases xs with
   | nil=>exact absurd rfl hne
   | cons y l =>
    obtain ⟨u,hu,_⟩:=h3 0 y rfl
    exact (k.st b (h2 hne) (block_lt hu)).1
  ·obtain ⟨u,hu,hr⟩:=h3 j y hy
   exact ⟨u,k.st.cell (hS hy) hu,hr.mono k.st⟩
 | anc id b=>exact k.bx id b h
 | ln x =>
  rcases hx with hx | hx
  ·exact k.ln hx _ _ h
  ·cases hx
 | vf c=>obtain ⟨p,n,h1,h2⟩:=h; exact ⟨p,n,h1,h2.mono k.st⟩
 | lk id ver v=>simp only [RepA,k.bf,k.buf] at h ⊢; exact h
 | mc con=>exact h
 | u=>trivial
 | fn g caps=>obtain ⟨vs,h1,h2,h3⟩:=h; exact ⟨vs,h1,h2,lst caps hx vs h3⟩
 | gt l=>obtain ⟨vs,h1,h2,h3⟩:=h; exact ⟨vs,h1,h2,lst l hx vs h3⟩
 | tt l=>obtain ⟨vs,h1,h2,h3⟩:=h; exact ⟨vs,h1,h2,lst l hx vs h3⟩
 | lw l =>
  obtain ⟨b,cap,h1,h2,h3,h4⟩:=h
  cases l with
  | nil=>exact absurd rfl h2.1
  | cons y l =>
   obtain ⟨u,hu,_⟩:=h4 0 y rfl
   refine ⟨b,cap,h1,h2,(k.st b h3 (block_lt hu)).1,fun j y hy=>?_⟩
   obtain ⟨u,hu,hr⟩:=h4 j y hy
   exact ⟨u,k.st.cell h3 hu,k.repW hr⟩
theorem Frames.box (k : Frames F F2 H H2 m m2 w w2 ln) {b : Nat} {cs : List AV} (hx : ln = true ∨ cs.all noLn = true) (hb : w2.heap[b]? = w.heap[b]?) (h : BoxIs F H m w b cs) : BoxIs F2 H2 m2 w2 b cs:=by
 cases hm : isM cs with
 | true =>
  obtain ⟨con,rfl⟩:=isM_some hm
  obtain ⟨es,ck,h1,h2⟩:=h
  exact ⟨es,ck,hb.trans h1,h2.mono k.st⟩
 | false =>
  obtain ⟨arr,e,h1,h2,h3⟩:=h.cells hm
  exact BoxIs.of (hb.trans h1) h2 fun j x u hx' hu=>⟨(h3 j x u hx' hu).1,k.rep (hx.imp id fun hl=>List.all_eq_true.1 hl x (List.mem_of_getElem? hx')) (h3 j x u hx' hu).2⟩
end

def swG (m : Mp) (k : Nat) : List Nat:=(List.range k).filterMap m.bx ++ (List.range k).filterMap fun i=>(m.bf i).bind Value.ownBlock
def brG (F : Fr) (H : Hp) : List Nat:=H.bor.filterMap fun p=>(F.br p.1).bind Value.ownBlock
def swF (F : Fr) (H : Hp) (m : Mp) (k : Nat) (w w1 : World) : Fr:=⟨w1,fun c=>F.S m c ∧ c < w.heap.size,swG m k ++ brG F H,swG m k,F.br⟩
theorem swG_own {m : Mp} {k : Nat} (hf : ∀ i,k ≤ i → m.bx i = none ∧ m.bf i = none) {c : Nat} : c ∈ swG m k ↔ Own m c:=by
 have hlt : ∀ i,(m.bx i ≠ none ∨ m.bf i ≠ none) → i < k:=fun i h=>by
  rcases Nat.lt_or_ge i k with h' | h'
  ·exact h'
  ·obtain ⟨e1,e2⟩:=hf i h'; rcases h with h | h <;> contradiction
 unfold swG Own
 rw [List.mem_append,List.mem_filterMap,List.mem_filterMap]
 constructor
 ·rintro (⟨i,_,h⟩ | ⟨i,_,h⟩)
  ·exact .inl ⟨i,h⟩
  ·obtain ⟨v,h1,h2⟩:=Option.bind_eq_some_iff.1 h
   exact .inr ⟨i,v,h1,h2⟩
 ·rintro (⟨i,h⟩ | ⟨i,v,h,h2⟩)
  ·exact .inl ⟨i,List.mem_range.2 (hlt i (.inl (by rw [h]; simp))),h⟩
  ·exact .inr ⟨i,List.mem_range.2 (hlt i (.inr (by rw [h]; simp))),by rw [h]; exact h2⟩
theorem look_in {α : Type} : ∀ {l : List (Nat × α)} {i : Nat} {x : α},look l i = some x → (i,x) ∈ l
 | (j,y) :: l,i,x,h=>by
  simp only [look] at h
  split at h
  ·rename_i he
   cases h
   have he : j = i:=by simpa using he
   subst he; exact List.mem_cons_self ..
  ·exact List.mem_cons_of_mem _ (look_in h)
theorem brG_mem {F : Fr} {H : Hp} {m : Mp} {w : World} (h : HRep F H m w) {c : Nat} : c ∈ brG F H ↔ ∃ i v,F.br i = some v ∧ v.ownBlock = some c:=by
 unfold brG
 rw [List.mem_filterMap]
 constructor
 ·rintro ⟨p,_,h1⟩
  obtain ⟨v,h2,h3⟩:=Option.bind_eq_some_iff.1 h1
  exact ⟨p.1,v,h2,h3⟩
 ·rintro ⟨i,v,h1,h2⟩
  obtain ⟨B,_,_,h3,_⟩:=h.bor i v h1
  exact ⟨(i,B),look_in h3,by simp [h1,h2]⟩
theorem not_own_old {F : Fr} {H : Hp} {m : Mp} {w : World} (h : HRep F H m w) {c : Nat} (h1 : c < F.w0.heap.size) (h2 : c ∉ F.B0) : ¬ Own m c:=fun ho=>by
 rcases h.fresh c ho with h3 | h3
 ·omega
 ·exact h2 (h.gB c h3).1
section
variable {F : Fr} {H : Hp} {m : Mp} {w : World} {k : Nat}
theorem sw_out (h : HRep F H m w) (hf : ∀ i,k ≤ i → m.bx i = none ∧ m.bf i = none) {c : Nat} (hS : F.S m c) : c ∉ swG m k ++ brG F H:=by
 rw [List.mem_append,swG_own hf,brG_mem h]
 rintro (ho | ⟨i,v,h1,h2⟩)
 ·rcases hS with ⟨_,h3,h4⟩ | ⟨_,h3⟩
  ·exact not_own_old h h3 h4 ho
  ·exact h3 ho
 ·obtain ⟨h3,h4,h5⟩:=h.brB i v c h1 h2
  rcases hS with ⟨_,_,h6⟩ | ⟨h6 | h6,_⟩
  ·exact h6 h3
  ·omega
  ·exact h5 h6
theorem sw_old (h : HRep F H m w) (hf : ∀ i,k ≤ i → m.bx i = none ∧ m.bf i = none) {c : Nat} (h1 : c < F.w0.heap.size) (h2 : c ∉ F.B0) : c ∉ swG m k ++ brG F H:=by
 rw [List.mem_append,swG_own hf,brG_mem h]
 rintro (ho | ⟨i,v,h3,h4⟩)
 ·exact not_own_old h h1 h2 ho
 ·exact h2 (h.brB i v c h3 h4).1
theorem alloc_size (w : World) (o : Obj) : (w.alloc o).heap.size = w.heap.size + 1:=Array.size_push ..
theorem sw_fwd (h : HRep F H m w) (hf : ∀ i,k ≤ i → m.bx i = none ∧ m.bf i = none) (o : Obj) :
  HRep (swF F H m k w (w.alloc o)) H m (w.alloc o) ∧ Frames F (swF F H m k w (w.alloc o)) H H m m w (w.alloc o) true:=by
 have hsz:=alloc_size w o
 have hold : ∀ c,c < w.heap.size → (w.alloc o).heap[c]? = w.heap[c]?:=fun c hc=>Below.heap_alloc w _ c hc
 have hst : Stays (F.S m) ((swF F H m k w (w.alloc o)).S m) w (w.alloc o):=fun c hS hc=>⟨.inl ⟨⟨hS,hc⟩,by show c < (w.alloc o).heap.size; omega,sw_out h hf hS⟩,hold c hc⟩
 have hF : Frames F (swF F H m k w (w.alloc o)) H H m m w (w.alloc o) true:=by
  refine ⟨hst,fun _ _ h=>h,rfl,rfl,rfl,rfl,fun _ x v ⟨T,h1,h2⟩=>⟨T,fun b hb=>⟨?_,?_⟩,h2.mono fun b hb _=>⟨hb,?_⟩⟩⟩
  ·have:=(h1 b hb).1
   have:=h.size
   show b < (w.alloc o).heap.size
   omega
  ·exact sw_old h hf (h1 b hb).1 (h1 b hb).2
  ·have:=h.size
   show (w.alloc o).heap[b]? = _
   rw [hold b (by have:=(h1 b hb).1; omega)]
   exact h.block b (h1 b hb).1 (h1 b hb).2
 refine ⟨⟨rfl,rfl,rfl,Nat.le_refl _,fun _ _ _=>rfl,fun b ho=>.inr ((swG_own hf).2 ho),fun b hb=>⟨List.mem_append_left _ hb,?_⟩,fun i v b h1 h2=>⟨List.mem_append_right _ ((brG_mem h).2 ⟨i,v,h1,h2⟩),?_,fun hb=>?_⟩,h.bri,h.ibb,h.ibf,h.iff,fun i b hb=>?_,fun i v hv=>?_,fun i v hv=>?_⟩,hF⟩
 ·have:=own_lt h ((swG_own hf).1 hb)
  show b < (w.alloc o).heap.size
  omega
 ·have:=(h.brB i v b h1 h2).2.1
  have:=h.size
  show b < (w.alloc o).heap.size
  omega
 ·obtain ⟨h3,h4,h5⟩:=h.brB i v b h1 h2
  rcases h.fresh b ((swG_own hf).1 hb) with h6 | h6
  ·omega
  ·exact h5 h6
 ·obtain ⟨cs,h1,h2⟩:=h.box i b hb
  exact ⟨cs,h1,hF.box (.inl rfl) (hold b h2.lt) h2⟩
 ·obtain ⟨B,rs,xs,h1,h2,h3,h4,h5,h6⟩:=h.buf i v hv
  exact ⟨B,rs,xs,h1,h2,h3,h4,h5.alloc _,fun i j y hy=>let ⟨u,hu,hr⟩:=h6 i j y hy; ⟨u,hu,hr.mono hst⟩⟩
 ·obtain ⟨B,rs,xs,h1,h2,h3,h4,h5,h6⟩:=h.bor i v hv
  exact ⟨B,rs,xs,h1,h2,h3,h4,h5.alloc _,fun i j y hy=>let ⟨u,hu,hr⟩:=h6 i j y hy; ⟨u,hu,hr.mono hst⟩⟩
theorem sw_back (h : HRep F H m w) (hf : ∀ i,k ≤ i → m.bx i = none ∧ m.bf i = none) {arr : Array Value} {e : TypeId} {H' : Hp} {m' : Mp} {w' : World} (h' : HRep (swF F H m k w (w.alloc (.cells arr e))) H' m' w')
  (hnl : ∀ id cs,look H'.box id = some cs → cs.all noLn = true) {id : Nat} (hid : m'.bx id = none) {cs : List AV} (hcs : arr.size = cs.length ∧ ∀ (j : Nat) x u,cs[j]? = some x → arr[j]? = some u → oneCell u = true ∧ ∃ c,x = .c c ∧ Rd w' (fun _=>False) c u) (hm : isM cs = false) :
  HRep F (H'.addBox id cs) (m'.addBx id w.heap.size) w' ∧ Frames (swF F H m k w (w.alloc (.cells arr e))) F H' (H'.addBox id cs) m' (m'.addBx id w.heap.size) w' w' false:=by
 have hsz:=alloc_size w (.cells arr e)
 have hold : ∀ c,c < w.heap.size → (w.alloc (.cells arr e)).heap[c]? = w.heap[c]?:=fun c hc=>Below.heap_alloc w _ c hc
 have hsz' : w.heap.size + 1 ≤ w'.heap.size:=by have:=h'.size; rw [← hsz]; exact this
 have hB0 : w.heap.size ∉ swG m k ++ brG F H:=by
  rw [List.mem_append,swG_own hf,brG_mem h]
  rintro (ho | ⟨i,v,h1,h2⟩)
  ·have:=own_lt h ho; omega
  ·have:=(h.brB i v _ h1 h2).2.1; have:=h.size; omega
 have hnew : w'.heap[w.heap.size]? = some (.cells arr e (0,0)):=by
  have:=h'.block w.heap.size (by show _ < (w.alloc (.cells arr e)).heap.size; omega) hB0
  rw [this]
  exact heap_alloc_new w _
 -- the new block is no callee's
 have hno : ¬ Own m' w.heap.size:=fun ho=>by
  rcases h'.fresh _ ho with h1 | h1
  ·have h1 : (w.alloc (.cells arr e)).heap.size ≤ w.heap.size:=h1
   omega
  ·exact hB0 (List.mem_append_left _ h1)
 have hbx : ∀ i,(m'.addBx id w.heap.size).bx i = if i = id then some w.heap.size else m'.bx i:=fun i=>rfl
 have hown : ∀ c,Own (m'.addBx id w.heap.size) c → c = w.heap.size ∨ Own m' c:=by
  rintro c (⟨i,hi⟩ | ⟨i,v,h1,h2⟩)
  ·rw [hbx] at hi
   split at hi
   ·cases hi; exact .inl rfl
   ·exact .inr (.inl ⟨i,hi⟩)
  ·exact .inr (.inr ⟨i,v,h1,h2⟩)
 have hst : Stays ((swF F H m k w (w.alloc (.cells arr e))).S m') (F.S (m'.addBx id w.heap.size)) w' w':=by
  intro c hS hc
  refine ⟨?_,rfl⟩
  rcases hS with ⟨⟨hS,h1⟩,h2,h3⟩ | ⟨h1,h2⟩
  ·have hn : ¬ Own (m'.addBx id w.heap.size) c:=fun ho=>by
    rcases hown c ho with rfl | ho
    ·omega
    ·rcases h'.fresh c ho with h4 | h4
     ·have h4 : (w.alloc (.cells arr e)).heap.size ≤ c:=h4
      omega
     ·exact h3 (List.mem_append_left _ h4)
   rcases hS with h4 | ⟨h4,_⟩
   ·exact .inl h4
   ·exact .inr ⟨h4,hn⟩
  ·have hcb : c ≠ w.heap.size:=fun e=>by
    subst e
    rcases h1 with h1 | h1
    ·have h1 : (w.alloc (.cells arr e)).heap.size ≤ w.heap.size:=h1
     omega
    ·exact hB0 (List.mem_append_left _ h1)
   have hn : ¬ Own (m'.addBx id w.heap.size) c:=fun ho=>(hown c ho).elim hcb h2
   refine .inr ⟨?_,hn⟩
   rcases h1 with h1 | h1
   ·have h1 : (w.alloc (.cells arr e)).heap.size ≤ c:=h1
    have:=h.size
    exact .inl (by omega)
   ·exact h.fresh c ((swG_own hf).1 h1)
 have hF : Frames (swF F H m k w (w.alloc (.cells arr e))) F H' (H'.addBox id cs) m' (m'.addBx id w.heap.size) w' w' false:=by
  refine ⟨hst,fun i b hb=>?_,rfl,rfl,rfl,rfl,fun h=>by cases h⟩
  rw [hbx,if_neg (fun e=>by rw [e,hid] at hb; cases hb)]; exact hb
 refine ⟨⟨?_,?_,?_,?_,?_,?_,h.gB,h.brB,h.bri,?_,?_,h'.iff,?_,?_,?_⟩,hF⟩
 ·exact h'.os.trans h.os
 ·exact h'.tape.trans h.tape
 ·exact h'.output.trans h.output
 ·have:=h.size; omega
 ·intro c h1 h2
  have:=h.size
  rw [h'.block c (by show c < (w.alloc (.cells arr e)).heap.size; omega) (sw_old h hf h1 h2)]
  exact (hold c (by omega)).trans (h.block c h1 h2)
 ·intro c ho
  rcases hown c ho with rfl | ho
  ·exact .inl h.size
  ·rcases h'.fresh c ho with h1 | h1
   ·have h1 : (w.alloc (.cells arr e)).heap.size ≤ c:=h1
    have:=h.size
    exact .inl (by omega)
   ·exact h.fresh c ((swG_own hf).1 h1)
 ·intro i j c hi hj
  rw [hbx] at hi hj
  split at hi <;> split at hj
  ·omega
  ·cases hi; exact absurd (.inl ⟨j,hj⟩) hno
  ·cases hj; exact absurd (.inl ⟨i,hi⟩) hno
  ·exact h'.ibb i j c hi hj
 ·intro i j c v hi hj hc
  rw [hbx] at hi
  split at hi
  ·cases hi; exact hno (.inr ⟨j,v,hj,hc⟩)
  ·exact h'.ibf i j c v hi hj hc
 ·intro i c hi
  rw [hbx] at hi
  by_cases he : i = id
  ·rw [if_pos he] at hi
   cases hi; subst he
   refine ⟨cs,by simp [Hp.addBox,look],BoxIs.of hnew hcs.1 fun j x u hx hu=>?_⟩
   obtain ⟨h1,c,rfl,h2⟩:=hcs.2 j x u hx hu
   exact ⟨h1,h2.none⟩
  ·rw [if_neg he] at hi
   obtain ⟨cs',h1,h2⟩:=h'.box i c hi
   refine ⟨cs',?_,hF.box (.inr (hnl i cs' h1)) rfl h2⟩
   show look ((id,cs) :: H'.box) i = _
   rw [look_add_ne _ _ _ _ he]; exact h1
 ·intro i v hv
  obtain ⟨B,rs,xs,h1,h2,h3,h4,h5,h6⟩:=h'.buf i v hv
  exact ⟨B,rs,xs,h1,h2,h3,h4,h5,fun i j y hy=>let ⟨u,hu,hr⟩:=h6 i j y hy; ⟨u,hu,hr.mono hst⟩⟩
 ·intro i v hv
  obtain ⟨B,rs,xs,h1,h2,h3,h4,h5,h6⟩:=h'.bor i v hv
  exact ⟨B,rs,xs,h1,h2,h3,h4,h5,fun i j y hy=>let ⟨u,hu,hr⟩:=h6 i j y hy; ⟨u,hu,hr.mono hst⟩⟩
end
end Go.Abs

namespace Go.Abs
set_option linter.unusedSimpArgs false
set_option linter.unusedVariables false
open Go.RowKit
variable {P : Program}

structure Lb where
 q : Nat
 b : Nat
 zs : List Value
 id : Nat
def zC (zs : List Value) : List AV:=zs.map fun v=>.c (ofC v)
theorem isM_zC (zs : List Value) : isM (zC zs) = false:=by
 match zs with
 | []=>rfl
 | [_]=>rfl
 | _ :: _ :: _=>rfl
inductive Sws (F0 : Fr) : Fr → List Lb → Prop where
 | nil : Sws F0 F0 []
 | cons {F : Fr} {L : List Lb} {H : Hp} {m : Mp} {w : World} {k : Nat} (h : Sws F0 F L) (hr : HRep F H m w) (hf : ∀ i,k ≤ i → m.bx i = none ∧ m.bf i = none) (arr : Array Value) (e : TypeId) (q id : Nat) (ho : arr.toList.all oneCell = true) :
   Sws F0 (swF F H m k w (w.alloc (.cells arr e))) (⟨q,w.heap.size,arr.toList,id⟩ :: L)
def addL : List Lb → Hp → Hp
 | [],H=>H
 | l :: L,H=>addL L (H.addBox l.id (zC l.zs))
def addM : List Lb → Mp → Mp
 | [],m=>m
 | l :: L,m=>addM L (m.addBx l.id l.b)
def NL (H : Hp) : Prop:=∀ id cs,look H.box id = some cs → cs.all noLn = true
theorem NL_add {H : Hp} (h : NL H) (id : Nat) (zs : List Value) : NL (H.addBox id (zC zs)):=by
 intro i cs hl
 by_cases he : i = id
 ·subst he
  have : look ((i,zC zs) :: H.box) i = some (zC zs):=by simp [look]
  rw [show (H.addBox i (zC zs)).box = (i,zC zs) :: H.box from rfl,this] at hl
  cases hl
  simp [zC,noLn]
 ·have : look ((id,zC zs) :: H.box) i = look H.box i:=look_add_ne _ _ _ _ he
  rw [show (H.addBox id (zC zs)).box = (id,zC zs) :: H.box from rfl,this] at hl
  exact h i cs hl
theorem addM_ne : ∀ {L : List Lb} {m : Mp} {i : Nat},(∀ l ∈ L,l.id ≠ i) → (addM L m).bx i = m.bx i
 | [],_,_,_=>rfl
 | l :: L,m,i,h=>by
  rw [addM,addM_ne fun l' hl'=>h l' (List.mem_cons_of_mem _ hl')]
  show (if i = l.id then _ else _) = _
  rw [if_neg fun e=>h l (List.mem_cons_self ..) e.symm]
theorem addM_bf : ∀ {L : List Lb} {m : Mp},(addM L m).bf = m.bf
 | [],_=>rfl
 | l :: L,m=>by rw [addM,addM_bf]; rfl
theorem addM_in : ∀ {L : List Lb} {m : Mp},(L.map (·.id)).Nodup → ∀ l ∈ L,(addM L m).bx l.id = some l.b
 | l0 :: L,m,hn,l,hl=>by
  rw [List.map_cons,List.nodup_cons] at hn
  rcases List.mem_cons.1 hl with rfl | hl
  ·rw [addM,addM_ne fun l' hl' he=>hn.1 (List.mem_map.2 ⟨l',hl',he⟩)]
   simp [Mp.addBx]
  ·exact addM_in hn.2 l hl
theorem addL_ne : ∀ {L : List Lb} {H : Hp} {i : Nat},(∀ l ∈ L,l.id ≠ i) → look (addL L H).box i = look H.box i
 | [],_,_,_=>rfl
 | l :: L,H,i,h=>by
  rw [addL,addL_ne fun l' hl'=>h l' (List.mem_cons_of_mem _ hl')]
  exact look_add_ne _ _ _ _ fun e=>h l (List.mem_cons_self ..) e.symm
theorem addL_in : ∀ {L : List Lb} {H : Hp},(L.map (·.id)).Nodup → ∀ l ∈ L,look (addL L H).box l.id = some (zC l.zs)
 | l0 :: L,H,hn,l,hl=>by
  rw [List.map_cons,List.nodup_cons] at hn
  rcases List.mem_cons.1 hl with rfl | hl
  ·rw [addL,addL_ne fun l' hl' he=>hn.1 (List.mem_map.2 ⟨l',hl',he⟩)]
   simp [Hp.addBox,look]
  ·exact addL_in hn.2 l hl
theorem addL_buf : ∀ {L : List Lb} {H : Hp},(addL L H).buf = H.buf ∧ (addL L H).bor = H.bor
 | [],_=>⟨rfl,rfl⟩
 | l :: L,H=>by rw [addL]; exact addL_buf (L:=L)
theorem Sws.back {F0 F : Fr} {L : List Lb} (h : Sws F0 F L) : ∀ {H : Hp} {m : Mp} {w : World},HRep F H m w → NL H → (L.map (·.id)).Nodup → (∀ l ∈ L,m.bx l.id = none) →
  HRep F0 (addL L H) (addM L m) w ∧ ∀ x v,noLn x = true → RepA F H m w x v → RepA F0 (addL L H) (addM L m) w x v:=by
 induction h with
 | nil=>intro H m w hr _ _ _; exact ⟨hr,fun _ _ _ h=>h⟩
 | cons h hr hf arr e q id ho ih =>
  intro H' m' w' hr' hnl hnd hid
  rw [List.map_cons,List.nodup_cons] at hnd
  obtain ⟨k1,k2⟩:=sw_back hr hf hr' hnl (hid _ (List.mem_cons_self ..)) (cs:=zC arr.toList) ⟨by simp [zC],fun j x u hx hu=>by
   simp only [zC,List.getElem?_map,Option.map_eq_some_iff] at hx
   obtain ⟨v,hv,rfl⟩:=hx
   have : v = u:=by simp at hv; rw [hu] at hv; exact (Option.some.inj hv).symm
   subst this
   have hone : oneCell v = true:=List.all_eq_true.1 ho v (List.mem_of_getElem? hv)
   exact ⟨hone,_,rfl,rd_ofC w' _ v hone⟩⟩ (isM_zC _)
  obtain ⟨g1,g2⟩:=ih k1 (NL_add hnl _ _) hnd.2 (fun l hl=>by
   show (if l.id = id then _ else _) = _
   rw [if_neg fun e : l.id = id=>hnd.1 (List.mem_map.2 ⟨l,hl,e⟩)]
   exact hid l (List.mem_cons_of_mem _ hl))
  refine ⟨g1,fun x v hx hv=>g2 x v hx (k2.rep (.inr hx) hv)⟩

theorem wp_put {o : Oper} {a : Act} {w : World} {K : Act → World → Prop} {Q : Exit → Act → World → Prop} (hh : o.wp P a w K Q) : o.wp P a w (fun a' w'=>K a' w' ∧ ∀ q,o.dst ≠ some q → a'.tmps.getD q undef = a.tmps.getD q undef) Q:=by
 have keep : ∀ (b : Act) (v : Value),b.tmps = a.tmps → ∀ q,o.dst ≠ some q → (b.put o.dst v).tmps.getD q undef = a.tmps.getD q undef:=by
  intro b v hb q hq
  cases hd : o.dst with
  | none=>simp [Act.put,hb]
  | some d =>
   have : d ≠ q:=fun e=>hq (by rw [hd,e])
   simp [Act.put,hb,Array.getElem?_setIfInBounds_ne this]
 unfold Oper.wp at *
 generalize (execOp a.eval o).run P w = r at *
 cases r with
 | ok n w' =>
  cases n <;> simp only [Oper.upon] at hh ⊢ <;>
   first
    | exact ⟨hh,keep _ _ rfl⟩
    | exact Calls.mono hh (fun e w'' he=>by cases e <;> first | exact ⟨he,keep _ _ rfl⟩ | exact he)
    | exact Rows.mono hh (fun _ _ he=>⟨he,keep _ _ rfl⟩)
 | halt x w'=>cases x <;> simp only [Oper.upon] at hh ⊢ <;> exact hh
theorem any_inv {ops : Array Oper} {Q : Exit → Act → World → Prop} (I : (Nat → Bool) → Act → World → Prop) (hedge : ∀ (i : Nat) o e,ops[i]? = some o → e ∈ o.after → Region.binds .any e = true → e.on < i)
  (hstep : ∀ (D : Nat → Bool) a w i o (K : Act → World → Prop),I D a w → ops[i]? = some o → D i = false → (∀ e ∈ o.after,Region.binds .any e = true → D e.on = true) → (∀ a' w',I (fun j=>j == i || D j) a' w' → K a' w') → wpOp P ops Q i K a w)
  (hQ : ∀ D a w,(∀ i,i < ops.size → D i = true) → I D a w → Q .normal a w) : ∀ (fuel : Nat) (listed : Array Bool) (a : Act) (w : World),listed.size = ops.size → ops.size ≤ fuel + (List.range ops.size).countP (fun i=>listed.getD i true) → I (fun i=>listed.getD i true) a w → wpAny P .any ops Q fuel listed a w:=by
 have hready : ∀ (listed : Array Bool) (i : Nat),listed.size = ops.size → i ∈ Region.ready .any ops listed → ∃ o,ops[i]? = some o ∧ listed.getD i true = false ∧ ∀ e ∈ o.after,Region.binds .any e = true → listed.getD e.on false = true:=fun listed i _ hi=>ready_mem.1 hi
 have hnone : ∀ (listed : Array Bool),listed.size = ops.size → Region.ready .any ops listed = [] → ∀ i,i < ops.size → listed.getD i true = true:=by
  intro listed hsz hr i
  induction i using Nat.strongRecOn with
  | _ i ih =>
   intro hi
   cases hl : listed.getD i true with
   | true=>rfl
   | false =>
    have hoi : ops[i]? = some ops[i]:=Array.getElem?_eq_getElem hi
    have : i ∈ Region.ready .any ops listed:=ready_mem.2 ⟨_,hoi,hl,fun e he hb=>by
     have hlt:=hedge i ops[i] e hoi he hb
     have:=ih e.on hlt (by omega)
     have hlt2 : e.on < listed.size:=by omega
     simp [hlt2] at this ⊢; exact this⟩
    rw [hr] at this
    cases this
 intro fuel
 induction fuel with
 | zero =>
  intro listed a w hsz hf hm
  have hall : ∀ i,i < ops.size → listed.getD i true = true:=by
   have hle : (List.range ops.size).countP (fun i=>listed.getD i true) ≤ (List.range ops.size).length:=List.countP_le_length
   have : (List.range ops.size).countP (fun i=>listed.getD i true) = (List.range ops.size).length:=by
    rw [List.length_range] at hle ⊢; omega
   rw [List.countP_eq_length] at this
   exact fun i hi=>this i (List.mem_range.2 hi)
  refine ⟨?_,hQ _ a w hall hm⟩
  cases hr : Region.ready .any ops listed with
  | nil=>rfl
  | cons i l =>
   obtain ⟨o,h1,h2,_⟩:=hready listed i hsz (by rw [hr]; exact List.mem_cons_self ..)
   have:=hall i (Array.getElem?_eq_some_iff.1 h1).1
   rw [h2] at this; cases this
 | succ fuel ih =>
  intro listed a w hsz hf hm
  refine ⟨fun hr=>hQ _ a w (hnone listed hsz hr) hm,fun i hi=>?_⟩
  obtain ⟨o,h1,h2,h3⟩:=hready listed i hsz hi
  have hil:=(Array.getElem?_eq_some_iff.1 h1).1
  have hset : (fun j=>(listed.setIfInBounds i true).getD j true) = fun j=>j == i || listed.getD j true:=by
   funext j
   by_cases hj : i = j
   ·subst hj; simp [show i < listed.size by omega]
   ·have : (j == i) = false:=by simp; omega
    simp [Array.getElem?_setIfInBounds_ne hj,this]
  refine hstep _ a w i o _ hm h1 h2 (fun e he hb=>?_) fun a' w' hm'=>ih _ a' w' (by simpa using hsz) ?_ (by rw [hset]; exact hm')
  ·have h4:=h3 e he hb
   have hlt : e.on < listed.size:=by
    rcases Nat.lt_or_ge e.on listed.size with h | h
    ·exact h
    ·simp [Array.getElem?_eq_none h] at h4
   simp [hlt] at h4 ⊢; exact h4
  ·rw [hset,countP_set _ i h2 _ List.nodup_range (List.mem_range.2 hil)]
   omega

structure Lt where
 i : Nat
 q : Nat
 zs : List Value
 id : Nat
def dum (o : Oper) : Oper:={ o with dst:=none,op:=.move (.global 0) }
structure LateOk (P : Program) (ops N : Array Oper) (T : List Lt) (g0 : Nat → AV) (n : Nat) : Prop where
 sz : N.size = ops.size
 g : ∀ (i : Nat) o,ops[i]? = some o → o.guard = none
 same : ∀ (i : Nat) o,ops[i]? = some o → (∀ t ∈ T,t.i ≠ i) → N[i]? = some o
 late : ∀ t ∈ T,∃ o e,ops[t.i]? = some o ∧ o.op = .alloc e ∧ o.dst = some t.q ∧ zeroO P e = some t.zs ∧ t.zs.all oneCell = true ∧ N[t.i]? = some (dum o) ∧ g0 t.q = .u ∧ t.q < n
 q : ∀ t ∈ T,∀ (i : Nat) o,N[i]? = some o → o.dst ≠ some t.q
 ii : ∀ t ∈ T,∀ t' ∈ T,t.i = t'.i → t = t'
 qq : ∀ t ∈ T,∀ t' ∈ T,t.q = t'.q → t = t'
 dd : ∀ t ∈ T,∀ t' ∈ T,t.id = t'.id → t = t'
structure LInv (P : Program) (cf : Cfg) (F0 : Fr) (N : Array Oper) (T : List Lt) (tr : List Step) (g0 : Nat → AV) (H0 : Hp) (n0 n : Nat) (D : Nat → Bool) (a : Act) (w : World) : Prop where
 h : ∃ F L,Sws F0 F L ∧ Mid cf F N tr g0 H0 n0 n D a w ∧ (L.map (·.id)).Nodup ∧ (∀ l ∈ L,∃ t ∈ T,l.id = t.id ∧ D t.i = true) ∧
  ∀ t ∈ T,D t.i = true → ∃ b,Lb.mk t.q b t.zs t.id ∈ L ∧ a.tmps.getD t.q undef = .pointer (some ⟨b,0,none⟩)
theorem LInv.step {cf : Cfg} {F0 : Fr} {ops N : Array Oper} {T : List Lt} {tr : List Step} {g0 : Nat → AV} {H0 : Hp} {n0 n : Nat} {B : Array Nat} {g' : Nat → AV} {H' : Hp} {nx' : Nat} (ok : LateOk P ops N T g0 n) (ho : OrdP cf g0 n0 N n B) (htr : TrP P cf true N.toList N.toList g0 H0 n0 tr g' H' nx') (hj0 : ∀ id,n0 ≤ id → look H0.box id = none)
  {D : Nat → Bool} {a : Act} {w : World} (hm : LInv P cf F0 N T tr g0 H0 n0 n D a w) {i : Nat} {o : Oper} (hi : ops[i]? = some o) (hD : D i = false) (hall : ∀ e ∈ o.after,Region.binds .any e = true → D e.on = true) {K : Act → World → Prop} {Q : Exit → Act → World → Prop}
  (hK : ∀ a' w',LInv P cf F0 N T tr g0 H0 n0 n (fun j=>j == i || D j) a' w' → K a' w') : wpOp P ops Q i K a w:=by
 obtain ⟨F,L,hsw,hmid,hnd,hL,hT⟩:=hm.h
 have hgd:=ok.g i o hi
 by_cases hlt : ∃ t ∈ T,t.i = i
 ·obtain ⟨t,ht,rfl⟩:=hlt
  obtain ⟨o',e,h1,h2,h3,h4,h5,h6,h7,h8⟩:=ok.late t ht
  rw [hi] at h1; cases h1
  unfold wpOp
  rw [hi]
  simp only [Region.wanted,hgd,if_true]
  obtain ⟨it,z,hit,hzz,hz⟩:=zeroO_some h4
  have hrun : (execOp a.eval o).run P w = .ok (.value (.pointer (some ⟨w.heap.size,0,none⟩))) (w.alloc (.cells z.cells e)):=by
   simp [execOp,h2,Instr.alloc,zeroValue,typeInfo,hit,hzz,newVar_run]
  have hex : Exec P o a.eval w fun v w'=>v = .pointer (some ⟨w.heap.size,0,none⟩) ∧ w' = w.alloc (.cells z.cells e):=by
   unfold Exec; rw [hrun]; exact ⟨rfl,rfl⟩
  refine .inl (hex.wp fun v w' ⟨hv,hw⟩=>hK _ _ ⟨?_⟩)
  subst hv; subst hw
  obtain ⟨m,k,hpk,hk,hwr,hrep,hfree,hloo,hsl⟩:=hmid.at_
  obtain ⟨f1,f2⟩:=sw_fwd hrep hfree (.cells z.cells e)
  have hput : ∀ q,q ≠ t.q → (a.put o.dst (.pointer (some ⟨w.heap.size,0,none⟩))).tmps.getD q undef = a.tmps.getD q undef:=fun q hq=>by
   rw [h3]
   simp [Act.put,Array.getElem?_setIfInBounds_ne (Ne.symm hq)]
  have hval : ∀ q,val N tr g0 (fun j=>j == t.i || D j) q = val N tr g0 D q:=by
   intro q
   unfold val
   cases hx : N.toList.findIdx? (fun o=>o.dst == some q) with
   | none=>rfl
   | some j =>
    have hji : j ≠ t.i:=fun he=>by
     obtain ⟨hlt2,hd,_⟩:=List.findIdx?_eq_some_iff_getElem.1 hx
     subst he
     have : N.toList[t.i] = dum o:=by
      have h9 : N.toList[t.i]? = some (dum o):=by rw [Array.getElem?_toList]; exact h6
      exact (List.getElem?_eq_some_iff.1 h9).2
     rw [this] at hd
     simp [dum] at hd
    have : (j == t.i) = false:=by simpa using hji
    simp [this]
  refine ⟨_,_,Sws.cons hsw hrep hfree z.cells e t.q t.id (by rw [hz]; exact h5),⟨by simp [h3,Act.put,hmid.d],by simp [h3,Act.put,hmid.sz],fun i' o' e' hi' hD' he hb=>?_,m,k,hpk,hk,fun j p hj hwp hpj=>?_,f1,hfree,fun j p hj hwp hpj hdj=>?_,fun q=>?_⟩,?_,?_,?_⟩
  ·simp only [Bool.or_eq_true,beq_iff_eq] at hD' ⊢
   rcases hD' with rfl | hD'
   ·rw [h6] at hi'; cases hi'; exact .inr (hall e' he hb)
   ·exact .inr (hmid.down i' o' e' hi' hD' he hb)
  ·have hji : j ≠ t.i:=fun e=>by subst e; rw [h6] at hj; cases hj; simp [dum,mayWc,mayW,ownOp,gOp] at hwp
   simp only [Bool.or_eq_true,beq_iff_eq,hji,false_or]
   exact hwr j p hj hwp hpj
  ·simp only [Bool.or_eq_false_iff] at hdj
   exact hloo j p hj hwp hpj hdj.2
  ·rw [hval q]
   by_cases hq : q = t.q
   ·subst hq
    have : val N tr g0 D t.q = .u:=by rw [val_none D fun j p hj=>ok.q t ht j p hj]; exact h7
    rw [this]; trivial
   ·rw [hput q hq]
    exact f2.rep (.inl rfl) (hsl q)
  ·rw [List.map_cons,List.nodup_cons]
   refine ⟨fun hin=>?_,hnd⟩
   obtain ⟨l,hl,he⟩:=List.mem_map.1 hin
   obtain ⟨t',ht',e1,e2⟩:=hL l hl
   have : t' = t:=ok.dd t' ht' t ht (by rw [← e1]; exact he)
   subst this
   rw [hD] at e2; cases e2
  ·intro l hl
   rcases List.mem_cons.1 hl with rfl | hl
   ·exact ⟨t,ht,rfl,by simp⟩
   ·obtain ⟨t',ht',e1,e2⟩:=hL l hl
    exact ⟨t',ht',e1,by simp [e2]⟩
  ·intro t' ht' hD'
   by_cases htt : t' = t
   ·subst htt
    refine ⟨w.heap.size,by rw [hz]; exact List.mem_cons_self ..,?_⟩
    rw [h3]
    simp [Act.put,hmid.sz,h8]
   ·have hne : t'.i ≠ t.i:=fun e=>htt (ok.ii t' ht' t ht e)
    have hqe : t'.q ≠ t.q:=fun e=>htt (ok.qq t' ht' t ht e)
    have : D t'.i = true:=by simpa [hne] using hD'
    obtain ⟨b,hb1,hb2⟩:=hT t' ht' this
    exact ⟨b,List.mem_cons_of_mem _ hb1,by rw [hput _ hqe]; exact hb2⟩
 ·have hne : ∀ t ∈ T,t.i ≠ i:=fun t ht e=>hlt ⟨t,ht,e⟩
  have hN:=ok.same i o hi hne
  have hs:=hmid.step (P:=P) (Q:=Q) rfl ho htr hj0 hN hD hall (K:=fun a' w'=>Mid cf F N tr g0 H0 n0 n (fun j=>j == i || D j) a' w') (fun _ _ h=>h)
  unfold wpOp at hs ⊢
  rw [hN] at hs
  rw [hi]
  simp only [Region.wanted,hgd,if_true] at hs ⊢
  rcases hs with hs | hs
  ·refine .inl (Oper.wp_mono (fun a' w' ⟨h1,h2⟩=>hK a' w' ⟨F,L,hsw,h1,hnd,fun l hl=>?_,fun t ht hD'=>?_⟩) (wp_put hs))
   ·obtain ⟨t,ht,e1,e2⟩:=hL l hl
    exact ⟨t,ht,e1,by simp [e2]⟩
   ·have : D t.i = true:=by simpa [hne t ht] using hD'
    obtain ⟨b,hb1,hb2⟩:=hT t ht this
    exact ⟨b,hb1,by rw [h2 t.q (ok.q t ht i o hN)]; exact hb2⟩
  ·exact .inr hs
end Go.Abs

namespace Go.Abs
set_option linter.unusedSimpArgs false
set_option linter.unusedVariables false
open Go.RowKit
variable {P : Program}

def lateSt : List Lt → St → St
 | [],st=>st
 | t :: T,st=>lateSt T ⟨st.n,(t.q,.bx st.nx 0) :: st.sl,st.H.addBox st.nx (zC t.zs),st.nx + 1⟩
def Ids : List Lt → Nat → Prop
 | [],_=>True
 | t :: T,k=>t.id = k ∧ Ids T (k + 1)
theorem Ids_ge : ∀ {T : List Lt} {k : Nat},Ids T k → ∀ t ∈ T,k ≤ t.id ∧ t.id < k + T.length
 | t0 :: T,k,h,t,ht=>by
  rcases List.mem_cons.1 ht with rfl | ht
  ·have:=h.1; simp only [List.length_cons]; omega
  ·have:=Ids_ge h.2 t ht; simp only [List.length_cons]; omega
theorem Ids_eq : ∀ {T : List Lt} {k : Nat},Ids T k → ∀ t ∈ T,∀ t' ∈ T,t.id = t'.id → t = t'
 | t0 :: T,k,h,t,ht,t',ht',he=>by
  have h0:=h.1
  rcases List.mem_cons.1 ht with e1 | g1 <;> rcases List.mem_cons.1 ht' with e2 | g2
  ·rw [e1,e2]
  ·have:=Ids_ge h.2 t' g2; rw [e1] at he; omega
  ·have:=Ids_ge h.2 t g1; rw [e2] at he; omega
  ·exact Ids_eq h.2 t g1 t' g2 he
theorem lateSt_same : ∀ {T : List Lt} {st : St},(lateSt T st).n = st.n ∧ (lateSt T st).nx = st.nx + T.length ∧ (lateSt T st).H.buf = st.H.buf ∧ (lateSt T st).H.bor = st.H.bor
 | [],st=>⟨rfl,rfl,rfl,rfl⟩
 | t :: T,st=>by
  obtain ⟨h1,h2,h3,h4⟩:=lateSt_same (T:=T) (st:=⟨st.n,(t.q,.bx st.nx 0) :: st.sl,st.H.addBox st.nx (zC t.zs),st.nx + 1⟩)
  exact ⟨h1,by rw [lateSt,h2]; simp only [List.length_cons]; omega,h3,h4⟩
theorem lateSt_get_ne : ∀ {T : List Lt} {st : St} {q : Nat},(∀ t ∈ T,t.q ≠ q) → (lateSt T st).get q = st.get q
 | [],st,q,_=>rfl
 | t :: T,st,q,h=>by
  rw [lateSt,lateSt_get_ne fun t' ht'=>h t' (List.mem_cons_of_mem _ ht')]
  have : (t.q == q) = false:=by simpa using h t (List.mem_cons_self ..)
  simp only [St.get,look,this]
  rfl
theorem lateSt_get_in : ∀ {T : List Lt} {st : St},Ids T st.nx → (∀ t ∈ T,∀ t' ∈ T,t.q = t'.q → t = t') → ∀ t ∈ T,(lateSt T st).get t.q = .bx t.id 0
 | t0 :: T,st,h,hq,t,ht=>by
  rcases List.mem_cons.1 ht with rfl | ht
  ·rw [lateSt,lateSt_get_ne fun t' ht' e=>by
    have:=hq t' (List.mem_cons_of_mem _ ht') t (List.mem_cons_self ..) e
    have h2:=Ids_ge h.2 t' ht'
    have h1:=h.1
    rw [this] at h2; omega]
   simp only [St.get,look,beq_self_eq_true,if_true,h.1]
  ·exact lateSt_get_in (st:=⟨st.n,(t0.q,.bx st.nx 0) :: st.sl,st.H.addBox st.nx (zC t0.zs),st.nx + 1⟩) h.2 (fun a ha b hb=>hq a (List.mem_cons_of_mem _ ha) b (List.mem_cons_of_mem _ hb)) t ht
theorem lateSt_box_ne : ∀ {T : List Lt} {st : St} {i : Nat},Ids T st.nx → (∀ t ∈ T,t.id ≠ i) → look (lateSt T st).H.box i = look st.H.box i
 | [],st,i,_,_=>rfl
 | t :: T,st,i,h,hne=>by
  rw [lateSt,lateSt_box_ne (st:=⟨st.n,(t.q,.bx st.nx 0) :: st.sl,st.H.addBox st.nx (zC t.zs),st.nx + 1⟩) h.2 fun t' ht'=>hne t' (List.mem_cons_of_mem _ ht')]
  have:=hne t (List.mem_cons_self ..)
  exact look_add_ne _ _ _ _ (fun e=>this (by rw [h.1,e]))
theorem lateSt_box_in : ∀ {T : List Lt} {st : St},Ids T st.nx → ∀ t ∈ T,look (lateSt T st).H.box t.id = some (zC t.zs)
 | t0 :: T,st,h,t,ht=>by
  rcases List.mem_cons.1 ht with rfl | ht
  ·rw [lateSt,lateSt_box_ne (st:=⟨st.n,(t.q,.bx st.nx 0) :: st.sl,st.H.addBox st.nx (zC t.zs),st.nx + 1⟩) h.2 fun t' ht' e=>by
    have:=Ids_ge h.2 t' ht'
    have:=h.1
    omega]
   simp [Hp.addBox,look,h.1]
  ·exact lateSt_box_in (st:=⟨st.n,(t0.q,.bx st.nx 0) :: st.sl,st.H.addBox st.nx (zC t0.zs),st.nx + 1⟩) h.2 t ht
def nlSt (st : St) : Bool:=st.sl.all (fun p=>noLn p.2) && st.H.box.all fun p=>p.2.all noLn
theorem look_all {α : Type} {p : α → Bool} {l : List (Nat × α)} (h : (l.all fun q=>p q.2) = true) {i : Nat} {x : α} (hl : look l i = some x) : p x = true:=List.all_eq_true.1 h _ (look_in hl)
theorem LInv.done {cf : Cfg} {F0 : Fr} {ops N : Array Oper} {T : List Lt} {tr : List Step} {st fin : St} {B : Array Nat} (ok : LateOk P ops N T st.get st.n) (ho : OrdP cf st.get st.nx N st.n B) (hn : fin.n = st.n) (htr : TrP P cf true N.toList N.toList st.get st.H st.nx tr fin.get fin.H fin.nx)
  (hnl : nlSt fin = true) (hids : Ids T fin.nx) {D : Nat → Bool} {a : Act} {w : World} (hall : ∀ i,i < ops.size → D i = true) (hm : LInv P cf F0 N T tr st.get st.H st.nx st.n D a w) : ∃ m,StRep F0 (lateSt T fin) m a w:=by
 obtain ⟨F,L,hsw,hmid,hnd,hL,hT⟩:=hm.h
 obtain ⟨hl,hg',hH',hN',hstep⟩:=TrP_at htr
 have hl2 : tr.length = N.size:=by simpa using hl
 obtain ⟨m,k,hpk,hk,hwr,hrep,hfree,hloo,hsl⟩:=hmid.at_
 have hall2 : ∀ i,i < N.size → D i = true:=fun i hi=>hall i (by rw [← ok.sz]; exact hi)
 have hconst : ∀ (i : Nat) o s,N[i]? = some o → tr[i]? = some s → mayWc cf o.op = false → s.H = HH tr st.H i ∧ s.nx = NN tr st.nx i:=by
  intro i o s ho hs hw
  have h:=hstep i o s (by simpa using ho) hs
  cases hb : s.b with
  | false=>exact (h.2.1 hb).2
  | true=>have:=(h.2.2 hb).2.2.2.1 rfl hw; exact ⟨this.1,this.2.1⟩
 have hc:=HH_const (H0:=st.H) (n0:=st.nx) hl2 hconst (N.size - k) k (by omega) (fun j o hj1 hj2 hj=>by
  cases hw : mayWc cf o.op with
  | false=>rfl
  | true=>have:=(hwr j o hj hw (by omega)).1 (hall2 j (by omega)); omega)
 rw [show k + (N.size - k) = N.size by omega] at hc
 have hlen : N.toList.length = N.size:=by simp
 rw [hlen] at hg' hH' hN'
 have hget : ∀ t,fin.get t = val N tr st.get D t:=by
  intro t
  rw [hg',G_val ho hl2 N.size (Nat.le_refl _) t]
  by_cases hex : ∃ (i : Nat) (o : Oper),N[i]? = some o ∧ o.dst = some t
  ·obtain ⟨i,o,hi,hd⟩:=hex
   have hil:=(Array.getElem?_eq_some_iff.1 hi).1
   have hsi : tr[i]? = some (tr[i]'(by omega)):=List.getElem?_eq_getElem _
   rw [val_dst ho hi hsi hd,val_dst ho hi hsi hd,hall2 i hil]
   simp [hil]
  ·rw [val_none,val_none]
   ·intro i o hi hd; exact hex ⟨i,o,hi,hd⟩
   ·intro i o hi hd; exact hex ⟨i,o,hi,hd⟩
 rw [← hc.1,← hH'] at hrep hsl
 rw [← hc.2,← hN'] at hfree
 simp only [nlSt,Bool.and_eq_true] at hnl
 have hNL : NL fin.H:=fun id cs h=>look_all (p:=fun cs : List AV=>cs.all noLn) hnl.2 h
 have hLt : ∀ l ∈ L,fin.nx ≤ l.id ∧ l.id < fin.nx + T.length:=fun l hl=>by
  obtain ⟨t,ht,e,_⟩:=hL l hl
  rw [e]; exact Ids_ge hids t ht
 obtain ⟨g1,g2⟩:=hsw.back hrep hNL hnd (fun l hl=>(hfree l.id (hLt l hl).1).1)
 obtain ⟨s1,s2,s3,s4⟩:=lateSt_same (T:=T) (st:=fin)
 have htin : ∀ t ∈ T,∃ b,Lb.mk t.q b t.zs t.id ∈ L ∧ a.tmps.getD t.q undef = .pointer (some ⟨b,0,none⟩):=fun t ht=>hT t ht (by
  obtain ⟨o,e,h1,_⟩:=ok.late t ht
  exact hall t.i (Array.getElem?_eq_some_iff.1 h1).1)
 obtain ⟨b1,b2⟩:=addL_buf (L:=L) (H:=fin.H)
 obtain ⟨k1,k2⟩:=g1.hp (H':=(lateSt T fin).H) (fun i b hb=>by
  by_cases hex : ∃ t ∈ T,t.id = i
  ·obtain ⟨t,ht,rfl⟩:=hex
   obtain ⟨b',hb',_⟩:=htin t ht
   rw [lateSt_box_in hids t ht]
   exact (addL_in hnd _ hb').symm
  ·rw [lateSt_box_ne hids fun t ht e=>hex ⟨t,ht,e⟩,addL_ne fun l hl e=>by
    obtain ⟨t,ht,e2,_⟩:=hL l hl
    exact hex ⟨t,ht,by rw [← e2]; exact e⟩]) (fun i B hB=>by rw [s3]; rw [b1] at hB; exact hB) (by rw [s4,b2])
 refine ⟨addM L m,hmid.d,by rw [s1,hn]; exact hmid.sz,k1,fun i hi=>?_,fun q=>?_⟩
 ·rw [s2] at hi
  rw [addM_ne fun l hl e=>by have:=(hLt l hl).2; omega,addM_bf]
  exact hfree i (by omega)
 ·by_cases hex : ∃ t ∈ T,t.q = q
  ·obtain ⟨t,ht,rfl⟩:=hex
   obtain ⟨b,hb,hv⟩:=htin t ht
   rw [lateSt_get_in hids ok.qq t ht,hv]
   exact ⟨b,addM_in hnd _ hb,rfl⟩
  ·rw [lateSt_get_ne fun t ht e=>hex ⟨t,ht,e⟩,hget q]
   refine k2.rep (g2 _ _ ?_ (hsl q))
   rw [← hget q]
   unfold St.get
   split
   ·rename_i x hx; exact look_all (p:=noLn) hnl.1 hx
   ·rfl

inductive Mk where
 | k
 | l
 | t
def mO : List Mk → List Oper → List Oper
 | .k :: ms,o :: os=>o :: mO ms os
 | .l :: ms,o :: os=>o :: mO ms os
 | _,_=>[]
def mR : List Mk → List Oper → List Oper
 | .k :: ms,o :: os=>o :: mR ms os
 | .l :: ms,o :: os=>dum o :: mR ms os
 | _,_=>[]
def mL : List Mk → List Oper → List Oper
 | .k :: ms,_ :: os=>mL ms os
 | .l :: ms,o :: os=>o :: mL ms os
 | _,_=>[]
def mT : List Mk → List Oper → List Oper
 | .k :: ms,_ :: os=>mT ms os
 | .l :: ms,_ :: os=>mT ms os
 | _,os=>os
def lateP (P : Program) : List Oper → St → (St → Prop) → Prop
 | [],st,K=>K st
 | o :: os,st,K=>match o.op,o.dst with
  | .alloc e,some q=>match zeroO P e with
   | some zs=>(zs.all oneCell = true ∧ q < st.n) ∧ lateP P os ⟨st.n,(q,.bx st.nx 0) :: st.sl,st.H.addBox st.nx (zC zs),st.nx + 1⟩ K
   | none=>False
  | _,_=>False
theorem mR_len : ∀ (ms : List Mk) (os : List Oper),(mR ms os).length = (mO ms os).length
 | [],_=>rfl
 | .k :: ms,[]=>rfl
 | .l :: ms,[]=>rfl
 | .t :: ms,[]=>rfl
 | .k :: ms,o :: os=>by simp only [mR,mO,List.length_cons,mR_len ms os]
 | .l :: ms,o :: os=>by simp only [mR,mO,List.length_cons,mR_len ms os]
 | .t :: ms,o :: os=>rfl
theorem late_T : ∀ (ms : List Mk) (os : List Oper) (i : Nat) (st : St) (K : St → Prop),lateP P (mL ms os) st K → ∃ T,Ids T st.nx ∧ K (lateSt T st) ∧
  (∀ t ∈ T,i ≤ t.i ∧ ∃ o e,(mO ms os)[t.i - i]? = some o ∧ o.op = .alloc e ∧ o.dst = some t.q ∧ zeroO P e = some t.zs ∧ t.zs.all oneCell = true ∧ (mR ms os)[t.i - i]? = some (dum o) ∧ t.q < st.n) ∧
  (∀ (j : Nat) o,(mO ms os)[j]? = some o → (∀ t ∈ T,t.i ≠ i + j) → (mR ms os)[j]? = some o) ∧ (∀ t ∈ T,∀ t' ∈ T,t.i = t'.i → t = t') ∧ T.map (·.q) = (mL ms os).filterMap (·.dst)
 | [],_,_,st,K,h=>⟨[],trivial,h,fun _ h=>(by cases h),fun j o h=>(by simp [mO] at h),fun _ h=>(by cases h),rfl⟩
 | .t :: _,_,_,st,K,h=>⟨[],trivial,by simpa [mL,lateP,lateSt] using h,fun _ h=>(by cases h),fun j o h=>(by simp [mO] at h),fun _ h=>(by cases h),by simp [mL]⟩
 | .k :: _,[],_,st,K,h=>⟨[],trivial,h,fun _ h=>(by cases h),fun j o h=>(by simp [mO] at h),fun _ h=>(by cases h),rfl⟩
 | .l :: _,[],_,st,K,h=>⟨[],trivial,h,fun _ h=>(by cases h),fun j o h=>(by simp [mO] at h),fun _ h=>(by cases h),rfl⟩
 | .k :: ms,o :: os,i,st,K,h=>by
  obtain ⟨T,h1,h2,h3,h4,h5,h6⟩:=late_T ms os (i + 1) st K h
  refine ⟨T,h1,h2,fun t ht=>?_,fun j p hj hne=>?_,h5,h6⟩
  ·obtain ⟨g1,o',e,g2,g3⟩:=h3 t ht
   have e1 : t.i - i = (t.i - (i + 1)) + 1:=by omega
   refine ⟨by omega,o',e,?_,g3.1,g3.2.1,g3.2.2.1,g3.2.2.2.1,?_,g3.2.2.2.2.2⟩
   ·rw [e1]; exact g2
   ·rw [e1]; exact g3.2.2.2.2.1
  ·match j with
   | 0=>exact hj
   | j + 1=>exact h4 j p (by simpa [mO] using hj) (fun t ht e=>hne t ht (by omega))
 | .l :: ms,o :: os,i,st,K,h=>by
  simp only [mL,lateP] at h
  split at h
  ·rename_i e q hop hd
   split at h
   ·rename_i zs hz
    obtain ⟨⟨hone,hq⟩,h⟩:=h
    obtain ⟨T,h1,h2,h3,h4,h5,h6⟩:=late_T ms os (i + 1) _ K h
    refine ⟨⟨i,q,zs,st.nx⟩ :: T,⟨rfl,h1⟩,h2,fun t ht=>?_,fun j p hj hne=>?_,fun t ht t' ht' he=>?_,?_⟩
    ·rcases List.mem_cons.1 ht with rfl | ht
     ·refine ⟨Nat.le_refl _,o,e,by simp [mO],hop,hd,hz,hone,by simp [mR],hq⟩
     ·obtain ⟨g1,o',e',g2,g3⟩:=h3 t ht
      have e1 : t.i - i = (t.i - (i + 1)) + 1:=by omega
      refine ⟨by omega,o',e',?_,g3.1,g3.2.1,g3.2.2.1,g3.2.2.2.1,?_,g3.2.2.2.2.2⟩
      ·rw [e1]; exact g2
      ·rw [e1]; exact g3.2.2.2.2.1
    ·match j with
     | 0=>exact absurd rfl (hne _ (List.mem_cons_self ..))
     | j + 1=>exact h4 j p (by simpa [mO] using hj) (fun t ht e=>hne t (List.mem_cons_of_mem _ ht) (by omega))
    ·rcases List.mem_cons.1 ht with e1 | g1 <;> rcases List.mem_cons.1 ht' with e2 | g2
     ·rw [e1,e2]
     ·have:=(h3 t' g2).1; rw [e1] at he; simp only at he; omega
     ·have:=(h3 t g1).1; rw [e2] at he; simp only at he; omega
     ·exact h5 t g1 t' g2 he
    ·simp only [mL,List.map_cons,List.filterMap_cons,hd,h6]
   ·exact h.elim
  ·exact h.elim

def tlQ (P : Program) : List Oper → Array Oper → (Exit → Act → World → Prop) → (Exit → Act → World → Prop)
 | [],_,Q=>Q
 | l :: ls,R,Q=>lastQ P (tlQ P ls (R.push l) Q) (R.push l) R.size
def tlOk : Array Oper → List Oper → Bool
 | _,[]=>true
 | R,l :: ls=>lastOk R l && tlOk (R.push l) ls
theorem any_tl : ∀ (ls : List Oper) (R : Array Oper) (Q : Exit → Act → World → Prop) (a : Act) (w : World),tlOk R ls = true → wpAny P .any R (tlQ P ls R Q) R.size (Array.replicate R.size false) a w →
  wpAny P .any (R ++ ls.toArray) Q (R ++ ls.toArray).size (Array.replicate (R ++ ls.toArray).size false) a w
 | [],R,Q,a,w,_,h=>by simpa [tlQ] using h
 | l :: ls,R,Q,a,w,hok,h=>by
  simp only [tlOk,Bool.and_eq_true] at hok
  have:=any_last (last_of hok.1) R.size (Array.replicate R.size false) a w (by simp) (fun i o e _ hi=>by simp [Array.getD] at hi) h
  have e1 : (Array.replicate R.size false).push false = Array.replicate (R.push l).size false:=by
   rw [Array.size_push]; exact Array.replicate_succ.symm
  rw [e1,show R.size + 1 = (R.push l).size by simp] at this
  have:=any_tl ls (R.push l) Q a w hok.2 this
  have e2 : R.push l ++ ls.toArray = R ++ (l :: ls).toArray:=by
   apply Array.ext'; simp
  rw [e2] at this
  exact this
theorem tl_run {cf : Cfg} (hcf : TblOk P cf) {F : Fr} {Q : Exit → St → Prop} {K : St → Prop} (hK : ∀ st,K st → Q .normal st) (tl : List Oper) : ∀ (ls : List Oper) (R : Array Oper) (st : St) (m : Mp) (a : Act) (w : World),tlOk R ls = true → evalOps P cf false tl ls st K → StRep F st m a w →
  tlQ P ls R (fun e a' w'=>∃ st' m',Q e st' ∧ StRep F st' m' a' w') .normal a w
 | [],R,st,m,a,w,_,h,hs=>⟨st,m,hK st h,hs⟩
 | l :: ls,R,st,m,a,w,hok,h,hs=>by
  simp only [tlOk,Bool.and_eq_true] at hok
  have hg:=(last_of hok.1).g
  have:=evalOps_sound hcf (ops:=R.push l) (F:=F) (K:=fun st'=>evalOps P cf false tl ls st' K) [l] R.size st m a w (tlQ P ls (R.push l) fun e a' w'=>∃ st' m',Q e st' ∧ StRep F st' m' a' w') (fun i hi=>by
   obtain rfl : i = 0:=by simpa using hi
   simp) (fun st m a w hk hs=>tl_run hcf hK tl ls (R.push l) st m a w hok.2 hk hs) hs (by
   simp only [evalOps,hg,Bool.false_and,gk_false] at h ⊢
   exact h)
  rw [List.length_singleton,show List.range' R.size 1 = [R.size] from rfl,wpOps_cons] at this
  exact this
def isU : AV → Bool
 | .u=>true
 | _=>false
def lateOk (ms : List Mk) (os : List Oper) (st : St) : Bool :=
 (mO ms os).all (fun o=>o.guard.isNone && o.after.toList.all fun e=>!Region.binds .any e || decide (e.on < (mO ms os).length)) && ((mL ms os).all fun o=>match o.dst with | some q=>isU (st.get q) && (mR ms os).all (fun p=>!(p.dst == some q)) | none=>false) && nodupB ((mL ms os).filterMap (·.dst)) && tlOk (mO ms os).toArray (mT ms os)
theorem map_inj {T : List Lt} (h : nodupB (T.map (·.q)) = true) : ∀ t ∈ T,∀ t' ∈ T,t.q = t'.q → t = t':=by
 intro t ht t' ht' he
 obtain ⟨i,hi⟩:=List.getElem?_of_mem ht
 obtain ⟨j,hj⟩:=List.getElem?_of_mem ht'
 have:=nodupB_inj h (i:=i) (j:=j) (x:=t.q) (by simp [hi]) (by simp [hj,he])
 subst this
 rw [hi] at hj; cases hj; rfl
theorem awp_late {cf : Cfg} (hcf : TblOk P cf) {F : Fr} {Q : Exit → St → Prop} {st : St} {id : Nat} {ops : Array Oper} (ms : List Mk)
  (h : ∀ K : St → Prop,(∀ st,Q .normal st → K st) → evalOps P cf true (mR ms ops.toList) (mR ms ops.toList) st (fun st'=>nlSt st' = true ∧ lateP P (mL ms ops.toList) st' (fun st2=>evalOps P cf false (mT ms ops.toList) (mT ms ops.toList) st2 K)))
  (hsp : mO ms ops.toList ++ mT ms ops.toList = ops.toList:=by rfl) (hmix : P.follows .mixedOrders = true:=by kernel_rfl) (hord : ordOkS cf st (mR ms ops.toList).toArray (Region.before (mR ms ops.toList).toArray) = true:=by kernel_rfl) (hok : lateOk ms ops.toList st = true:=by kernel_rfl) : AWp P F (.region id ops true) Q st:=by
 intro m a w hs
 refine wp_region_any hmix ?_
 generalize hos : ops.toList = os at *
 have eops : ops = (mO ms os).toArray ++ (mT ms os).toArray:=by apply Array.ext'; rw [hos]; simpa using hsp.symm
 simp only [lateOk,Bool.and_eq_true] at hok
 obtain ⟨⟨⟨hk1,hk2⟩,hk3⟩,hk4⟩:=hok
 rw [eops]
 refine any_tl (mT ms os) (mO ms os).toArray _ a _ hk4 ?_
 obtain ⟨hord1,hord2⟩:=Bool.and_eq_true_iff.1 hord
 have ho:=ord_of hord1
 have hj0 : ∀ id,st.nx ≤ id → look st.H.box id = none:=fun id hid=>look_none fun p hp=>by
  have:=of_decide_eq_true (List.all_eq_true.1 hord2 p hp)
  omega
 obtain ⟨tr,fin,hfin,hn,htr⟩:=evalOps_tr hcf (mR ms os) st (fun o hom t ht=>by
  obtain ⟨i,hi⟩:=List.getElem?_of_mem hom
  exact ho.dst i o t (by simpa using hi) ht) (h _ fun _ h=>h)
 obtain ⟨hnl,hfin⟩:=hfin
 obtain ⟨T,t1,t2,t3,t4,t5,t6⟩:=late_T ms os 0 fin _ hfin
 have hlen:=mR_len ms os
 have hTL : ∀ t ∈ T,∃ o ∈ mL ms os,o.dst = some t.q:=fun t ht=>by
  have : t.q ∈ T.map (·.q):=List.mem_map.2 ⟨t,ht,rfl⟩
  rw [t6] at this
  obtain ⟨o,ho,hd⟩:=List.mem_filterMap.1 this
  exact ⟨o,ho,hd⟩
 have hchk : ∀ t ∈ T,isU (st.get t.q) = true ∧ (mR ms os).all (fun p=>!(p.dst == some t.q)) = true:=fun t ht=>by
  obtain ⟨o,ho,hd⟩:=hTL t ht
  have:=List.all_eq_true.1 hk2 o ho
  simp only [hd,Bool.and_eq_true] at this
  exact this
 have ok : LateOk P (mO ms os).toArray (mR ms os).toArray T st.get st.n:=by
  refine ⟨by simp [hlen],fun i o hi=>?_,fun i o hi hne=>?_,fun t ht=>?_,fun t ht i o hi hd=>?_,t5,map_inj (by rw [t6]; exact hk3),Ids_eq t1⟩
  ·have:=List.all_eq_true.1 hk1 o (List.mem_of_getElem? (by simpa using hi))
   simp only [Bool.and_eq_true,Option.isNone_iff_eq_none] at this
   exact this.1
  ·have:=t4 i o (by simpa using hi) (by simpa using hne)
   simpa using this
  ·obtain ⟨_,o,e,g1,g2,g3,g4,g5,g6,g7⟩:=t3 t ht
   refine ⟨o,e,by simpa using g1,g2,g3,g4,g5,by simpa using g6,?_,by rw [← hn]; exact g7⟩
   have:=(hchk t ht).1
   generalize st.get t.q = x at this
   cases x <;> first | rfl | cases this
  ·have:=List.all_eq_true.1 (hchk t ht).2 o (List.mem_of_getElem? (by simpa using hi))
   simp [hd] at this
 obtain ⟨hr1,hr2⟩:=drew_rep hs.h
 have htr' : TrP P cf true (mR ms os).toArray.toList (mR ms os).toArray.toList st.get st.H st.nx tr fin.get fin.H fin.nx:=by simpa using htr
 have hl2 : tr.length = (mR ms os).toArray.size:=by have:=(TrP_at htr').1; simpa using this
 have hsz : (mO ms os).toArray.size = (mR ms os).toArray.size:=ok.sz.symm
 refine any_inv (LInv P cf F (mR ms os).toArray T tr st.get st.H st.nx st.n) (fun i o e hi he hb=>?_) (fun D a w i o K hI hi hD hall hK=>LInv.step ok ho htr' hj0 hI hi hD hall hK) (fun D a w hall hI=>?_) _ _ a _ (by simp) (by omega) ⟨F,[],.nil,?_,List.nodup_nil,fun l hl=>(by cases hl),fun t ht hD=>?_⟩
 ·by_cases hex : ∃ t ∈ T,t.i = i
  ·obtain ⟨t,ht,rfl⟩:=hex
   obtain ⟨o',e',g1,_,_,_,_,g6,_⟩:=ok.late t ht
   rw [hi] at g1; cases g1
   exact ho.edge t.i _ e g6 he hb
  ·exact ho.edge i o e (ok.same i o hi fun t ht e=>hex ⟨t,ht,e⟩) he hb
 ·obtain ⟨m2,hs2⟩:=LInv.done ok ho hn htr' hnl t1 hall hI
  exact tl_run hcf (fun st h=>h) (mT ms os) (mT ms os) (mO ms os).toArray _ m2 a w hk4 t2 hs2
 ·have hfalse : ∀ i,i < (mR ms os).toArray.size → (Array.replicate (mO ms os).toArray.size false).getD i true = false:=fun i hi=>by
   rw [hsz]; simp [Array.getD]; simpa using hi
  have hpl:=pre_le (cf:=cf) (mR ms os).toArray
  obtain ⟨f1,f2,_⟩:=pre_facts rfl htr' hl2 hj0 (pre cf (mR ms os).toArray) 0 (by omega) hj0
  rw [Nat.zero_add] at f1 f2
  obtain ⟨g1,g2⟩:=hr1.hp (H':=HH tr st.H (pre cf (mR ms os).toArray)) (fun i b hb=>by
   obtain ⟨cs,h1,_⟩:=hr1.box i b hb
   rw [h1]; exact f2.1.1 i cs h1) (fun i B hB=>by rw [f2.2]; exact hB) f2.1.2
  refine ⟨hs.d,hs.sz,fun i o e hi hD=>?_,m,pre cf (mR ms os).toArray,Nat.le_refl _,hpl,fun j o hj hw hpj=>?_,g1,fun i hi=>hs.fr i (Nat.le_trans f1 hi),fun j o hj hw hpj _=>(hs.fr _ ?_).1,fun t=>?_⟩
  ·rw [hfalse i (Array.getElem?_eq_some_iff.1 hi).1] at hD; cases hD
  ·rw [hfalse j (Array.getElem?_eq_some_iff.1 hj).1]; simp; omega
  ·have:=(pre_facts rfl htr' hl2 hj0 j 0 (by omega) hj0).1
   rw [Nat.zero_add] at this
   exact this
  ·have : val (mR ms os).toArray tr st.get (fun i=>(Array.replicate (mO ms os).toArray.size false).getD i true) t = st.get t:=by
    by_cases hex : ∃ (i : Nat) (o : Oper),(mR ms os).toArray[i]? = some o ∧ o.dst = some t
    ·obtain ⟨i,o,hi,hd⟩:=hex
     have hil:=(Array.getElem?_eq_some_iff.1 hi).1
     have hsi : tr[i]? = some (tr[i]'(by omega)):=List.getElem?_eq_getElem _
     rw [val_dst ho hi hsi hd,hfalse i hil]; simp
    ·exact val_none _ (fun i o hi hd=>hex ⟨i,o,hi,hd⟩)
   rw [this]
   exact g2.rep (hr2.rep (hs.sl t))
 ·obtain ⟨o,e,h1,_⟩:=ok.late t ht
  have hil:=(Array.getElem?_eq_some_iff.1 h1).1
  rw [show (Array.replicate (mO ms os).toArray.size false).getD t.i true = false by simp [Array.getD]; simpa using hil] at hD
  cases hD
attribute [go_sem] mR mL mT dum lateP zC nlSt noLn noLnT
end Go.Abs

namespace Go.Proofs.Ytncededjmcmidaa
set_option linter.unusedSimpArgs false
set_option linter.unusedVariables false
open Go.Abs Go.Proofs.NatL

def vcA (v : Vl) : List AV:=[.c (.i .i64 v.k),.c (.b v.a),.c (.ints .u32 v.x),.c (.b v.b),.c (.ints .u32 v.y),.c (.str v.t),.c (.i .i64 v.r)]
attribute [go_sem] vcA
end Go.Proofs.Ytncededjmcmidaa

namespace Go.Proofs.Ytncededjmcmidaa
set_option linter.unusedSimpArgs false
set_option linter.unusedVariables false
open Go.Abs Go.Proofs.NatL Go.ChangeShapes Go.WideShapes Go.ChangeAt Go.RowKit

theorem own_knob : ownKnob Try.prog.godebug = none:=by kernel_rfl
theorem kids : Kids Try.prog (· < Try.prog.types.size):=kids_rows (by kernel_rfl) (by kernel_rfl)
theorem full : ∀ t e,t < Try.prog.types.size → Try.prog.underlying t = some (.slice e) → 0 < Try.prog.cellsOf e:=slices_full_of Try.prog (by kernel_rfl)
end Go.Proofs.Ytncededjmcmidaa

namespace Go.Proofs.Ytncededjmcmidaa
set_option linter.unusedSimpArgs false
set_option linter.unusedVariables false
open Go.Abs Go.Proofs.NatL Go.ChangeShapes Go.WideShapes Go.ChangeAt Go.RowKit
theorem cells_int : Try.prog.cellsOf 3 = 1:=by kernel_rfl
theorem bytes_int : Try.prog.bytesOf 3 = 8:=by kernel_rfl
set_option maxRecDepth 100000 in
theorem open_ints {H : Type} {enc : TypeId × Value → H} {W : World} {base : Nat} {v : Value} {d : DataW H} {p : List MemPlace} (hval : Value.okWide Try.prog W .any base 22 v) (h : DataW.Trod enc Try.prog W 0 (fun _=>true) true 22 v d p) (hs : Sized Try.prog 22 d) :
  ∃ xs : List Int,Rd W Top (.ints .i64 xs) v ∧ xs.length ≤ 140737488355328 ∧ ∀ x ∈ xs, -9223372036854775808 ≤ x ∧ x ≤ 9223372036854775807:=by
 obtain ⟨fuel,hf⟩:=h
 obtain ⟨xs,u,hu,ho,hrd,hm,hw,hd⟩:=rd_ints Try.underlying22 Try.underlying3 cells_int hf
 obtain rfl:=one_of Try.underlying22 rfl hval hu ho
 have hl:=szd_slice (n:=xs.length) Try.underlying22 hs (by
  rcases hd with ⟨h1,h2⟩ | h1
  ·exact .inl ⟨h1,by rw [h2]; rfl⟩
  ·exact .inr h1)
 rw [bytes_int] at hl
 exact ⟨xs,hrd,by simp only [reachBytes] at hl; omega,fun x hx=>bounds_i64 (hw x hx)⟩

end Go.Proofs.Ytncededjmcmidaa
