import Derived.Test.YtncededjmcmidaaX9
namespace Go.Proofs.Ytncededjmcmidaa
set_option linter.unusedSimpArgs false
set_option linter.unusedVariables false
open Go.Abs Go.Proofs.NatL

theorem wG_3 {l : List Int} : ∀ (m : Nat) (k : Int) (os : List Ob),os.length + m ≤ 58 → okSd l k → WOk os → (∀ o ∈ os,o.k = 2 → o.it.length ≤ 3) → ∀ o ∈ (wG l m k os).1,o.k = 2 → o.it.length ≤ 3
 | 0,k,os,_,_,_,h3=>h3
 | m + 1,k,os,hm,h,hw,h3=>by
  have g:=s2_ok (os:=os) h
  have g3:=s2_3 (os:=os) h
  refine wG_3 m _ (os ++ [(s2 os.length l (s1 os l k)).1]) (by simp; omega) g.1 (wok_app hw (by omega) g.2.1) fun o ho e=>?_
  rcases List.mem_append.1 ho with ho | ho
  ·exact h3 o ho e
  ·rw [List.mem_singleton.1 ho] at e ⊢; exact g3 e
theorem lG_ok {l : List Int} : ∀ (m i : Nat) (k : Int) (os : List Ob),i + m ≤ os.length → okSd l k → WOk os → (∀ j,i ≤ j → j < os.length → (os.getD j ob0).k = 2 → (os.getD j ob0).it.length ≤ 3) → okSd l (lG l m i k os).2 ∧ WOk (lG l m i k os).1 ∧ (lG l m i k os).1.length = os.length
 | 0,i,k,os,_,h,hw,_=>⟨h,hw,rfl⟩
 | m + 1,i,k,os,hm,h,hw,h3=>by
  have hi : i < os.length:=by omega
  have g:=wok_set (i:=i) hw h hi (h3 i (Nat.le_refl _) hi)
  have r:=lG_ok m (i + 1) (lO os.length l k (os.getD i ob0)).2 (os.set i (lO os.length l k (os.getD i ob0)).1) (by simp; omega) g.1 g.2 fun j hj hjl e=>by
   rw [obSet_ne (by omega)] at e ⊢
   exact h3 j (by omega) (by simpa using hjl) e
  exact ⟨r.1,r.2.1,by simp only [lG]; rw [r.2.2]; simp⟩
theorem wF_ok {l : List Int} {k : Int} (h : okSd l k) : okSd l (wF l k).2 ∧ WOk (wF l k).1 ∧ (wF l k).1.length = 51 + (nxV l k 8).toNat:=by
 have hx8:=nxV_in l k (n:=8) (by omega)
 have h1:=wG_ok (l:=l) ((nxV l k 8).toNat + 1) (nxK l k) os0 (by rw [os0_len]; omega) (nxK_ok h) os0_ok
 have h2:=wG_3 (l:=l) ((nxV l k 8).toNat + 1) (nxK l k) os0 (by rw [os0_len]; omega) (nxK_ok h) os0_ok os0_k
 have hl:=os0_len
 have h3:=lG_ok (l:=l) ((nxV l k 8).toNat + 1) 50 _ _ (by rw [h1.2.2]; omega) h1.1 h1.2.1 fun j _ hj e=>h2 _ (at_mem hj) e
 exact ⟨h3.1,h3.2.1,by show (lG _ _ _ _ _).1.length = _; rw [h3.2.2,h1.2.2]; omega⟩
def worldCT : CT:=mkCTG fun H al K=>match H,al with
 | ⟨[(0,[.c (.ints .i64 l),.c (.i .i64 k)])],[],[]⟩,[.bx 0 0]=>okSd l k ∧ (okSd l (wF l k).2 → WOk (wF l k).1 → K (woH l (wF l k).2 (wF l k).1) [.g [.sl 10 ((wF l k).1.map obC)],.c (.i .i64 50)])
 | _,_=>False
def h15a : Cfg:=addT 11 worldCT cf0
theorem h15a_ok : TblOk Try.prog h15a:=ctg_ok cf0_ok Try.func11 fun H al K h=>by
 split at h
 ·rename_i l k
  have t:=wF_ok h.1
  exact ⟨_,_,world_ret l k h.1,h.2 t.1 t.2.1⟩
 ·exact h.elim
attribute [go_sem] worldCT woH
end Go.Proofs.Ytncededjmcmidaa

namespace Go.Abs
set_option linter.unusedSimpArgs false
set_option linter.unusedVariables false
open Go.RowKit
variable {P : Program}
theorem ret_of_g {f : FuncId} {aa : List (C ⊕ List C)} {H' : Hp} {rs : List AV} {l : List (C ⊕ List C)} (h : RetG P f ⟨[],[],[]⟩ (aa.map q_y) H' rs) (hl : argsO H' false rs = some l) : Ret P f false aa (resAV l):=by
 intro w S vs hsz hvs
 have hs:=start_rep (n:=aa.length) (Nat.le_refl _) hsz hvs
 have hcall:=h w (fun b=>S b) [] ⟨fun _=>none,fun _=>none⟩ vs (fun _=>0) hs.h (fun i hi=>by simp at hi) (fun _ _=>rfl) (fun _ _=>rfl) (by simpa using hsz) (fun j y u hy hu=>by
  rw [List.getElem?_map] at hy
  obtain ⟨y',hy',rfl⟩:=Option.map_eq_some_iff.1 hy
  have hr:=hvs j y' u hy' hu
  have hst : Stays S (Fr.S ⟨w,fun b=>S b,[],[],fun _=>none⟩ ⟨fun _=>none,fun _=>none⟩) w w:=fun b hb hlt=>⟨.inl ⟨hb,hlt,by simp⟩,rfl⟩
  cases y' with
  | inl x=>exact Rd.mono hst hr
  | inr xs=>obtain ⟨us,rfl,hr⟩:=hr; exact ⟨us,rfl,hr.mono hst⟩)
 refine hcall.mono fun e w' ⟨m',vs',v,he,hrep,_,hlen,hv,hres⟩=>⟨v,he,⟨hrep.os,hrep.tape,hrep.output,hrep.size,fun k hk=>hrep.block k hk (by simp)⟩,?_⟩
 obtain ⟨hal,hai⟩:=argsO_spec hl
 have hS : ∀ (j : Nat) y u,l[j]? = some y → vs'[j]? = some u → RdS w' (fun b=>(false = false ∧ S b ∧ b < w.heap.size) ∨ w.heap.size ≤ b) y u:=by
  intro j y u hy hu
  have hj:=(List.getElem?_eq_some_iff.1 hy).1
  rw [hal] at hj
  have hx:=List.getElem?_eq_getElem hj
  have hr:=argO_rep (own:=true) rfl (fun _ _ h=>h) hrep (hai j _ y hx hy) (fun _=>rfl) (hres j _ u hx hu)
  refine RdS.mono (fun b hb hlt=>?_) (RdS.mono (callS_out hrep true) hr)
  refine ⟨?_,rfl⟩
  rcases hb with ⟨h1,h2⟩ | h1 | h1
  ·exact .inl ⟨rfl,h1,h2⟩
  ·exact .inr h1
  ·simp at h1
 subst hv
 have hll : vs'.length = l.length:=by omega
 rcases vs' with _ | ⟨v1,_ | ⟨v2,vs'⟩⟩ <;> rcases l with _ | ⟨y1,_ | ⟨y2,l'⟩⟩
 ·exact ⟨_,rfl,rfl,by simp⟩
 ·simp at hll
 ·simp at hll
 ·simp at hll
 ·have:=hS 0 y1 v1 rfl rfl
  cases y1 with
  | inl y=>exact this
  | inr y=>exact this
 ·simp at hll
 ·simp at hll
 ·simp at hll
 ·exact ⟨_,rfl,by simp at hll ⊢; omega,fun j y u hy hu=>hS j y u hy (by simpa using hu)⟩
end Go.Abs

namespace Go.Proofs.Ytncededjmcmidaa
set_option linter.unusedSimpArgs false
set_option linter.unusedVariables false
open Go.Abs Go.Proofs.NatL

theorem keyF_z (os : List Ob) (v : Vl) : (keyF os v).2.1 = 0 → (keyF os v).2.2 = 0:=by
 intro h
 have hk:=cvL_key os 1000 [v] []
 have hkF : keyF os v = keyG os 1000 [v] []:=rfl
 rw [hkF] at h ⊢
 by_cases h0 : (cvL os 1000 [v] []).2.2.1 = 0
 ·rw [(hk.1 h0).1]
 ·rw [hk.2 h0] at h; exact absurd h h0
def hashHCT : CT:=mkCT [.inr [none],nVal] true fun l K=>match l with
 | [.inr [.sl 10 rows],.inr [.i .i64 k,.b a,.ints .u32 x,.b b,.ints .u32 y,.str t,.i .i64 r]]=>((rows = (dO rows).map obC ∧ ∀ o ∈ dO rows,Pr o) ∧ HOk (dO rows) ∧ OkW (dO rows).length ⟨k,a,x,b,y,t,r⟩) ∧
  ((keyF (dO rows) ⟨k,a,x,b,y,t,r⟩).2.1 = 0 → K (.t [.inl (.i .u64 (hsF (keyF (dO rows) ⟨k,a,x,b,y,t,r⟩).1 hs0)),.inr [.i .i64 0,.i .i64 0]])) ∧
  ((keyF (dO rows) ⟨k,a,x,b,y,t,r⟩).2.1 ≠ 0 → K (.t [.inl (.i .u64 0),.inr [.i .i64 (keyF (dO rows) ⟨k,a,x,b,y,t,r⟩).2.1,.i .i64 (keyF (dO rows) ⟨k,a,x,b,y,t,r⟩).2.2]]))
 | _=>False
def h23b : Cfg:=addT 15 hashHCT cf0
theorem h23b_ok : TblOk Try.prog h23b:=q_I cf0_ok Try.func15 fun l K h=>by
 split at h
 ·rename_i rows k a x b y t r
  obtain ⟨⟨⟨h1,h2⟩,h3,h4⟩,hK1,hK2⟩:=h
  have hv:=hash_ret (dO rows) ⟨k,a,x,b,y,t,r⟩ h2 h3 h4
  have hz:=keyF_z (dO rows) ⟨k,a,x,b,y,t,r⟩
  rw [← h1] at hv
  generalize keyF (dO rows) ⟨k,a,x,b,y,t,r⟩ = X at *
  by_cases h0 : X.2.1 = 0
  ·rw [if_pos h0,h0,hz h0] at hv
   exact ⟨_,hv.plain rfl,hK1 h0⟩
  ·rw [if_neg h0] at hv
   exact ⟨_,hv.plain rfl,hK2 h0⟩
 ·exact h.elim
attribute [go_sem] hashHCT
def classesP : CT:=mkCT [] false fun l K=>match l with
 | []=>K (.g [.sl 10 ((clL 49).map obC)])
 | _=>False
def h23d : Cfg:=addT 43 classesP cf0
theorem h23d_ok : TblOk Try.prog h23d:=q_I cf0_ok Try.func43 fun l K h=>by
 split at h
 ·exact ⟨_,ret_of_g classes_ret (l:=[.inr [.sl 10 ((clL 49).map obC)]]) rfl,h⟩
 ·exact h.elim
attribute [go_sem] classesP
end Go.Proofs.Ytncededjmcmidaa

namespace Go.Proofs.Ytncededjmcmidaa
set_option linter.unusedSimpArgs false
set_option linter.unusedVariables false
open Go.Abs Go.Proofs.NatL

theorem cl_hok : HOk (clL 49):=⟨by rw [clL_len]; omega,fun o ho h1=>by have:=(clL_k 49 o ho).1; omega⟩
theorem cl_pr : ∀ o ∈ clL 49,Pr o:=fun o ho=>.inl (clL_k 49 o ho).2.1
theorem five_code (os : List Ob) : keyF os (intV 5) = ([2,0,1,5,0,0,0],0,0):=by
 have e : dg 4294967296 5 = [5]:=by
  have:=dg_small 5 (by omega)
  simpa using this
 rw [int_code 5 (by omega)]
 simp [plB,intV,e,intB,hbs,hdg]
theorem nil_code (os : List Ob) : keyF os ⟨0,false,[],false,[],ByteArray.empty,0⟩ = ([0],0,0):=by simp [keyF,keyG,plB]
theorem un_code (os : List Ob) : keyF os ⟨9,false,[],false,[],ByteArray.empty,0⟩ = ([],27, -2):=by simp [keyF,keyG]
theorem str5 : ((strOf [2,0,1,5,0,0,0]).toList == (ByteArray.mk #[2,0,1,5,0,0,0]).toList) = true:=by
 rw [str_eq,bytes_strOf _ (by unfold InB; decide)]; decide
theorem okW_zero (n : Nat) (k : Int) (h : 0 ≤ k ∧ k ≤ 9 ∧ k ≠ 6) : OkW n ⟨k,false,[],false,[],ByteArray.empty,0⟩:=⟨⟨⟨by simp,inB_nil _⟩,⟨by simp,inB_nil _⟩,by simp,by simp only; omega,by simp only; omega⟩,fun h6=>by simp only at h6; omega⟩
def ha16 : Cfg:=listT [(14,codeCT),(15,hashHCT),(43,classesP),(19,hashedCT),(45,integerCT),(25,atCT)] [39]
theorem ha16_ok : TblOk Try.prog ha16:=listE_ok (by simp only [List.mem_singleton,forall_eq]; exact flt) ⟨⟨h22b,h22b_ok,rfl⟩,⟨h23b,h23b_ok,rfl⟩,⟨h23d,h23d_ok,rfl⟩,⟨h22c,h22c_ok,rfl⟩,⟨h2a,h2a_ok,rfl⟩,⟨cf2,cf2_ok,rfl⟩,trivial⟩
attribute [go_sem] ha16
set_option maxRecDepth 100000 in
set_option maxHeartbeats 8000000 in
theorem keys_ret : Ret Try.prog 18 false [] (.c (.b true)):=by
 have hd:=dO_map cl_pr
 have hok:=cl_hok
 have hpr:=cl_pr
 have h5:=five_code (clL 49)
 have h0:=nil_code (clL 49)
 have h9:=un_code (clL 49)
 have w5:=okW_int (clL 49).length 5 (by decide)
 have w0:=okW_zero (clL 49).length 0 (by omega)
 have w9:=okW_zero (clL 49).length 9 (by omega)
 generalize hos : clL 49 = os at *
 have e5 : dg 4294967296 (Int.natAbs 5) = [5]:=by rw [dg_small 5 (by omega)]; rfl
 simp only [intV,e5] at h5 w5
 (refine q_H Try.func18 (fun F=>?_); simp only [q_z,q_y,Try.ntmps18,Try.results18])
 repeat' (first|with_reducible refine q_0 ?_|((with_reducible first|refine q_q ha16_ok fun K hK=>?_|refine q_r ha16_ok fun K hK=>?_);simp (maxSteps:=2000000) only [go_sem,↓reduceIte,reduceCtorEq,Nat.reduceLeDiff,Nat.reduceLT,Nat.reduceBEq,Nat.reduceAdd,vC,intV,e5,hos,hd,h5,h0,h9,str5];(repeat1' with_reducible first|apply And.intro|(intro _;try exact q_v)|(refine hK _ ?_;clear hK K))<;>(try (clear hK K;exact q_u)))|(with_reducible refine q_s ?_;(first|apply q_J|apply q_K|apply q_L|apply q_M|apply q_N|apply q_O)<;>try (intro _;try exact q_v)))
 all_goals first | omega | contradiction | exact hpr _ (by assumption) | exact q_A rfl | skip
end Go.Proofs.Ytncededjmcmidaa

namespace Go.Proofs.Ytncededjmcmidaa
set_option linter.unusedSimpArgs false
set_option linter.unusedVariables false
open Go.Abs Go.Proofs.NatL

def keysHCT : CT:=mkCT [] true fun l K=>match l with
 | []=>K (.c (.b true))
 | _=>False
def h25a : Cfg:=addT 18 keysHCT cf0
theorem h25a_ok : TblOk Try.prog h25a:=q_I cf0_ok Try.func18 fun l K h=>by
 split at h
 ·exact ⟨_,keys_ret.plain rfl,h⟩
 ·exact h.elim
theorem seed_ret (l : List Int) : RetG Try.prog 10 ⟨[],[],[]⟩ [.c (.ints .i64 l)] (sH l 0) [.bx 0 0]:=by
 (refine ret_ge Try.func10 (fun F bs=>?_); simp only [avSl,ancs,hnx,Nat.reduceAdd,Nat.reduceLeDiff,if_true,if_false,List.length_cons,List.length_nil,List.cons_append,List.nil_append,Try.ntmps10,Try.results10])
 repeat' (first|with_reducible refine q_0 ?_|((with_reducible first|refine q_q cf0_ok fun K hK=>?_|refine q_r cf0_ok fun K hK=>?_);simp (maxSteps:=2000000) only [go_sem,↓reduceIte,reduceCtorEq,Nat.reduceLeDiff,Nat.reduceLT,Nat.reduceBEq,Nat.reduceAdd];(repeat1' with_reducible first|apply And.intro|(intro _;try exact q_v)|(refine hK _ ?_;clear hK K))<;>(try (clear hK K;exact q_u)))|(with_reducible refine q_s ?_;(first|apply q_J|apply q_K|apply q_L|apply q_M|apply q_N|apply q_O)<;>try (intro _;try exact q_v)))
 all_goals exact ends_g [(2,.bx 0 0)] 1 (by exact q_D) rfl
def seedCT : CT:=mkCTG fun H al K=>match H,al with
 | ⟨[],[],[]⟩,[.c (.ints .i64 l)]=>K (sH l 0) [.bx 0 0]
 | _,_=>False
def h25b : Cfg:=addT 10 seedCT cf0
theorem h25b_ok : TblOk Try.prog h25b:=ctg_ok cf0_ok Try.func10 fun H al K h=>by
 split at h
 ·exact ⟨_,_,seed_ret _,h⟩
 ·exact h.elim
def keyPCT : CT:=mkCT [.inr [none],nVal] false fun l K=>match l with
 | [.inr [.sl 10 rows],.inr [.i .i64 k,.b a,.ints .u32 x,.b b,.ints .u32 y,.str t,.i .i64 r]]=>(rows = (dO rows).map obC ∧ HOk (dO rows) ∧ OkW (dO rows).length ⟨k,a,x,b,y,t,r⟩) ∧ K (.t [.inl (.ints .u8 (keyF (dO rows) ⟨k,a,x,b,y,t,r⟩).1),.inr [.i .i64 (keyF (dO rows) ⟨k,a,x,b,y,t,r⟩).2.1,.i .i64 (keyF (dO rows) ⟨k,a,x,b,y,t,r⟩).2.2]])
 | _=>False
def h25d : Cfg:=addT 17 keyPCT cf0
theorem h25d_ok : TblOk Try.prog h25d:=q_I cf0_ok Try.func17 fun l K h=>by
 split at h
 ·rename_i rows k a x b y t r
  obtain ⟨⟨h1,h2,h3⟩,hK⟩:=h
  refine ⟨_,?_,hK⟩
  have:=key_ret (dO rows) ⟨k,a,x,b,y,t,r⟩ h2 h3
  rw [← h1] at this
  exact this
 ·exact h.elim
attribute [go_sem] keysHCT seedCT keyPCT
end Go.Proofs.Ytncededjmcmidaa

namespace Go.Proofs.Ytncededjmcmidaa
set_option linter.unusedSimpArgs false
set_option linter.unusedVariables false
open Go.Abs Go.Proofs.NatL

def cdS (os : List Ob) (k : Vl) : ByteArray:=strOf (keyF os k).1
def txF (os : List Ob) (ks : List Vl) : List (List C):=ks.map fun k=>[C.str (cdS os k)]
theorem txF_at (os : List Ob) (ks : List Vl) {i : Nat} (h : i < ks.length) : (txF os ks).getD i [] = [.str (cdS os (ks.getD i (refV 0)))]:=by
 simp [txF,List.getD_eq_getElem?_getD,List.getElem?_eq_getElem h]
theorem txF_len (os : List Ob) (ks : List Vl) : (txF os ks).length = ks.length:=List.length_map ..
theorem txF_take (os : List Ob) (ks : List Vl) {i : Nat} (h : i < ks.length) : txF os (ks.take (i + 1)) = txF os (ks.take i) ++ [[.str (cdS os (ks.getD i (refV 0)))]]:=by
 rw [List.take_succ_eq_append_getElem h]
 simp only [txF,List.map_append,List.map_cons,List.map_nil,List.getD_eq_getElem?_getD,List.getElem?_eq_getElem h,Option.getD_some]
theorem cdS_cmp {os : List Ob} (ho : HOk os) {u v : Vl} (hu : OkW os.length u) (hv : OkW os.length v) : ((cdS os u).toList == (cdS os v).toList) = decide ((keyF os u).1 = (keyF os v).1):=strOf_cmp (keyF_in ho hu).1 (keyF_in ho hv).1
def KL (n : Nat) (ks : List Vl) : Prop:=ks.length ≤ 1000000 ∧ ∀ v ∈ ks,OkW n v
def ub6 : Cfg:=listT [(17,keyPCT)] [39]
theorem ub6_ok : TblOk Try.prog ub6:=listE_ok (by simp only [List.mem_singleton,forall_eq]; exact flt) ⟨⟨h25d,h25d_ok,rfl⟩,trivial⟩
attribute [go_sem] ub6
set_option maxRecDepth 100000 in
set_option maxHeartbeats 4000000 in
theorem codes_ret (os : List Ob) (ks : List Vl) (hp : ∀ o ∈ os,Pr o) (ho : HOk os) (hk : KL os.length ks) : Ret Try.prog 65 false [.inr [.sl 10 (os.map obC)],.inl (.sl 7 (ks.map vC))] (.c (.sl 1 (txF os ks))):=by
 have hd:=dO_map hp
 obtain ⟨hk1,hk2⟩:=hk
 (refine q_H Try.func65 (fun F=>?_); simp only [q_z,q_y,Try.ntmps65,Try.results65])
 repeat' (first|with_reducible refine q_0 ?_|((with_reducible first|refine q_q ub6_ok fun K hK=>?_|refine q_r ub6_ok fun K hK=>?_);simp (maxSteps:=2000000) only [go_sem,↓reduceIte,reduceCtorEq,Nat.reduceLeDiff,Nat.reduceLT,Nat.reduceBEq,Nat.reduceAdd];(repeat1' with_reducible first|apply And.intro|(intro _;try exact q_v)|(refine hK _ ?_;clear hK K))<;>(try (clear hK K;exact q_u)))|(with_reducible refine q_s ?_;(first|apply q_J|apply q_K|apply q_L|apply q_M|apply q_N|apply q_O)<;>try (intro _;try exact q_v)))
 all_goals first | omega | skip
 refine q_G (ι:={ i : Nat // i ≤ ks.length }) (fun p=>⟨30,[(1,.c (.sl 7 (ks.map vC))),(2,.bx 0 0),(5,.own 1 0),(6,.c (.i .i64 p.1))],⟨[(0,[.c (.sl 10 (os.map obC))])],[(1,⟨0,9,1,.sl 1 (txF os (ks.take p.1))⟩)],[]⟩,2⟩) (fun p=>ks.length - p.1) ⟨0,Nat.zero_le _⟩ ?_ ?_
 ·simp only [List.take_zero,txF,List.map_nil]; exact q_D
 rintro ⟨i,hi⟩
 simp only at hi ⊢
 have hl:=txF_len os (ks.take i)
 rw [List.length_take] at hl
 by_cases hc : i < ks.length
 ·have hat:=vC_at ks hc
  have hm:=hk2 _ (v_mem ks hc)
  have htk:=txF_take os ks hc
  have hin:=keyF_in ho hm
  unfold cdS at htk
  generalize ks.getD i (refV 0) = v at *
  obtain ⟨k,a,x,b,y,t,r⟩:=v
  generalize hX : keyF os ⟨k,a,x,b,y,t,r⟩ = X at *
  simp only [vC] at hat
  repeat' (first|with_reducible refine q_0 ?_|((with_reducible first|refine q_q ub6_ok fun K hK=>?_|refine q_r ub6_ok fun K hK=>?_);simp (maxSteps:=2000000) only [go_sem,↓reduceIte,reduceCtorEq,Nat.reduceLeDiff,Nat.reduceLT,Nat.reduceBEq,Nat.reduceAdd,hat,List.length_map,hd,hX,hl];(repeat1' with_reducible first|apply And.intro|(intro _;try exact q_v)|(refine hK _ ?_;clear hK K))<;>(try (clear hK K;exact q_u)))|(with_reducible refine q_s ?_;(first|apply q_J|apply q_K|apply q_L|apply q_M|apply q_N|apply q_O)<;>try (intro _;try exact q_v)))
  all_goals first | omega | contradiction | skip
  refine q_F ⟨i + 1,hc⟩ ?_ (by simp only; omega)
  simp only [htk]; exact q_D
 ·obtain rfl : i = ks.length:=by omega
  rw [List.take_length] at hl ⊢
  repeat' (first|with_reducible refine q_0 ?_|((with_reducible first|refine q_q ub6_ok fun K hK=>?_|refine q_r ub6_ok fun K hK=>?_);simp (maxSteps:=2000000) only [go_sem,↓reduceIte,reduceCtorEq,Nat.reduceLeDiff,Nat.reduceLT,Nat.reduceBEq,Nat.reduceAdd,List.length_map,hl];(repeat1' with_reducible first|apply And.intro|(intro _;try exact q_v)|(refine hK _ ?_;clear hK K))<;>(try (clear hK K;exact q_u)))|(with_reducible refine q_s ?_;(first|apply q_J|apply q_K|apply q_L|apply q_M|apply q_N|apply q_O)<;>try (intro _;try exact q_v)))
  all_goals first | omega | contradiction | exact q_A rfl | skip
def codesCT : CT:=mkCT [.inr [none],.inl (some (.sl 7 []))] false fun l K=>match l with
 | [.inr [.sl 10 rows],.inl (.sl 7 r)]=>((rows = (dO rows).map obC ∧ ∀ o ∈ dO rows,Pr o) ∧ HOk (dO rows) ∧ r = (dV r).map vC ∧ KL (dO rows).length (dV r)) ∧ K (.c (.sl 1 (txF (dO rows) (dV r))))
 | _=>False
def u2a : Cfg:=addT 65 codesCT cf0
theorem u2a_ok : TblOk Try.prog u2a:=q_I cf0_ok Try.func65 fun l K h=>by
 split at h
 ·rename_i rows r
  obtain ⟨⟨⟨h1,h2⟩,h3,h4,h5⟩,hK⟩:=h
  have:=codes_ret (dO rows) (dV r) h2 h3 h5
  rw [← h1,← h4] at this
  exact ⟨_,this,hK⟩
 ·exact h.elim
attribute [go_sem] codesCT
def inS (os : List Ob) (k : Vl) (b : List Vl) : Bool:=b.any fun y=>decide ((keyF os k).1 = (keyF os y).1)
def chF (os : List Ob) (a b : List Vl) (has : Bool) : List Vl:=a.filter fun k=>inS os k b == has
theorem inS_take (os : List Ob) (k : Vl) (b : List Vl) {i : Nat} (h : i < b.length) : inS os k (b.take (i + 1)) = (inS os k (b.take i) || decide ((keyF os k).1 = (keyF os (b.getD i (refV 0))).1)):=by
 rw [List.take_succ_eq_append_getElem h]
 simp only [inS,List.any_append,List.any_cons,List.any_nil,Bool.or_false,List.getD_eq_getElem?_getD,List.getElem?_eq_getElem h,Option.getD_some]
theorem chF_take (os : List Ob) (a b : List Vl) (has : Bool) {i : Nat} (h : i < a.length) : chF os (a.take (i + 1)) b has = chF os (a.take i) b has ++ (if inS os (a.getD i (refV 0)) b = has then [a.getD i (refV 0)] else []):=by
 rw [List.take_succ_eq_append_getElem h]
 simp only [chF,List.filter_append,List.getD_eq_getElem?_getD,List.getElem?_eq_getElem h,Option.getD_some]
 congr 1
 simp [List.filter_cons]
theorem inS_of_take {os : List Ob} {k : Vl} {b : List Vl} {i : Nat} (h : inS os k (b.take i) = true) : inS os k b = true:=by
 unfold inS at h ⊢
 obtain ⟨y,hy,he⟩:=List.any_eq_true.1 h
 exact List.any_eq_true.2 ⟨y,List.mem_of_mem_take hy,he⟩
def ub7 : Cfg:=listT [(65,codesCT)] [39]
theorem ub7_ok : TblOk Try.prog ub7:=listE_ok (by simp only [List.mem_singleton,forall_eq]; exact flt) ⟨⟨u2a,u2a_ok,rfl⟩,trivial⟩
attribute [go_sem] ub7
set_option maxRecDepth 100000 in
set_option maxHeartbeats 8000000 in
theorem chosen_ret (os : List Ob) (a b : List Vl) (has : Bool) (hp : ∀ o ∈ os,Pr o) (ho : HOk os) (ha : KL os.length a) (hb : KL os.length b) : Ret Try.prog 36 false [.inr [.sl 10 (os.map obC)],.inl (.sl 7 (a.map vC)),.inl (.sl 7 (b.map vC)),.inl (.b has)] (.c (.sl 7 ((chF os a b has).map vC))):=by
 have hd:=dO_map hp
 have d1:=dV_map a
 have d2:=dV_map b
 obtain ⟨ha1,ha2⟩:=id ha
 obtain ⟨hb1,hb2⟩:=id hb
 (refine q_H Try.func36 (fun F=>?_); simp only [q_z,q_y,Try.ntmps36,Try.results36])
 repeat' (first|with_reducible refine q_0 ?_|((with_reducible first|refine q_q ub7_ok fun K hK=>?_|refine q_r ub7_ok fun K hK=>?_);simp (maxSteps:=2000000) only [go_sem,↓reduceIte,reduceCtorEq,Nat.reduceLeDiff,Nat.reduceLT,Nat.reduceBEq,Nat.reduceAdd,hd,d1,d2];(repeat1' with_reducible first|apply And.intro|(intro _;try exact q_v)|(refine hK _ ?_;clear hK K))<;>(try (clear hK K;exact q_u)))|(with_reducible refine q_s ?_;(first|apply q_J|apply q_K|apply q_L|apply q_M|apply q_N|apply q_O)<;>try (intro _;try exact q_v)))
 all_goals first | omega | exact hp _ (by assumption) | skip
 refine q_G (ι:={ i : Nat // i ≤ a.length }) (fun p=>⟨57,[(1,.c (.sl 7 (a.map vC))),(2,.c (.sl 7 (b.map vC))),(3,.c (.b has)),(9,.own 1 0),(10,.c (.sl 1 (txF os a))),(11,.c (.sl 1 (txF os b))),(12,.c (.i .i64 p.1))],⟨[],[(1,⟨0,34,7,.sl 7 ((chF os (a.take p.1) b has).map vC)⟩)],[]⟩,2⟩) (fun p=>a.length - p.1) ⟨0,Nat.zero_le _⟩ ?_ ?_
 ·simp only [List.take_zero,chF,List.filter_nil,List.map_nil]; exact q_D
 rintro ⟨i,hi⟩
 simp only at hi ⊢
 by_cases hc : i < a.length
 ·have hat:=vC_at a hc
  have hm:=ha2 _ (v_mem a hc)
  have htk:=chF_take os a b has hc
  have hx:=txF_at os a hc
  have hlen : (chF os (a.take i) b has).length ≤ 1000000:=by
   have:=List.length_filter_le (fun k=>inS os k b == has) (a.take i)
   rw [List.length_take] at this
   unfold chF; omega
  have hta:=txF_len os a
  have htb:=txF_len os b
  generalize a.getD i (refV 0) = v at *
  refine seq_join (ι:=Unit) (fun _=>⟨57,[(1,.c (.sl 7 (a.map vC))),(2,.c (.sl 7 (b.map vC))),(3,.c (.b has)),(9,.own 1 0),(10,.c (.sl 1 (txF os a))),(11,.c (.sl 1 (txF os b))),(12,.c (.i .i64 i))],⟨[],[(1,⟨0,34,7,.sl 7 ((chF os (a.take i) b has).map vC)⟩)],[]⟩,2⟩) ?_ ?_
  ·repeat' (first|with_reducible refine q_0 ?_|((with_reducible first|refine q_q ub7_ok fun K hK=>?_|refine q_r ub7_ok fun K hK=>?_);simp (maxSteps:=2000000) only [go_sem,↓reduceIte,reduceCtorEq,Nat.reduceLeDiff,Nat.reduceLT,Nat.reduceBEq,Nat.reduceAdd,List.length_map];(repeat1' with_reducible first|apply And.intro|(intro _;try exact q_v)|(refine hK _ ?_;clear hK K))<;>(try (clear hK K;exact q_u)))|(with_reducible refine q_s ?_;(first|apply q_J|apply q_K|apply q_L|apply q_M|apply q_N|apply q_O)<;>try (intro _;try exact q_v)))
   all_goals first | omega | contradiction | exact join_to () (by exact q_D) | skip
  rintro ⟨⟩
  repeat' (first|with_reducible refine q_0 ?_|((with_reducible first|refine q_q ub7_ok fun K hK=>?_|refine q_r ub7_ok fun K hK=>?_);simp (maxSteps:=2000000) only [go_sem,↓reduceIte,reduceCtorEq,Nat.reduceLeDiff,Nat.reduceLT,Nat.reduceBEq,Nat.reduceAdd,List.length_map];(repeat1' with_reducible first|apply And.intro|(intro _;try exact q_v)|(refine hK _ ?_;clear hK K))<;>(try (clear hK K;exact q_u)))|(with_reducible refine q_s ?_;(first|apply q_J|apply q_K|apply q_L|apply q_M|apply q_N|apply q_O)<;>try (intro _;try exact q_v)))
  all_goals first | omega | contradiction | skip
  refine q_G (ι:={ k : Nat // k ≤ b.length }) (fun p=>⟨57,[(1,.c (.sl 7 (a.map vC))),(2,.c (.sl 7 (b.map vC))),(3,.c (.b has)),(9,.own 1 0),(10,.c (.sl 1 (txF os a))),(11,.c (.sl 1 (txF os b))),(12,.c (.i .i64 i)),(13,.c (.b (inS os v (b.take p.1)))),(14,.c (.i .i64 p.1))],⟨[],[(1,⟨0,34,7,.sl 7 ((chF os (a.take i) b has).map vC)⟩)],[]⟩,2⟩) (fun p=>b.length - p.1) ⟨0,Nat.zero_le _⟩ ?_ ?_
  ·simp only [List.take_zero,inS,List.any_nil]; exact q_D
  rintro ⟨k,hk⟩
  simp only at hk ⊢
  by_cases hkb : k < b.length
  ·have hy:=txF_at os b hkb
   have hmb:=hb2 _ (v_mem b hkb)
   have hit:=inS_take os v b hkb
   generalize b.getD k (refV 0) = y at *
   have hcm:=cdS_cmp ho hm hmb
   cases hf : inS os v (b.take k) with
   | true =>
    have hall:=inS_of_take hf
    rw [hall] at htk
    cases has with
    | true =>
     rw [if_pos rfl] at htk
     repeat' (first|with_reducible refine q_0 ?_|((with_reducible first|refine q_q ub7_ok fun K hK=>?_|refine q_r ub7_ok fun K hK=>?_);simp (maxSteps:=2000000) only [go_sem,↓reduceIte,reduceCtorEq,Nat.reduceLeDiff,Nat.reduceLT,Nat.reduceBEq,Nat.reduceAdd,List.length_map,hat];(repeat1' with_reducible first|apply And.intro|(intro _;try exact q_v)|(refine hK _ ?_;clear hK K))<;>(try (clear hK K;exact q_u)))|(with_reducible refine q_s ?_;(first|apply q_J|apply q_K|apply q_L|apply q_M|apply q_N|apply q_O)<;>try (intro _;try exact q_v)))
     all_goals first | omega | contradiction | skip
     all_goals refine q_F ⟨i + 1,hc⟩ ?_ (by simp only; omega)
     all_goals (simp only [htk,List.map_append,List.map_cons,List.map_nil]; exact q_D)
    | false =>
     rw [if_neg (by simp),List.append_nil] at htk
     repeat' (first|with_reducible refine q_0 ?_|((with_reducible first|refine q_q ub7_ok fun K hK=>?_|refine q_r ub7_ok fun K hK=>?_);simp (maxSteps:=2000000) only [go_sem,↓reduceIte,reduceCtorEq,Nat.reduceLeDiff,Nat.reduceLT,Nat.reduceBEq,Nat.reduceAdd,List.length_map,hat];(repeat1' with_reducible first|apply And.intro|(intro _;try exact q_v)|(refine hK _ ?_;clear hK K))<;>(try (clear hK K;exact q_u)))|(with_reducible refine q_s ?_;(first|apply q_J|apply q_K|apply q_L|apply q_M|apply q_N|apply q_O)<;>try (intro _;try exact q_v)))
     all_goals first | omega | contradiction | skip
     all_goals refine q_F ⟨i + 1,hc⟩ ?_ (by simp only; omega)
     all_goals (simp only [htk]; exact q_D)
   | false =>
    rw [hf,Bool.false_or] at hit
    repeat' (first|with_reducible refine q_0 ?_|((with_reducible first|refine q_q ub7_ok fun K hK=>?_|refine q_r ub7_ok fun K hK=>?_);simp (maxSteps:=2000000) only [go_sem,↓reduceIte,reduceCtorEq,Nat.reduceLeDiff,Nat.reduceLT,Nat.reduceBEq,Nat.reduceAdd,List.length_map,hx,hy,hcm,htb,hta];(repeat1' with_reducible first|apply And.intro|(intro _;try exact q_v)|(refine hK _ ?_;clear hK K))<;>(try (clear hK K;exact q_u)))|(with_reducible refine q_s ?_;(first|apply q_J|apply q_K|apply q_L|apply q_M|apply q_N|apply q_O)<;>try (intro _;try exact q_v)))
    all_goals first | omega | contradiction | skip
    refine q_F ⟨k + 1,hkb⟩ ?_ (by simp only; omega)
    simp only [hit]; exact q_D
  ·obtain rfl : k = b.length:=by omega
   rw [List.take_length]
   cases hf : inS os v b with
   | true =>
    rw [hf] at htk
    cases has with
    | true =>
     rw [if_pos rfl] at htk
     repeat' (first|with_reducible refine q_0 ?_|((with_reducible first|refine q_q ub7_ok fun K hK=>?_|refine q_r ub7_ok fun K hK=>?_);simp (maxSteps:=2000000) only [go_sem,↓reduceIte,reduceCtorEq,Nat.reduceLeDiff,Nat.reduceLT,Nat.reduceBEq,Nat.reduceAdd,List.length_map,hat];(repeat1' with_reducible first|apply And.intro|(intro _;try exact q_v)|(refine hK _ ?_;clear hK K))<;>(try (clear hK K;exact q_u)))|(with_reducible refine q_s ?_;(first|apply q_J|apply q_K|apply q_L|apply q_M|apply q_N|apply q_O)<;>try (intro _;try exact q_v)))
     all_goals first | omega | contradiction | skip
     all_goals refine q_F ⟨i + 1,hc⟩ ?_ (by simp only; omega)
     all_goals (simp only [htk,List.map_append,List.map_cons,List.map_nil]; exact q_D)
    | false =>
     rw [if_neg (by simp),List.append_nil] at htk
     repeat' (first|with_reducible refine q_0 ?_|((with_reducible first|refine q_q ub7_ok fun K hK=>?_|refine q_r ub7_ok fun K hK=>?_);simp (maxSteps:=2000000) only [go_sem,↓reduceIte,reduceCtorEq,Nat.reduceLeDiff,Nat.reduceLT,Nat.reduceBEq,Nat.reduceAdd,List.length_map,hat];(repeat1' with_reducible first|apply And.intro|(intro _;try exact q_v)|(refine hK _ ?_;clear hK K))<;>(try (clear hK K;exact q_u)))|(with_reducible refine q_s ?_;(first|apply q_J|apply q_K|apply q_L|apply q_M|apply q_N|apply q_O)<;>try (intro _;try exact q_v)))
     all_goals first | omega | contradiction | skip
     all_goals refine q_F ⟨i + 1,hc⟩ ?_ (by simp only; omega)
     all_goals (simp only [htk]; exact q_D)
   | false =>
    rw [hf] at htk
    cases has with
    | true =>
     rw [if_neg (by simp),List.append_nil] at htk
     repeat' (first|with_reducible refine q_0 ?_|((with_reducible first|refine q_q ub7_ok fun K hK=>?_|refine q_r ub7_ok fun K hK=>?_);simp (maxSteps:=2000000) only [go_sem,↓reduceIte,reduceCtorEq,Nat.reduceLeDiff,Nat.reduceLT,Nat.reduceBEq,Nat.reduceAdd,List.length_map,hat];(repeat1' with_reducible first|apply And.intro|(intro _;try exact q_v)|(refine hK _ ?_;clear hK K))<;>(try (clear hK K;exact q_u)))|(with_reducible refine q_s ?_;(first|apply q_J|apply q_K|apply q_L|apply q_M|apply q_N|apply q_O)<;>try (intro _;try exact q_v)))
     all_goals first | omega | contradiction | skip
     all_goals refine q_F ⟨i + 1,hc⟩ ?_ (by simp only; omega)
     all_goals (simp only [htk]; exact q_D)
    | false =>
     rw [if_pos rfl] at htk
     repeat' (first|with_reducible refine q_0 ?_|((with_reducible first|refine q_q ub7_ok fun K hK=>?_|refine q_r ub7_ok fun K hK=>?_);simp (maxSteps:=2000000) only [go_sem,↓reduceIte,reduceCtorEq,Nat.reduceLeDiff,Nat.reduceLT,Nat.reduceBEq,Nat.reduceAdd,List.length_map,hat];(repeat1' with_reducible first|apply And.intro|(intro _;try exact q_v)|(refine hK _ ?_;clear hK K))<;>(try (clear hK K;exact q_u)))|(with_reducible refine q_s ?_;(first|apply q_J|apply q_K|apply q_L|apply q_M|apply q_N|apply q_O)<;>try (intro _;try exact q_v)))
     all_goals first | omega | contradiction | skip
     all_goals refine q_F ⟨i + 1,hc⟩ ?_ (by simp only; omega)
     all_goals (simp only [htk,List.map_append,List.map_cons,List.map_nil]; exact q_D)
 ·obtain rfl : i = a.length:=by omega
  rw [List.take_length]
  repeat' (first|with_reducible refine q_0 ?_|((with_reducible first|refine q_q ub7_ok fun K hK=>?_|refine q_r ub7_ok fun K hK=>?_);simp (maxSteps:=2000000) only [go_sem,↓reduceIte,reduceCtorEq,Nat.reduceLeDiff,Nat.reduceLT,Nat.reduceBEq,Nat.reduceAdd,List.length_map];(repeat1' with_reducible first|apply And.intro|(intro _;try exact q_v)|(refine hK _ ?_;clear hK K))<;>(try (clear hK K;exact q_u)))|(with_reducible refine q_s ?_;(first|apply q_J|apply q_K|apply q_L|apply q_M|apply q_N|apply q_O)<;>try (intro _;try exact q_v)))
  all_goals first | omega | contradiction | exact q_A rfl | skip
def chosenCT : CT:=mkCT [.inr [none],.inl (some (.sl 7 [])),.inl (some (.sl 7 [])),.inl none] false fun l K=>match l with
 | [.inr [.sl 10 rows],.inl (.sl 7 r),.inl (.sl 7 r'),.inl (.b has)]=>((rows = (dO rows).map obC ∧ ∀ o ∈ dO rows,Pr o) ∧ HOk (dO rows) ∧ (r = (dV r).map vC ∧ KL (dO rows).length (dV r)) ∧ r' = (dV r').map vC ∧ KL (dO rows).length (dV r')) ∧ K (.c (.sl 7 ((chF (dO rows) (dV r) (dV r') has).map vC)))
 | _=>False
def u2b : Cfg:=addT 36 chosenCT cf0
theorem u2b_ok : TblOk Try.prog u2b:=q_I cf0_ok Try.func36 fun l K h=>by
 split at h
 ·rename_i rows r r' has
  obtain ⟨⟨⟨h1,h2⟩,h3,⟨h4,h5⟩,h6,h7⟩,hK⟩:=h
  have:=chosen_ret (dO rows) (dV r) (dV r') has h2 h3 h5 h7
  rw [← h1,← h4,← h6] at this
  exact ⟨_,this,hK⟩
 ·exact h.elim
attribute [go_sem] chosenCT
def ub8 : Cfg:=listT [(25,atCT),(37,sameValuesCT)] [39]
theorem ub8_ok : TblOk Try.prog ub8:=listE_ok (by simp only [List.mem_singleton,forall_eq]; exact flt) ⟨⟨cf2,cf2_ok,rfl⟩,⟨u1c,u1c_ok,rfl⟩,trivial⟩
attribute [go_sem] ub8
def LsT (r : List (List C)) (c i : Int) (w : List (List C)) : Prop:=(1000 < w.length ∧ c = 2 ∧ i = -1 ∧ r = []) ∨ (w.length ≤ 1000 ∧ c = 0 ∧ r = w ∧ r = (dV r).map vC ∧ ∀ v ∈ dV r,FwV v)
set_option maxRecDepth 100000 in
set_option maxHeartbeats 4000000 in
theorem listed_ret (r : List (List C)) (c i : Int) (w : List (List C)) (h : LsT r c i w) : Ret Try.prog 38 false [.inl (.sl 7 r),.inr [.i .i64 c,.i .i64 i],.inl (.sl 7 w)] (.c (.b true)):=by
 rcases h with ⟨h1,rfl,rfl,rfl⟩ | ⟨h1,rfl,rfl,h2,h3⟩
 ·(refine q_H Try.func38 (fun F=>?_); simp only [q_z,q_y,Try.ntmps38,Try.results38])
  repeat' (first|with_reducible refine q_0 ?_|((with_reducible first|refine q_q ub8_ok fun K hK=>?_|refine q_r ub8_ok fun K hK=>?_);simp (maxSteps:=2000000) only [go_sem,↓reduceIte,reduceCtorEq,Nat.reduceLeDiff,Nat.reduceLT,Nat.reduceBEq,Nat.reduceAdd];(repeat1' with_reducible first|apply And.intro|(intro _;try exact q_v)|(refine hK _ ?_;clear hK K))<;>(try (clear hK K;exact q_u)))|(with_reducible refine q_s ?_;(first|apply q_J|apply q_K|apply q_L|apply q_M|apply q_N|apply q_O)<;>try (intro _;try exact q_v)))
  all_goals first | omega | contradiction | exact q_A rfl | skip
 ·have hlen : (dV r).length ≤ 1000000:=by have : (dV r).length = r.length:=List.length_map ..; omega
  (refine q_H Try.func38 (fun F=>?_); simp only [q_z,q_y,Try.ntmps38,Try.results38])
  repeat' (first|with_reducible refine q_0 ?_|((with_reducible first|refine q_q ub8_ok fun K hK=>?_|refine q_r ub8_ok fun K hK=>?_);simp (maxSteps:=2000000) only [go_sem,↓reduceIte,reduceCtorEq,Nat.reduceLeDiff,Nat.reduceLT,Nat.reduceBEq,Nat.reduceAdd];(repeat1' with_reducible first|apply And.intro|(intro _;try exact q_v)|(refine hK _ ?_;clear hK K))<;>(try (clear hK K;exact q_u)))|(with_reducible refine q_s ?_;(first|apply q_J|apply q_K|apply q_L|apply q_M|apply q_N|apply q_O)<;>try (intro _;try exact q_v)))
  all_goals first | omega | contradiction | exact q_A rfl | exact h3 _ (by assumption) | exact h2 | skip
def listedCT : CT:=mkCT [.inl (some (.sl 7 [])),.inr [none,none],.inl (some (.sl 7 []))] true fun l K=>match l with
 | [.inl (.sl 7 r),.inr [.i .i64 c,.i .i64 i],.inl (.sl 7 w)]=>LsT r c i w ∧ K (.c (.b true))
 | _=>False
def u2d : Cfg:=addT 38 listedCT cf0
theorem u2d_ok : TblOk Try.prog u2d:=q_I cf0_ok Try.func38 fun l K h=>by
 split at h
 ·exact ⟨_,(listed_ret _ _ _ _ h.1).plain rfl,h.2⟩
 ·exact h.elim
attribute [go_sem] listedCT
end Go.Proofs.Ytncededjmcmidaa

namespace Go.Proofs.Ytncededjmcmidaa
set_option linter.unusedSimpArgs false
set_option linter.unusedVariables false
open Go.Abs Go.Proofs.NatL

structure HK (os : List Ob) : Prop where
 h : HOk os
 p : ∀ o ∈ os,Pr o
 k : ∀ o ∈ os,KL os.length o.ks
theorem sat_ret (c i : Int) : Ret Try.prog 53 false [.inl (.i .i64 c),.inl (.i .i64 i)] (.g [.i .i64 c,.i .i64 i]):=by
 (refine q_H Try.func53 (fun F=>?_); simp only [q_z,q_y,Try.ntmps53,Try.results53])
 repeat' (first|with_reducible refine q_0 ?_|((with_reducible first|refine q_q cf0_ok fun K hK=>?_|refine q_r cf0_ok fun K hK=>?_);simp (maxSteps:=2000000) only [go_sem,↓reduceIte,reduceCtorEq,Nat.reduceLeDiff,Nat.reduceLT,Nat.reduceBEq,Nat.reduceAdd];(repeat1' with_reducible first|apply And.intro|(intro _;try exact q_v)|(refine hK _ ?_;clear hK K))<;>(try (clear hK K;exact q_u)))|(with_reducible refine q_s ?_;(first|apply q_J|apply q_K|apply q_L|apply q_M|apply q_N|apply q_O)<;>try (intro _;try exact q_v)))
 all_goals exact q_A rfl
def u3a : Cfg:=addT 53 atCT cf0
theorem u3a_ok : TblOk Try.prog u3a:=q_I cf0_ok Try.func53 fun l K h=>by
 split at h
 ·exact ⟨_,(sat_ret _ _).plain rfl,h⟩
 ·exact h.elim
def ub9 : Cfg:=listT [(53,atCT),(14,codeCT)] [39]
theorem ub9_ok : TblOk Try.prog ub9:=listE_ok (by simp only [List.mem_singleton,forall_eq]; exact flt) ⟨⟨u3a,u3a_ok,rfl⟩,⟨h22b,h22b_ok,rfl⟩,trivial⟩
attribute [go_sem] ub9
set_option maxRecDepth 100000 in
set_option maxHeartbeats 8000000 in
theorem skeys_bad (os : List Ob) (s ix : Int) (h : HK os) (hs : 0 ≤ s ∧ s < os.length) (hk : (os.getD s.toNat ob0).k ≠ 4) : Ret Try.prog 50 false [.inr [.sl 10 (os.map obC)],.inl (.i .i64 s),.inl (.i .i64 ix)] (.t [.inl (.sl 7 []),.inl (.sl 1 []),.inr [.i .i64 13,.i .i64 ix]]):=by
 have hat:=obC_at os hs
 generalize os.getD s.toNat ob0 = o at *
 obtain ⟨ok,onm,ocl,orf,ood,oraw,oit,oks⟩:=o
 simp only at hk
 simp only [obC,itC] at hat
 (refine q_H Try.func50 (fun F=>?_); simp only [q_z,q_y,Try.ntmps50,Try.results50])
 repeat' (first|with_reducible refine q_0 ?_|((with_reducible first|refine q_q ub9_ok fun K hK=>?_|refine q_r ub9_ok fun K hK=>?_);simp (maxSteps:=2000000) only [go_sem,↓reduceIte,reduceCtorEq,Nat.reduceLeDiff,Nat.reduceLT,Nat.reduceBEq,Nat.reduceAdd,hat,List.length_map];(repeat1' with_reducible first|apply And.intro|(intro _;try exact q_v)|(refine hK _ ?_;clear hK K))<;>(try (clear hK K;exact q_u)))|(with_reducible refine q_s ?_;(first|apply q_J|apply q_K|apply q_L|apply q_M|apply q_N|apply q_O)<;>try (intro _;try exact q_v)))
 all_goals first | omega | contradiction | exact q_B [.inl (some (.sl 7 [])),.inl (some (.sl 1 [])),.inr []] rfl rfl | skip
set_option maxRecDepth 100000 in
set_option maxHeartbeats 8000000 in
theorem skeys_good (os : List Ob) (s ix : Int) (h : HK os) (hs : 0 ≤ s ∧ s < os.length) (hk : (os.getD s.toNat ob0).k = 4) : Ret Try.prog 50 false [.inr [.sl 10 (os.map obC)],.inl (.i .i64 s),.inl (.i .i64 ix)] (.t [.inl (.sl 7 ((os.getD s.toNat ob0).ks.map vC)),.inl (.sl 1 (txF os (os.getD s.toNat ob0).ks)),.inr [.i .i64 0,.i .i64 0]]):=by
 have hat:=obC_at os hs
 have hm:=ob_mem os hs
 obtain ⟨hk1,hk2⟩:=h.k _ hm
 have hp:=h.p
 have ho:=h.h
 have hd:=dO_map hp
 clear h
 generalize os.getD s.toNat ob0 = o at *
 obtain ⟨ok,onm,ocl,orf,ood,oraw,oit,ks⟩:=o
 simp only at hk hk1 hk2 ⊢
 subst hk
 simp only [obC] at hat
 generalize itC ⟨4,onm,ocl,orf,ood,oraw,oit,ks⟩ = cit at *
 (refine q_H Try.func50 (fun F=>?_); simp only [q_z,q_y,Try.ntmps50,Try.results50])
 repeat' (first|with_reducible refine q_0 ?_|((with_reducible first|refine q_q ub9_ok fun K hK=>?_|refine q_r ub9_ok fun K hK=>?_);simp (maxSteps:=2000000) only [go_sem,↓reduceIte,reduceCtorEq,Nat.reduceLeDiff,Nat.reduceLT,Nat.reduceBEq,Nat.reduceAdd,hat,List.length_map];(repeat1' with_reducible first|apply And.intro|(intro _;try exact q_v)|(refine hK _ ?_;clear hK K))<;>(try (clear hK K;exact q_u)))|(with_reducible refine q_s ?_;(first|apply q_J|apply q_K|apply q_L|apply q_M|apply q_N|apply q_O)<;>try (intro _;try exact q_v)))
 all_goals first | omega | contradiction | skip
 refine q_G (ι:={ i : Nat // i ≤ ks.length }) (fun p=>⟨48,[(3,.bx 0 0),(8,.bx 1 0),(9,.bx 2 0),(10,.own 3 0),(26,.c (.sl 7 (ks.map vC))),(27,.c (.i .i64 ks.length)),(28,.c (.i .i64 p.1))],⟨[(0,[.c (.sl 10 (os.map obC))]),(1,[.c (.i .i64 0),.c (.i .i64 0)]),(2,[.u,.u,.u,.u,.u,.u,.u,.c (.sl 7 (ks.map vC)),.u,.u])],[(3,⟨0,9,1,.sl 1 (txF os (ks.take p.1))⟩)],[]⟩,4⟩) (fun p=>ks.length - p.1) ⟨0,Nat.zero_le _⟩ ?_ ?_
 ·simp only [List.take_zero,txF,List.map_nil]; exact q_D
 rintro ⟨i,hi⟩
 simp only at hi ⊢
 have hl:=txF_len os (ks.take i)
 rw [List.length_take] at hl
 by_cases hc : i < ks.length
 ·have hat:=vC_at ks hc
  have hm:=hk2 _ (v_mem ks hc)
  have htk:=txF_take os ks hc
  unfold cdS at htk
  generalize ks.getD i (refV 0) = v at *
  obtain ⟨k,a,x,b,y,t,r⟩:=v
  generalize hX : keyF os ⟨k,a,x,b,y,t,r⟩ = X at *
  simp only [vC] at hat
  repeat' (first|with_reducible refine q_0 ?_|((with_reducible first|refine q_q ub9_ok fun K hK=>?_|refine q_r ub9_ok fun K hK=>?_);simp (maxSteps:=2000000) only [go_sem,↓reduceIte,reduceCtorEq,Nat.reduceLeDiff,Nat.reduceLT,Nat.reduceBEq,Nat.reduceAdd,hat,List.length_map,hd,hX,hl];(repeat1' with_reducible first|apply And.intro|(intro _;try exact q_v)|(refine hK _ ?_;clear hK K))<;>(try (clear hK K;exact q_u)))|(with_reducible refine q_s ?_;(first|apply q_J|apply q_K|apply q_L|apply q_M|apply q_N|apply q_O)<;>try (intro _;try exact q_v)))
  all_goals first | omega | contradiction | exact hp _ (by assumption) | skip
  refine q_F ⟨i + 1,hc⟩ ?_ (by simp only; omega)
  simp only [htk]; exact q_D
 ·obtain rfl : i = ks.length:=by omega
  rw [List.take_length] at hl ⊢
  repeat' (first|with_reducible refine q_0 ?_|((with_reducible first|refine q_q ub9_ok fun K hK=>?_|refine q_r ub9_ok fun K hK=>?_);simp (maxSteps:=2000000) only [go_sem,↓reduceIte,reduceCtorEq,Nat.reduceLeDiff,Nat.reduceLT,Nat.reduceBEq,Nat.reduceAdd,List.length_map,hl];(repeat1' with_reducible first|apply And.intro|(intro _;try exact q_v)|(refine hK _ ?_;clear hK K))<;>(try (clear hK K;exact q_u)))|(with_reducible refine q_s ?_;(first|apply q_J|apply q_K|apply q_L|apply q_M|apply q_N|apply q_O)<;>try (intro _;try exact q_v)))
  all_goals first | omega | contradiction | exact q_A rfl | skip
def skeysCT : CT:=mkCT [.inr [none],.inl none,.inl none] false fun l K=>match l with
 | [.inr [.sl 10 rows],.inl (.i .i64 s),.inl (.i .i64 ix)]=>(rows = (dO rows).map obC ∧ HK (dO rows) ∧ 0 ≤ s ∧ s < (dO rows).length) ∧ (((dO rows).getD s.toNat ob0).k = 4 → K (.t [.inl (.sl 7 (((dO rows).getD s.toNat ob0).ks.map vC)),.inl (.sl 1 (txF (dO rows) ((dO rows).getD s.toNat ob0).ks)),.inr [.i .i64 0,.i .i64 0]])) ∧ (((dO rows).getD s.toNat ob0).k ≠ 4 → K (.t [.inl (.sl 7 []),.inl (.sl 1 []),.inr [.i .i64 13,.i .i64 ix]]))
 | _=>False
def u3b : Cfg:=addT 50 skeysCT cf0
theorem u3b_ok : TblOk Try.prog u3b:=q_I cf0_ok Try.func50 fun l K h=>by
 split at h
 ·rename_i rows s ix
  obtain ⟨⟨h1,h2,h3⟩,hK1,hK2⟩:=h
  by_cases hk : ((dO rows).getD s.toNat ob0).k = 4
  ·have:=skeys_good (dO rows) s ix h2 h3 hk
   rw [← h1] at this
   exact ⟨_,this,hK1 hk⟩
  ·have:=skeys_bad (dO rows) s ix h2 h3 hk
   rw [← h1] at this
   exact ⟨_,this,hK2 hk⟩
 ·exact h.elim
attribute [go_sem] skeysCT
def ub10 : Cfg:=listT [(50,skeysCT)] [39]
theorem ub10_ok : TblOk Try.prog ub10:=listE_ok (by simp only [List.mem_singleton,forall_eq]; exact flt) ⟨⟨u3b,u3b_ok,rfl⟩,trivial⟩
attribute [go_sem] ub10
def boF (os : List Ob) (a b : Int) : List Vl × List Vl × Int × Int :=
 if (os.getD a.toNat ob0).k ≠ 4 then ([],[],13, -1) else if (os.getD b.toNat ob0).k ≠ 4 then ((os.getD a.toNat ob0).ks,[],13, -2) else ((os.getD a.toNat ob0).ks,(os.getD b.toNat ob0).ks,0,0)
abbrev boR (os : List Ob) (R : List Vl × List Vl × Int × Int) : AV:=.t [.inl (.sl 7 (R.1.map vC)),.inl (.sl 7 (R.2.1.map vC)),.inl (.sl 1 (txF os R.1)),.inl (.sl 1 (txF os R.2.1)),.inr [.i .i64 R.2.2.1,.i .i64 R.2.2.2]]
set_option maxRecDepth 100000 in
set_option maxHeartbeats 8000000 in
theorem both_ret (os : List Ob) (a b : Int) (h : HK os) (ha : 0 ≤ a ∧ a < os.length) (hb : 0 ≤ b ∧ b < os.length) : Ret Try.prog 60 false [.inr [.sl 10 (os.map obC)],.inl (.i .i64 a),.inl (.i .i64 b)] (boR os (boF os a b)):=by
 have hd:=dO_map h.p
 unfold boF
 by_cases h1 : (os.getD a.toNat ob0).k = 4
 ·rw [if_neg (fun hn=>hn h1)]
  by_cases h2 : (os.getD b.toNat ob0).k = 4
  ·rw [if_neg (fun hn=>hn h2)]
   (refine q_H Try.func60 (fun F=>?_); simp only [q_z,q_y,Try.ntmps60,Try.results60])
   repeat' (first|with_reducible refine q_0 ?_|((with_reducible first|refine q_q ub10_ok fun K hK=>?_|refine q_r ub10_ok fun K hK=>?_);simp (maxSteps:=2000000) only [go_sem,↓reduceIte,reduceCtorEq,Nat.reduceLeDiff,Nat.reduceLT,Nat.reduceBEq,Nat.reduceAdd,hd,h1,h2];(repeat1' with_reducible first|apply And.intro|(intro _;try exact q_v)|(refine hK _ ?_;clear hK K))<;>(try (clear hK K;exact q_u)))|(with_reducible refine q_s ?_;(first|apply q_J|apply q_K|apply q_L|apply q_M|apply q_N|apply q_O)<;>try (intro _;try exact q_v)))
   all_goals first | omega | contradiction | exact h | exact q_A rfl | skip
  ·rw [if_pos h2]
   (refine q_H Try.func60 (fun F=>?_); simp only [q_z,q_y,Try.ntmps60,Try.results60])
   repeat' (first|with_reducible refine q_0 ?_|((with_reducible first|refine q_q ub10_ok fun K hK=>?_|refine q_r ub10_ok fun K hK=>?_);simp (maxSteps:=2000000) only [go_sem,↓reduceIte,reduceCtorEq,Nat.reduceLeDiff,Nat.reduceLT,Nat.reduceBEq,Nat.reduceAdd,hd,h1,h2];(repeat1' with_reducible first|apply And.intro|(intro _;try exact q_v)|(refine hK _ ?_;clear hK K))<;>(try (clear hK K;exact q_u)))|(with_reducible refine q_s ?_;(first|apply q_J|apply q_K|apply q_L|apply q_M|apply q_N|apply q_O)<;>try (intro _;try exact q_v)))
   all_goals first | omega | contradiction | exact h | exact q_A rfl | skip
 ·rw [if_pos h1]
  (refine q_H Try.func60 (fun F=>?_); simp only [q_z,q_y,Try.ntmps60,Try.results60])
  repeat' (first|with_reducible refine q_0 ?_|((with_reducible first|refine q_q ub10_ok fun K hK=>?_|refine q_r ub10_ok fun K hK=>?_);simp (maxSteps:=2000000) only [go_sem,↓reduceIte,reduceCtorEq,Nat.reduceLeDiff,Nat.reduceLT,Nat.reduceBEq,Nat.reduceAdd,hd,h1];(repeat1' with_reducible first|apply And.intro|(intro _;try exact q_v)|(refine hK _ ?_;clear hK K))<;>(try (clear hK K;exact q_u)))|(with_reducible refine q_s ?_;(first|apply q_J|apply q_K|apply q_L|apply q_M|apply q_N|apply q_O)<;>try (intro _;try exact q_v)))
  all_goals first | omega | contradiction | exact h | exact q_B [.inl none,.inl (some (.sl 7 [])),.inl none,.inl (some (.sl 1 [])),.inr []] rfl rfl | skip
def bothCT : CT:=mkCT [.inr [none],.inl none,.inl none] false fun l K=>match l with
 | [.inr [.sl 10 rows],.inl (.i .i64 a),.inl (.i .i64 b)]=>(rows = (dO rows).map obC ∧ HK (dO rows) ∧ (0 ≤ a ∧ a < (dO rows).length) ∧ 0 ≤ b ∧ b < (dO rows).length) ∧ K (boR (dO rows) (boF (dO rows) a b))
 | _=>False
def u3c : Cfg:=addT 60 bothCT cf0
theorem u3c_ok : TblOk Try.prog u3c:=q_I cf0_ok Try.func60 fun l K h=>by
 split at h
 ·rename_i rows a b
  obtain ⟨⟨h1,h2,h3,h4⟩,hK⟩:=h
  have:=both_ret (dO rows) a b h2 h3 h4
  rw [← h1] at this
  exact ⟨_,this,hK⟩
 ·exact h.elim
attribute [go_sem] bothCT boR
end Go.Proofs.Ytncededjmcmidaa

namespace Go.Proofs.Ytncededjmcmidaa
set_option linter.unusedSimpArgs false
set_option linter.unusedVariables false
open Go.Abs Go.Proofs.NatL
section
variable {cf : Cfg} {st : St}
theorem fz_lookup {t : TypeId} {x i : Operand} {ok : Bool} : fzFor cf st (.lookup t x i ok) = st:=rfl
theorem fz_mapUpdate {t : TypeId} {x i y : Operand} : fzFor cf st (.mapUpdate t x i y) = st:=rfl
theorem fz_makeMap {t : TypeId} {r : Option Operand} : fzFor cf st (.makeMap t r) = st:=rfl
theorem fz_mkFn {fn : Fn} {a b : Array Operand} : fzFor cf st (.makeFunc fn a b) = st:=rfl
end
attribute [go_sem] fz_lookup fz_mapUpdate fz_makeMap fz_mkFn
def tsC (l : List ByteArray) : List (List C):=l.map fun b=>[C.str b]
def deT : List C → ByteArray
 | [.str b]=>b
 | _=>ByteArray.empty
theorem deT_map (l : List ByteArray) : (tsC l).map deT = l:=by
 unfold tsC
 rw [List.map_map]
 exact List.map_id'' (fun _=>rfl) l
theorem tsC_len (l : List ByteArray) : (tsC l).length = l.length:=List.length_map ..
theorem tsC_at (l : List ByteArray) {i : Nat} (h : i < l.length) : (tsC l).getD i [] = [.str l[i]]:=by
 simp [tsC,List.getD_eq_getElem?_getD,List.getElem?_eq_getElem h]
def gaC : List ByteArray → ByteArray → Nat
 | [],_=>0
 | s :: t,y=>gaC t y + if y = s then 1 else 0
theorem gaC_app : ∀ (l : List ByteArray) (s y : ByteArray),gaC (l ++ [s]) y = gaC l y + if y = s then 1 else 0
 | [],s,y=>by simp [gaC]
 | a :: l,s,y=>by
  rw [List.cons_append,gaC,gaC_app l s y,gaC]
  omega
theorem gaC_le : ∀ (l : List ByteArray) (y : ByteArray),gaC l y ≤ l.length
 | [],y=>Nat.le_refl _
 | a :: l,y=>by
  have:=gaC_le l y
  rw [gaC,List.length_cons]
  split <;> omega
theorem gaC_mem : ∀ (l : List ByteArray) (y : ByteArray),gaC l y = 0 ↔ y ∉ l
 | [],y=>by simp [gaC]
 | a :: l,y=>by
  have:=gaC_mem l y
  rw [gaC,List.mem_cons,not_or]
  by_cases h : y = a
  ·rw [if_pos h]; exact ⟨fun e=>by omega,fun e=>absurd h e.1⟩
  ·rw [if_neg h,Nat.add_zero,this]; exact ⟨fun e=>⟨h,e⟩,fun e=>e.2⟩
def gaF (l : List ByteArray) : ByteArray → Option C:=fun y=>if gaC l y = 0 then none else some (.i .i64 (gaC l y : Nat))
def gaN : List ByteArray → Nat
 | []=>0
 | s :: t=>if gaC t s = 0 then gaN t + 1 else gaN t
theorem gaC_rev (l : List ByteArray) (y : ByteArray) : gaC l.reverse y = gaC l y:=by
 induction l with
 | nil=>rfl
 | cons a l ih=>rw [List.reverse_cons,gaC_app,ih,gaC]
theorem gaF_put (l : List ByteArray) (s : ByteArray) : (fun y=>if y = s then some (C.i .i64 ((gaC l s : Int) + 1)) else gaF l y) = gaF (l ++ [s]):=by
 funext y
 unfold gaF
 rw [gaC_app]
 by_cases h : y = s
 ·subst h
  rw [if_pos rfl,if_pos rfl,if_neg (by omega)]
  simp
 ·rw [if_neg h,if_neg h,Nat.add_zero]
abbrev maH (f : ByteArray → Option C) (n : Nat) : Hp:=⟨[(0,[.mc (.s f n)])],[],[]⟩
theorem take_snoc {l : List ByteArray} {i : Nat} (h : i < l.length) : l.take (i + 1) = l.take i ++ [l[i]]:=List.take_succ_eq_append_getElem h
set_option maxRecDepth 100000 in
set_option maxHeartbeats 8000000 in
theorem gather_ret (l : List ByteArray) (hl : l.length ≤ 1000000) : RetG Try.prog 51 ⟨[],[],[]⟩ [.c (.sl 1 (tsC l))] (maH (gaF l) (gaN l.reverse)) [.mp 0]:=by
 have hln:=tsC_len l
 (refine ret_ge Try.func51 (fun F bs=>?_); simp only [avSl,ancs,hnx,Nat.reduceAdd,Nat.reduceLeDiff,if_true,if_false,List.length_cons,List.length_nil,List.cons_append,List.nil_append,Try.ntmps51,Try.results51])
 repeat' (first|with_reducible refine q_0 ?_|((with_reducible first|refine q_q cf0_ok fun K hK=>?_|refine q_r cf0_ok fun K hK=>?_);simp (maxSteps:=2000000) only [go_sem,↓reduceIte,reduceCtorEq,Nat.reduceLeDiff,Nat.reduceLT,Nat.reduceBEq,Nat.reduceAdd,hln];(repeat1' with_reducible first|apply And.intro|(intro _;try exact q_v)|(refine hK _ ?_;clear hK K))<;>(try (clear hK K;exact q_u)))|(with_reducible refine q_s ?_;(first|apply q_J|apply q_K|apply q_L|apply q_M|apply q_N|apply q_O)<;>try (intro _;try exact q_v)))
 all_goals first | omega | skip
 refine q_G (ι:={ i : Nat // i ≤ l.length }) (fun p=>⟨19,[(3,.mp 0),(7,.c (.sl 1 (tsC l))),(8,.c (.i .i64 l.length)),(9,.c (.i .i64 p.1))],⟨[(0,[.mc (.s (gaF (l.take p.1)) (gaN (l.take p.1).reverse))])],[],[]⟩,1⟩) (fun p=>l.length - p.1) ⟨0,Nat.zero_le _⟩ ?_ ?_
 ·have e : gaF [] = fun _=>none:=by funext y; rfl
  simp only [List.take_zero,e,List.reverse_nil,gaN]; exact q_D
 rintro ⟨i,hi⟩
 simp only at hi ⊢
 by_cases hc : i < l.length
 ·have hat:=tsC_at l hc
  have htk:=take_snoc hc
  have hcl:=gaC_le (l.take i) l[i]
  rw [List.length_take] at hcl
  have hpt:=gaF_put (l.take i) l[i]
  rw [← htk] at hpt
  have hrv : (l.take (i + 1)).reverse = l[i] :: (l.take i).reverse:=by rw [htk,List.reverse_append]; rfl
  have hn : gaN (l.take (i + 1)).reverse = if gaC (l.take i) l[i] = 0 then gaN (l.take i).reverse + 1 else gaN (l.take i).reverse:=by rw [hrv,gaN,gaC_rev]
  have hfs : gaF (l.take i) l[i] = if gaC (l.take i) l[i] = 0 then none else some (.i .i64 (gaC (l.take i) l[i] : Nat)):=rfl
  generalize l[i] = s at *
  generalize gaC (l.take i) s = c at *
  by_cases h0 : c = 0
  ·subst h0
   rw [if_pos rfl] at hfs hn
   repeat' (first|with_reducible refine q_0 ?_|((with_reducible first|refine q_q cf0_ok fun K hK=>?_|refine q_r cf0_ok fun K hK=>?_);simp (maxSteps:=2000000) only [go_sem,↓reduceIte,reduceCtorEq,Nat.reduceLeDiff,Nat.reduceLT,Nat.reduceBEq,Nat.reduceAdd,hln,hat,hfs];(repeat1' with_reducible first|apply And.intro|(intro _;try exact q_v)|(refine hK _ ?_;clear hK K))<;>(try (clear hK K;exact q_u)))|(with_reducible refine q_s ?_;(first|apply q_J|apply q_K|apply q_L|apply q_M|apply q_N|apply q_O)<;>try (intro _;try exact q_v)))
   all_goals first | omega | contradiction | skip
   refine q_F ⟨i + 1,hc⟩ ?_ (by simp only; omega)
   have e : (fun y=>if y = s then some (C.i .i64 (0 + 1)) else gaF (l.take i) y) = gaF (l.take (i + 1)):=by rw [← hpt]; simp
   simp only [e,hn]; exact q_D
  ·rw [if_neg h0] at hfs hn
   repeat' (first|with_reducible refine q_0 ?_|((with_reducible first|refine q_q cf0_ok fun K hK=>?_|refine q_r cf0_ok fun K hK=>?_);simp (maxSteps:=2000000) only [go_sem,↓reduceIte,reduceCtorEq,Nat.reduceLeDiff,Nat.reduceLT,Nat.reduceBEq,Nat.reduceAdd,hln,hat,hfs];(repeat1' with_reducible first|apply And.intro|(intro _;try exact q_v)|(refine hK _ ?_;clear hK K))<;>(try (clear hK K;exact q_u)))|(with_reducible refine q_s ?_;(first|apply q_J|apply q_K|apply q_L|apply q_M|apply q_N|apply q_O)<;>try (intro _;try exact q_v)))
   all_goals first | omega | contradiction | skip
   refine q_F ⟨i + 1,hc⟩ ?_ (by simp only; omega)
   simp only [hpt,hn]; exact q_D
 ·obtain rfl : i = l.length:=by omega
  rw [List.take_length]
  repeat' (first|with_reducible refine q_0 ?_|((with_reducible first|refine q_q cf0_ok fun K hK=>?_|refine q_r cf0_ok fun K hK=>?_);simp (maxSteps:=2000000) only [go_sem,↓reduceIte,reduceCtorEq,Nat.reduceLeDiff,Nat.reduceLT,Nat.reduceBEq,Nat.reduceAdd,hln];(repeat1' with_reducible first|apply And.intro|(intro _;try exact q_v)|(refine hK _ ?_;clear hK K))<;>(try (clear hK K;exact q_u)))|(with_reducible refine q_s ?_;(first|apply q_J|apply q_K|apply q_L|apply q_M|apply q_N|apply q_O)<;>try (intro _;try exact q_v)))
  all_goals first | omega | contradiction | exact ends_g [(2,.mp 0)] 1 (by exact q_D) rfl | skip
def gatherCT : CT:=mkCTG fun H al K=>match H,al with
 | ⟨[],[],[]⟩,[.c (.sl 1 r)]=>(r = tsC (r.map deT) ∧ (r.map deT).length ≤ 1000000) ∧ K (maH (gaF (r.map deT)) (gaN (r.map deT).reverse)) [.mp 0]
 | _,_=>False
def u4a : Cfg:=addT 51 gatherCT cf0
theorem u4a_ok : TblOk Try.prog u4a:=ctg_ok cf0_ok Try.func51 fun H al K h=>by
 split at h
 ·rename_i r
  have:=gather_ret (r.map deT) h.1.2
  rw [← h.1.1] at this
  exact ⟨_,_,this,h.2⟩
 ·exact h.elim
attribute [go_sem] gatherCT maH
def PoM (f : ByteArray → Option C) (s : ByteArray) : Prop:=f s = none ∨ ∃ c : Int,f s = some (.i .i64 c) ∧ 0 < c
theorem gaF_pos (l : List ByteArray) (s : ByteArray) : PoM (gaF l) s:=by
 unfold PoM gaF
 by_cases h : gaC l s = 0
 ·exact .inl (if_pos h)
 ·exact .inr ⟨_,if_neg h,by omega⟩
theorem gaF_some (l : List ByteArray) (s : ByteArray) : (gaF l s).isSome = true ↔ s ∈ l:=by
 have:=gaC_mem l s
 unfold gaF
 by_cases h : gaC l s = 0
 ·rw [if_pos h]; exact ⟨fun e=>(by cases e),fun e=>absurd e (this.1 h)⟩
 ·rw [if_neg h]; exact ⟨fun _=>Classical.byContradiction fun e=>h (this.2 e),fun _=>rfl⟩
theorem has_ret (f : ByteArray → Option C) (n : Nat) (s : ByteArray) (h : PoM f s) : RetG Try.prog 52 (maH f n) [.mp 0,.c (.str s)] (maH f n) [.c (.b (f s).isSome)]:=by
 rcases h with h | ⟨c,h,hc⟩
 ·rw [h]
  (refine ret_ge Try.func52 (fun F bs=>?_); simp only [avSl,ancs,hnx,Nat.reduceAdd,Nat.reduceLeDiff,if_true,if_false,List.length_cons,List.length_nil,List.cons_append,List.nil_append,Try.ntmps52,Try.results52])
  repeat' (first|with_reducible refine q_0 ?_|((with_reducible first|refine q_q cf0_ok fun K hK=>?_|refine q_r cf0_ok fun K hK=>?_);simp (maxSteps:=2000000) only [go_sem,↓reduceIte,reduceCtorEq,Nat.reduceLeDiff,Nat.reduceLT,Nat.reduceBEq,Nat.reduceAdd,h];(repeat1' with_reducible first|apply And.intro|(intro _;try exact q_v)|(refine hK _ ?_;clear hK K))<;>(try (clear hK K;exact q_u)))|(with_reducible refine q_s ?_;(first|apply q_J|apply q_K|apply q_L|apply q_M|apply q_N|apply q_O)<;>try (intro _;try exact q_v)))
  all_goals first | omega | contradiction | exact ends_g [(4,.c (.b false))] 1 (by exact q_D) rfl | skip
 ·rw [h]
  (refine ret_ge Try.func52 (fun F bs=>?_); simp only [avSl,ancs,hnx,Nat.reduceAdd,Nat.reduceLeDiff,if_true,if_false,List.length_cons,List.length_nil,List.cons_append,List.nil_append,Try.ntmps52,Try.results52])
  repeat' (first|with_reducible refine q_0 ?_|((with_reducible first|refine q_q cf0_ok fun K hK=>?_|refine q_r cf0_ok fun K hK=>?_);simp (maxSteps:=2000000) only [go_sem,↓reduceIte,reduceCtorEq,Nat.reduceLeDiff,Nat.reduceLT,Nat.reduceBEq,Nat.reduceAdd,h];(repeat1' with_reducible first|apply And.intro|(intro _;try exact q_v)|(refine hK _ ?_;clear hK K))<;>(try (clear hK K;exact q_u)))|(with_reducible refine q_s ?_;(first|apply q_J|apply q_K|apply q_L|apply q_M|apply q_N|apply q_O)<;>try (intro _;try exact q_v)))
  all_goals first | omega | contradiction | exact ends_g [(4,.c (.b true))] 1 (by first | exact q_D | (have e : decide (0 < c) = true:=by simpa using hc; simp only [e]; exact q_D)) rfl | skip
def hasSCT : CT:=mkCTG fun H al K=>match H,al with
 | ⟨[(0,[.mc (.s f n)])],[],[]⟩,[.mp 0,.c (.str s)]=>PoM f s ∧ K (maH f n) [.c (.b (f s).isSome)]
 | _,_=>False
def u4b : Cfg:=addT 52 hasSCT cf0
theorem u4b_ok : TblOk Try.prog u4b:=ctg_ok cf0_ok Try.func52 fun H al K h=>by
 split at h
 ·exact ⟨_,_,has_ret _ _ _ h.1,h.2⟩
 ·exact h.elim
attribute [go_sem] hasSCT
def pkF (f : ByteArray → Option C) (has : Bool) : List Vl → List ByteArray → List Vl
 | v :: vs,t :: ts=>(if (f t).isSome = has then [v] else []) ++ pkF f has vs ts
 | _,_=>[]
theorem pkF_take {f : ByteArray → Option C} {has : Bool} : ∀ {vs : List Vl} {ts : List ByteArray} {i : Nat},vs.length = ts.length → (hi : i < vs.length) → (hj : i < ts.length) → pkF f has (vs.take (i + 1)) (ts.take (i + 1)) = pkF f has (vs.take i) (ts.take i) ++ (if (f ts[i]).isSome = has then [vs.getD i (refV 0)] else [])
 | v :: vs,t :: ts,0,_,_,_=>by simp [pkF]
 | v :: vs,t :: ts,i + 1,hl,hi,hj=>by
  simp only [List.take_succ_cons,pkF,List.getElem_cons_succ,List.getD_cons_succ]
  rw [pkF_take (by simpa using hl) (by simpa using hi) (by simpa using hj),List.append_assoc]
theorem pkF_le {f : ByteArray → Option C} {has : Bool} : ∀ {vs : List Vl} {ts : List ByteArray},(pkF f has vs ts).length ≤ vs.length
 | [],ts=>by cases ts <;> simp [pkF]
 | v :: vs,[]=>by simp [pkF]
 | v :: vs,t :: ts=>by
  have:=pkF_le (f:=f) (has:=has) (vs:=vs) (ts:=ts)
  rw [pkF,List.length_append,List.length_cons]
  split <;> simp <;> omega
def ub11 : Cfg:=listT [(52,hasSCT)] [39]
theorem ub11_ok : TblOk Try.prog ub11:=listE_ok (by simp only [List.mem_singleton,forall_eq]; exact flt) ⟨⟨u4b,u4b_ok,rfl⟩,trivial⟩
attribute [go_sem] ub11
abbrev pkH (f : ByteArray → Option C) (n : Nat) (l : List Vl) : Hp:=⟨[(0,[.mc (.s f n)])],[(0,⟨0,34,7,.sl 7 (l.map vC)⟩)],[]⟩
set_option maxRecDepth 100000 in
set_option maxHeartbeats 8000000 in
theorem pick_own (f : ByteArray → Option C) (n : Nat) (out vs : List Vl) (ts : List ByteArray) (has : Bool) (ho : out.length ≤ 10000000) (hv : vs.length ≤ 1000000) (ht : vs.length = ts.length) (hf : ∀ t ∈ ts,PoM f t) :
  RetG Try.prog 62 (pkH f n out) [.own 0 0,.c (.sl 7 (vs.map vC)),.c (.sl 1 (tsC ts)),.mp 0,.c (.b has)] (pkH f n (out ++ pkF f has vs ts)) [.own 0 0]:=by
 have hln:=tsC_len ts
 (refine ret_ge Try.func62 (fun F bs=>?_); simp only [avSl,ancs,hnx,Nat.reduceAdd,Nat.reduceLeDiff,if_true,if_false,List.length_cons,List.length_nil,List.cons_append,List.nil_append,Try.ntmps62,Try.results62])
 repeat' (first|with_reducible refine q_0 ?_|((with_reducible first|refine q_q ub11_ok fun K hK=>?_|refine q_r ub11_ok fun K hK=>?_);simp (maxSteps:=2000000) only [go_sem,↓reduceIte,reduceCtorEq,Nat.reduceLeDiff,Nat.reduceLT,Nat.reduceBEq,Nat.reduceAdd,List.length_map];(repeat1' with_reducible first|apply And.intro|(intro _;try exact q_v)|(refine hK _ ?_;clear hK K))<;>(try (clear hK K;exact q_u)))|(with_reducible refine q_s ?_;(first|apply q_J|apply q_K|apply q_L|apply q_M|apply q_N|apply q_O)<;>try (intro _;try exact q_v)))
 all_goals first | omega | skip
 refine q_G (ι:={ i : Nat // i ≤ vs.length }) (fun p=>⟨34,[(0,.own 0 0),(2,.c (.sl 1 (tsC ts))),(3,.mp 0),(4,.c (.b has)),(13,.c (.sl 7 (vs.map vC))),(14,.c (.i .i64 vs.length)),(15,.c (.i .i64 p.1)),(1000,.anc 0 (bs 0))],⟨[(0,[.mc (.s f n)])],[(0,⟨0,34,7,.sl 7 ((out ++ pkF f has (vs.take p.1) (ts.take p.1)).map vC)⟩)],[]⟩,1⟩) (fun p=>vs.length - p.1) ⟨0,Nat.zero_le _⟩ ?_ ?_
 ·have e : pkF f has ([] : List Vl) ([] : List ByteArray) = []:=rfl
  simp only [List.take_zero,e,List.append_nil]; exact q_D
 rintro ⟨i,hi⟩
 simp only at hi ⊢
 have hple:=pkF_le (f:=f) (has:=has) (vs:=vs.take i) (ts:=ts.take i)
 rw [List.length_take] at hple
 have hll : ((out ++ pkF f has (vs.take i) (ts.take i)).map vC).length ≤ 12000000:=by simp only [List.length_map,List.length_append]; omega
 by_cases hc : i < vs.length
 ·have hat:=vC_at vs hc
  have hat2:=tsC_at ts (show i < ts.length by omega)
  have htk:=pkF_take (f:=f) (has:=has) ht hc (by omega)
  have hm:=hf _ (List.getElem_mem (show i < ts.length by omega))
  generalize ts[i] = t at *
  generalize vs.getD i (refV 0) = v at *
  generalize hr : (f t).isSome = r at *
  by_cases hh : r = has
  ·subst hh
   rw [if_pos rfl] at htk
   cases r
   all_goals
    repeat' (first|with_reducible refine q_0 ?_|((with_reducible first|refine q_q ub11_ok fun K hK=>?_|refine q_r ub11_ok fun K hK=>?_);simp (maxSteps:=2000000) only [go_sem,↓reduceIte,reduceCtorEq,Nat.reduceLeDiff,Nat.reduceLT,Nat.reduceBEq,Nat.reduceAdd,List.length_map,hat,hat2,hln,hr];(repeat1' with_reducible first|apply And.intro|(intro _;try exact q_v)|(refine hK _ ?_;clear hK K))<;>(try (clear hK K;exact q_u)))|(with_reducible refine q_s ?_;(first|apply q_J|apply q_K|apply q_L|apply q_M|apply q_N|apply q_O)<;>try (intro _;try exact q_v)))
    all_goals first | omega | contradiction | exact hm | skip
    all_goals refine q_F ⟨i + 1,hc⟩ ?_ (by simp only; omega)
    all_goals (simp only [htk,List.map_append,List.map_cons,List.map_nil,List.append_assoc]; exact q_D)
  ·rw [if_neg hh,List.append_nil] at htk
   cases r <;> cases has <;> first | exact absurd rfl hh | skip
   all_goals
    repeat' (first|with_reducible refine q_0 ?_|((with_reducible first|refine q_q ub11_ok fun K hK=>?_|refine q_r ub11_ok fun K hK=>?_);simp (maxSteps:=2000000) only [go_sem,↓reduceIte,reduceCtorEq,Nat.reduceLeDiff,Nat.reduceLT,Nat.reduceBEq,Nat.reduceAdd,List.length_map,hat,hat2,hln,hr];(repeat1' with_reducible first|apply And.intro|(intro _;try exact q_v)|(refine hK _ ?_;clear hK K))<;>(try (clear hK K;exact q_u)))|(with_reducible refine q_s ?_;(first|apply q_J|apply q_K|apply q_L|apply q_M|apply q_N|apply q_O)<;>try (intro _;try exact q_v)))
    all_goals first | omega | contradiction | exact hm | skip
    all_goals refine q_F ⟨i + 1,hc⟩ ?_ (by simp only; omega)
    all_goals (simp only [htk]; exact q_D)
 ·obtain rfl : i = vs.length:=by omega
  have e1 : ts.take vs.length = ts:=by rw [ht,List.take_length]
  rw [List.take_length,e1]
  repeat' (first|with_reducible refine q_0 ?_|((with_reducible first|refine q_q ub11_ok fun K hK=>?_|refine q_r ub11_ok fun K hK=>?_);simp (maxSteps:=2000000) only [go_sem,↓reduceIte,reduceCtorEq,Nat.reduceLeDiff,Nat.reduceLT,Nat.reduceBEq,Nat.reduceAdd,List.length_map];(repeat1' with_reducible first|apply And.intro|(intro _;try exact q_v)|(refine hK _ ?_;clear hK K))<;>(try (clear hK K;exact q_u)))|(with_reducible refine q_s ?_;(first|apply q_J|apply q_K|apply q_L|apply q_M|apply q_N|apply q_O)<;>try (intro _;try exact q_v)))
  all_goals first | omega | contradiction | exact ends_g [(10,.own 0 0)] 1 (by exact q_D) rfl | skip
set_option maxRecDepth 100000 in
set_option maxHeartbeats 8000000 in
theorem pick_nil (f : ByteArray → Option C) (n : Nat) (vs : List Vl) (ts : List ByteArray) (has : Bool) (hv : vs.length ≤ 1000000) (ht : vs.length = ts.length) (hf : ∀ t ∈ ts,PoM f t) :
  RetG Try.prog 62 (maH f n) [.c .nil,.c (.sl 7 (vs.map vC)),.c (.sl 1 (tsC ts)),.mp 0,.c (.b has)] ⟨[(0,[.mc (.s f n)])],[(1,⟨0,34,7,.sl 7 ((pkF f has vs ts).map vC)⟩)],[]⟩ [.own 1 0]:=by
 have hln:=tsC_len ts
 (refine ret_ge Try.func62 (fun F bs=>?_); simp only [avSl,ancs,hnx,Nat.reduceAdd,Nat.reduceLeDiff,if_true,if_false,List.length_cons,List.length_nil,List.cons_append,List.nil_append,Try.ntmps62,Try.results62])
 repeat' (first|with_reducible refine q_0 ?_|((with_reducible first|refine q_q ub11_ok fun K hK=>?_|refine q_r ub11_ok fun K hK=>?_);simp (maxSteps:=2000000) only [go_sem,↓reduceIte,reduceCtorEq,Nat.reduceLeDiff,Nat.reduceLT,Nat.reduceBEq,Nat.reduceAdd,List.length_map];(repeat1' with_reducible first|apply And.intro|(intro _;try exact q_v)|(refine hK _ ?_;clear hK K))<;>(try (clear hK K;exact q_u)))|(with_reducible refine q_s ?_;(first|apply q_J|apply q_K|apply q_L|apply q_M|apply q_N|apply q_O)<;>try (intro _;try exact q_v)))
 all_goals first | omega | skip
 refine q_G (ι:={ i : Nat // i ≤ vs.length }) (fun p=>⟨34,[(0,.own 1 0),(2,.c (.sl 1 (tsC ts))),(3,.mp 0),(4,.c (.b has)),(13,.c (.sl 7 (vs.map vC))),(14,.c (.i .i64 vs.length)),(15,.c (.i .i64 p.1)),(1000,.anc 0 (bs 0))],⟨[(0,[.mc (.s f n)])],[(1,⟨0,34,7,.sl 7 ((pkF f has (vs.take p.1) (ts.take p.1)).map vC)⟩)],[]⟩,2⟩) (fun p=>vs.length - p.1) ⟨0,Nat.zero_le _⟩ ?_ ?_
 ·have e : pkF f has ([] : List Vl) ([] : List ByteArray) = []:=rfl
  simp only [List.take_zero,e,List.map_nil]; exact q_D
 rintro ⟨i,hi⟩
 simp only at hi ⊢
 have hple:=pkF_le (f:=f) (has:=has) (vs:=vs.take i) (ts:=ts.take i)
 rw [List.length_take] at hple
 have hll : ((pkF f has (vs.take i) (ts.take i)).map vC).length ≤ 12000000:=by simp only [List.length_map]; omega
 by_cases hc : i < vs.length
 ·have hat:=vC_at vs hc
  have hat2:=tsC_at ts (show i < ts.length by omega)
  have htk:=pkF_take (f:=f) (has:=has) ht hc (by omega)
  have hm:=hf _ (List.getElem_mem (show i < ts.length by omega))
  generalize ts[i] = t at *
  generalize vs.getD i (refV 0) = v at *
  generalize hr : (f t).isSome = r at *
  by_cases hh : r = has
  ·subst hh
   rw [if_pos rfl] at htk
   cases r
   all_goals
    repeat' (first|with_reducible refine q_0 ?_|((with_reducible first|refine q_q ub11_ok fun K hK=>?_|refine q_r ub11_ok fun K hK=>?_);simp (maxSteps:=2000000) only [go_sem,↓reduceIte,reduceCtorEq,Nat.reduceLeDiff,Nat.reduceLT,Nat.reduceBEq,Nat.reduceAdd,List.length_map,hat,hat2,hln,hr];(repeat1' with_reducible first|apply And.intro|(intro _;try exact q_v)|(refine hK _ ?_;clear hK K))<;>(try (clear hK K;exact q_u)))|(with_reducible refine q_s ?_;(first|apply q_J|apply q_K|apply q_L|apply q_M|apply q_N|apply q_O)<;>try (intro _;try exact q_v)))
    all_goals first | omega | contradiction | exact hm | skip
    all_goals refine q_F ⟨i + 1,hc⟩ ?_ (by simp only; omega)
    all_goals (simp only [htk,List.map_append,List.map_cons,List.map_nil]; exact q_D)
  ·rw [if_neg hh,List.append_nil] at htk
   cases r <;> cases has <;> first | exact absurd rfl hh | skip
   all_goals
    repeat' (first|with_reducible refine q_0 ?_|((with_reducible first|refine q_q ub11_ok fun K hK=>?_|refine q_r ub11_ok fun K hK=>?_);simp (maxSteps:=2000000) only [go_sem,↓reduceIte,reduceCtorEq,Nat.reduceLeDiff,Nat.reduceLT,Nat.reduceBEq,Nat.reduceAdd,List.length_map,hat,hat2,hln,hr];(repeat1' with_reducible first|apply And.intro|(intro _;try exact q_v)|(refine hK _ ?_;clear hK K))<;>(try (clear hK K;exact q_u)))|(with_reducible refine q_s ?_;(first|apply q_J|apply q_K|apply q_L|apply q_M|apply q_N|apply q_O)<;>try (intro _;try exact q_v)))
    all_goals first | omega | contradiction | exact hm | skip
    all_goals refine q_F ⟨i + 1,hc⟩ ?_ (by simp only; omega)
    all_goals (simp only [htk]; exact q_D)
 ·obtain rfl : i = vs.length:=by omega
  have e1 : ts.take vs.length = ts:=by rw [ht,List.take_length]
  rw [List.take_length,e1]
  repeat' (first|with_reducible refine q_0 ?_|((with_reducible first|refine q_q ub11_ok fun K hK=>?_|refine q_r ub11_ok fun K hK=>?_);simp (maxSteps:=2000000) only [go_sem,↓reduceIte,reduceCtorEq,Nat.reduceLeDiff,Nat.reduceLT,Nat.reduceBEq,Nat.reduceAdd,List.length_map];(repeat1' with_reducible first|apply And.intro|(intro _;try exact q_v)|(refine hK _ ?_;clear hK K))<;>(try (clear hK K;exact q_u)))|(with_reducible refine q_s ?_;(first|apply q_J|apply q_K|apply q_L|apply q_M|apply q_N|apply q_O)<;>try (intro _;try exact q_v)))
  all_goals first | omega | contradiction | exact ends_g [(10,.own 1 0)] 2 (by exact q_D) rfl | skip
def pickCT : CT:=mkCTG fun H al K=>match H,al with
 | ⟨[(0,[.mc (.s f n)])],[(0,⟨0,34,7,.sl 7 ro⟩)],[]⟩,[.own 0 0,.c (.sl 7 r),.c (.sl 1 tr),.mp 0,.c (.b has)]=>((ro = (dV ro).map vC ∧ (dV ro).length ≤ 10000000) ∧ (r = (dV r).map vC ∧ (dV r).length ≤ 1000000) ∧ tr = tsC (tr.map deT) ∧ (dV r).length = (tr.map deT).length ∧ ∀ t ∈ tr.map deT,PoM f t) ∧ K (pkH f n (dV ro ++ pkF f has (dV r) (tr.map deT))) [.own 0 0]
 | ⟨[(0,[.mc (.s f n)])],[],[]⟩,[.c .nil,.c (.sl 7 r),.c (.sl 1 tr),.mp 0,.c (.b has)]=>((r = (dV r).map vC ∧ (dV r).length ≤ 1000000) ∧ tr = tsC (tr.map deT) ∧ (dV r).length = (tr.map deT).length ∧ ∀ t ∈ tr.map deT,PoM f t) ∧ K ⟨[(0,[.mc (.s f n)])],[(1,⟨0,34,7,.sl 7 ((pkF f has (dV r) (tr.map deT)).map vC)⟩)],[]⟩ [.own 1 0]
 | _,_=>False
def u4c : Cfg:=addT 62 pickCT cf0
theorem u4c_ok : TblOk Try.prog u4c:=ctg_ok cf0_ok Try.func62 fun H al K h=>by
 split at h
 ·rename_i f n ro r tr has
  obtain ⟨⟨⟨h1,h2⟩,⟨h3,h4⟩,h5,h6,h7⟩,hK⟩:=h
  have:=pick_own f n (dV ro) (dV r) (tr.map deT) has h2 h4 h6 h7
  rw [← h5,← h3] at this
  simp only [pkH] at this
  rw [← h1] at this
  exact ⟨_,_,this,hK⟩
 ·rename_i f n r tr has
  obtain ⟨⟨⟨h3,h4⟩,h5,h6,h7⟩,hK⟩:=h
  have:=pick_nil f n (dV r) (tr.map deT) has h4 h6 h7
  rw [← h5,← h3] at this
  exact ⟨_,_,this,hK⟩
 ·exact h.elim
attribute [go_sem] pickCT pkH
abbrev rwH (r : List (List C)) : Hp:=⟨[],[(0,⟨0,34,7,.sl 7 r⟩)],[]⟩
def ub12 : Cfg:=listT [(53,atCT)] [39]
theorem ub12_ok : TblOk Try.prog ub12:=listE_ok (by simp only [List.mem_singleton,forall_eq]; exact flt) ⟨⟨u3a,u3a_ok,rfl⟩,trivial⟩
attribute [go_sem] ub12
set_option maxRecDepth 100000 in
theorem limited_ok (r : List (List C)) (h : r.length ≤ 1000) : RetG Try.prog 61 (rwH r) [.own 0 0] ⟨[(1,[.c (.i .i64 0),.c (.i .i64 0)])],[(0,⟨0,34,7,.sl 7 r⟩)],[]⟩ [.own 0 0,.g [.i .i64 0,.i .i64 0]]:=by
 (refine ret_ge Try.func61 (fun F bs=>?_); simp only [avSl,ancs,hnx,Nat.reduceAdd,Nat.reduceLeDiff,if_true,if_false,List.length_cons,List.length_nil,List.cons_append,List.nil_append,Try.ntmps61,Try.results61])
 repeat' (first|with_reducible refine q_0 ?_|((with_reducible first|refine q_q ub12_ok fun K hK=>?_|refine q_r ub12_ok fun K hK=>?_);simp (maxSteps:=2000000) only [go_sem,↓reduceIte,reduceCtorEq,Nat.reduceLeDiff,Nat.reduceLT,Nat.reduceBEq,Nat.reduceAdd];(repeat1' with_reducible first|apply And.intro|(intro _;try exact q_v)|(refine hK _ ?_;clear hK K))<;>(try (clear hK K;exact q_u)))|(with_reducible refine q_s ?_;(first|apply q_J|apply q_K|apply q_L|apply q_M|apply q_N|apply q_O)<;>try (intro _;try exact q_v)))
 all_goals first | omega | contradiction | exact ends_g [(2,.own 0 0),(3,.bx 1 0)] 2 (by exact q_D) rfl | skip
set_option maxRecDepth 100000 in
theorem limited_bad (r : List (List C)) (h : 1000 < r.length) : RetG Try.prog 61 (rwH r) [.own 0 0] ⟨[(1,[.c (.i .i64 2),.c (.i .i64 (-1))])],[],[]⟩ [.c .nil,.g [.i .i64 2,.i .i64 (-1)]]:=by
 (refine ret_ge Try.func61 (fun F bs=>?_); simp only [avSl,ancs,hnx,Nat.reduceAdd,Nat.reduceLeDiff,if_true,if_false,List.length_cons,List.length_nil,List.cons_append,List.nil_append,Try.ntmps61,Try.results61])
 repeat' (first|with_reducible refine q_0 ?_|((with_reducible first|refine q_q ub12_ok fun K hK=>?_|refine q_r ub12_ok fun K hK=>?_);simp (maxSteps:=2000000) only [go_sem,↓reduceIte,reduceCtorEq,Nat.reduceLeDiff,Nat.reduceLT,Nat.reduceBEq,Nat.reduceAdd];(repeat1' with_reducible first|apply And.intro|(intro _;try exact q_v)|(refine hK _ ?_;clear hK K))<;>(try (clear hK K;exact q_u)))|(with_reducible refine q_s ?_;(first|apply q_J|apply q_K|apply q_L|apply q_M|apply q_N|apply q_O)<;>try (intro _;try exact q_v)))
 all_goals first | omega | contradiction | exact ends_g [(2,.c .nil),(3,.bx 1 0)] 2 (by exact q_D) rfl | skip
def limitedCT : CT:=mkCTG fun H al K=>match H,al with
 | ⟨[],[(0,⟨0,34,7,.sl 7 r⟩)],[]⟩,[.own 0 0]=>(r.length ≤ 1000 → K ⟨[(1,[.c (.i .i64 0),.c (.i .i64 0)])],[(0,⟨0,34,7,.sl 7 r⟩)],[]⟩ [.own 0 0,.g [.i .i64 0,.i .i64 0]]) ∧ (1000 < r.length → K ⟨[(1,[.c (.i .i64 2),.c (.i .i64 (-1))])],[],[]⟩ [.c .nil,.g [.i .i64 2,.i .i64 (-1)]])
 | _,_=>False
def u4d : Cfg:=addT 61 limitedCT cf0
theorem u4d_ok : TblOk Try.prog u4d:=ctg_ok cf0_ok Try.func61 fun H al K h=>by
 split at h
 ·rename_i r
  by_cases hc : r.length ≤ 1000
  ·exact ⟨_,_,limited_ok _ hc,h.1 hc⟩
  ·exact ⟨_,_,limited_bad _ (by omega),h.2 (by omega)⟩
 ·exact h.elim
attribute [go_sem] limitedCT rwH
theorem retG_split {P : Program} {f : FuncId} {H H' : Hp} {rs : List AV} {c : C} (hc : c.rows = some (c.z,[])) (h1 : RetG P f H [.c .nil] H' rs) (h2 : RetG P f H [.c .e0] H' rs) : RetG P f H [.c c] H' rs:=by
 intro w S G m vs bs hrep hbx hbn hbf hsz hvs
 match vs,hsz,hvs with
 | ⟨[v]⟩,hsz,hvs =>
  have hv : Rd w _ c v:=hvs 0 _ _ rfl rfl
  have hcase : ∀ T,Rd w T .nil v ∨ ∀ T,Rd w T .e0 v:=by
   intro T
   cases hv with
   | emp _ z p cap h hp =>
    cases p with
    | none=>left; rw [hp rfl]; exact .nil
    | some a=>right; exact fun _=>.e0 a cap
   | sl _ z rs b off cap us h hne=>rw [hc] at h; cases h; exact absurd rfl hne
   | _=>simp [C.rows] at hc
  rcases hcase _ with hv | hv
  ·exact h1 w S G m ⟨[v]⟩ bs hrep hbx hbn hbf rfl fun j y u hy hu=>by
    match j with
    | 0=>cases hy; cases hu; exact hv
    | _ + 1=>simp at hy
  ·exact h2 w S G m ⟨[v]⟩ bs hrep hbx hbn hbf rfl fun j y u hy hu=>by
    match j with
    | 0=>cases hy; cases hu; exact hv _
    | _ + 1=>simp at hy
theorem clone_some (r : List (List C)) (h : r ≠ []) (hl : r.length ≤ 1000000) : RetG Try.prog 54 ⟨[],[],[]⟩ [.c (.sl 7 r)] (rwH r) [.own 0 0]:=by
 (refine ret_ge Try.func54 (fun F bs=>?_); simp only [avSl,ancs,hnx,Nat.reduceAdd,Nat.reduceLeDiff,if_true,if_false,List.length_cons,List.length_nil,List.cons_append,List.nil_append,Try.ntmps54,Try.results54])
 repeat' (first|with_reducible refine q_0 ?_|((with_reducible first|refine q_q cf0_ok fun K hK=>?_|refine q_r cf0_ok fun K hK=>?_);simp (maxSteps:=2000000) only [go_sem,↓reduceIte,reduceCtorEq,Nat.reduceLeDiff,Nat.reduceLT,Nat.reduceBEq,Nat.reduceAdd];(repeat1' with_reducible first|apply And.intro|(intro _;try exact q_v)|(refine hK _ ?_;clear hK K))<;>(try (clear hK K;exact q_u)))|(with_reducible refine q_s ?_;(first|apply q_J|apply q_K|apply q_L|apply q_M|apply q_N|apply q_O)<;>try (intro _;try exact q_v)))
 all_goals first | omega | contradiction | exact h | exact ends_g [(2,.own 0 0)] 1 (by exact q_D) rfl | skip
theorem clone_nil : RetG Try.prog 54 ⟨[],[],[]⟩ [.c (.sl 7 [])] (rwH []) [.own 0 0]:=by
 refine retG_split rfl ?_ ?_
 ·(refine ret_ge Try.func54 (fun F bs=>?_); simp only [avSl,ancs,hnx,Nat.reduceAdd,Nat.reduceLeDiff,if_true,if_false,List.length_cons,List.length_nil,List.cons_append,List.nil_append,Try.ntmps54,Try.results54])
  repeat' (first|with_reducible refine q_0 ?_|((with_reducible first|refine q_q cf0_ok fun K hK=>?_|refine q_r cf0_ok fun K hK=>?_);simp (maxSteps:=2000000) only [go_sem,↓reduceIte,reduceCtorEq,Nat.reduceLeDiff,Nat.reduceLT,Nat.reduceBEq,Nat.reduceAdd];(repeat1' with_reducible first|apply And.intro|(intro _;try exact q_v)|(refine hK _ ?_;clear hK K))<;>(try (clear hK K;exact q_u)))|(with_reducible refine q_s ?_;(first|apply q_J|apply q_K|apply q_L|apply q_M|apply q_N|apply q_O)<;>try (intro _;try exact q_v)))
  all_goals first | omega | contradiction | exact ends_g [(2,.own 0 0)] 1 (by exact q_D) rfl | skip
 ·(refine ret_ge Try.func54 (fun F bs=>?_); simp only [avSl,ancs,hnx,Nat.reduceAdd,Nat.reduceLeDiff,if_true,if_false,List.length_cons,List.length_nil,List.cons_append,List.nil_append,Try.ntmps54,Try.results54])
  repeat' (first|with_reducible refine q_0 ?_|((with_reducible first|refine q_q cf0_ok fun K hK=>?_|refine q_r cf0_ok fun K hK=>?_);simp (maxSteps:=2000000) only [go_sem,↓reduceIte,reduceCtorEq,Nat.reduceLeDiff,Nat.reduceLT,Nat.reduceBEq,Nat.reduceAdd];(repeat1' with_reducible first|apply And.intro|(intro _;try exact q_v)|(refine hK _ ?_;clear hK K))<;>(try (clear hK K;exact q_u)))|(with_reducible refine q_s ?_;(first|apply q_J|apply q_K|apply q_L|apply q_M|apply q_N|apply q_O)<;>try (intro _;try exact q_v)))
  all_goals first | omega | contradiction | exact ends_g [(2,.own 0 0)] 1 (by exact q_D) rfl | skip
def cloneWCT : CT:=mkCTG fun H al K=>match H,al with
 | ⟨[],[],[]⟩,[.c (.sl 7 r)]=>r.length ≤ 1000000 ∧ K (rwH r) [.own 0 0]
 | _,_=>False
def u4e : Cfg:=addT 54 cloneWCT cf0
theorem u4e_ok : TblOk Try.prog u4e:=ctg_ok cf0_ok Try.func54 fun H al K h=>by
 split at h
 ·rename_i r
  by_cases h0 : r = []
  ·subst h0; exact ⟨_,_,clone_nil,h.2⟩
  ·exact ⟨_,_,clone_some _ h0 h.1,h.2⟩
 ·exact h.elim
attribute [go_sem] cloneWCT
end Go.Proofs.Ytncededjmcmidaa
