import Derived.Test.YtncededjmcmidaaX6
namespace Go.Proofs.Ytncededjmcmidaa
set_option linter.unusedSimpArgs false
set_option linter.unusedVariables false
open Go.Abs Go.Proofs.NatL

def deV : List C → Vl
 | [.i _ k,.b a,.ints _ x,.b b,.ints _ y,.str t,.i _ r]=>⟨k,a,x,b,y,t,r⟩
 | _=>refV 0
def deO : List C → Ob
 | [.i _ k,.str n,.i _ c,.ints _ rf,.ints _ od,_,.a v,.sl _ ks,_,_]=>⟨k,n,c,rf,od,some v,[],ks.map deV⟩
 | [.i _ k,.str n,.i _ c,.ints _ rf,.ints _ od,_,.sl _ it,.sl _ ks,_,_]=>⟨k,n,c,rf,od,none,it.map deV,ks.map deV⟩
 | _=>ob0
def Pr (o : Ob) : Prop:=o.raw = none ∨ o.it = []
def dV (l : List (List C)) : List Vl:=l.map deV
def dO (l : List (List C)) : List Ob:=l.map deO
theorem deV_vC (v : Vl) : deV (vC v) = v:=rfl
theorem dV_map (l : List Vl) : dV (l.map vC) = l:=by
 unfold dV
 rw [List.map_map]
 exact List.map_id'' deV_vC l
theorem deO_obC {o : Ob} (h : Pr o) : deO (obC o) = o:=by
 obtain ⟨k,n,c,rf,od,raw,it,ks⟩:=o
 have h1:=dV_map it
 have h2:=dV_map ks
 unfold dV at h1 h2
 cases raw with
 | none=>simp only [obC,itC,deO,h1,h2]
 | some v =>
  rcases h with h | h
  ·cases h
  ·simp only at h; subst h; simp only [obC,itC,deO,h2]
theorem dO_map {l : List Ob} (h : ∀ o ∈ l,Pr o) : dO (l.map obC) = l:=by
 unfold dO
 rw [List.map_map]
 conv=>rhs; rw [← List.map_id l]
 exact List.map_congr_left fun o ho=>deO_obC (h o ho)
theorem hbs_in {xs : List Int} (h : InB 4294967296 xs) : ∀ i,InB 256 (hbs xs i)
 | 0=>inB_nil _
 | i + 1=>by
  have:=hdg_in h i
  exact InB_app (hbs_in h i) (InB_two (by omega) (by omega))
theorem intB_in (a : Bool) {xs : List Int} (h : InB 4294967296 xs) : InB 256 (intB a xs):=by
 refine InB_app (InB_two ?_ (by omega)) (hbs_in h _)
 cases a <;> simp
theorem inB_cons {B : Nat} {x : Int} {xs : List Int} (h : 0 ≤ x ∧ x < B) (hx : InB B xs) : InB B (x :: xs):=fun z hz=>by
 rcases List.mem_cons.1 hz with rfl | hz
 ·exact h
 ·exact hx z hz
theorem bytesOf_in (t : ByteArray) : InB 256 (bytesOf t):=fun x hx=>by
 unfold bytesOf at hx
 obtain ⟨b,_,rfl⟩:=List.mem_map.1 hx
 have:=b.toNat_lt
 omega
theorem txtB_in {k : Int} (hk : 0 ≤ k ∧ k < 256) {t : ByteArray} (h : t.size ≤ 60000) : InB 256 (txtB k t) :=
 InB_app (inB_cons hk (InB_two (by omega) (by omega))) (bytesOf_in t)
theorem plB_in {v : Vl} (h : OkP v) : InB 256 (plB v):=by
 obtain ⟨⟨h1,h2⟩,⟨h3,h4⟩,h5,_⟩:=h
 have b:=inB_nil 256
 unfold plB
 repeat' split
 ·exact inB_cons (by omega) b
 ·exact InB_two (by omega) (by omega)
 ·exact inB_cons (by omega) (intB_in _ h2)
 ·exact inB_cons (by omega) (InB_app (intB_in _ h2) (intB_in _ h4))
 ·exact txtB_in (by omega) h5
 ·exact txtB_in (by omega) h5
 ·exact txtB_in (by omega) h5
 ·exact inB_cons (by omega) b
theorem keyG_in {os : List Ob} (ho : HOk os) : ∀ (p : Nat) (td : List Vl) (out : List Int),(∀ x ∈ td,OkW os.length x) → InB 256 out → InB 256 (keyG os p td out).1 ∧ (keyG os p td out).1.length ≤ out.length + p * 60003
 | p,[],out,_,h=>by cases p <;> exact ⟨h,by simp [keyG]⟩
 | 0,_ :: _,out,_,_=>⟨inB_nil _,by simp [keyG]⟩
 | p + 1,x :: t,out,ht,h=>by
  have hx:=ht x (List.mem_cons_self ..)
  have ht' : ∀ y ∈ t,OkW os.length y:=fun y hy=>ht y (List.mem_cons_of_mem _ hy)
  have hb:=plB_len x hx.1
  unfold keyG
  split
  ·exact ⟨inB_nil _,by simp⟩
  split
  ·rename_i h6
   have hr:=hx.2 h6
   have hmem:=ob_mem os hr
   have hT:=ho.2 _ hmem
   simp only
   generalize os.getD x.r.toNat ob0 = o at *
   split
   ·exact ⟨inB_nil _,by simp⟩
   split
   ·rename_i h1
    obtain ⟨_,hT2,hT3⟩:=hT h1
    have:=keyG_in ho p (o.it ++ t) (out ++ [6,(o.it.length : Int) % 256,(o.it.length : Int) / 256]) (fun y hy=>(List.mem_append.1 hy).elim (hT3 y) (ht' y)) (InB_app h (inB_cons (by omega) (InB_two (by omega) (by omega))))
    refine ⟨this.1,?_⟩
    have h2:=this.2
    simp only [List.length_append,List.length_cons,List.length_nil] at h2
    omega
   ·have:=keyG_in ho p t (out ++ refB x.r) ht' (InB_app h (inB_cons (by omega) (inB_cons (by omega) (inB_cons (by omega) (InB_two (by omega) (by omega))))))
    refine ⟨this.1,?_⟩
    have h2:=this.2
    have hrl : (refB x.r).length = 5:=rfl
    simp only [List.length_append,hrl] at h2
    omega
  ·have:=keyG_in ho p t (out ++ plB x) ht' (InB_app h (plB_in hx.1))
   refine ⟨this.1,?_⟩
   have h2:=this.2
   simp only [List.length_append] at h2
   omega
theorem keyF_in {os : List Ob} {v : Vl} (ho : HOk os) (hv : OkW os.length v) : InB 256 (keyF os v).1 ∧ (keyF os v).1.length ≤ 60003000:=by
 have:=keyG_in ho 1000 [v] [] (by simpa using hv) (inB_nil _)
 exact ⟨this.1,by have:=this.2; simp at this; exact this⟩
def keyCT : CT:=mkCT [] false fun l K=>match l with
 | [.inr [.sl 10 rows],.inr [.i .i64 k,.b a,.ints .u32 x,.b b,.ints .u32 y,.str t,.i .i64 r]]=>(rows = (dO rows).map obC ∧ HOk (dO rows) ∧ OkW (dO rows).length ⟨k,a,x,b,y,t,r⟩) ∧ K (.t [.inl (.ints .u8 (keyF (dO rows) ⟨k,a,x,b,y,t,r⟩).1),.inr [.i .i64 (keyF (dO rows) ⟨k,a,x,b,y,t,r⟩).2.1,.i .i64 (keyF (dO rows) ⟨k,a,x,b,y,t,r⟩).2.2]])
 | _=>False
def h9a : Cfg:=addT 17 keyCT ha6
theorem h9a_ok : TblOk Try.prog h9a:=q_I ha6_ok Try.func17 fun l K h=>by
 split at h
 ·rename_i rows k a x b y t r
  obtain ⟨⟨h1,h2,h3⟩,hK⟩:=h
  refine ⟨_,?_,hK⟩
  have:=key_ret (dO rows) ⟨k,a,x,b,y,t,r⟩ h2 h3
  rw [← h1] at this
  exact this
 ·exact h.elim
attribute [go_sem] keyCT
def posF (os : List Ob) (c : List Int) : List Vl → Nat → Int
 | [],_ => -1
 | k :: t,i=>if (keyF os k).1 = c then i else posF os c t (i + 1)
def plO (os : List Ob) (ks : List Vl) (v : Vl) : Int × Int × Int:=if (keyF os v).2.1 = 0 then (posF os (keyF os v).1 ks 0,0,0) else (0,(keyF os v).2.1,(keyF os v).2.2)
theorem bytes_strOf : ∀ xs : List Int,InB 256 xs → bytesOf (strOf xs) = xs:=by
 intro xs hx
 have go : ∀ (xs : List Int) (r : ByteArray),InB 256 xs → bytesOf (xs.foldl (fun r n=>r.push (UInt8.ofNat n.toNat)) r) = bytesOf r ++ xs:=by
  intro xs
  induction xs with
  | nil=>intro r _; simp
  | cons x xs ih =>
   intro r h
   have hx:=h x (List.mem_cons_self ..)
   rw [List.foldl_cons,ih _ fun y hy=>h y (List.mem_cons_of_mem _ hy)]
   unfold bytesOf
   simp only [ByteArray.push,Array.toList_push,List.map_append,List.map_cons,List.map_nil,List.append_assoc,List.cons_append,List.nil_append]
   congr 2
   simp only [UInt8.toNat_ofNat']
   omega
 unfold strOf
 rw [go xs _ hx]
 rfl
theorem strOf_cmp {a b : List Int} (ha : InB 256 a) (hb : InB 256 b) : ((strOf a).toList == (strOf b).toList) = decide (a = b):=by
 rw [str_eq,bytes_strOf a ha,bytes_strOf b hb]
theorem posF_skip {os : List Ob} {c : List Int} {ks : List Vl} {i : Nat} (hi : i < ks.length) : posF os c (ks.drop i) i = if (keyF os (ks.getD i (refV 0))).1 = c then (i : Int) else posF os c (ks.drop (i + 1)) (i + 1):=by
 rw [List.drop_eq_getElem_cons hi]
 simp only [posF,List.getD_eq_getElem?_getD,List.getElem?_eq_getElem hi,Option.getD_some]
theorem vC_at (ks : List Vl) {i : Nat} (h : i < ks.length) : (ks.map vC).getD i [] = vC (ks.getD i (refV 0)):=by
 simp [List.getD_eq_getElem?_getD,List.getElem?_eq_getElem h]
theorem v_mem (ks : List Vl) {i : Nat} (h : i < ks.length) : ks.getD i (refV 0) ∈ ks:=by
 simp [List.getD_eq_getElem?_getD,List.getElem?_eq_getElem h]
def ha7 : Cfg:=listT [(17,keyCT)] [39]
theorem ha7_ok : TblOk Try.prog ha7:=listE_ok (by simp only [List.mem_singleton,forall_eq]; exact flt) ⟨⟨h9a,h9a_ok,rfl⟩,trivial⟩
attribute [go_sem] ha7
set_option maxRecDepth 100000 in
set_option maxHeartbeats 8000000 in
theorem placeOf_ret (os : List Ob) (ks : List Vl) (v : Vl) (hp : ∀ o ∈ os,Pr o) (ho : HOk os) (hk : ks.length ≤ 100000 ∧ ∀ x ∈ ks,OkW os.length x) (hv : OkW os.length v) : Ret Try.prog 26 false [.inr [.sl 10 (os.map obC)],.inl (.sl 7 (ks.map vC)),.inr (vC v)] (.t [.inl (.i .i64 (plO os ks v).1),.inr [.i .i64 (plO os ks v).2.1,.i .i64 (plO os ks v).2.2]]):=by
 have hd:=dO_map hp
 have hc:=keyF_in ho hv
 unfold plO
 obtain ⟨k,a,xs,b,ys,tx,r⟩:=v
 generalize hKF : keyF os ⟨k,a,xs,b,ys,tx,r⟩ = R at *
 obtain ⟨c,cd,ix⟩:=R
 simp only at hc
 obtain ⟨hk1,hk2⟩:=hk
 (refine q_H Try.func26 (fun F=>?_); simp only [q_z,q_y,Try.ntmps26,Try.results26])
 simp only [vC]
 by_cases h0 : cd = 0
 ·subst h0
  rw [if_pos rfl]
  repeat' (first|with_reducible refine q_0 ?_|((with_reducible first|refine q_q ha7_ok fun K hK=>?_|refine q_r ha7_ok fun K hK=>?_);simp (maxSteps:=2000000) only [go_sem,↓reduceIte,reduceCtorEq,Nat.reduceLeDiff,Nat.reduceLT,Nat.reduceBEq,Nat.reduceAdd,hd,hKF];(repeat1' with_reducible first|apply And.intro|(intro _;try exact q_v)|(refine hK _ ?_;clear hK K))<;>(try (clear hK K;exact q_u)))|(with_reducible refine q_s ?_;(first|apply q_J|apply q_K|apply q_L|apply q_M|apply q_N|apply q_O)<;>try (intro _;try exact q_v)))
  all_goals first | omega | skip
  refine q_G (ι:={ i : Nat // i ≤ ks.length ∧ posF os c (ks.drop i) i = posF os c ks 0 }) (fun p=>⟨46,[(1,.c (.sl 7 (ks.map vC))),(3,.bx 0 0),(7,.bx 2 0),(8,.c (.ints .u8 c)),(10,.c (.i .i64 p.1))],⟨[(0,[.c (.sl 10 (os.map obC))]),(2,[.c (.i .i64 0),.c (.i .i64 0)])],[],[]⟩,4⟩) (fun p=>ks.length - p.1) ⟨0,by simp,by simp⟩ ?_ ?_
  ·exact q_D
  rintro ⟨i,g1,g2⟩
  simp only at g1 g2 ⊢
  by_cases hi : i < ks.length
  ·have hs:=posF_skip (os:=os) (c:=c) hi
   have hat:=vC_at ks hi
   have hmem:=hk2 _ (v_mem ks hi)
   have hin:=keyF_in ho hmem
   generalize ks.getD i (refV 0) = x at *
   obtain ⟨xk,xa,xx,xb,xy,xt,xr⟩:=x
   generalize hX : keyF os ⟨xk,xa,xx,xb,xy,xt,xr⟩ = X at *
   have hinj:=strOf_cmp hin.1 hc.1
   simp only [vC] at hat
   repeat' (first|with_reducible refine q_0 ?_|((with_reducible first|refine q_q ha7_ok fun K hK=>?_|refine q_r ha7_ok fun K hK=>?_);simp (maxSteps:=2000000) only [go_sem,↓reduceIte,reduceCtorEq,Nat.reduceLeDiff,Nat.reduceLT,Nat.reduceBEq,Nat.reduceAdd,hd,hX,hat,List.length_map,hinj];(repeat1' with_reducible first|apply And.intro|(intro _;try exact q_v)|(refine hK _ ?_;clear hK K))<;>(try (clear hK K;exact q_u)))|(with_reducible refine q_s ?_;(first|apply q_J|apply q_K|apply q_L|apply q_M|apply q_N|apply q_O)<;>try (intro _;try exact q_v)))
   all_goals first | omega | skip
   ·refine q_A ?_
    rename_i he
    rw [← g2,hs,if_pos he]; rfl
   ·rename_i he
    rw [if_neg he] at hs
    refine q_F ⟨i + 1,by omega,by rw [← hs]; exact g2⟩ ?_ ?_
    ·exact q_D
    ·show ks.length - (i + 1) < ks.length - i
     omega
  ·repeat' (first|with_reducible refine q_0 ?_|((with_reducible first|refine q_q ha7_ok fun K hK=>?_|refine q_r ha7_ok fun K hK=>?_);simp (maxSteps:=2000000) only [go_sem,↓reduceIte,reduceCtorEq,Nat.reduceLeDiff,Nat.reduceLT,Nat.reduceBEq,Nat.reduceAdd,List.length_map];(repeat1' with_reducible first|apply And.intro|(intro _;try exact q_v)|(refine hK _ ?_;clear hK K))<;>(try (clear hK K;exact q_u)))|(with_reducible refine q_s ?_;(first|apply q_J|apply q_K|apply q_L|apply q_M|apply q_N|apply q_O)<;>try (intro _;try exact q_v)))
   all_goals first | omega | skip
   refine q_A ?_
   have e : ks.drop i = []:=List.drop_eq_nil_of_le (by omega)
   rw [← g2,e]; rfl
 ·rw [if_neg h0]
  repeat' (first|with_reducible refine q_0 ?_|((with_reducible first|refine q_q ha7_ok fun K hK=>?_|refine q_r ha7_ok fun K hK=>?_);simp (maxSteps:=2000000) only [go_sem,↓reduceIte,reduceCtorEq,Nat.reduceLeDiff,Nat.reduceLT,Nat.reduceBEq,Nat.reduceAdd,hd,hKF];(repeat1' with_reducible first|apply And.intro|(intro _;try exact q_v)|(refine hK _ ?_;clear hK K))<;>(try (clear hK K;exact q_u)))|(with_reducible refine q_s ?_;(first|apply q_J|apply q_K|apply q_L|apply q_M|apply q_N|apply q_O)<;>try (intro _;try exact q_v)))
  all_goals first | omega | contradiction | exact q_A rfl | skip
def placeCT : CT:=mkCT [.inr [none],.inl (some (.sl 7 [])),nVal] true fun l K=>match l with
 | [.inr [.sl 10 rows],.inl (.sl 7 kr),.inr [.i .i64 k,.b a,.ints .u32 x,.b b,.ints .u32 y,.str t,.i .i64 r]]=>((rows = (dO rows).map obC ∧ ∀ o ∈ dO rows,Pr o) ∧ kr = (dV kr).map vC ∧ HOk (dO rows) ∧ ((dV kr).length ≤ 100000 ∧ ∀ x ∈ dV kr,OkW (dO rows).length x) ∧ OkW (dO rows).length ⟨k,a,x,b,y,t,r⟩) ∧ K (.t [.inl (.i .i64 (plO (dO rows) (dV kr) ⟨k,a,x,b,y,t,r⟩).1),.inr [.i .i64 (plO (dO rows) (dV kr) ⟨k,a,x,b,y,t,r⟩).2.1,.i .i64 (plO (dO rows) (dV kr) ⟨k,a,x,b,y,t,r⟩).2.2]])
 | _=>False
def h9b : Cfg:=addT 26 placeCT h9a
theorem h9b_ok : TblOk Try.prog h9b:=q_I h9a_ok Try.func26 fun l K h=>by
 split at h
 ·rename_i rows kr k a x b y t r
  obtain ⟨⟨⟨h1,h2⟩,h3,h4,h5,h6⟩,hK⟩:=h
  refine ⟨_,Ret.plain ?_ rfl,hK⟩
  have:=placeOf_ret (dO rows) (dV kr) ⟨k,a,x,b,y,t,r⟩ h2 h4 h5 h6
  rw [← h1,← h3] at this
  exact this
 ·exact h.elim
attribute [go_sem] placeCT
end Go.Proofs.Ytncededjmcmidaa

namespace Go.Proofs.Ytncededjmcmidaa
set_option linter.unusedSimpArgs false
set_option linter.unusedVariables false
open Go.Abs Go.Proofs.NatL

def ub1 : Cfg:=listT [(87,sameCT)] [39]
theorem ub1_ok : TblOk Try.prog ub1:=listE_ok (by simp only [List.mem_singleton,forall_eq]; exact flt) ⟨⟨ch2,ch2_ok,rfl⟩,trivial⟩
attribute [go_sem] ub1
set_option maxHeartbeats 800000 in
theorem sameIntsE_ret (s : Bool) (xs : List Int) (hx : xs.length ≤ 16777216) : Ret Try.prog 67 false [.inr [.b s,.ints .u32 xs],.inr [.b s,.ints .u32 xs]] (.c (.b true)):=by
 cases s
 all_goals
  (refine q_H Try.func67 (fun F=>?_); simp only [q_z,q_y,Try.ntmps67,Try.results67])
  repeat' (first|with_reducible refine q_0 ?_|((with_reducible first|refine q_q ub1_ok fun K hK=>?_|refine q_r ub1_ok fun K hK=>?_);simp (maxSteps:=2000000) only [go_sem,↓reduceIte,reduceCtorEq,Nat.reduceLeDiff,Nat.reduceLT,Nat.reduceBEq,Nat.reduceAdd];(repeat1' with_reducible first|apply And.intro|(intro _;try exact q_v)|(refine hK _ ?_;clear hK K))<;>(try (clear hK K;exact q_u)))|(with_reducible refine q_s ?_;(first|apply q_J|apply q_K|apply q_L|apply q_M|apply q_N|apply q_O)<;>try (intro _;try exact q_v)))
  all_goals first | omega | (refine q_A ?_; simp [resAV,q_y]; done) | skip
def sameIntsECT : CT:=mkCT [nP,nP] true fun l K=>match l with
 | [.inr [.b s,.ints .u32 xs],.inr [.b t,.ints .u32 ys]]=>((s = t ∧ xs = ys) ∧ xs.length ≤ 16777216) ∧ K (.c (.b true))
 | _=>False
def u1a : Cfg:=addT 67 sameIntsECT cf0
theorem u1a_ok : TblOk Try.prog u1a:=q_I cf0_ok Try.func67 fun l K h=>by
 split at h
 ·obtain ⟨⟨⟨rfl,rfl⟩,h1⟩,hK⟩:=h
  exact ⟨_,(sameIntsE_ret _ _ h1).plain rfl,hK⟩
 ·exact h.elim
attribute [go_sem] sameIntsECT
def ub2 : Cfg:=listT [(67,sameIntsECT)] [39]
theorem ub2_ok : TblOk Try.prog ub2:=listE_ok (by simp only [List.mem_singleton,forall_eq]; exact flt) ⟨⟨u1a,u1a_ok,rfl⟩,trivial⟩
attribute [go_sem] ub2
def FwV (v : Vl) : Prop:=v.x.length ≤ 50 ∧ v.y.length ≤ 50
theorem fwV {n : Nat} {v : Vl} (h : OkW n v) : FwV v:=⟨h.1.1.1,h.1.2.1.1⟩
set_option maxRecDepth 100000 in
set_option maxHeartbeats 1600000 in
theorem sameValue_ret (v : Vl) (h : FwV v) : Ret Try.prog 42 false [.inr (vC v),.inr (vC v)] (.c (.b true)):=by
 obtain ⟨h1,h2⟩:=h
 obtain ⟨k,a,x,b,y,t,r⟩:=v
 simp only at h1 h2
 simp only [vC]
 (refine q_H Try.func42 (fun F=>?_); simp only [q_z,q_y,Try.ntmps42,Try.results42])
 repeat' (first|with_reducible refine q_0 ?_|((with_reducible first|refine q_q ub2_ok fun K hK=>?_|refine q_r ub2_ok fun K hK=>?_);simp (maxSteps:=2000000) only [go_sem,↓reduceIte,reduceCtorEq,Nat.reduceLeDiff,Nat.reduceLT,Nat.reduceBEq,Nat.reduceAdd];(repeat1' with_reducible first|apply And.intro|(intro _;try exact q_v)|(refine hK _ ?_;clear hK K))<;>(try (clear hK K;exact q_u)))|(with_reducible refine q_s ?_;(first|apply q_J|apply q_K|apply q_L|apply q_M|apply q_N|apply q_O)<;>try (intro _;try exact q_v)))
 all_goals first | omega | (refine q_A ?_; simp [resAV,q_y]; done) | skip
def sameValueCT : CT:=mkCT [nVal,nVal] true fun l K=>match l with
 | [.inr [.i .i64 k,.b a,.ints .u32 x,.b b,.ints .u32 y,.str t,.i .i64 r],.inr [.i .i64 k',.b a',.ints .u32 x',.b b',.ints .u32 y',.str t',.i .i64 r']]=>((Vl.mk k a x b y t r = Vl.mk k' a' x' b' y' t' r') ∧ FwV ⟨k,a,x,b,y,t,r⟩) ∧ K (.c (.b true))
 | _=>False
def u1b : Cfg:=addT 42 sameValueCT cf0
theorem u1b_ok : TblOk Try.prog u1b:=q_I cf0_ok Try.func42 fun l K h=>by
 split at h
 ·obtain ⟨⟨he,h1⟩,hK⟩:=h
  cases he
  exact ⟨_,(sameValue_ret _ h1).plain rfl,hK⟩
 ·exact h.elim
attribute [go_sem] sameValueCT
def ub3 : Cfg:=listT [(42,sameValueCT)] [39]
theorem ub3_ok : TblOk Try.prog ub3:=listE_ok (by simp only [List.mem_singleton,forall_eq]; exact flt) ⟨⟨u1b,u1b_ok,rfl⟩,trivial⟩
attribute [go_sem] ub3
set_option maxRecDepth 100000 in
set_option maxHeartbeats 1600000 in
theorem sameValues_ret (l : List Vl) (hl : l.length ≤ 1000000) (h : ∀ v ∈ l,FwV v) : Ret Try.prog 37 false [.inl (.sl 7 (l.map vC)),.inl (.sl 7 (l.map vC))] (.c (.b true)):=by
 (refine q_H Try.func37 (fun F=>?_); simp only [q_z,q_y,Try.ntmps37,Try.results37])
 repeat' (first|with_reducible refine q_0 ?_|((with_reducible first|refine q_q ub3_ok fun K hK=>?_|refine q_r ub3_ok fun K hK=>?_);simp (maxSteps:=2000000) only [go_sem,↓reduceIte,reduceCtorEq,Nat.reduceLeDiff,Nat.reduceLT,Nat.reduceBEq,Nat.reduceAdd,List.length_map];(repeat1' with_reducible first|apply And.intro|(intro _;try exact q_v)|(refine hK _ ?_;clear hK K))<;>(try (clear hK K;exact q_u)))|(with_reducible refine q_s ?_;(first|apply q_J|apply q_K|apply q_L|apply q_M|apply q_N|apply q_O)<;>try (intro _;try exact q_v)))
 all_goals first | omega | skip
 refine q_G (ι:={ i : Nat // i ≤ l.length }) (fun p=>⟨27,[(0,.c (.sl 7 (l.map vC))),(1,.c (.sl 7 (l.map vC))),(5,.c (.i .i64 p.1))],⟨[],[],[]⟩,1⟩) (fun p=>l.length - p.1) ⟨0,Nat.zero_le _⟩ ?_ ?_
 ·exact q_D
 rintro ⟨i,hi⟩
 simp only at hi ⊢
 by_cases hc : i < l.length
 ·have hat:=vC_at l hc
  have hm:=h _ (v_mem l hc)
  generalize l.getD i (refV 0) = v at *
  obtain ⟨k,a,x,b,y,t,r⟩:=v
  simp only [vC] at hat
  repeat' (first|with_reducible refine q_0 ?_|((with_reducible first|refine q_q ub3_ok fun K hK=>?_|refine q_r ub3_ok fun K hK=>?_);simp (maxSteps:=2000000) only [go_sem,↓reduceIte,reduceCtorEq,Nat.reduceLeDiff,Nat.reduceLT,Nat.reduceBEq,Nat.reduceAdd,hat,List.length_map];(repeat1' with_reducible first|apply And.intro|(intro _;try exact q_v)|(refine hK _ ?_;clear hK K))<;>(try (clear hK K;exact q_u)))|(with_reducible refine q_s ?_;(first|apply q_J|apply q_K|apply q_L|apply q_M|apply q_N|apply q_O)<;>try (intro _;try exact q_v)))
  all_goals first | omega | contradiction | skip
  refine q_F ⟨i + 1,hc⟩ ?_ (by simp only; omega)
  exact q_D
 ·repeat' (first|with_reducible refine q_0 ?_|((with_reducible first|refine q_q ub3_ok fun K hK=>?_|refine q_r ub3_ok fun K hK=>?_);simp (maxSteps:=2000000) only [go_sem,↓reduceIte,reduceCtorEq,Nat.reduceLeDiff,Nat.reduceLT,Nat.reduceBEq,Nat.reduceAdd,List.length_map];(repeat1' with_reducible first|apply And.intro|(intro _;try exact q_v)|(refine hK _ ?_;clear hK K))<;>(try (clear hK K;exact q_u)))|(with_reducible refine q_s ?_;(first|apply q_J|apply q_K|apply q_L|apply q_M|apply q_N|apply q_O)<;>try (intro _;try exact q_v)))
  all_goals first | omega | contradiction | exact q_A rfl | skip
def sameValuesCT : CT:=mkCT [.inl (some (.sl 7 [])),.inl (some (.sl 7 []))] true fun l K=>match l with
 | [.inl (.sl 7 r),.inl (.sl 7 r')]=>(r = r' ∧ r = (dV r).map vC ∧ (dV r).length ≤ 1000000 ∧ ∀ v ∈ dV r,FwV v) ∧ K (.c (.b true))
 | _=>False
def u1c : Cfg:=addT 37 sameValuesCT cf0
theorem u1c_ok : TblOk Try.prog u1c:=q_I cf0_ok Try.func37 fun l K h=>by
 split at h
 ·rename_i r r'
  obtain ⟨⟨rfl,h1,h2,h3⟩,hK⟩:=h
  have:=sameValues_ret (dV r) h2 h3
  rw [← h1] at this
  exact ⟨_,this.plain rfl,hK⟩
 ·exact h.elim
attribute [go_sem] sameValuesCT
end Go.Proofs.Ytncededjmcmidaa

namespace Go.Proofs.Ytncededjmcmidaa
set_option linter.unusedSimpArgs false
set_option linter.unusedVariables false
open Go.Abs Go.Proofs.NatL

abbrev rowB (out : List Int) : Hp:=⟨[],[(0,⟨0,5,1,.ints .u8 out⟩)],[]⟩
theorem hat_ret (c i : Int) : Ret Try.prog 76 false [.inl (.i .i64 c),.inl (.i .i64 i)] (.g [.i .i64 c,.i .i64 i]):=by
 (refine q_H Try.func76 (fun F=>?_); simp only [q_z,q_y,Try.ntmps76,Try.results76])
 repeat' (first|with_reducible refine q_0 ?_|((with_reducible first|refine q_q cf0_ok fun K hK=>?_|refine q_r cf0_ok fun K hK=>?_);simp (maxSteps:=2000000) only [go_sem,↓reduceIte,reduceCtorEq,Nat.reduceLeDiff,Nat.reduceLT,Nat.reduceBEq,Nat.reduceAdd];(repeat1' with_reducible first|apply And.intro|(intro _;try exact q_v)|(refine hK _ ?_;clear hK K))<;>(try (clear hK K;exact q_u)))|(with_reducible refine q_s ?_;(first|apply q_J|apply q_K|apply q_L|apply q_M|apply q_N|apply q_O)<;>try (intro _;try exact q_v)))
 all_goals exact q_A rfl
theorem pair_ret (n : Int) (hn : 0 ≤ n) : Ret Try.prog 77 false [.inl (.i .i64 n)] (.c (.ints .u8 [n % 256,n / 256 % 256])):=by
 have s8 : shrI .i64 n 8 = n / 256:=shrI_lit .i64 n 8 (by decide)
 (refine q_H Try.func77 (fun F=>?_); simp only [q_z,q_y,Try.ntmps77,Try.results77])
 repeat' (first|with_reducible refine q_0 ?_|((with_reducible first|refine q_q cf0_ok fun K hK=>?_|refine q_r cf0_ok fun K hK=>?_);simp (maxSteps:=2000000) only [go_sem,↓reduceIte,reduceCtorEq,Nat.reduceLeDiff,Nat.reduceLT,Nat.reduceBEq,Nat.reduceAdd,s8];(repeat1' with_reducible first|apply And.intro|(intro _;try exact q_v)|(refine hK _ ?_;clear hK K))<;>(try (clear hK K;exact q_u)))|(with_reducible refine q_s ?_;(first|apply q_J|apply q_K|apply q_L|apply q_M|apply q_N|apply q_O)<;>try (intro _;try exact q_v)))
 all_goals first | omega | exact q_A rfl | skip
def h16a : Cfg:=addT 76 atCT h9b
theorem h16a_ok : TblOk Try.prog h16a:=q_I h9b_ok Try.func76 fun l K h=>by
 split at h
 ·exact ⟨_,(hat_ret _ _).plain rfl,h⟩
 ·exact h.elim
def pairCT : CT:=mkCT [] false fun l K=>match l with
 | [.inl (.i .i64 n)]=>0 ≤ n ∧ K (.c (.ints .u8 [n % 256,n / 256 % 256]))
 | _=>False
def h16b : Cfg:=addT 77 pairCT h16a
theorem h16b_ok : TblOk Try.prog h16b:=q_I h16a_ok Try.func77 fun l K h=>by
 split at h
 ·exact ⟨_,pair_ret _ h.1,h.2⟩
 ·exact h.elim
attribute [go_sem] pairCT rowB
def ha11 : Cfg:=listT [(76,atCT),(77,pairCT)] [39]
theorem ha11_ok : TblOk Try.prog ha11:=listE_ok (by simp only [List.mem_singleton,forall_eq]; exact flt) ⟨⟨h16a,h16a_ok,rfl⟩,⟨h16b,h16b_ok,rfl⟩,trivial⟩
attribute [go_sem] ha11
theorem hbs_two {xs : List Int} (j : Nat) : hbs xs (2 * (j + 1)) = hbs xs (2 * j) ++ [xs.getD j 0 % 65536 % 256,xs.getD j 0 % 65536 / 256,xs.getD j 0 / 65536 % 256,xs.getD j 0 / 65536 / 256]:=by
 have e1 : hdg xs (2 * j) = xs.getD j 0 % 65536:=by unfold hdg; rw [if_pos (by omega),show 2 * j / 2 = j by omega]
 have e2 : hdg xs (2 * j + 1) = xs.getD j 0 / 65536:=by unfold hdg; rw [if_neg (by omega),show (2 * j + 1) / 2 = j by omega]
 show hbs xs (2 * j + 1 + 1) = _
 simp only [hbs,e1,e2,List.append_assoc,List.cons_append,List.nil_append]
set_option maxRecDepth 100000 in
set_option maxHeartbeats 4000000 in
theorem hnumber_ret (out : List Int) (a : Bool) (xs : List Int) (hx : xs.length ≤ 100) (bx : InB 4294967296 xs) (ho : out.length ≤ 100000000) : RetG Try.prog 91 (rowB out) [.own 0 0,.g [.b a,.ints .u32 xs]] (rowB (out ++ intB a xs)) [.own 0 0]:=by
 (refine ret_ge Try.func91 (fun F bs=>?_); simp only [avSl,ancs,hnx,Nat.reduceAdd,Nat.reduceLeDiff,if_true,if_false,List.length_cons,List.length_nil,List.cons_append,List.nil_append,Try.ntmps91,Try.results91])
 repeat' (first|with_reducible refine q_0 ?_|((with_reducible first|refine q_q ha11_ok fun K hK=>?_|refine q_r ha11_ok fun K hK=>?_);simp (maxSteps:=2000000) only [go_sem,↓reduceIte,reduceCtorEq,Nat.reduceLeDiff,Nat.reduceLT,Nat.reduceBEq,Nat.reduceAdd];(repeat1' with_reducible first|apply And.intro|(intro _;try exact q_v)|(refine hK _ ?_;clear hK K))<;>(try (clear hK K;exact q_u)))|(with_reducible refine q_s ?_;(first|apply q_J|apply q_K|apply q_L|apply q_M|apply q_N|apply q_O)<;>try (intro _;try exact q_v)))
 all_goals first | omega | skip
 all_goals
  refine q_G (ι:={ j : Nat // j ≤ xs.length }) (fun p=>⟨41,[(0,.own 0 0),(19,.c (.ints .u32 xs)),(20,.c (.i .i64 xs.length)),(21,.c (.i .i64 p.1))],⟨[],[(0,⟨0,5,1,.ints .u8 (out ++ ([if a then 1 else 0,(xs.length : Int) % 256] ++ hbs xs (2 * p.1)))⟩)],[]⟩,10⟩) (fun p=>xs.length - p.1) ⟨0,by omega⟩ ?_ ?_
  ·simp only [*,hbs,Nat.mul_zero,List.append_nil,if_true,if_false,Bool.false_eq_true]; exact q_D
  rintro ⟨j,g1⟩
  simp only at g1 ⊢
  have b1:=InB_getD (by omega) bx j
  have b4:=hbs_len xs (2 * j)
  have b5:=hbs_two (xs:=xs) j
  generalize hh : xs.getD j 0 = x at *
  have s8 : shrI .u32 x 8 = x / 256:=shrI_lit .u32 x 8 (by decide)
  have s16 : shrI .u32 x 16 = x / 65536:=shrI_lit .u32 x 16 (by decide)
  have s24 : shrI .u32 x 24 = x / 16777216:=shrI_lit .u32 x 24 (by decide)
  repeat' (first|with_reducible refine q_0 ?_|((with_reducible first|refine q_q ha11_ok fun K hK=>?_|refine q_r ha11_ok fun K hK=>?_);simp (maxSteps:=2000000) only [go_sem,↓reduceIte,reduceCtorEq,Nat.reduceLeDiff,Nat.reduceLT,Nat.reduceBEq,Nat.reduceAdd,b4,hh,s8,s16,s24];(repeat1' with_reducible first|apply And.intro|(intro _;try exact q_v)|(refine hK _ ?_;clear hK K))<;>(try (clear hK K;exact q_u)))|(with_reducible refine q_s ?_;(first|apply q_J|apply q_K|apply q_L|apply q_M|apply q_N|apply q_O)<;>try (intro _;try exact q_v)))
  all_goals first | omega | skip
  ·refine q_F ⟨j + 1,by omega⟩ ?_ ?_
   ·simp only [b5]
    have e0 : x % 65536 % 256 = x % 256:=by omega
    have e1 : x % 65536 / 256 = x / 256 % 256:=by omega
    have e2 : x / 65536 / 256 = x / 16777216 % 256:=by omega
    simp only [e0,e1,e2,List.append_assoc]
    exact q_D
   ·show xs.length - (j + 1) < xs.length - j
    omega
  ·obtain rfl : j = xs.length:=by omega
   exact ends_g [(4,.own 0 0)] 11 (by simp only [intB]; exact q_D) rfl
set_option maxRecDepth 100000 in
set_option maxHeartbeats 4000000 in
theorem htext_ret (out : List Int) (k : Int) (s : ByteArray) (hk : 0 ≤ k ∧ k < 256) (hs : s.size ≤ 60000) (ho : out.length ≤ 100000000) : RetG Try.prog 92 (rowB out) [.own 0 0,.c (.i .u8 k),.c (.str s)] (rowB (out ++ txtB k s)) [.own 0 0]:=by
 have e : (s.size : Int) / 256 % 256 = (s.size : Int) / 256:=by omega
 (refine ret_ge Try.func92 (fun F bs=>?_); simp only [avSl,ancs,hnx,Nat.reduceAdd,Nat.reduceLeDiff,if_true,if_false,List.length_cons,List.length_nil,List.cons_append,List.nil_append,Try.ntmps92,Try.results92])
 repeat' (first|with_reducible refine q_0 ?_|((with_reducible first|refine q_q ha11_ok fun K hK=>?_|refine q_r ha11_ok fun K hK=>?_);simp (maxSteps:=2000000) only [go_sem,↓reduceIte,reduceCtorEq,Nat.reduceLeDiff,Nat.reduceLT,Nat.reduceBEq,Nat.reduceAdd,e];(repeat1' with_reducible first|apply And.intro|(intro _;try exact q_v)|(refine hK _ ?_;clear hK K))<;>(try (clear hK K;exact q_u)))|(with_reducible refine q_s ?_;(first|apply q_J|apply q_K|apply q_L|apply q_M|apply q_N|apply q_O)<;>try (intro _;try exact q_v)))
 all_goals first | omega | (unfold maxLen; omega) | (with_unfolding_all rfl) | exact ends_g [(6,.own 0 0)] 10 (by simp only [txtB,List.append_assoc,List.cons_append,List.nil_append]; exact q_D) rfl | skip
def numberHCT : CT:=mkCTG fun H al K=>match H,al with
 | ⟨[],[(0,⟨0,5,1,.ints .u8 out⟩)],[]⟩,[.own 0 0,.g [.b a,.ints .u32 xs]]=>(xs.length ≤ 100 ∧ InB 4294967296 xs ∧ out.length ≤ 100000000) ∧ ((intB a xs).length = 2 + 4 * xs.length → K (rowB (out ++ intB a xs)) [.own 0 0])
 | _,_=>False
def h16c : Cfg:=addT 91 numberHCT cf0
theorem h16c_ok : TblOk Try.prog h16c:=ctg_ok cf0_ok Try.func91 fun H al K h=>by
 split at h
 ·exact ⟨_,_,hnumber_ret _ _ _ h.1.1 h.1.2.1 h.1.2.2,h.2 (intB_len _ _)⟩
 ·exact h.elim
def textHCT : CT:=mkCTG fun H al K=>match H,al with
 | ⟨[],[(0,⟨0,5,1,.ints .u8 out⟩)],[]⟩,[.own 0 0,.c (.i .u8 k),.c (.str s)]=>((0 ≤ k ∧ k < 256) ∧ s.size ≤ 60000 ∧ out.length ≤ 100000000) ∧ K (rowB (out ++ txtB k s)) [.own 0 0]
 | _,_=>False
def h16d : Cfg:=addT 92 textHCT cf0
theorem h16d_ok : TblOk Try.prog h16d:=ctg_ok cf0_ok Try.func92 fun H al K h=>by
 split at h
 ·exact ⟨_,_,htext_ret _ _ _ h.1.1 h.1.2.1 h.1.2.2,h.2⟩
 ·exact h.elim
attribute [go_sem] numberHCT textHCT
end Go.Proofs.Ytncededjmcmidaa

namespace Go.Proofs.Ytncededjmcmidaa
set_option linter.unusedSimpArgs false
set_option linter.unusedVariables false
open Go.Abs Go.Proofs.NatL

def cvL (os : List Ob) : Nat → List Vl → List Int → Nat × List Int × Int × Int
  | r, [], out => (r, out, 0, 0)
  | 0, _ :: _, out => (0, out, 14, -2)
  | r + 1, x :: t, out =>
    if x.k = 9 then (r, out, 27, -2) else if x.k = 6 then
      (let o := os.getD x.r.toNat ob0
       if o.k = 2 ∨ o.k = 3 ∨ o.k = 4 ∨ o.k = 5 then (r, out, 27, x.r)
       else if o.k = 1 then cvL os r (o.it ++ t) (out ++ [6, (o.it.length : Int) % 256, (o.it.length : Int) / 256])
       else cvL os r t (out ++ refB x.r))
    else cvL os r t (out ++ plB x)
theorem cvL_key (os : List Ob) : ∀ (r : Nat) (td : List Vl) (out : List Int),((cvL os r td out).2.2.1 = 0 → keyG os r td out = ((cvL os r td out).2.1,0,0) ∧ (cvL os r td out).2.2.2 = 0) ∧
  ((cvL os r td out).2.2.1 ≠ 0 → keyG os r td out = ([],(cvL os r td out).2.2.1,(cvL os r td out).2.2.2))
 | r,[],out=>by
  have e1 : cvL os r [] out = (r,out,0,0):=by cases r <;> rfl
  have e2 : keyG os r [] out = (out,0,0):=by cases r <;> rfl
  rw [e1,e2]
  exact ⟨fun _=>⟨rfl,rfl⟩,fun h=>absurd rfl h⟩
 | 0,_ :: _,out=>⟨fun h=>by have h : (14 : Int) = 0:=h; omega,fun _=>rfl⟩
 | r + 1,x :: t,out=>by
  unfold cvL keyG
  by_cases h9 : x.k = 9
  ·rw [if_pos h9,if_pos h9]; exact ⟨fun h=>by have h : (27 : Int) = 0:=h; omega,fun _=>rfl⟩
  rw [if_neg h9,if_neg h9]
  by_cases h6 : x.k = 6
  ·rw [if_pos h6,if_pos h6]
   simp only
   generalize os.getD x.r.toNat ob0 = o
   by_cases h2 : o.k = 2 ∨ o.k = 3 ∨ o.k = 4 ∨ o.k = 5
   ·rw [if_pos h2,if_pos h2]; exact ⟨fun h=>by have h : (27 : Int) = 0:=h; omega,fun _=>rfl⟩
   rw [if_neg h2,if_neg h2]
   by_cases h1 : o.k = 1
   ·rw [if_pos h1,if_pos h1]; exact cvL_key os r _ _
   ·rw [if_neg h1,if_neg h1]; exact cvL_key os r _ _
  ·rw [if_neg h6,if_neg h6]; exact cvL_key os r _ _
theorem cvL_s (os : List Ob) (r : Nat) (x : Vl) (t : List Vl) (out : List Int) : cvL os (r + 1) (x :: t) out = if x.k = 9 then (r, out, 27, -2) else if x.k = 6 then
      (let o := os.getD x.r.toNat ob0
       if o.k = 2 ∨ o.k = 3 ∨ o.k = 4 ∨ o.k = 5 then (r, out, 27, x.r)
       else if o.k = 1 then cvL os r (o.it ++ t) (out ++ [6, (o.it.length : Int) % 256, (o.it.length : Int) / 256])
       else cvL os r t (out ++ refB x.r))
    else cvL os r t (out ++ plB x) := rfl
theorem cvL_app (os : List Ob) : ∀ (r : Nat) (a b : List Vl) (out : List Int),cvL os r (a ++ b) out = if (cvL os r a out).2.2.1 = 0 then cvL os (cvL os r a out).1 b (cvL os r a out).2.1 else cvL os r a out
 | r,[],b,out=>by
  have e1 : cvL os r [] out = (r,out,0,0):=by cases r <;> rfl
  rw [e1]; rfl
 | 0,x :: a,b,out=>by
  have e1 : cvL os 0 (x :: a) out = (0,out,14, -2):=rfl
  have e2 : cvL os 0 (x :: a ++ b) out = (0,out,14, -2):=rfl
  rw [e1,e2,if_neg (by simp)]
 | r + 1,x :: a,b,out=>by
  rw [List.cons_append,cvL_s os r x (a ++ b) out,cvL_s os r x a out]
  by_cases h9 : x.k = 9
  ·simp only [if_pos h9]; rw [if_neg (by simp)]
  simp only [if_neg h9]
  by_cases h6 : x.k = 6
  ·simp only [if_pos h6]
   generalize os.getD x.r.toNat ob0 = o
   by_cases h2 : o.k = 2 ∨ o.k = 3 ∨ o.k = 4 ∨ o.k = 5
   ·simp only [if_pos h2]; rw [if_neg (by simp)]
   simp only [if_neg h2]
   by_cases h1 : o.k = 1
   ·simp only [if_pos h1]; rw [← List.append_assoc]; exact cvL_app os r _ _ _
   ·simp only [if_neg h1]; exact cvL_app os r _ _ _
  ·simp only [if_neg h6]; exact cvL_app os r _ _ _
theorem cvL_le (os : List Ob) : ∀ (r : Nat) (td : List Vl) (out : List Int),(cvL os r td out).1 ≤ r
 | r,[],out=>by
  have e1 : cvL os r [] out = (r,out,0,0):=by cases r <;> rfl
  rw [e1]; exact Nat.le_refl _
 | 0,_ :: _,out=>Nat.le_refl _
 | r + 1,x :: t,out=>by
  unfold cvL
  repeat' split
  all_goals first | exact Nat.le_succ r | exact Nat.le_trans (cvL_le os r _ _) (Nat.le_succ r) | skip
  simp only
  repeat' split
  all_goals first | exact Nat.le_succ r | exact Nat.le_trans (cvL_le os r _ _) (Nat.le_succ r)
end Go.Proofs.Ytncededjmcmidaa

namespace Go.Proofs.Ytncededjmcmidaa
set_option linter.unusedSimpArgs false
set_option linter.unusedVariables false
open Go.Abs Go.Proofs.NatL

def ha12 : Cfg:=listT [(91,numberHCT),(92,textHCT)] [39]
theorem ha12_ok : TblOk Try.prog ha12:=listE_ok (by simp only [List.mem_singleton,forall_eq]; exact flt) ⟨⟨h16c,h16c_ok,rfl⟩,⟨h16d,h16d_ok,rfl⟩,trivial⟩
attribute [go_sem] ha12
set_option maxRecDepth 100000 in
set_option maxHeartbeats 8000000 in
theorem hplain_ok (out : List Int) (k : Int) (a : Bool) (x : List Int) (b : Bool) (y : List Int) (t : ByteArray) (r : Int) (h : OkP ⟨k,a,x,b,y,t,r⟩) (hk : k = 0 ∨ k = 1 ∨ k = 2 ∨ k = 3 ∨ k = 4 ∨ k = 5 ∨ k = 7 ∨ k = 8) (ho : out.length ≤ 90000000) : RetG Try.prog 78 (rowB out) [.own 0 0,.g (vC ⟨k,a,x,b,y,t,r⟩)] (rowB (out ++ plB ⟨k,a,x,b,y,t,r⟩)) [.own 0 0,.c (.b true)]:=by
 obtain ⟨⟨h1,h1'⟩,⟨h2,h2'⟩,h3,_⟩:=h
 simp only at h1 h1' h2 h2' h3
 unfold vC
 rcases hk with rfl | rfl | rfl | rfl | rfl | rfl | rfl | rfl
 all_goals simp only [plB,Int.reduceEq,↓reduceIte]
 ·(refine ret_ge Try.func78 (fun F bs=>?_); simp only [avSl,ancs,hnx,Nat.reduceAdd,Nat.reduceLeDiff,if_true,if_false,List.length_cons,List.length_nil,List.cons_append,List.nil_append,Try.ntmps78,Try.results78])
  repeat' (first|with_reducible refine q_0 ?_|((with_reducible first|refine q_q ha12_ok fun K hK=>?_|refine q_r ha12_ok fun K hK=>?_);simp (maxSteps:=2000000) only [go_sem,↓reduceIte,reduceCtorEq,Nat.reduceLeDiff,Nat.reduceLT,Nat.reduceBEq,Nat.reduceAdd];(repeat1' with_reducible first|apply And.intro|(intro _;try exact q_v)|(refine hK _ ?_;clear hK K))<;>(try (clear hK K;exact q_u)))|(with_reducible refine q_s ?_;(first|apply q_J|apply q_K|apply q_L|apply q_M|apply q_N|apply q_O)<;>try (intro _;try exact q_v)))
  all_goals first | omega | exact h1' | exact h2' | contradiction | rfl | exact keep_of [1] ⟨rfl,trivial⟩ | exact keep_of [1,1] ⟨rfl,rfl,trivial⟩ | skip
  exact ends_g [(4,.own 0 0),(5,.c (.b true))] 100 (by exact q_D) rfl
 ·(refine ret_ge Try.func78 (fun F bs=>?_); simp only [avSl,ancs,hnx,Nat.reduceAdd,Nat.reduceLeDiff,if_true,if_false,List.length_cons,List.length_nil,List.cons_append,List.nil_append,Try.ntmps78,Try.results78])
  repeat' (first|with_reducible refine q_0 ?_|((with_reducible first|refine q_q ha12_ok fun K hK=>?_|refine q_r ha12_ok fun K hK=>?_);simp (maxSteps:=2000000) only [go_sem,↓reduceIte,reduceCtorEq,Nat.reduceLeDiff,Nat.reduceLT,Nat.reduceBEq,Nat.reduceAdd];(repeat1' with_reducible first|apply And.intro|(intro _;try exact q_v)|(refine hK _ ?_;clear hK K))<;>(try (clear hK K;exact q_u)))|(with_reducible refine q_s ?_;(first|apply q_J|apply q_K|apply q_L|apply q_M|apply q_N|apply q_O)<;>try (intro _;try exact q_v)))
  all_goals first | omega | exact h1' | exact h2' | contradiction | rfl | exact keep_of [1] ⟨rfl,trivial⟩ | exact keep_of [1,1] ⟨rfl,rfl,trivial⟩ | skip
  exact ends_g [(4,.own 0 0),(5,.c (.b true))] 100 (by exact q_D) rfl
 ·(refine ret_ge Try.func78 (fun F bs=>?_); simp only [avSl,ancs,hnx,Nat.reduceAdd,Nat.reduceLeDiff,if_true,if_false,List.length_cons,List.length_nil,List.cons_append,List.nil_append,Try.ntmps78,Try.results78])
  repeat' (first|with_reducible refine q_0 ?_|((with_reducible first|refine q_q ha12_ok fun K hK=>?_|refine q_r ha12_ok fun K hK=>?_);simp (maxSteps:=2000000) only [go_sem,↓reduceIte,reduceCtorEq,Nat.reduceLeDiff,Nat.reduceLT,Nat.reduceBEq,Nat.reduceAdd];(repeat1' with_reducible first|apply And.intro|(intro _;try exact q_v)|(refine hK _ ?_;clear hK K))<;>(try (clear hK K;exact q_u)))|(with_reducible refine q_s ?_;(first|apply q_J|apply q_K|apply q_L|apply q_M|apply q_N|apply q_O)<;>try (intro _;try exact q_v)))
  all_goals first | omega | exact h1' | exact h2' | contradiction | rfl | exact keep_of [1] ⟨rfl,trivial⟩ | exact keep_of [1,1] ⟨rfl,rfl,trivial⟩ | skip
  exact ends_gr [(2,0)] [(4,.own 0 0),(5,.c (.b true))] 100 (by simp only [swp,List.append_assoc,List.cons_append,List.nil_append]; exact q_D) rfl
 ·(refine ret_ge Try.func78 (fun F bs=>?_); simp only [avSl,ancs,hnx,Nat.reduceAdd,Nat.reduceLeDiff,if_true,if_false,List.length_cons,List.length_nil,List.cons_append,List.nil_append,Try.ntmps78,Try.results78])
  repeat' (first|with_reducible refine q_0 ?_|((with_reducible first|refine q_q ha12_ok fun K hK=>?_|refine q_r ha12_ok fun K hK=>?_);simp (maxSteps:=2000000) only [go_sem,↓reduceIte,reduceCtorEq,Nat.reduceLeDiff,Nat.reduceLT,Nat.reduceBEq,Nat.reduceAdd];(repeat1' with_reducible first|apply And.intro|(intro _;try exact q_v)|(refine hK _ ?_;clear hK K))<;>(try (clear hK K;exact q_u)))|(with_reducible refine q_s ?_;(first|apply q_J|apply q_K|apply q_L|apply q_M|apply q_N|apply q_O)<;>try (intro _;try exact q_v)))
  all_goals first | omega | exact h1' | exact h2' | contradiction | rfl | exact keep_of [1] ⟨rfl,trivial⟩ | exact keep_of [1,1] ⟨rfl,rfl,trivial⟩ | skip
  exact ends_gr [(3,0)] [(4,.own 0 0),(5,.c (.b true))] 100 (by simp only [swp,List.append_assoc,List.cons_append,List.nil_append]; exact q_D) rfl
 ·(refine ret_ge Try.func78 (fun F bs=>?_); simp only [avSl,ancs,hnx,Nat.reduceAdd,Nat.reduceLeDiff,if_true,if_false,List.length_cons,List.length_nil,List.cons_append,List.nil_append,Try.ntmps78,Try.results78])
  repeat' (first|with_reducible refine q_0 ?_|((with_reducible first|refine q_q ha12_ok fun K hK=>?_|refine q_r ha12_ok fun K hK=>?_);simp (maxSteps:=2000000) only [go_sem,↓reduceIte,reduceCtorEq,Nat.reduceLeDiff,Nat.reduceLT,Nat.reduceBEq,Nat.reduceAdd];(repeat1' with_reducible first|apply And.intro|(intro _;try exact q_v)|(refine hK _ ?_;clear hK K))<;>(try (clear hK K;exact q_u)))|(with_reducible refine q_s ?_;(first|apply q_J|apply q_K|apply q_L|apply q_M|apply q_N|apply q_O)<;>try (intro _;try exact q_v)))
  all_goals first | omega | exact h1' | exact h2' | contradiction | rfl | exact keep_of [1] ⟨rfl,trivial⟩ | exact keep_of [1,1] ⟨rfl,rfl,trivial⟩ | skip
  exact ends_gr [(2,0)] [(4,.own 0 0),(5,.c (.b true))] 100 (by simp only [swp,List.append_assoc,List.cons_append,List.nil_append]; exact q_D) rfl
 ·(refine ret_ge Try.func78 (fun F bs=>?_); simp only [avSl,ancs,hnx,Nat.reduceAdd,Nat.reduceLeDiff,if_true,if_false,List.length_cons,List.length_nil,List.cons_append,List.nil_append,Try.ntmps78,Try.results78])
  repeat' (first|with_reducible refine q_0 ?_|((with_reducible first|refine q_q ha12_ok fun K hK=>?_|refine q_r ha12_ok fun K hK=>?_);simp (maxSteps:=2000000) only [go_sem,↓reduceIte,reduceCtorEq,Nat.reduceLeDiff,Nat.reduceLT,Nat.reduceBEq,Nat.reduceAdd];(repeat1' with_reducible first|apply And.intro|(intro _;try exact q_v)|(refine hK _ ?_;clear hK K))<;>(try (clear hK K;exact q_u)))|(with_reducible refine q_s ?_;(first|apply q_J|apply q_K|apply q_L|apply q_M|apply q_N|apply q_O)<;>try (intro _;try exact q_v)))
  all_goals first | omega | exact h1' | exact h2' | contradiction | rfl | exact keep_of [1] ⟨rfl,trivial⟩ | exact keep_of [1,1] ⟨rfl,rfl,trivial⟩ | skip
  exact ends_gr [(2,0)] [(4,.own 0 0),(5,.c (.b true))] 100 (by simp only [swp,List.append_assoc,List.cons_append,List.nil_append]; exact q_D) rfl
 ·(refine ret_ge Try.func78 (fun F bs=>?_); simp only [avSl,ancs,hnx,Nat.reduceAdd,Nat.reduceLeDiff,if_true,if_false,List.length_cons,List.length_nil,List.cons_append,List.nil_append,Try.ntmps78,Try.results78])
  repeat' (first|with_reducible refine q_0 ?_|((with_reducible first|refine q_q ha12_ok fun K hK=>?_|refine q_r ha12_ok fun K hK=>?_);simp (maxSteps:=2000000) only [go_sem,↓reduceIte,reduceCtorEq,Nat.reduceLeDiff,Nat.reduceLT,Nat.reduceBEq,Nat.reduceAdd];(repeat1' with_reducible first|apply And.intro|(intro _;try exact q_v)|(refine hK _ ?_;clear hK K))<;>(try (clear hK K;exact q_u)))|(with_reducible refine q_s ?_;(first|apply q_J|apply q_K|apply q_L|apply q_M|apply q_N|apply q_O)<;>try (intro _;try exact q_v)))
  all_goals first | omega | exact h1' | exact h2' | contradiction | rfl | exact keep_of [1] ⟨rfl,trivial⟩ | exact keep_of [1,1] ⟨rfl,rfl,trivial⟩ | skip
  exact ends_gr [(2,0)] [(4,.own 0 0),(5,.c (.b true))] 100 (by simp only [swp,List.append_assoc,List.cons_append,List.nil_append]; exact q_D) rfl
 ·(refine ret_ge Try.func78 (fun F bs=>?_); simp only [avSl,ancs,hnx,Nat.reduceAdd,Nat.reduceLeDiff,if_true,if_false,List.length_cons,List.length_nil,List.cons_append,List.nil_append,Try.ntmps78,Try.results78])
  repeat' (first|with_reducible refine q_0 ?_|((with_reducible first|refine q_q ha12_ok fun K hK=>?_|refine q_r ha12_ok fun K hK=>?_);simp (maxSteps:=2000000) only [go_sem,↓reduceIte,reduceCtorEq,Nat.reduceLeDiff,Nat.reduceLT,Nat.reduceBEq,Nat.reduceAdd];(repeat1' with_reducible first|apply And.intro|(intro _;try exact q_v)|(refine hK _ ?_;clear hK K))<;>(try (clear hK K;exact q_u)))|(with_reducible refine q_s ?_;(first|apply q_J|apply q_K|apply q_L|apply q_M|apply q_N|apply q_O)<;>try (intro _;try exact q_v)))
  all_goals first | omega | exact h1' | exact h2' | contradiction | rfl | exact keep_of [1] ⟨rfl,trivial⟩ | exact keep_of [1,1] ⟨rfl,rfl,trivial⟩ | skip
  exact ends_g [(4,.own 0 0),(5,.c (.b true))] 100 (by exact q_D) rfl
end Go.Proofs.Ytncededjmcmidaa

namespace Go.Proofs.Ytncededjmcmidaa
set_option linter.unusedSimpArgs false
set_option linter.unusedVariables false
open Go.Abs Go.Proofs.NatL

theorem cvL_len {os : List Ob} (ho : HOk os) : ∀ (r : Nat) (td : List Vl) (out : List Int),(∀ x ∈ td,OkW os.length x) → (cvL os r td out).2.1.length + (cvL os r td out).1 * 60003 ≤ out.length + r * 60003
 | r,[],out,_=>by
  have e1 : cvL os r [] out = (r,out,0,0):=by cases r <;> rfl
  rw [e1]; exact Nat.le_refl _
 | 0,_ :: _,out,_=>Nat.le_refl _
 | r + 1,x :: t,out,h=>by
  have hx:=h x (List.mem_cons_self ..)
  have ht : ∀ y ∈ t,OkW os.length y:=fun y hy=>h y (List.mem_cons_of_mem _ hy)
  have hb:=plB_len x hx.1
  rw [cvL_s]
  by_cases h9 : x.k = 9
  ·simp only [if_pos h9]; omega
  simp only [if_neg h9]
  by_cases h6 : x.k = 6
  ·simp only [if_pos h6]
   have hm:=ob_mem os (hx.2 h6)
   have hT:=ho.2 _ hm
   generalize os.getD x.r.toNat ob0 = o at *
   by_cases h2 : o.k = 2 ∨ o.k = 3 ∨ o.k = 4 ∨ o.k = 5
   ·simp only [if_pos h2]; omega
   simp only [if_neg h2]
   by_cases h1 : o.k = 1
   ·simp only [if_pos h1]
    have:=cvL_len ho r (o.it ++ t) (out ++ [6,(o.it.length : Int) % 256,(o.it.length : Int) / 256]) (fun y hy=>(List.mem_append.1 hy).elim ((hT h1).2.2 y) (ht y))
    simp only [List.length_append,List.length_cons,List.length_nil] at this
    omega
   ·simp only [if_neg h1]
    have:=cvL_len ho r t (out ++ refB x.r) ht
    have hr : (refB x.r).length = 5:=rfl
    simp only [List.length_append,hr] at this
    omega
  ·simp only [if_neg h6]
   have:=cvL_len ho r t (out ++ plB x) ht
   simp only [List.length_append] at this
   omega
theorem cvL_fault (os : List Ob) : ∀ (r : Nat) (td : List Vl) (out : List Int),(cvL os r td out).2.2.1 = 0 → (cvL os r td out).2.2.2 = 0
 | r,td,out=>fun h=>((cvL_key os r td out).1 h).2
end Go.Proofs.Ytncededjmcmidaa

namespace Go.Proofs.Ytncededjmcmidaa
set_option linter.unusedSimpArgs false
set_option linter.unusedVariables false
open Go.Abs Go.Proofs.NatL

set_option maxRecDepth 100000 in
set_option maxHeartbeats 8000000 in
theorem hplain_un (out : List Int) (a : Bool) (x : List Int) (b : Bool) (y : List Int) (t : ByteArray) (r : Int) : RetG Try.prog 78 (rowB out) [.own 0 0,.g (vC ⟨9,a,x,b,y,t,r⟩)] (rowB out) [.own 0 0,.c (.b false)]:=by
 unfold vC
 (refine ret_ge Try.func78 (fun F bs=>?_); simp only [avSl,ancs,hnx,Nat.reduceAdd,Nat.reduceLeDiff,if_true,if_false,List.length_cons,List.length_nil,List.cons_append,List.nil_append,Try.ntmps78,Try.results78])
 repeat' (first|with_reducible refine q_0 ?_|((with_reducible first|refine q_q ha12_ok fun K hK=>?_|refine q_r ha12_ok fun K hK=>?_);simp (maxSteps:=2000000) only [go_sem,↓reduceIte,reduceCtorEq,Nat.reduceLeDiff,Nat.reduceLT,Nat.reduceBEq,Nat.reduceAdd];(repeat1' with_reducible first|apply And.intro|(intro _;try exact q_v)|(refine hK _ ?_;clear hK K))<;>(try (clear hK K;exact q_u)))|(with_reducible refine q_s ?_;(first|apply q_J|apply q_K|apply q_L|apply q_M|apply q_N|apply q_O)<;>try (intro _;try exact q_v)))
 all_goals first | omega | contradiction | rfl | exact keep_of [1] ⟨rfl,trivial⟩ | skip
 all_goals exact ends_g [(4,.own 0 0),(5,.c (.b false))] 100 (by exact q_D) rfl
def plainHCT : CT:=mkCTG fun H al K=>match H,al with
 | ⟨[],[(0,⟨0,5,1,.ints .u8 out⟩)],[]⟩,[.own 0 0,.g [.i .i64 k,.b a,.ints .u32 x,.b b,.ints .u32 y,.str t,.i .i64 r]]=>(OkP ⟨k,a,x,b,y,t,r⟩ ∧ k ≠ 6 ∧ out.length ≤ 90000000) ∧ (k = 9 → K (rowB out) [.own 0 0,.c (.b false)]) ∧ (k ≠ 9 → K (rowB (out ++ plB ⟨k,a,x,b,y,t,r⟩)) [.own 0 0,.c (.b true)])
 | _,_=>False
def h20a : Cfg:=addT 78 plainHCT ha12
theorem h20a_ok : TblOk Try.prog h20a:=ctg_ok ha12_ok Try.func78 fun H al K h=>by
 split at h
 ·rename_i out k a x b y t r
  obtain ⟨⟨h1,h2,h3⟩,h4,h5⟩:=h
  by_cases h9 : k = 9
  ·subst h9; exact ⟨_,_,hplain_un out a x b y t r,h4 rfl⟩
  ·have hk:=h1.2.2.2
   simp only at hk
   exact ⟨_,_,hplain_ok out k a x b y t r h1 (by omega) h3,h5 h9⟩
 ·exact h.elim
attribute [go_sem] plainHCT
abbrev cdH (rows : List (List C)) (out : List Int) (p : Int) : Hp:=⟨[(0,[.c (.sl 10 rows),.own 0 0,.c (.i .i64 p)])],[(0,⟨0,5,1,.ints .u8 out⟩)],[]⟩
abbrev cdR (rows : List (List C)) (out : List Int) (p : Int) : Hp:=⟨[(0,[.c (.sl 10 rows),.own 0 0,.c (.i .i64 p)]),(2,[.c (.i .i64 0),.c (.i .i64 0)])],[(0,⟨0,5,1,.ints .u8 out⟩)],[]⟩
abbrev cdE (rows : List (List C)) (c i : Int) : Hp:=⟨[(0,[.c (.sl 10 rows),.u,.u]),(2,[.c (.i .i64 c),.c (.i .i64 i)])],[],[]⟩
def hvH (rows : List (List C)) (R : Nat × List Int × Int × Int) : Hp:=if R.2.2.1 = 0 then cdR rows R.2.1 (1000 - (R.1 : Int)) else cdE rows R.2.2.1 R.2.2.2
def VG (r : Nat) : Prop:=∀ (os : List Ob) (v : Vl) (out : List Int),(∀ o ∈ os,Pr o) → HOk os → OkW os.length v → out.length + r * 60003 ≤ 60003000 → r ≤ 1000 →
 RetG Try.prog 47 (cdH (os.map obC) out (1000 - (r : Int))) [.bx 0 0,.g (vC v)] (hvH (os.map obC) (cvL os r [v] out)) [.g [.i .i64 (cvL os r [v] out).2.2.1,.i .i64 (cvL os r [v] out).2.2.2]]
def cvCT (n : Nat) : CT:=mkCTG fun H al K=>match H,al with
 | ⟨[(0,[.c (.sl 10 rows),.own 0 0,.c (.i .i64 p)])],[(0,⟨0,5,1,.ints .u8 out⟩)],[]⟩,[.bx 0 0,.g [.i .i64 k,.b a,.ints .u32 x,.b b,.ints .u32 y,.str t,.i .i64 r]] =>
  ((rows = (dO rows).map obC ∧ ∀ o ∈ dO rows,Pr o) ∧ HOk (dO rows) ∧ OkW (dO rows).length ⟨k,a,x,b,y,t,r⟩ ∧ (0 ≤ p ∧ p ≤ 1000) ∧ (1000 - p).toNat < n ∧ out.length + (1000 - p).toNat * 60003 ≤ 60003000) ∧
  ((cvL (dO rows) (1000 - p).toNat [⟨k,a,x,b,y,t,r⟩] out).2.2.1 = 0 → K (cdR rows (cvL (dO rows) (1000 - p).toNat [⟨k,a,x,b,y,t,r⟩] out).2.1 (1000 - ((cvL (dO rows) (1000 - p).toNat [⟨k,a,x,b,y,t,r⟩] out).1 : Int))) [.g [.i .i64 0,.i .i64 0]]) ∧
  ((cvL (dO rows) (1000 - p).toNat [⟨k,a,x,b,y,t,r⟩] out).2.2.1 ≠ 0 → K (cdE rows (cvL (dO rows) (1000 - p).toNat [⟨k,a,x,b,y,t,r⟩] out).2.2.1 (cvL (dO rows) (1000 - p).toNat [⟨k,a,x,b,y,t,r⟩] out).2.2.2) [.g [.i .i64 (cvL (dO rows) (1000 - p).toNat [⟨k,a,x,b,y,t,r⟩] out).2.2.1,.i .i64 (cvL (dO rows) (1000 - p).toNat [⟨k,a,x,b,y,t,r⟩] out).2.2.2]])
 | _,_=>False
def hvB (n : Nat) : Cfg:=addT 47 (cvCT n) h20a
theorem hvB_ok (n : Nat) (ih : ∀ r,r < n → VG r) : TblOk Try.prog (hvB n):=ctg_ok h20a_ok Try.func47 fun H al K h=>by
 split at h
 ·rename_i rows p out k a x b y t r
  obtain ⟨⟨⟨h1,h2⟩,h3,h4,h5,h6,h7⟩,hK1,hK2⟩:=h
  have hv:=ih _ h6 (dO rows) ⟨k,a,x,b,y,t,r⟩ out h2 h3 h4 h7 (by omega)
  rw [← h1,show 1000 - (((1000 - p).toNat : Nat) : Int) = p by omega] at hv
  have hf:=cvL_fault (dO rows) (1000 - p).toNat [⟨k,a,x,b,y,t,r⟩] out
  generalize cvL (dO rows) (1000 - p).toNat [⟨k,a,x,b,y,t,r⟩] out = R at *
  unfold hvH at hv
  by_cases h0 : R.2.2.1 = 0
  ·rw [if_pos h0,h0,hf h0] at hv
   exact ⟨_,_,hv,hK1 h0⟩
  ·rw [if_neg h0] at hv
   exact ⟨_,_,hv,hK2 h0⟩
 ·exact h.elim
def hvT (n : Nat) : Cfg:=listT [(76,atCT),(77,pairCT),(78,plainHCT),(47,cvCT n)] [39]
theorem hvT_ok (n : Nat) (hb : TblOk Try.prog (hvB n)) : TblOk Try.prog (hvT n):=listE_ok (by simp only [List.mem_singleton,forall_eq]; exact flt)
 ⟨⟨h16a,h16a_ok,rfl⟩,⟨h16b,h16b_ok,rfl⟩,⟨h20a,h20a_ok,rfl⟩,⟨hvB n,hb,rfl⟩,trivial⟩
attribute [go_sem] hvT cvCT cdH cdR cdE
theorem hvH_ok (rows : List (List C)) (r : Nat) (out : List Int) : hvH rows (r,out,0,0) = cdR rows out (1000 - (r : Int)):=rfl
theorem hvH_f (rows : List (List C)) (r : Nat) (out : List Int) (c i : Int) (h : c ≠ 0) : hvH rows (r,out,c,i) = cdE rows c i:=by unfold hvH; rw [if_neg h]
set_option maxRecDepth 100000 in
set_option maxHeartbeats 8000000 in
theorem hvalue_zero (os : List Ob) (v : Vl) (out : List Int) : RetG Try.prog 47 (cdH (os.map obC) out 1000) [.bx 0 0,.g (vC v)] (cdE (os.map obC) 14 (-2)) [.g [.i .i64 14,.i .i64 (-2)]]:=by
 obtain ⟨k,a,x,b,y,t,r⟩:=v
 unfold vC
 (refine ret_ge Try.func47 (fun F bs=>?_); simp only [avSl,ancs,hnx,Nat.reduceAdd,Nat.reduceLeDiff,if_true,if_false,List.length_cons,List.length_nil,List.cons_append,List.nil_append,Try.ntmps47,Try.results47])
 repeat' (first|with_reducible refine q_0 ?_|((with_reducible first|refine q_q ha11_ok fun K hK=>?_|refine q_r ha11_ok fun K hK=>?_);simp (maxSteps:=2000000) only [go_sem,↓reduceIte,reduceCtorEq,Nat.reduceLeDiff,Nat.reduceLT,Nat.reduceBEq,Nat.reduceAdd];(repeat1' with_reducible first|apply And.intro|(intro _;try exact q_v)|(refine hK _ ?_;clear hK K))<;>(try (clear hK K;exact q_u)))|(with_reducible refine q_s ?_;(first|apply q_J|apply q_K|apply q_L|apply q_M|apply q_N|apply q_O)<;>try (intro _;try exact q_v)))
 all_goals first | omega | exact ends_g [(4,.bx 2 0)] 3 (by exact q_D) rfl | skip
end Go.Proofs.Ytncededjmcmidaa

namespace Go.Proofs.Ytncededjmcmidaa
set_option linter.unusedSimpArgs false
set_option linter.unusedVariables false
open Go.Abs Go.Proofs.NatL

set_option maxRecDepth 100000 in
set_option maxHeartbeats 16000000 in
theorem hvalue_step (r : Nat) (ih : ∀ q,q < r + 1 → VG q) : VG (r + 1):=by
 intro os v out hp ho hv hl hr
 have ht:=hvT_ok (r + 1) (hvB_ok (r + 1) ih)
 have hd:=dO_map hp
 generalize hR : cvL os (r + 1) [v] out = R
 rw [cvL_s] at hR
 obtain ⟨k,a,xs,b,ys,tx,rf⟩:=v
 obtain ⟨hv1,hv2⟩:=hv
 have hbl:=plB_len _ hv1
 obtain ⟨p,hpp⟩ : ∃ p : Int,p = 1000 - ((r + 1 : Nat) : Int):=⟨_,rfl⟩
 have hp1 : p + 1 = 1000 - (r : Int):=by omega
 rw [← hpp]
 simp only [vC]
 (refine ret_ge Try.func47 (fun F bs=>?_); simp only [avSl,ancs,hnx,Nat.reduceAdd,Nat.reduceLeDiff,if_true,if_false,List.length_cons,List.length_nil,List.cons_append,List.nil_append,Try.ntmps47,Try.results47])
 refine seq_cut4 (ι:={ q : List Vl × List Int // (∀ x ∈ q.1,OkW os.length x) ∧ q.1.length ≤ 1000 ∧ q.2.length + r * 60003 ≤ 60003000 ∧ cvL os r q.1 q.2 = R }) (fun q=>⟨113,[(0,.bx 0 0),(4,.bx 2 0),(5,.c (.sl 7 (q.1.1.map vC))),(1000,.anc 0 (bs 0))],⟨[(0,[.c (.sl 10 (os.map obC)),.own 0 0,.c (.i .i64 (1000 - (r : Int)))]),(2,[.c (.i .i64 0),.c (.i .i64 0)])],[(0,⟨0,5,1,.ints .u8 q.1.2⟩)],[]⟩,3⟩) (fun Y hY=>?_) ?_
 ·by_cases h9 : k = 9
  ·subst h9
   obtain rfl : R = (r,out,27, -2):=by rw [← hR,if_pos rfl]
   rw [hvH_f _ _ _ _ _ (by omega)]
   repeat' (first|with_reducible refine q_0 ?_|((with_reducible first|refine q_q ht fun K hK=>?_|refine q_r ht fun K hK=>?_);simp (maxSteps:=2000000) only [go_sem,↓reduceIte,reduceCtorEq,Nat.reduceLeDiff,Nat.reduceLT,Nat.reduceBEq,Nat.reduceAdd,hp1];(repeat1' with_reducible first|apply And.intro|(intro _;try exact q_v)|(refine hK _ ?_;clear hK K))<;>(try (clear hK K;exact q_u)))|(with_reducible refine q_s ?_;(first|apply q_J|apply q_K|apply q_L|apply q_M|apply q_N|apply q_O)<;>try (intro _;try exact q_v)))
   all_goals first | omega | contradiction | exact keep_of [0,1] ⟨rfl,rfl,trivial⟩ | exact ends_g [(4,.bx 2 0)] 3 (by exact q_D) rfl | skip
  rw [if_neg h9] at hR
  by_cases h6 : k = 6
  ·subst h6
   rw [if_pos rfl] at hR
   obtain ⟨r0,r1⟩:=hv2 rfl
   simp only at r0 r1
   have hat:=obC_at os ⟨r0,r1⟩
   have hmem:=ob_mem os ⟨r0,r1⟩
   simp only at hR
   generalize os.getD rf.toNat ob0 = o at *
   obtain ⟨ok,onm,ocl,orf,ood,oraw,oit,oks⟩:=o
   have hT:=ho.2 _ hmem
   simp only [obC,itC] at hat hT hR
   by_cases h1 : ok = 1
   ·obtain ⟨hT1,hT2,hT3⟩:=hT h1
    subst hT1; subst h1
    simp only at hat
    rw [if_neg (by omega),if_pos rfl] at hR
    have m3 : (oit.length : Int) / 256 % 256 = (oit.length : Int) / 256:=by omega
    repeat' (first|with_reducible refine q_0 ?_|((with_reducible first|refine q_q ht fun K hK=>?_|refine q_r ht fun K hK=>?_);simp (maxSteps:=2000000) only [go_sem,↓reduceIte,reduceCtorEq,Nat.reduceLeDiff,Nat.reduceLT,Nat.reduceBEq,Nat.reduceAdd,hp1,hat,List.length_map,m3];(repeat1' with_reducible first|apply And.intro|(intro _;try exact q_v)|(refine hK _ ?_;clear hK K))<;>(try (clear hK K;exact q_u)))|(with_reducible refine q_s ?_;(first|apply q_J|apply q_K|apply q_L|apply q_M|apply q_N|apply q_O)<;>try (intro _;try exact q_v)))
    all_goals first | omega | contradiction | (with_unfolding_all rfl) | skip
    ·refine cut_fit hY ⟨(oit,out ++ [6,(oit.length : Int) % 256,(oit.length : Int) / 256]),hT3,hT2,by simp only [List.length_append,List.length_cons,List.length_nil]; omega,by rw [List.append_nil] at hR; exact hR⟩ ?_
     simp only [List.append_assoc,List.cons_append,List.nil_append]; exact q_D
   ·rw [if_neg h1] at hR
    have s16 : shrI .i64 rf 16 = rf / 65536:=shrI_lit .i64 rf 16 (by decide)
    have s0 : 0 ≤ rf / 65536:=by omega
    by_cases h2 : ok = 2 ∨ ok = 3 ∨ ok = 4 ∨ ok = 5
    ·obtain rfl : R = (r,out,27,rf):=by rw [← hR,if_pos h2]
     rw [hvH_f _ _ _ _ _ (by omega)]
     repeat' (first|with_reducible refine q_0 ?_|((with_reducible first|refine q_q ht fun K hK=>?_|refine q_r ht fun K hK=>?_);simp (maxSteps:=2000000) only [go_sem,↓reduceIte,reduceCtorEq,Nat.reduceLeDiff,Nat.reduceLT,Nat.reduceBEq,Nat.reduceAdd,hp1,hat,List.length_map,s16];(repeat1' with_reducible first|apply And.intro|(intro _;try exact q_v)|(refine hK _ ?_;clear hK K))<;>(try (clear hK K;exact q_u)))|(with_reducible refine q_s ?_;(first|apply q_J|apply q_K|apply q_L|apply q_M|apply q_N|apply q_O)<;>try (intro _;try exact q_v)))
     all_goals first | omega | contradiction | exact ends_g [(4,.bx 2 0)] 3 (by exact q_D) rfl | skip
    ·rw [if_neg h2] at hR
     have hrl : (refB rf).length = 5:=rfl
     repeat' (first|with_reducible refine q_0 ?_|((with_reducible first|refine q_q ht fun K hK=>?_|refine q_r ht fun K hK=>?_);simp (maxSteps:=2000000) only [go_sem,↓reduceIte,reduceCtorEq,Nat.reduceLeDiff,Nat.reduceLT,Nat.reduceBEq,Nat.reduceAdd,hp1,hat,List.length_map,s16];(repeat1' with_reducible first|apply And.intro|(intro _;try exact q_v)|(refine hK _ ?_;clear hK K))<;>(try (clear hK K;exact q_u)))|(with_reducible refine q_s ?_;(first|apply q_J|apply q_K|apply q_L|apply q_M|apply q_N|apply q_O)<;>try (intro _;try exact q_v)))
     all_goals first | omega | contradiction | (with_unfolding_all rfl) | skip
     ·refine cut_fit hY ⟨([],out ++ refB rf),fun x hx=>(by cases hx),Nat.zero_le _,by simp only [List.length_append,hrl]; omega,hR⟩ ?_
      simp only [refB,List.append_assoc,List.cons_append,List.nil_append]; exact q_D
  ·rw [if_neg h6] at hR
   repeat' (first|with_reducible refine q_0 ?_|((with_reducible first|refine q_q ht fun K hK=>?_|refine q_r ht fun K hK=>?_);simp (maxSteps:=2000000) only [go_sem,↓reduceIte,reduceCtorEq,Nat.reduceLeDiff,Nat.reduceLT,Nat.reduceBEq,Nat.reduceAdd,hp1];(repeat1' with_reducible first|apply And.intro|(intro _;try exact q_v)|(refine hK _ ?_;clear hK K))<;>(try (clear hK K;exact q_u)))|(with_reducible refine q_s ?_;(first|apply q_J|apply q_K|apply q_L|apply q_M|apply q_N|apply q_O)<;>try (intro _;try exact q_v)))
   all_goals first | omega | contradiction | exact keep_of [0,1] ⟨rfl,rfl,trivial⟩ | skip
   ·refine awp_fit (fit_rb (l:=[(3,0)]) rfl rfl (fit_of ?_)) (hY ⟨([],out ++ plB ⟨k,a,xs,b,ys,tx,rf⟩),fun x hx=>(by cases hx),Nat.zero_le _,by simp only [List.length_append]; omega,hR⟩)
    exact q_D
 ·rintro ⟨⟨ps,out1⟩,g1,g2,g3,g4⟩
  simp only at g1 g2 g3 g4 ⊢
  repeat' (first|with_reducible refine q_0 ?_|((with_reducible first|refine q_q ht fun K hK=>?_|refine q_r ht fun K hK=>?_);simp (maxSteps:=2000000) only [go_sem,↓reduceIte,reduceCtorEq,Nat.reduceLeDiff,Nat.reduceLT,Nat.reduceBEq,Nat.reduceAdd,List.length_map];(repeat1' with_reducible first|apply And.intro|(intro _;try exact q_v)|(refine hK _ ?_;clear hK K))<;>(try (clear hK K;exact q_u)))|(with_reducible refine q_s ?_;(first|apply q_J|apply q_K|apply q_L|apply q_M|apply q_N|apply q_O)<;>try (intro _;try exact q_v)))
  refine loop_rb (ι:={ q : Nat × Nat × List Int // q.1 ≤ ps.length ∧ q.2.1 ≤ r ∧ q.2.2.length + q.2.1 * 60003 ≤ 60003000 ∧ cvL os q.2.1 (ps.drop q.1) q.2.2 = R }) (fun q=>⟨113,[(0,.bx 0 0),(4,.bx 2 0),(98,.c (.sl 7 (ps.map vC))),(99,.c (.i .i64 ps.length)),(100,.c (.i .i64 q.1.1)),(1000,.anc 0 (bs 0))],⟨[(0,[.c (.sl 10 (os.map obC)),.own 0 0,.c (.i .i64 (1000 - (q.1.2.1 : Int)))]),(2,[.c (.i .i64 0),.c (.i .i64 0)])],[(0,⟨0,5,1,.ints .u8 q.1.2.2⟩)],[]⟩,3⟩) (fun q=>ps.length - q.1.1) ⟨(0,r,out1),by simp only; omega,Nat.le_refl _,g3,by simpa using g4⟩ ?_ ?_
  ·exact q_D
  rintro ⟨⟨j,r1,out1⟩,q1,q2,q3,q4⟩
  simp only at q1 q2 q3 q4 ⊢
  by_cases hj : j < ps.length
  ·have hat:=vC_at ps hj
   have hmem:=g1 _ (v_mem ps hj)
   have hdr : ps.drop j = [ps.getD j (refV 0)] ++ ps.drop (j + 1):=by
    rw [List.drop_eq_getElem_cons hj]
    simp [List.getD_eq_getElem?_getD,List.getElem?_eq_getElem hj]
   rw [hdr,cvL_app] at q4
   generalize ps.getD j (refV 0) = x at *
   have hlen:=cvL_len ho r1 [x] out1 (by simpa using hmem)
   have hle:=cvL_le os r1 [x] out1
   obtain ⟨xk,xa,xx,xb,xy,xt,xr⟩:=x
   generalize hX : cvL os r1 [⟨xk,xa,xx,xb,xy,xt,xr⟩] out1 = X at *
   obtain ⟨r2,out2,c2,i2⟩:=X
   simp only at q4 hlen hle
   simp only [vC] at hat
   have hr1 : (1000 - (1000 - (r1 : Int))).toNat = r1:=by omega
   by_cases h0 : c2 = 0
   ·subst h0
    rw [if_pos rfl] at q4
    repeat' (first|with_reducible refine q_0 ?_|((with_reducible first|refine q_q ht fun K hK=>?_|refine q_r ht fun K hK=>?_);simp (maxSteps:=2000000) only [go_sem,↓reduceIte,reduceCtorEq,Nat.reduceLeDiff,Nat.reduceLT,Nat.reduceBEq,Nat.reduceAdd,List.length_map,hat,hd,hr1,hX];(repeat1' with_reducible first|apply And.intro|(intro _;try exact q_v)|(refine hK _ ?_;clear hK K))<;>(try (clear hK K;exact q_u)))|(with_reducible refine q_s ?_;(first|apply q_J|apply q_K|apply q_L|apply q_M|apply q_N|apply q_O)<;>try (intro _;try exact q_v)))
    all_goals first | omega | contradiction | exact hp _ (by assumption) | skip
    ·refine roundr_n [(4,0)] ⟨(j + 1,r2,out2),by simp only; omega,by simp only; omega,by simp only; omega,q4⟩ ?_ (by simp only; omega)
     exact q_D
   ·rw [if_neg h0] at q4
    subst q4
    rw [hvH_f _ _ _ _ _ h0]
    repeat' (first|with_reducible refine q_0 ?_|((with_reducible first|refine q_q ht fun K hK=>?_|refine q_r ht fun K hK=>?_);simp (maxSteps:=2000000) only [go_sem,↓reduceIte,reduceCtorEq,Nat.reduceLeDiff,Nat.reduceLT,Nat.reduceBEq,Nat.reduceAdd,List.length_map,hat,hd,hr1,hX];(repeat1' with_reducible first|apply And.intro|(intro _;try exact q_v)|(refine hK _ ?_;clear hK K))<;>(try (clear hK K;exact q_u)))|(with_reducible refine q_s ?_;(first|apply q_J|apply q_K|apply q_L|apply q_M|apply q_N|apply q_O)<;>try (intro _;try exact q_v)))
    all_goals first | omega | contradiction | exact hp _ (by assumption) | skip
    ·exact roundr_ret (ends_g [(4,.bx 2 0)] 3 (by exact q_D) rfl)
  ·obtain rfl : j = ps.length:=by omega
   have e : cvL os r1 (ps.drop ps.length) out1 = (r1,out1,0,0):=by
    rw [List.drop_length]; cases r1 <;> rfl
   rw [e] at q4
   subst q4
   rw [hvH_ok]
   repeat' (first|with_reducible refine q_0 ?_|((with_reducible first|refine q_q ht fun K hK=>?_|refine q_r ht fun K hK=>?_);simp (maxSteps:=2000000) only [go_sem,↓reduceIte,reduceCtorEq,Nat.reduceLeDiff,Nat.reduceLT,Nat.reduceBEq,Nat.reduceAdd,List.length_map];(repeat1' with_reducible first|apply And.intro|(intro _;try exact q_v)|(refine hK _ ?_;clear hK K))<;>(try (clear hK K;exact q_u)))|(with_reducible refine q_s ?_;(first|apply q_J|apply q_K|apply q_L|apply q_M|apply q_N|apply q_O)<;>try (intro _;try exact q_v)))
   all_goals first | omega | contradiction | skip
   all_goals refine roundr_exit ?_
   repeat' (first|with_reducible refine q_0 ?_|((with_reducible first|refine q_q ht fun K hK=>?_|refine q_r ht fun K hK=>?_);simp (maxSteps:=2000000) only [go_sem,↓reduceIte,reduceCtorEq,Nat.reduceLeDiff,Nat.reduceLT,Nat.reduceBEq,Nat.reduceAdd,List.length_map];(repeat1' with_reducible first|apply And.intro|(intro _;try exact q_v)|(refine hK _ ?_;clear hK K))<;>(try (clear hK K;exact q_u)))|(with_reducible refine q_s ?_;(first|apply q_J|apply q_K|apply q_L|apply q_M|apply q_N|apply q_O)<;>try (intro _;try exact q_v)))
   all_goals first | omega | contradiction | skip
   all_goals exact ends_g [(4,.bx 2 0)] 3 (by exact q_D) rfl
theorem hvalue_all : ∀ r,VG r:=by
 intro r
 induction r using Nat.strongRecOn with
 | _ r ih =>
  cases r with
  | zero =>
   intro os v out _ _ _ _ _
   have:=hvalue_zero os v out
   exact this
  | succ r=>exact hvalue_step r ih
end Go.Proofs.Ytncededjmcmidaa

namespace Go.Proofs.Ytncededjmcmidaa
set_option linter.unusedSimpArgs false
set_option linter.unusedVariables false
open Go.Abs Go.Proofs.NatL

def h22a : Cfg:=hvB 1001
theorem h22a_ok : TblOk Try.prog h22a:=hvB_ok 1001 fun r _=>hvalue_all r
def ha13 : Cfg:=listT [(47,(cvCT 1001))] [39]
theorem ha13_ok : TblOk Try.prog ha13:=listE_ok (by simp only [List.mem_singleton,forall_eq]; exact flt) ⟨⟨h22a,h22a_ok,rfl⟩,trivial⟩
attribute [go_sem] ha13
set_option maxRecDepth 100000 in
set_option maxHeartbeats 8000000 in
theorem code_ret (os : List Ob) (v : Vl) (hp : ∀ o ∈ os,Pr o) (ho : HOk os) (hv : OkW os.length v) : Ret Try.prog 14 false [.inr [.sl 10 (os.map obC)],.inr (vC v)] (.t [.inl (.ints .u8 (keyF os v).1),.inr [.i .i64 (keyF os v).2.1,.i .i64 (keyF os v).2.2]]):=by
 have hd:=dO_map hp
 have hk:=cvL_key os 1000 [v] []
 have hkF : keyF os v = keyG os 1000 [v] []:=rfl
 rw [← hkF] at hk
 clear hkF
 obtain ⟨k,a,xs,b,ys,tx,rf⟩:=v
 generalize hX : cvL os 1000 [⟨k,a,xs,b,ys,tx,rf⟩] [] = X at *
 generalize keyF os ⟨k,a,xs,b,ys,tx,rf⟩ = R at *
 obtain ⟨r2,out2,c2,i2⟩:=X
 simp only at hk
 have e1 : (1000 - (0 : Int)).toNat = 1000:=by decide
 (refine q_H Try.func14 (fun F=>?_); simp only [q_z,q_y,Try.ntmps14,Try.results14])
 simp only [vC]
 refine seq_cut2 (ι:=Unit) (fun _=>⟨23,[(3,.bx 1 0),(5,.bx 2 0),(6,.bx 3 0)],⟨[(1,[.c (.i .i64 k),.c (.b a),.c (.ints .u32 xs),.c (.b b),.c (.ints .u32 ys),.c (.str tx),.c (.i .i64 rf)]),(2,[.c (.i .i64 0),.c (.i .i64 0)]),(3,[.c (.sl 10 (os.map obC)),.own 4 0,.c (.i .i64 0)])],[(4,⟨0,5,1,.ints .u8 []⟩)],[]⟩,5⟩) (fun Y hY=>?_) ?_
 ·repeat' (first|with_reducible refine q_0 ?_|((with_reducible first|refine q_q ha13_ok fun K hK=>?_|refine q_r ha13_ok fun K hK=>?_);simp (maxSteps:=2000000) only [go_sem,↓reduceIte,reduceCtorEq,Nat.reduceLeDiff,Nat.reduceLT,Nat.reduceBEq,Nat.reduceAdd];(repeat1' with_reducible first|apply And.intro|(intro _;try exact q_v)|(refine hK _ ?_;clear hK K))<;>(try (clear hK K;exact q_u)))|(with_reducible refine q_s ?_;(first|apply q_J|apply q_K|apply q_L|apply q_M|apply q_N|apply q_O)<;>try (intro _;try exact q_v)))
  all_goals exact cut_fit hY () (by exact q_D)
 rintro ⟨⟩
 by_cases h0 : c2 = 0
 ·subst h0
  obtain ⟨hk1,hk2⟩:=hk.1 rfl
  subst hk1
  repeat' (first|with_reducible refine q_0 ?_|((with_reducible first|refine q_q ha13_ok fun K hK=>?_|refine q_r ha13_ok fun K hK=>?_);simp (maxSteps:=2000000) only [go_sem,↓reduceIte,reduceCtorEq,Nat.reduceLeDiff,Nat.reduceLT,Nat.reduceBEq,Nat.reduceAdd,hd,e1,hX];(repeat1' with_reducible first|apply And.intro|(intro _;try exact q_v)|(refine hK _ ?_;clear hK K))<;>(try (clear hK K;exact q_u)))|(with_reducible refine q_s ?_;(first|apply q_J|apply q_K|apply q_L|apply q_M|apply q_N|apply q_O)<;>try (intro _;try exact q_v)))
  all_goals first | omega | contradiction | exact hp _ (by assumption) | exact q_A rfl | skip
 ·have hk1:=hk.2 h0
  subst hk1
  repeat' (first|with_reducible refine q_0 ?_|((with_reducible first|refine q_q ha13_ok fun K hK=>?_|refine q_r ha13_ok fun K hK=>?_);simp (maxSteps:=2000000) only [go_sem,↓reduceIte,reduceCtorEq,Nat.reduceLeDiff,Nat.reduceLT,Nat.reduceBEq,Nat.reduceAdd,hd,e1,hX];(repeat1' with_reducible first|apply And.intro|(intro _;try exact q_v)|(refine hK _ ?_;clear hK K))<;>(try (clear hK K;exact q_u)))|(with_reducible refine q_s ?_;(first|apply q_J|apply q_K|apply q_L|apply q_M|apply q_N|apply q_O)<;>try (intro _;try exact q_v)))
  all_goals first | omega | contradiction | exact hp _ (by assumption) | exact q_B [.inl (some (.ints .u8 [])),.inr []] rfl rfl | skip
def codeCT : CT:=mkCT [.inr [none],nVal] false fun l K=>match l with
 | [.inr [.sl 10 rows],.inr [.i .i64 k,.b a,.ints .u32 x,.b b,.ints .u32 y,.str t,.i .i64 r]]=>((rows = (dO rows).map obC ∧ ∀ o ∈ dO rows,Pr o) ∧ HOk (dO rows) ∧ OkW (dO rows).length ⟨k,a,x,b,y,t,r⟩) ∧ (InB 256 (keyF (dO rows) ⟨k,a,x,b,y,t,r⟩).1 → (keyF (dO rows) ⟨k,a,x,b,y,t,r⟩).1.length ≤ 60003000 → K (.t [.inl (.ints .u8 (keyF (dO rows) ⟨k,a,x,b,y,t,r⟩).1),.inr [.i .i64 (keyF (dO rows) ⟨k,a,x,b,y,t,r⟩).2.1,.i .i64 (keyF (dO rows) ⟨k,a,x,b,y,t,r⟩).2.2]]))
 | _=>False
def h22b : Cfg:=addT 14 codeCT cf0
theorem h22b_ok : TblOk Try.prog h22b:=q_I cf0_ok Try.func14 fun l K h=>by
 split at h
 ·rename_i rows k a x b y t r
  obtain ⟨⟨⟨h1,h2⟩,h3,h4⟩,hK⟩:=h
  refine ⟨_,?_,hK (keyF_in h3 h4).1 (keyF_in h3 h4).2⟩
  have:=code_ret (dO rows) ⟨k,a,x,b,y,t,r⟩ h2 h3 h4
  rw [← h1] at this
  exact this
 ·exact h.elim
attribute [go_sem] codeCT
def hs1 (h x : Int) : Int:=bitI .xor .u64 h (x % 18446744073709551616) * 1099511628211 % 18446744073709551616
theorem hs1_eq (h x : Int) : bitI .xor .u64 h (x % 18446744073709551616) * 1099511628211 % 18446744073709551616 = hs1 h x:=rfl
def hsF : List Int → Int → Int
 | [],h=>h
 | x :: t,h=>hsF t (hs1 h x)
theorem hsF_at {xs : List Int} {i : Nat} (hi : i < xs.length) (h : Int) : hsF (xs.drop i) h = hsF (xs.drop (i + 1)) (hs1 h (xs.getD i 0)):=by
 rw [List.drop_eq_getElem_cons hi]
 simp only [hsF,List.getD_eq_getElem?_getD,List.getElem?_eq_getElem hi,Option.getD_some]
def hs0 : Int:=14695981039346656037
theorem hs0_eq : (14695981039346656037 : Int) = hs0:=rfl
set_option maxRecDepth 100000 in
set_option maxHeartbeats 8000000 in
theorem hashed_ret (xs : List Int) (hl : xs.length ≤ 60003000) : Ret Try.prog 19 false [.inl (.ints .u8 xs)] (.c (.i .u64 (hsF xs hs0))):=by
 (refine q_H Try.func19 (fun F=>?_); simp only [q_z,q_y,Try.ntmps19,Try.results19])
 repeat' (first|with_reducible refine q_0 ?_|((with_reducible first|refine q_q cf0_ok fun K hK=>?_|refine q_r cf0_ok fun K hK=>?_);simp (maxSteps:=2000000) only [go_sem,↓reduceIte,reduceCtorEq,Nat.reduceLeDiff,Nat.reduceLT,Nat.reduceBEq,Nat.reduceAdd,hs0_eq];(repeat1' with_reducible first|apply And.intro|(intro _;try exact q_v)|(refine hK _ ?_;clear hK K))<;>(try (clear hK K;exact q_u)))|(with_reducible refine q_s ?_;(first|apply q_J|apply q_K|apply q_L|apply q_M|apply q_N|apply q_O)<;>try (intro _;try exact q_v)))
 all_goals first | omega | skip
 refine q_G (ι:={ q : Nat × Int // q.1 ≤ xs.length ∧ hsF (xs.drop q.1) q.2 = hsF xs hs0 }) (fun q=>⟨21,[(0,.c (.ints .u8 xs)),(3,.c (.i .u64 q.1.2)),(4,.c (.i .i64 q.1.1))],⟨[],[],[]⟩,1⟩) (fun q=>xs.length - q.1.1) ⟨(0,hs0),Nat.zero_le _,rfl⟩ ?_ ?_
 ·exact q_D
 rintro ⟨⟨i,h⟩,g1,g2⟩
 simp only at g1 g2 ⊢
 by_cases hi : i < xs.length
 ·rw [hsF_at hi] at g2
  generalize hx : xs.getD i 0 = x at *
  repeat' (first|with_reducible refine q_0 ?_|((with_reducible first|refine q_q cf0_ok fun K hK=>?_|refine q_r cf0_ok fun K hK=>?_);simp (maxSteps:=2000000) only [go_sem,↓reduceIte,reduceCtorEq,Nat.reduceLeDiff,Nat.reduceLT,Nat.reduceBEq,Nat.reduceAdd,hx,hs1_eq];(repeat1' with_reducible first|apply And.intro|(intro _;try exact q_v)|(refine hK _ ?_;clear hK K))<;>(try (clear hK K;exact q_u)))|(with_reducible refine q_s ?_;(first|apply q_J|apply q_K|apply q_L|apply q_M|apply q_N|apply q_O)<;>try (intro _;try exact q_v)))
  all_goals first | omega | contradiction | skip
  ·refine q_F ⟨(i + 1,hs1 h x),hi,g2⟩ ?_ (by simp only; omega)
   exact q_D
 ·obtain rfl : i = xs.length:=by omega
  rw [List.drop_length] at g2
  repeat' (first|with_reducible refine q_0 ?_|((with_reducible first|refine q_q cf0_ok fun K hK=>?_|refine q_r cf0_ok fun K hK=>?_);simp (maxSteps:=2000000) only [go_sem,↓reduceIte,reduceCtorEq,Nat.reduceLeDiff,Nat.reduceLT,Nat.reduceBEq,Nat.reduceAdd];(repeat1' with_reducible first|apply And.intro|(intro _;try exact q_v)|(refine hK _ ?_;clear hK K))<;>(try (clear hK K;exact q_u)))|(with_reducible refine q_s ?_;(first|apply q_J|apply q_K|apply q_L|apply q_M|apply q_N|apply q_O)<;>try (intro _;try exact q_v)))
  all_goals first | omega | contradiction | skip
  all_goals exact q_A (by rw [← g2]; rfl)
def hashedCT : CT:=mkCT [.inl (some (.ints .u8 []))] true fun l K=>match l with
 | [.inl (.ints .u8 xs)]=>xs.length ≤ 60003000 ∧ K (.c (.i .u64 (hsF xs hs0)))
 | _=>False
def h22c : Cfg:=addT 19 hashedCT cf0
theorem h22c_ok : TblOk Try.prog h22c:=q_I cf0_ok Try.func19 fun l K h=>by
 split at h
 ·exact ⟨_,(hashed_ret _ h.1).plain rfl,h.2⟩
 ·exact h.elim
attribute [go_sem] hashedCT
def ha14 : Cfg:=listT [(14,codeCT)] [39]
theorem ha14_ok : TblOk Try.prog ha14:=listE_ok (by simp only [List.mem_singleton,forall_eq]; exact flt) ⟨⟨h22b,h22b_ok,rfl⟩,trivial⟩
attribute [go_sem] ha14
set_option maxRecDepth 100000 in
set_option maxHeartbeats 8000000 in
theorem hash_ret (os : List Ob) (v : Vl) (hp : ∀ o ∈ os,Pr o) (ho : HOk os) (hv : OkW os.length v) : Ret Try.prog 15 false [.inr [.sl 10 (os.map obC)],.inr (vC v)] (.t [.inl (.i .u64 (if (keyF os v).2.1 = 0 then hsF (keyF os v).1 hs0 else 0)),.inr [.i .i64 (keyF os v).2.1,.i .i64 (keyF os v).2.2]]):=by
 have hd:=dO_map hp
 have hxl:=(keyF_in ho hv).2
 have hk:=cvL_key os 1000 [v] []
 have hk2 : (keyF os v).2.1 = 0 → (keyF os v).2.2 = 0:=by
  intro h
  have hkF : keyF os v = keyG os 1000 [v] []:=rfl
  rw [hkF] at h ⊢
  by_cases h0 : (cvL os 1000 [v] []).2.2.1 = 0
  ·rw [(hk.1 h0).1]
  ·rw [hk.2 h0] at h; exact absurd h h0
 obtain ⟨k,a,x,b,ys,tx,rf⟩:=v
 generalize hX : keyF os ⟨k,a,x,b,ys,tx,rf⟩ = X at *
 obtain ⟨xs,c2,i2⟩:=X
 simp only at hk2 hxl ⊢
 (refine q_H Try.func15 (fun F=>?_); simp only [q_z,q_y,Try.ntmps15,Try.results15])
 simp only [vC]
 by_cases h0 : c2 = 0
 ·subst h0
  obtain rfl:=hk2 rfl
  repeat' (first|with_reducible refine q_0 ?_|((with_reducible first|refine q_q ha14_ok fun K hK=>?_|refine q_r ha14_ok fun K hK=>?_);simp (maxSteps:=2000000) only [go_sem,↓reduceIte,reduceCtorEq,Nat.reduceLeDiff,Nat.reduceLT,Nat.reduceBEq,Nat.reduceAdd,hd,hX,hs0_eq];(repeat1' with_reducible first|apply And.intro|(intro _;try exact q_v)|(refine hK _ ?_;clear hK K))<;>(try (clear hK K;exact q_u)))|(with_reducible refine q_s ?_;(first|apply q_J|apply q_K|apply q_L|apply q_M|apply q_N|apply q_O)<;>try (intro _;try exact q_v)))
  all_goals first | omega | contradiction | exact hp _ (by assumption) | skip
  refine q_G (ι:={ q : Nat × Int // q.1 ≤ xs.length ∧ hsF (xs.drop q.1) q.2 = hsF xs hs0 }) (fun q=>⟨35,[(5,.bx 2 0),(8,.c (.i .u64 q.1.2)),(21,.c (.ints .u8 xs)),(22,.c (.i .i64 xs.length)),(23,.c (.i .i64 q.1.1))],⟨[(2,[.c (.i .i64 0),.c (.i .i64 0)])],[],[]⟩,3⟩) (fun q=>xs.length - q.1.1) ⟨(0,hs0),Nat.zero_le _,rfl⟩ ?_ ?_
  ·exact q_D
  rintro ⟨⟨i,h⟩,g1,g2⟩
  simp only at g1 g2 ⊢
  by_cases hi : i < xs.length
  ·rw [hsF_at hi] at g2
   generalize hx : xs.getD i 0 = x at *
   repeat' (first|with_reducible refine q_0 ?_|((with_reducible first|refine q_q ha14_ok fun K hK=>?_|refine q_r ha14_ok fun K hK=>?_);simp (maxSteps:=2000000) only [go_sem,↓reduceIte,reduceCtorEq,Nat.reduceLeDiff,Nat.reduceLT,Nat.reduceBEq,Nat.reduceAdd,hx,hs1_eq];(repeat1' with_reducible first|apply And.intro|(intro _;try exact q_v)|(refine hK _ ?_;clear hK K))<;>(try (clear hK K;exact q_u)))|(with_reducible refine q_s ?_;(first|apply q_J|apply q_K|apply q_L|apply q_M|apply q_N|apply q_O)<;>try (intro _;try exact q_v)))
   all_goals first | omega | contradiction | skip
   ·refine q_F ⟨(i + 1,hs1 h x),hi,g2⟩ ?_ (by simp only; omega)
    exact q_D
  ·obtain rfl : i = xs.length:=by omega
   rw [List.drop_length] at g2
   repeat' (first|with_reducible refine q_0 ?_|((with_reducible first|refine q_q ha14_ok fun K hK=>?_|refine q_r ha14_ok fun K hK=>?_);simp (maxSteps:=2000000) only [go_sem,↓reduceIte,reduceCtorEq,Nat.reduceLeDiff,Nat.reduceLT,Nat.reduceBEq,Nat.reduceAdd];(repeat1' with_reducible first|apply And.intro|(intro _;try exact q_v)|(refine hK _ ?_;clear hK K))<;>(try (clear hK K;exact q_u)))|(with_reducible refine q_s ?_;(first|apply q_J|apply q_K|apply q_L|apply q_M|apply q_N|apply q_O)<;>try (intro _;try exact q_v)))
   all_goals first | omega | contradiction | skip
   all_goals exact q_A (by rw [if_pos trivial,← g2]; rfl)
 ·rw [if_neg h0]
  repeat' (first|with_reducible refine q_0 ?_|((with_reducible first|refine q_q ha14_ok fun K hK=>?_|refine q_r ha14_ok fun K hK=>?_);simp (maxSteps:=2000000) only [go_sem,↓reduceIte,reduceCtorEq,Nat.reduceLeDiff,Nat.reduceLT,Nat.reduceBEq,Nat.reduceAdd,hd,hX];(repeat1' with_reducible first|apply And.intro|(intro _;try exact q_v)|(refine hK _ ?_;clear hK K))<;>(try (clear hK K;exact q_u)))|(with_reducible refine q_s ?_;(first|apply q_J|apply q_K|apply q_L|apply q_M|apply q_N|apply q_O)<;>try (intro _;try exact q_v)))
  all_goals first | omega | contradiction | exact hp _ (by assumption) | exact q_A rfl | skip
end Go.Proofs.Ytncededjmcmidaa
