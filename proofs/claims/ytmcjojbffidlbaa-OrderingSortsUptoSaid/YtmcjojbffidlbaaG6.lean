import Derived.Test.YtmcjojbffidlbaaG5
namespace Go.Proofs.Ytmcjojbffidlbaa
set_option linter.unusedSimpArgs false
set_option linter.unusedVariables false
open Go.Abs Go.Proofs.NatL

set_option maxHeartbeats 1600000 in
theorem pair_ret (o : List Int) (A : List (List C)) (w f : Int) (l r x : List Int) (hl : 0 < l.length) (hr : 0 < r.length) : Ret Try.prog 28 false [.inl (.ptr [.ints .i64 o,.sl 2 A,.i .i64 w,.i .i64 f,.ints .i64 l,.ints .i64 r,.ints .i64 x])] (.g [.i .i64 (r.getD 0 0),.i .i64 (l.getD 0 0)]):=by
 (refine q_H Try.func28 (fun F=>?_); simp only [q_z,q_y,Try.ntmps28,Try.results28])
 repeat' (first|with_reducible refine q_0 ?_|((with_reducible first|refine q_q oqt_ok fun K hK=>?_|refine q_r oqt_ok fun K hK=>?_);simp (maxSteps:=2000000) only [go_sem,↓reduceIte,reduceCtorEq,Nat.reduceLeDiff,Nat.reduceLT,Nat.reduceBEq,Nat.reduceAdd];(repeat1' with_reducible first|apply And.intro|(intro _;try exact q_v)|(refine hK _ ?_;clear hK K))<;>(try (clear hK K;exact q_u)))|(with_reducible refine q_s ?_;(first|apply q_J|apply q_K|apply q_L|apply q_M|apply q_N|apply q_O)<;>try (intro _;try exact q_v)))
 all_goals first | omega | rfl | exact q_A rfl
def pairCT : CT:=mkCT [] true fun l K=>match l with
 | [.inl (.ptr [.ints .i64 o,.sl 2 A,.i .i64 w,.i .i64 f,.ints .i64 l,.ints .i64 r,.ints .i64 x])]=>(0 < l.length ∧ 0 < r.length) ∧ K (.g [.i .i64 (r.getD 0 0),.i .i64 (l.getD 0 0)])
 | _=>False
def oq3 : Cfg:=addT 28 pairCT cf0
theorem oq3_ok : TblOk Try.prog oq3:=q_I cf0_ok Try.func28 fun l K h=>by
 split at h
 ·exact ⟨_,(pair_ret _ _ _ _ _ _ _ h.1.1 h.1.2).plain rfl,h.2⟩
 ·exact h.elim
def loadCT : CT:=mkCTG fun H al K=>match H,al with
 | ⟨[(0,[.c (.ints .i64 o),.own 0 0,.c (.i .i64 w),.c (.i .i64 f),.c (.ints .i64 l),.c (.ints .i64 r),.own 1 0])],[(0,⟨0,42,2,.sl 2 A⟩),(1,⟨0,3,1,.ints .i64 x⟩)],[]⟩,[.bx 0 0]=>(0 ≤ w ∧ 0 ≤ f ∧ (Mg.mk o w.toNat f.toNat l r x).Ok) ∧
   K (hM A (loadM (Mg.mk o w.toNat f.toNat l r x))) []
 | _,_=>False
def oq4 : Cfg:=addT 33 loadCT cf0
theorem oq4_ok : TblOk Try.prog oq4:=ctg_ok cf0_ok Try.func33 fun H al K h=>by
 split at h
 ·rename_i o w f l r A x
  obtain ⟨⟨h1,h2,h3⟩,h⟩:=h
  obtain ⟨w,rfl⟩:=Int.eq_ofNat_of_zero_le h1
  obtain ⟨f,rfl⟩:=Int.eq_ofNat_of_zero_le h2
  exact ⟨_,_,load_ret A ⟨o,w,f,l,r,x⟩ h3,h⟩
 ·exact h.elim
attribute [go_sem] pairCT loadCT
def ort : Cfg:=listT [(28,pairCT),(33,loadCT)] [27]
theorem ort_ok : TblOk Try.prog ort:=listE_ok (by simp only [List.mem_singleton,forall_eq]; exact flt) ⟨⟨oq3,oq3_ok,rfl⟩,⟨oq4,oq4_ok,rfl⟩,trivial⟩
attribute [go_sem] ort
theorem Mg.told_ok {m : Mg} (h : m.Ok) (ho : m.opn) (b : Bool) : (m.told b).Ok:=by
 obtain ⟨h1,h2⟩:=ho
 have hx:=h.xx
 unfold Mg.told
 cases b
 ·refine ⟨h.n,h.w0,h.w1,h.f1,?_⟩
  simp only [Bool.false_eq_true,if_false,List.length_append,List.length_cons,List.length_nil,List.length_drop]
  omega
 ·refine ⟨h.n,h.w0,h.w1,h.f1,?_⟩
  simp only [if_true,List.length_append,List.length_cons,List.length_nil,List.length_drop]
  omega
theorem dropOne (a : List Int) : (a.take a.length).drop 1 = a.drop 1:=by rw [List.take_length]
set_option maxRecDepth 100000 in
set_option maxHeartbeats 6400000 in
theorem answer_ret (A : List (List C)) (m : Mg) (b : Bool) (hm : m.Ok) (ho : m.opn) (hA : A.length ≤ 4000000) : RetG Try.prog 14 (hM A m) [.bx 0 0,.c (.b b)] (hM (A ++ [[.i .i64 m.i,.i .i64 m.j]]) (m.ans b)) []:=by
 have ht:=Mg.told_ok hm ho b
 obtain ⟨h1,h2⟩:=ho
 have hx:=hm.xx
 have hn:=hm.n
 have dl:=dropOne m.l
 have dr:=dropOne m.r
 have hans : loadM (m.told b) = m.ans b:=rfl
 have hij : m.i = m.r.getD 0 0 ∧ m.j = m.l.getD 0 0:=⟨rfl,rfl⟩
 rw [hij.1,hij.2]
 cases b
 ·have e : m.told false = ⟨m.o,m.w,m.f,m.l.drop 1,m.r,m.x ++ [m.l.getD 0 0]⟩:=rfl
  rw [e] at ht hans
  generalize m.ans false = z at *
  (refine ret_ge Try.func14 (fun F bs=>?_); simp only [avSl,ancs,hnx,Nat.reduceAdd,Nat.reduceLeDiff,if_true,if_false,List.length_cons,List.length_nil,List.cons_append,List.nil_append,Try.ntmps14,Try.results14])
  repeat' (first|with_reducible refine q_0 ?_|((with_reducible first|refine q_q ort_ok fun K hK=>?_|refine q_r ort_ok fun K hK=>?_);simp (maxSteps:=2000000) only [go_sem,↓reduceIte,reduceCtorEq,Nat.reduceLeDiff,Nat.reduceLT,Nat.reduceBEq,Nat.reduceAdd,Int.toNat_one,dl,dr,hans];(repeat1' with_reducible first|apply And.intro|(intro _;try exact q_v)|(refine hK _ ?_;clear hK K))<;>(try (clear hK K;exact q_u)))|(with_reducible refine q_s ?_;(first|apply q_J|apply q_K|apply q_L|apply q_M|apply q_N|apply q_O)<;>try (intro _;try exact q_v)))
  all_goals first | omega | rfl | exact ht | skip
  all_goals exact ends_grn [(2,0),(3,1)] [] 2 (by exact q_D) rfl
 ·have e : m.told true = ⟨m.o,m.w,m.f,m.l,m.r.drop 1,m.x ++ [m.r.getD 0 0]⟩:=rfl
  rw [e] at ht hans
  generalize m.ans true = z at *
  (refine ret_ge Try.func14 (fun F bs=>?_); simp only [avSl,ancs,hnx,Nat.reduceAdd,Nat.reduceLeDiff,if_true,if_false,List.length_cons,List.length_nil,List.cons_append,List.nil_append,Try.ntmps14,Try.results14])
  repeat' (first|with_reducible refine q_0 ?_|((with_reducible first|refine q_q ort_ok fun K hK=>?_|refine q_r ort_ok fun K hK=>?_);simp (maxSteps:=2000000) only [go_sem,↓reduceIte,reduceCtorEq,Nat.reduceLeDiff,Nat.reduceLT,Nat.reduceBEq,Nat.reduceAdd,Int.toNat_one,dl,dr,hans];(repeat1' with_reducible first|apply And.intro|(intro _;try exact q_v)|(refine hK _ ?_;clear hK K))<;>(try (clear hK K;exact q_u)))|(with_reducible refine q_s ?_;(first|apply q_J|apply q_K|apply q_L|apply q_M|apply q_N|apply q_O)<;>try (intro _;try exact q_v)))
  all_goals first | omega | rfl | exact ht | skip
  all_goals exact ends_grn [(2,0),(3,1)] [] 2 (by exact q_D) rfl
theorem startM_ok {n : Nat} (h : n ≤ 1000) : (startM n).Ok:=by
 refine ⟨by simp [startM]; exact h,by simp [startM],by simp [startM],by simp [startM],?_⟩
 simp [startM]
set_option maxRecDepth 100000 in
set_option maxHeartbeats 6400000 in
theorem merged_ret (n : Nat) (h : n ≤ 1000) : RetG Try.prog 12 ⟨[],[],[]⟩ [.c (.i .i64 (n : Nat))] (hM [] (loadM (startM n))) [.bx 0 0]:=by
 have hs:=startM_ok h
 (refine ret_ge Try.func12 (fun F bs=>?_); simp only [avSl,ancs,hnx,Nat.reduceAdd,Nat.reduceLeDiff,if_true,if_false,List.length_cons,List.length_nil,List.cons_append,List.nil_append,Try.ntmps12,Try.results12])
 repeat' (first|with_reducible refine q_0 ?_|((with_reducible first|refine q_q cf0_ok fun K hK=>?_|refine q_r cf0_ok fun K hK=>?_);simp (maxSteps:=2000000) only [go_sem,↓reduceIte,reduceCtorEq,Nat.reduceLeDiff,Nat.reduceLT,Nat.reduceBEq,Nat.reduceAdd];(repeat1' with_reducible first|apply And.intro|(intro _;try exact q_v)|(refine hK _ ?_;clear hK K))<;>(try (clear hK K;exact q_u)))|(with_reducible refine q_s ?_;(first|apply q_J|apply q_K|apply q_L|apply q_M|apply q_N|apply q_O)<;>try (intro _;try exact q_v)))
 all_goals try omega
 refine q_G (ι:={ k : Nat // k ≤ n }) (fun k=>⟨25,[(0,.c (.i .i64 (n : Nat))),(3,.bx 0 0),(4,.c (.i .i64 (k.1 : Nat)))],⟨[(0,[.own 1 0,.c .nil,.c (.i .i64 1),.c (.i .i64 0),.c .nil,.c .nil,.c .nil])],[(1,⟨0,3,1,.ints .i64 ((List.range k.1).map fun i : Nat=>(i : Int))⟩)],[]⟩,2⟩) (fun k=>n - k.1) ⟨0,by omega⟩ ?_ ?_
 ·exact q_D
 rintro ⟨k,k1⟩
 simp only at k1 ⊢
 have hlen : ((List.range k).map fun i : Nat=>(i : Int)).length = k:=by simp
 rcases Nat.lt_or_ge k n with hk | hk
 ·have hs : ((List.range (k + 1)).map fun i : Nat=>(i : Int)) = ((List.range k).map fun i : Nat=>(i : Int)) ++ [(k : Int)]:=by rw [List.range_succ,List.map_append]; rfl
  generalize ((List.range k).map fun i : Nat=>(i : Int)) = R at *
  repeat' (first|with_reducible refine q_0 ?_|((with_reducible first|refine q_q cf0_ok fun K hK=>?_|refine q_r cf0_ok fun K hK=>?_);simp (maxSteps:=2000000) only [go_sem,↓reduceIte,reduceCtorEq,Nat.reduceLeDiff,Nat.reduceLT,Nat.reduceBEq,Nat.reduceAdd,hlen];(repeat1' with_reducible first|apply And.intro|(intro _;try exact q_v)|(refine hK _ ?_;clear hK K))<;>(try (clear hK K;exact q_u)))|(with_reducible refine q_s ?_;(first|apply q_J|apply q_K|apply q_L|apply q_M|apply q_N|apply q_O)<;>try (intro _;try exact q_v)))
  all_goals try omega
  refine q_F ⟨k + 1,hk⟩ ?_ (by simp only; omega)
  simp only [hs]
  exact q_D
 ·have hk' : k = n:=by omega
  subst hk'
  have e : startM k = ⟨((List.range k).map fun i : Nat=>(i : Int)),1,0,[],[],[]⟩:=rfl
  rw [e] at hs ⊢
  generalize ((List.range k).map fun i : Nat=>(i : Int)) = R at *
  generalize hz : loadM ⟨R,1,0,[],[],[]⟩ = z
  repeat' (first|with_reducible refine q_0 ?_|((with_reducible first|refine q_q cf0_ok fun K hK=>?_|refine q_r cf0_ok fun K hK=>?_);simp (maxSteps:=2000000) only [go_sem,↓reduceIte,reduceCtorEq,Nat.reduceLeDiff,Nat.reduceLT,Nat.reduceBEq,Nat.reduceAdd,hlen];(repeat1' with_reducible first|apply And.intro|(intro _;try exact q_v)|(refine hK _ ?_;clear hK K))<;>(try (clear hK K;exact q_u)))|(with_reducible refine q_s ?_;(first|apply q_J|apply q_K|apply q_L|apply q_M|apply q_N|apply q_O)<;>try (intro _;try exact q_v)))
  all_goals try omega
  refine awp_told ⟨25,[(3,.bx 0 0)],⟨[(0,[.c (.ints .i64 R),.own 2 0,.c (.i .i64 1),.c (.i .i64 0),.c (.ints .i64 []),.c (.ints .i64 []),.own 3 0])],[(2,⟨0,42,2,.sl 2 []⟩),(3,⟨0,3,1,.ints .i64 []⟩)],[]⟩,4⟩ ?_ ?_
  ·exact q_D
  repeat' (first|with_reducible refine q_0 ?_|((with_reducible first|refine q_q ort_ok fun K hK=>?_|refine q_r ort_ok fun K hK=>?_);simp (maxSteps:=2000000) only [go_sem,↓reduceIte,reduceCtorEq,Nat.reduceLeDiff,Nat.reduceLT,Nat.reduceBEq,Nat.reduceAdd,Int.toNat_one,hz];(repeat1' with_reducible first|apply And.intro|(intro _;try exact q_v)|(refine hK _ ?_;clear hK K))<;>(try (clear hK K;exact q_u)))|(with_reducible refine q_s ?_;(first|apply q_J|apply q_K|apply q_L|apply q_M|apply q_N|apply q_O)<;>try (intro _;try exact q_v)))
  all_goals first | omega | rfl | exact hs | skip
  all_goals exact ends_gr [(4,0),(5,1)] [(2,.bx 0 0)] 2 (by exact q_D) rfl
def answerCT : CT:=mkCTG fun H al K=>match H,al with
 | ⟨[(0,[.c (.ints .i64 o),.own 0 0,.c (.i .i64 w),.c (.i .i64 f),.c (.ints .i64 l),.c (.ints .i64 r),.own 1 0])],[(0,⟨0,42,2,.sl 2 A⟩),(1,⟨0,3,1,.ints .i64 x⟩)],[]⟩,[.bx 0 0,.c (.b b)]=>(0 ≤ w ∧ 0 ≤ f ∧ (Mg.mk o w.toNat f.toNat l r x).Ok ∧ (0 < l.length ∧ 0 < r.length) ∧ A.length ≤ 4000000) ∧
   K (hM (A ++ [[.i .i64 (Mg.mk o w.toNat f.toNat l r x).i,.i .i64 (Mg.mk o w.toNat f.toNat l r x).j]]) (Mg.ans (Mg.mk o w.toNat f.toNat l r x) b)) []
 | _,_=>False
def oq5 : Cfg:=addT 14 answerCT cf0
theorem oq5_ok : TblOk Try.prog oq5:=ctg_ok cf0_ok Try.func14 fun H al K h=>by
 split at h
 ·rename_i o w f l r A x b
  obtain ⟨⟨h1,h2,h3,h4,h5⟩,h⟩:=h
  obtain ⟨w,rfl⟩:=Int.eq_ofNat_of_zero_le h1
  obtain ⟨f,rfl⟩:=Int.eq_ofNat_of_zero_le h2
  exact ⟨_,_,answer_ret A ⟨o,w,f,l,r,x⟩ b h3 h4 h5,h⟩
 ·exact h.elim
def mergedCT : CT:=mkCTG fun H al K=>match H,al with
 | ⟨[],[],[]⟩,[.c (.i .i64 n)]=>(0 ≤ n ∧ n ≤ 1000) ∧ K (hM [] (loadM (startM n.toNat))) [.bx 0 0]
 | _,_=>False
def oq6 : Cfg:=addT 12 mergedCT cf0
theorem oq6_ok : TblOk Try.prog oq6:=ctg_ok cf0_ok Try.func12 fun H al K h=>by
 split at h
 ·rename_i n
  obtain ⟨⟨h1,h2⟩,h⟩:=h
  obtain ⟨k,rfl⟩:=Int.eq_ofNat_of_zero_le h1
  exact ⟨_,_,merged_ret k (by omega),h⟩
 ·exact h.elim
attribute [go_sem] answerCT mergedCT
end Go.Proofs.Ytmcjojbffidlbaa

namespace Go.Proofs.Ytmcjojbffidlbaa
set_option linter.unusedSimpArgs false
set_option linter.unusedVariables false
open Go.Abs Go.Proofs.NatL

structure PmF (n k : Nat) (p : Pn) (m : Mg) : Prop where
 ok : p.Ok
 asks : p.on → p.asks
 rel : Rel p m
 mok : m.Ok
 opn : m.w < m.o.length → m.opn
 len : p.o.length = n
 nu : p.nu + k ≤ 2003000
theorem nu_le4 {p : Pn} (h : p.o.length ≤ 1000) : p.nu ≤ 2003000:=by
 unfold Pn.nu
 have h1 : (2 * p.o.length - p.w) * (p.o.length + 1) ≤ 2000 * 1001:=Nat.mul_le_mul (by omega) (by omega)
 omega
end Go.Proofs.Ytmcjojbffidlbaa

namespace Go.Proofs.Ytmcjojbffidlbaa
set_option linter.unusedSimpArgs false
set_option linter.unusedVariables false
open Go.Abs Go.Proofs.NatL

structure PI (p : Pn) : Prop where
 ok : p.Ok
 pm : p.on → (p.m ++ (seg p.o (p.f + p.l) p.mid ++ seg p.o (p.mid + p.r) p.en)).Perm (seg p.o p.f p.en)
 pr : p.o.Perm ((List.range p.o.length).map fun i : Nat=>(i : Int))
theorem PI.start {o : List Int} {w f : Nat} (ok : (Pn.mk o w f 0 0 []).Ok) (pr : o.Perm ((List.range o.length).map fun i : Nat=>(i : Int))) : PI ⟨o,w,f,0,0,[]⟩:=by
 refine ⟨ok,fun ho=>?_,pr⟩
 have:=Pn.facts ok ho
 simp only [Pn.mid,Pn.en] at this
 show ([] ++ (seg o (f + 0) (min o.length (f + w)) ++ seg o (min o.length (f + w) + 0) (min o.length (f + 2 * w)))).Perm (seg o f (min o.length (f + 2 * w)))
 rw [List.nil_append,Nat.add_zero,Nat.add_zero,seg_cat o (by omega) (by omega)]
theorem PI.step {p : Pn} (h : PI p) (ho : p.on) : PI p.step:=by
 have hok:=Pn.step_ok h.ok ho
 have hlen:=Pn.put_len h.ok ho
 have hpr : p.put.Perm ((List.range p.put.length).map fun i : Nat=>(i : Int)):=by rw [hlen]; exact (put_perm h.ok ho (h.pm ho)).trans h.pr
 unfold Pn.step at hok ⊢
 split
 ·rename_i hc; rw [if_pos hc] at hok; exact PI.start hok hpr
 ·rename_i hc; rw [if_neg hc] at hok; exact PI.start hok hpr
theorem PI.settleF : ∀ (k : Nat) {p : Pn},PI p → PI (settleF k p)
 | 0,p,h=>h
 | k + 1,p,h=>by
  simp only [Go.Proofs.Ytmcjojbffidlbaa.settleF]
  split
  ·rename_i hc; exact PI.settleF k (h.step hc.1)
  ·exact h
theorem PI.told {p : Pn} (h : PI p) (ho : p.on) (ha : p.asks) (b : Bool) : PI (p.told b):=by
 obtain ⟨h1,h2,h3,h4,h5,h6⟩:=Pn.facts h.ok ho
 have hok:=told_ok h.ok ho ha b
 obtain ⟨a1,a2⟩:=ha
 have eL : seg p.o (p.f + p.l) p.mid = p.j :: seg p.o (p.f + p.l + 1) p.mid:=seg_head _ a1 (by omega)
 have eR : seg p.o (p.mid + p.r) p.en = p.i :: seg p.o (p.mid + p.r + 1) p.en:=seg_head _ a2 h3
 have hpm:=h.pm ho
 rw [eL,eR] at hpm
 cases b
 ·have et : p.told false = ⟨p.o,p.w,p.f,p.l + 1,p.r,p.m ++ [p.j]⟩:=rfl
  rw [et] at hok ⊢
  refine ⟨hok,fun _=>?_,h.pr⟩
  show (p.m ++ [p.j] ++ (seg p.o (p.f + (p.l + 1)) p.mid ++ seg p.o (p.mid + p.r) p.en)).Perm (seg p.o p.f p.en)
  refine List.Perm.trans ?_ hpm
  rw [eR,List.append_assoc]
  exact List.Perm.refl _
 ·have et : p.told true = ⟨p.o,p.w,p.f,p.l,p.r + 1,p.m ++ [p.i]⟩:=rfl
  rw [et] at hok ⊢
  refine ⟨hok,fun _=>?_,h.pr⟩
  show (p.m ++ [p.i] ++ (seg p.o (p.f + p.l) p.mid ++ seg p.o (p.mid + (p.r + 1)) p.en)).Perm (seg p.o p.f p.en)
  refine List.Perm.trans ?_ hpm
  rw [eL,List.append_assoc]
  refine List.Perm.append_left _ ?_
  rw [show p.mid + (p.r + 1) = p.mid + p.r + 1 by omega]
  exact (List.perm_middle (a:=p.i) (l₁:=p.j :: seg p.o (p.f + p.l + 1) p.mid) (l₂:=seg p.o (p.mid + p.r + 1) p.en)).symm
theorem PI.tell {p : Pn} (h : PI p) (ho : p.on) (ha : p.asks) (b : Bool) : PI (tellP p b):=by
 unfold tellP
 rw [if_pos ho]
 exact PI.settleF _ (h.told ho ha b)
theorem startP_pi {n : Nat} (hn : n ≤ 1000) : PI (settle (startP n)):=by
 have hl : (startP n).o.length = n:=by simp [startP]
 refine PI.settleF _ (PI.start (startP_ok hn) ?_)
 show (startP n).o.Perm ((List.range (startP n).o.length).map fun i : Nat=>(i : Int))
 rw [hl]; exact List.Perm.refl _
structure Lp (b : Pn → Bool) (n : Nat) (z : Pn) (p : Pn) (m : Mg) : Prop where
 pi : PI p
 asks : p.on → p.asks
 rel : Rel p m
 mok : m.Ok
 opn : m.w < m.o.length → m.opn
 len : p.o.length = n
 run : runAll b p = z
theorem lp_start {b : Pn → Bool} {n : Nat} (hn : n ≤ 1000) : Lp b n (runAll b (settle (startP n))) (settle (startP n)) (loadM (startM n)):=by
 obtain ⟨g1,g2,g3⟩:=settle_facts (startP_ok hn)
 obtain ⟨h1,h2⟩:=loadF_facts _ (startM n) (startM_ok hn) (Nat.le_refl _)
 have hl : (settle (startP n)).o.length = n:=by rw [g3]; simp [startP]
 exact ⟨startP_pi hn,g2,start_rel n hn,h1,h2,hl,rfl⟩
theorem lp_next {b : Pn → Bool} {n : Nat} {z p : Pn} {m : Mg} (h : Lp b n z p m) (ho : p.on) : Lp b n z (tellP p (b p)) (m.ans (b p)) ∧ (tellP p (b p)).nu < p.nu ∧ m.opn ∧ m.i = p.i ∧ m.j = p.j ∧ (0 ≤ p.i ∧ p.i < (n : Int)) ∧ (0 ≤ p.j ∧ p.j < (n : Int)):=by
 have ha:=h.asks ho
 have hok:=h.pi.ok
 have hop:=(h.rel.opn hok h.asks h.opn).2 ho
 obtain ⟨g1,g2,g3⟩:=tellP_ok hok h.asks (b p)
 obtain ⟨h1,h2⟩:=loadF_facts _ (m.told (b p)) (Mg.told_ok h.mok hop _) (Nat.le_refl _)
 have hin:=ask_in hok ho ha h.pi.pr
 rw [h.len] at hin
 refine ⟨⟨h.pi.tell ho ha _,g2,h.rel.ans hok ho ha hop _,h1,h2,g3.trans h.len,(runAll_step hok ho h.asks).trans h.run⟩,tell_nu hok ho ha _,hop,?_,?_,hin⟩
 ·rcases h.rel with hr | hr
  ·exact absurd hop (by unfold Mg.opn; rw [hr.2.2.2.2.1]; simp)
  ·exact (hr.ij hok ha).1
 ·rcases h.rel with hr | hr
  ·exact absurd hop (by unfold Mg.opn; rw [hr.2.2.2.2.1]; simp)
  ·exact (hr.ij hok ha).2
theorem lp_end {b : Pn → Bool} {n : Nat} {z p : Pn} {m : Mg} (h : Lp b n z p m) (ho : ¬ p.on) : ¬ m.opn ∧ m.o = z.o ∧ PI z ∧ z.o.length = n:=by
 have hz : z = p:=by rw [← h.run]; exact runAll_off ho
 subst hz
 exact ⟨fun hc=>ho ((h.rel.opn h.pi.ok h.asks h.opn).1 hc),h.rel.order ho,h.pi,h.len⟩
theorem brk_step {lt : Int → Int → Bool} {l : List Int} {i : Nat} (h : i < l.length) : brkF lt l i (l.length - i) = if lt (l.getD i 0) (l.getD (i - 1) 0) = true then (i : Int) else brkF lt l (i + 1) (l.length - (i + 1)):=by
 obtain ⟨j,hj⟩ : ∃ j,l.length - i = j + 1:=⟨l.length - i - 1,by omega⟩
 rw [hj,show l.length - (i + 1) = j by omega]
 rfl
theorem drop_getD (l : List Int) (i : Nat) : (l.drop i).getD 0 0 = l.getD i 0:=by simp [List.getD_eq_getElem?_getD,List.getElem?_drop]
structure Mt (lt : Int → Int → Bool) (l m b : List Int) (n i k : Nat) : Prop where
 i1 : i ≤ l.length
 k1 : k ≤ m.length
 n1 : n = i + k
 at_ : b.drop n = mrg lt (l.drop i) (m.drop k)
theorem mt_start {lt : Int → Int → Bool} {l m : List Int} : Mt lt l m (mrg lt l m) 0 0 0:=⟨Nat.zero_le _,Nat.zero_le _,rfl,by simp⟩
theorem drop_cons {b r : List Int} {n : Nat} {x : Int} (h : b.drop n = x :: r) : b.getD n 0 = x ∧ b.drop (n + 1) = r:=by
 constructor
 ·rw [← drop_getD,h]; rfl
 ·rw [← List.drop_drop,h]; rfl
theorem mt_right {lt : Int → Int → Bool} {l m b : List Int} {n i k : Nat} (h : Mt lt l m b n i k) (hn : n < l.length + m.length) (hr : ¬ i < l.length ∨ (k < m.length ∧ lt (m.getD k 0) (l.getD i 0) = true)) : k < m.length ∧ b.getD n 0 = m.getD k 0 ∧ Mt lt l m b (n + 1) i (k + 1):=by
 have hi:=h.i1
 have hk:=h.k1
 have hn1:=h.n1
 have hat:=h.at_
 have hkm : k < m.length:=by rcases hr with hr | hr; omega; exact hr.1
 have key : mrg lt (l.drop i) (m.drop k) = m.getD k 0 :: mrg lt (l.drop i) (m.drop (k + 1)):=by
  rcases Nat.lt_or_ge i l.length with hil | hil
  ·have hlt:=(hr.resolve_left (fun hc=>hc hil)).2
   rw [mrg_r (by rw [List.length_drop]; omega) (by rw [List.length_drop]; omega) (by rw [drop_getD,drop_getD]; exact hlt),drop_getD,List.drop_drop]
  ·have e : l.drop i = []:=List.drop_eq_nil_of_le hil
   rw [e,mrg_e (by simp),mrg_e (by simp),List.nil_append,List.nil_append,← drop_getD]
   cases hd : m.drop k with
   | nil=>have:=congrArg List.length hd; rw [List.length_drop,List.length_nil] at this; omega
   | cons y t=>rw [← List.drop_drop,hd]; rfl
 rw [key] at hat
 obtain ⟨g1,g2⟩:=drop_cons hat
 exact ⟨hkm,g1,hi,hkm,by omega,g2⟩
theorem mt_left {lt : Int → Int → Bool} {l m b : List Int} {n i k : Nat} (h : Mt lt l m b n i k) (hil : i < l.length) (hr : ¬ (k < m.length ∧ lt (m.getD k 0) (l.getD i 0) = true)) : b.getD n 0 = l.getD i 0 ∧ Mt lt l m b (n + 1) (i + 1) k:=by
 have hi:=h.i1
 have hk:=h.k1
 have hn1:=h.n1
 have hat:=h.at_
 have key : mrg lt (l.drop i) (m.drop k) = l.getD i 0 :: mrg lt (l.drop (i + 1)) (m.drop k):=by
  rcases Nat.lt_or_ge k m.length with hkm | hkm
  ·have hlt : lt (m.getD k 0) (l.getD i 0) = false:=by
    cases hb : lt (m.getD k 0) (l.getD i 0) with
    | false=>rfl
    | true=>exact absurd ⟨hkm,hb⟩ hr
   rw [mrg_l (by rw [List.length_drop]; omega) (by rw [List.length_drop]; omega) (by rw [drop_getD,drop_getD]; exact hlt),drop_getD,List.drop_drop]
  ·have e : m.drop k = []:=List.drop_eq_nil_of_le hkm
   rw [e,mrg_e (by simp),mrg_e (by simp),List.append_nil,List.append_nil,← drop_getD]
   cases hd : l.drop i with
   | nil=>have:=congrArg List.length hd; rw [List.length_drop,List.length_nil] at this; omega
   | cons y t=>rw [← List.drop_drop,hd]; rfl
 rw [key] at hat
 obtain ⟨g1,g2⟩:=drop_cons hat
 exact ⟨g1,by omega,hk,by omega,g2⟩
theorem permL_snoc (l o : List Int) {i : Nat} (h : i < o.length) : permL l (o.take (i + 1)) = permL l (o.take i) ++ [l.getD (o.getD i 0).toNat 0]:=by
 rw [List.take_succ_eq_append_getElem h,getD_eq o i h]; simp only [permL,List.map_append,List.map_cons,List.map_nil]
end Go.Proofs.Ytmcjojbffidlbaa

namespace Go.Proofs.Ytmcjojbffidlbaa
set_option linter.unusedSimpArgs false
set_option linter.unusedVariables false
open Go.Abs Go.Proofs.NatL

def lt0 (a b : Int) : Bool:=decide (a < b)
def lt1 (a b : Int) : Bool:=decide (bitI .and .i64 a 7 < bitI .and .i64 b 7)
def lt2 (k a b : Int) : Bool:=if 80 < bitI .and .i64 a 15 * 7 + bitI .and .i64 b 15 * 5 + bitI .and .i64 k 3 then true else decide (a = b)
theorem and_low (x : Int) (m : Nat) (hm : m < 4294967296) : 0 ≤ bitI .and .i64 x m ∧ bitI .and .i64 x m ≤ m:=by
 have h : (BitVec.ofInt 64 x &&& BitVec.ofInt 64 (m : Int)).toNat ≤ m:=by
  have e : (BitVec.ofInt 64 (m : Int)).toNat = m:=by
   have : BitVec.ofInt 64 (m : Int) = BitVec.ofNat 64 m:=by simp
   rw [this,BitVec.toNat_ofNat,Nat.mod_eq_of_lt (by omega)]
  rw [BitVec.toNat_and]
  exact Nat.le_trans Nat.and_le_right (by omega)
 show 0 ≤ IntKind.i64.wrap (BitVec.ofInt 64 x &&& BitVec.ofInt 64 (m : Int)).toNat ∧ IntKind.i64.wrap (BitVec.ofInt 64 x &&& BitVec.ofInt 64 (m : Int)).toNat ≤ m
 generalize (BitVec.ofInt 64 x &&& BitVec.ofInt 64 (m : Int)).toNat = n at *
 rw [wrap_i64]
 omega
theorem less0_ret (a b : Int) : Ret Try.prog 35 false [.inl (.i .i64 a),.inl (.i .i64 b)] (.c (.b (lt0 a b))):=by
 unfold lt0
 (refine q_H Try.func35 (fun F=>?_); simp only [q_z,q_y,Try.ntmps35,Try.results35])
 repeat' (first|with_reducible refine q_0 ?_|((with_reducible first|refine q_q ogb_ok fun K hK=>?_|refine q_r ogb_ok fun K hK=>?_);simp (maxSteps:=2000000) only [go_sem,↓reduceIte,reduceCtorEq,Nat.reduceLeDiff,Nat.reduceLT,Nat.reduceBEq,Nat.reduceAdd];(repeat1' with_reducible first|apply And.intro|(intro _;try exact q_v)|(refine hK _ ?_;clear hK K))<;>(try (clear hK K;exact q_u)))|(with_reducible refine q_s ?_;(first|apply q_J|apply q_K|apply q_L|apply q_M|apply q_N|apply q_O)<;>try (intro _;try exact q_v)))
 all_goals exact q_A rfl
theorem less1_ret (a b : Int) : Ret Try.prog 36 false [.inl (.i .i64 a),.inl (.i .i64 b)] (.c (.b (lt1 a b))):=by
 unfold lt1
 (refine q_H Try.func36 (fun F=>?_); simp only [q_z,q_y,Try.ntmps36,Try.results36])
 repeat' (first|with_reducible refine q_0 ?_|((with_reducible first|refine q_q ogb_ok fun K hK=>?_|refine q_r ogb_ok fun K hK=>?_);simp (maxSteps:=2000000) only [go_sem,↓reduceIte,reduceCtorEq,Nat.reduceLeDiff,Nat.reduceLT,Nat.reduceBEq,Nat.reduceAdd];(repeat1' with_reducible first|apply And.intro|(intro _;try exact q_v)|(refine hK _ ?_;clear hK K))<;>(try (clear hK K;exact q_u)))|(with_reducible refine q_s ?_;(first|apply q_J|apply q_K|apply q_L|apply q_M|apply q_N|apply q_O)<;>try (intro _;try exact q_v)))
 all_goals exact q_A rfl
theorem less2_ret (k a b : Int) : RetG Try.prog 37 ⟨[(0,[.c (.i .i64 k)])],[],[]⟩ [.c (.i .i64 a),.c (.i .i64 b),.bx 0 0] ⟨[(0,[.c (.i .i64 k)])],[],[]⟩ [.c (.b (lt2 k a b))]:=by
 have h1 : 0 ≤ bitI .and .i64 a 15 ∧ bitI .and .i64 a 15 ≤ 15:=and_low a 15 (by omega)
 have h2 : 0 ≤ bitI .and .i64 b 15 ∧ bitI .and .i64 b 15 ≤ 15:=and_low b 15 (by omega)
 have h3 : 0 ≤ bitI .and .i64 k 3 ∧ bitI .and .i64 k 3 ≤ 3:=and_low k 3 (by omega)
 unfold lt2
 generalize hA : bitI .and .i64 a 15 = A at *
 generalize hB : bitI .and .i64 b 15 = B at *
 generalize hD : bitI .and .i64 k 3 = D at *
 by_cases hc : 80 < A * 7 + B * 5 + D
 ·rw [if_pos hc]
  (refine ret_ge Try.func37 (fun F bs=>?_); simp only [avSl,ancs,hnx,Nat.reduceAdd,Nat.reduceLeDiff,if_true,if_false,List.length_cons,List.length_nil,List.cons_append,List.nil_append,Try.ntmps37,Try.results37])
  repeat' (first|with_reducible refine q_0 ?_|((with_reducible first|refine q_q ogb_ok fun K hK=>?_|refine q_r ogb_ok fun K hK=>?_);simp (maxSteps:=2000000) only [go_sem,↓reduceIte,reduceCtorEq,Nat.reduceLeDiff,Nat.reduceLT,Nat.reduceBEq,Nat.reduceAdd,hA,hB,hD];(repeat1' with_reducible first|apply And.intro|(intro _;try exact q_v)|(refine hK _ ?_;clear hK K))<;>(try (clear hK K;exact q_u)))|(with_reducible refine q_s ?_;(first|apply q_J|apply q_K|apply q_L|apply q_M|apply q_N|apply q_O)<;>try (intro _;try exact q_v)))
  all_goals first | omega | exact ends_g [(5,.c (.b true))] 1 (by exact q_D) rfl | skip
 ·rw [if_neg hc]
  (refine ret_ge Try.func37 (fun F bs=>?_); simp only [avSl,ancs,hnx,Nat.reduceAdd,Nat.reduceLeDiff,if_true,if_false,List.length_cons,List.length_nil,List.cons_append,List.nil_append,Try.ntmps37,Try.results37])
  repeat' (first|with_reducible refine q_0 ?_|((with_reducible first|refine q_q ogb_ok fun K hK=>?_|refine q_r ogb_ok fun K hK=>?_);simp (maxSteps:=2000000) only [go_sem,↓reduceIte,reduceCtorEq,Nat.reduceLeDiff,Nat.reduceLT,Nat.reduceBEq,Nat.reduceAdd,hA,hB,hD];(repeat1' with_reducible first|apply And.intro|(intro _;try exact q_v)|(refine hK _ ?_;clear hK K))<;>(try (clear hK K;exact q_u)))|(with_reducible refine q_s ?_;(first|apply q_J|apply q_K|apply q_L|apply q_M|apply q_N|apply q_O)<;>try (intro _;try exact q_v)))
  all_goals first | omega | exact ends_g [(5,.c (.b (decide (a = b))))] 1 (by exact q_D) rfl | skip
def less2CT : CT:=mkCTG fun H al K=>match H,al with
 | ⟨[(0,[.c (.i .i64 k)])],[],[]⟩,[.c (.i .i64 a),.c (.i .i64 b),.bx 0 0]=>K ⟨[(0,[.c (.i .i64 k)])],[],[]⟩ [.c (.b (lt2 k a b))]
 | _,_=>False
def om1 : Cfg:=addT 35 (ltCT lt0) cf0
theorem om1_ok : TblOk Try.prog om1:=q_I cf0_ok Try.func35 fun l K h=>by
 split at h
 ·exact ⟨_,(less0_ret _ _).plain rfl,h⟩
 ·exact h.elim
def om2 : Cfg:=addT 36 (ltCT lt1) cf0
theorem om2_ok : TblOk Try.prog om2:=q_I cf0_ok Try.func36 fun l K h=>by
 split at h
 ·exact ⟨_,(less1_ret _ _).plain rfl,h⟩
 ·exact h.elim
def om3 : Cfg:=addT 37 less2CT cf0
theorem om3_ok : TblOk Try.prog om3:=ctg_ok cf0_ok Try.func37 fun H al K h=>by
 split at h
 ·exact ⟨_,_,less2_ret _ _ _,h⟩
 ·exact h.elim
attribute [go_sem] less2CT
def omt : Cfg:=listT [(18,permuteCT),(8,startCT),(15,askCT),(16,tellCT),(35,(ltCT lt0)),(36,(ltCT lt1)),(37,less2CT)] [27]
theorem omt_ok : TblOk Try.prog omt:=listE_ok (by simp only [List.mem_singleton,forall_eq]; exact flt) ⟨⟨og4,og4_ok,rfl⟩,⟨oc3,oc3_ok,rfl⟩,⟨oc2,oc2_ok,rfl⟩,⟨oc4,oc4_ok,rfl⟩,⟨om1,om1_ok,rfl⟩,⟨om2,om2_ok,rfl⟩,⟨om3,om3_ok,rfl⟩,trivial⟩
attribute [go_sem] omt
end Go.Proofs.Ytmcjojbffidlbaa

namespace Go.Proofs.Ytmcjojbffidlbaa
set_option linter.unusedSimpArgs false
set_option linter.unusedVariables false
open Go.Abs Go.Proofs.NatL

theorem sort_long_J (l : List Int) (h : 1000 < l.length) (hl : l.length ≤ 17592186044416) : Ret Try.prog 21 false [.inl (.ints .i64 l),.inl (.a (.func (.func 35) #[] #[]))] (.t [.inl (.ints .i64 []),.inr [.i .i64 4,.i .i64 (-1)]]):=by
 (refine q_H Try.func21 (fun F=>?_); simp only [q_z,q_y,Try.ntmps21,Try.results21])
 repeat' (first|with_reducible refine q_0 ?_|((with_reducible first|refine q_q omt_ok fun K hK=>?_|refine q_r omt_ok fun K hK=>?_);simp (maxSteps:=2000000) only [go_sem,↓reduceIte,reduceCtorEq,Nat.reduceLeDiff,Nat.reduceLT,Nat.reduceBEq,Nat.reduceAdd];(repeat1' with_reducible first|apply And.intro|(intro _;try exact q_v)|(refine hK _ ?_;clear hK K))<;>(try (clear hK K;exact q_u)))|(with_reducible refine q_s ?_;(first|apply q_J|apply q_K|apply q_L|apply q_M|apply q_N|apply q_O)<;>try (intro _;try exact q_v)))
 all_goals first | omega | exact q_B [.inl (some (.ints .i64 [])),.inr [none,none]] rfl rfl
set_option maxRecDepth 100000 in
set_option maxHeartbeats 6400000 in
theorem sort_J (I : Pn → Prop) (l : List Int) (h : l.length ≤ 1000) (hI0 : I (settle (startP l.length))) (hI1 : ∀ q,I q → q.Ok → q.on → q.asks → I (tellP q (byL lt0 l q))) (hI2 : ∀ q,I q → q.o.Perm ((List.range q.o.length).map fun i : Nat=>(i : Int))) :
  Ret Try.prog 21 false [.inl (.ints .i64 l),.inl (.a (.func (.func 35) #[] #[]))] (.t [.inl (.ints .i64 (permL l (runAll (byL lt0 l) (settle (startP l.length))).o)),.inr [.i .i64 0,.i .i64 0]]):=by
 obtain ⟨s1,s2,s3⟩:=settle_facts (startP_ok h)
 have s4 : (startP l.length).o.length = l.length:=by simp [startP]
 rw [s4] at s3
 generalize hb : byL lt0 l = b at *
 have hbq : ∀ q : Pn,lt0 (l.getD q.i.toNat 0) (l.getD q.j.toNat 0) = b q:=fun q=>by rw [← hb]; rfl
 generalize hp : settle (startP l.length) = p at *
 generalize hz : runAll b p = z
 have hE : ∀ q : Pn,(Pn.mk q.o q.w q.f q.l q.r q.m) = q:=fun q=>rfl
 have hon : p.on ↔ p.w < p.o.length:=Iff.rfl
 by_cases ho : p.w < p.o.length
 all_goals
  have hi : askI p = if p.w < p.o.length then p.i else 0:=rfl
  have hj : askJ p = if p.w < p.o.length then p.j else 0:=rfl
  (refine q_H Try.func21 (fun F=>?_); simp only [q_z,q_y,Try.ntmps21,Try.results21])
  repeat' (first|with_reducible refine q_0 ?_|((with_reducible first|refine q_q omt_ok fun K hK=>?_|refine q_r omt_ok fun K hK=>?_);simp (maxSteps:=2000000) only [go_sem,↓reduceIte,reduceCtorEq,Nat.reduceLeDiff,Nat.reduceLT,Nat.reduceBEq,Nat.reduceAdd,hp,hE];(repeat1' with_reducible first|apply And.intro|(intro _;try exact q_v)|(refine hK _ ?_;clear hK K))<;>(try (clear hK K;exact q_u)))|(with_reducible refine q_s ?_;(first|apply q_J|apply q_K|apply q_L|apply q_M|apply q_N|apply q_O)<;>try (intro _;try exact q_v)))
  all_goals first | omega | exact ⟨s1,s2 ho⟩ | exact s1 | exact s2 ho | skip
  refine q_G (ι:={ q : Pn // q.Ok ∧ (q.on → q.asks) ∧ q.o.length = l.length ∧ I q ∧ runAll b q = z }) (fun q=>⟨52,[(0,.c (.ints .i64 l)),(1,.c (.a (.func (.func 35) #[] #[]))),(5,.bx 0 0),(6,.bx 1 0),(8,.c (.i .i64 (askI q.1))),(9,.c (.i .i64 (askJ q.1))),(10,.c (.b (decide (q.1.w < q.1.o.length))))],
   ⟨[(1,[.c (.ints .i64 q.1.o),.c (.i .i64 (q.1.w : Nat)),.c (.i .i64 (q.1.f : Nat)),.c (.i .i64 (q.1.l : Nat)),.c (.i .i64 (q.1.r : Nat)),.c (.ints .i64 q.1.m)]),(0,[.c (.i .i64 0),.c (.i .i64 0)])],[],[]⟩,3⟩) (fun q=>q.1.nu) ⟨p,s1,s2,s3,hI0,hz⟩ ?_ ?_
  ·simp only [ho,if_true,if_false,decide_true,decide_false] at hi hj
   simp only [hi,hj,ho,decide_true,decide_false]
   exact q_D
  clear hi hj
  rintro ⟨q,q1,q2,q3,q4,q5⟩
  simp only at q1 q2 q3 q4 q5 ⊢
  by_cases hq : q.w < q.o.length
  ·have hqa:=q2 hq
   obtain ⟨b1,b2⟩:=ask_in q1 hq hqa (hI2 q q4)
   have hi : askI q = q.i:=if_pos hq
   have hj : askJ q = q.j:=if_pos hq
   have hbb:=hbq q
   obtain ⟨t1,t2,t3⟩:=tellP_ok q1 q2 (b q)
   have t4:=hI1 q q4 q1 hq hqa
   have t5:=runAll_step (b:=b) q1 hq q2
   have t6:=tell_nu q1 hq hqa (b q)
   obtain ⟨r,hr⟩ : ∃ r,tellP q (b q) = r:=⟨_,rfl⟩
   rw [hr] at t1 t2 t3 t4 t5 t6
   simp only [hi,hj,hq,decide_true]
   repeat' (first|with_reducible refine q_0 ?_|((with_reducible first|refine q_q omt_ok fun K hK=>?_|refine q_r omt_ok fun K hK=>?_);simp (maxSteps:=2000000) only [go_sem,↓reduceIte,reduceCtorEq,Nat.reduceLeDiff,Nat.reduceLT,Nat.reduceBEq,Nat.reduceAdd,hE,hbb,hr];(repeat1' with_reducible first|apply And.intro|(intro _;try exact q_v)|(refine hK _ ?_;clear hK K))<;>(try (clear hK K;exact q_u)))|(with_reducible refine q_s ?_;(first|apply q_J|apply q_K|apply q_L|apply q_M|apply q_N|apply q_O)<;>try (intro _;try exact q_v)))
   all_goals first | omega | exact q1 | exact hqa | exact t1 | (refine t2 ?_; assumption) | skip
   all_goals
    rename_i hro
    have ri : askI r = if r.w < r.o.length then r.i else 0:=rfl
    have rj : askJ r = if r.w < r.o.length then r.j else 0:=rfl
    simp only [hro,if_true,if_false] at ri rj
    refine q_F ⟨r,t1,t2,t3.trans q3,t4,t5.trans q5⟩ ?_ t6
    simp only [ri,rj,hro,decide_true,decide_false]
    exact q_D
  ·have hoff:=runAll_off (b:=b) (p:=q) hq
   rw [hoff] at q5
   subst q5
   have hg:=bad_good (range_good (hI2 q q4))
   simp only [hq,decide_false]
   repeat' (first|with_reducible refine q_0 ?_|((with_reducible first|refine q_q omt_ok fun K hK=>?_|refine q_r omt_ok fun K hK=>?_);simp (maxSteps:=2000000) only [go_sem,↓reduceIte,reduceCtorEq,Nat.reduceLeDiff,Nat.reduceLT,Nat.reduceBEq,Nat.reduceAdd,hg];(repeat1' with_reducible first|apply And.intro|(intro _;try exact q_v)|(refine hK _ ?_;clear hK K))<;>(try (clear hK K;exact q_u)))|(with_reducible refine q_s ?_;(first|apply q_J|apply q_K|apply q_L|apply q_M|apply q_N|apply q_O)<;>try (intro _;try exact q_v)))
   all_goals first | omega | contradiction | exact q_B [.inl (some (.ints .i64 [])),.inr [none,none]] rfl rfl | exact q_A rfl
set_option maxHeartbeats 1600000 in
theorem broken_J (l : List Int) (hl : l.length ≤ 17592186044416) : Ret Try.prog 26 false [.inl (.ints .i64 l),.inl (.a (.func (.func 35) #[] #[]))] (.c (.i .i64 (brkF lt0 l 1 (l.length - 1)))):=by
 generalize hz : brkF lt0 l 1 (l.length - 1) = z
 (refine q_H Try.func26 (fun F=>?_); simp only [q_z,q_y,Try.ntmps26,Try.results26])
 repeat' (first|with_reducible refine q_0 ?_|((with_reducible first|refine q_q omt_ok fun K hK=>?_|refine q_r omt_ok fun K hK=>?_);simp (maxSteps:=2000000) only [go_sem,↓reduceIte,reduceCtorEq,Nat.reduceLeDiff,Nat.reduceLT,Nat.reduceBEq,Nat.reduceAdd];(repeat1' with_reducible first|apply And.intro|(intro _;try exact q_v)|(refine hK _ ?_;clear hK K))<;>(try (clear hK K;exact q_u)))|(with_reducible refine q_s ?_;(first|apply q_J|apply q_K|apply q_L|apply q_M|apply q_N|apply q_O)<;>try (intro _;try exact q_v)))
 all_goals try omega
 refine q_G (ι:={ k : Nat // 1 ≤ k ∧ brkF lt0 l k (l.length - k) = z ∧ k ≤ l.length + 1 }) (fun k=>⟨24,[(0,.c (.ints .i64 l)),(1,.c (.a (.func (.func 35) #[] #[]))),(5,.c (.i .i64 (k.1 : Nat)))],⟨[],[],[]⟩,0⟩) (fun k=>l.length + 1 - k.1) ⟨1,by omega,hz,by omega⟩ ?_ ?_
 ·exact q_D
 rintro ⟨k,k1,k2,k3⟩
 simp only at k1 k2 k3 ⊢
 rcases Nat.lt_or_ge k l.length with hk | hk
 ·have e1 : ((k : Int) - 1).toNat = k - 1:=by omega
  obtain ⟨j,hj⟩ : ∃ j,l.length - k = j + 1:=⟨l.length - k - 1,by omega⟩
  have hj2 : l.length - (k + 1) = j:=by omega
  rw [hj] at k2
  simp only [brkF] at k2
  split at k2
  ·rename_i hlt
   subst k2
   repeat' (first|with_reducible refine q_0 ?_|((with_reducible first|refine q_q omt_ok fun K hK=>?_|refine q_r omt_ok fun K hK=>?_);simp (maxSteps:=2000000) only [go_sem,↓reduceIte,reduceCtorEq,Nat.reduceLeDiff,Nat.reduceLT,Nat.reduceBEq,Nat.reduceAdd,e1,hlt];(repeat1' with_reducible first|apply And.intro|(intro _;try exact q_v)|(refine hK _ ?_;clear hK K))<;>(try (clear hK K;exact q_u)))|(with_reducible refine q_s ?_;(first|apply q_J|apply q_K|apply q_L|apply q_M|apply q_N|apply q_O)<;>try (intro _;try exact q_v)))
   all_goals first | omega | contradiction | exact q_A rfl | skip
  ·rename_i hlt
   have hlt2 : lt0 (l.getD k 0) (l.getD (k - 1) 0) = false:=by simpa using hlt
   repeat' (first|with_reducible refine q_0 ?_|((with_reducible first|refine q_q omt_ok fun K hK=>?_|refine q_r omt_ok fun K hK=>?_);simp (maxSteps:=2000000) only [go_sem,↓reduceIte,reduceCtorEq,Nat.reduceLeDiff,Nat.reduceLT,Nat.reduceBEq,Nat.reduceAdd,e1,hlt2];(repeat1' with_reducible first|apply And.intro|(intro _;try exact q_v)|(refine hK _ ?_;clear hK K))<;>(try (clear hK K;exact q_u)))|(with_reducible refine q_s ?_;(first|apply q_J|apply q_K|apply q_L|apply q_M|apply q_N|apply q_O)<;>try (intro _;try exact q_v)))
   all_goals first | omega | contradiction | skip
   all_goals
    refine q_F ⟨k + 1,by omega,by rw [hj2]; exact k2,by omega⟩ ?_ (by simp only; omega)
    exact q_D
 ·have : l.length - k = 0:=by omega
  rw [this] at k2
  simp only [brkF] at k2
  subst k2
  repeat' (first|with_reducible refine q_0 ?_|((with_reducible first|refine q_q omt_ok fun K hK=>?_|refine q_r omt_ok fun K hK=>?_);simp (maxSteps:=2000000) only [go_sem,↓reduceIte,reduceCtorEq,Nat.reduceLeDiff,Nat.reduceLT,Nat.reduceBEq,Nat.reduceAdd];(repeat1' with_reducible first|apply And.intro|(intro _;try exact q_v)|(refine hK _ ?_;clear hK K))<;>(try (clear hK K;exact q_u)))|(with_reducible refine q_s ?_;(first|apply q_J|apply q_K|apply q_L|apply q_M|apply q_N|apply q_O)<;>try (intro _;try exact q_v)))
  all_goals first | omega | contradiction | exact q_A rfl | skip
set_option maxRecDepth 100000 in
set_option maxHeartbeats 1600000 in
theorem search_J (l : List Int) (x : Int) (beh : Bool) (hl : l.length ≤ 17592186044416) : Ret Try.prog 25 false [.inl (.ints .i64 l),.inl (.i .i64 x),.inl (.a (.func (.func 35) #[] #[])),.inl (.b beh)] (.c (.i .i64 (srch lt0 beh l x 0 l.length : Nat))):=by
 generalize hz : srch lt0 beh l x 0 l.length = z
 (refine q_H Try.func25 (fun F=>?_); simp only [q_z,q_y,Try.ntmps25,Try.results25])
 repeat' (first|with_reducible refine q_0 ?_|((with_reducible first|refine q_q omt_ok fun K hK=>?_|refine q_r omt_ok fun K hK=>?_);simp (maxSteps:=2000000) only [go_sem,↓reduceIte,reduceCtorEq,Nat.reduceLeDiff,Nat.reduceLT,Nat.reduceBEq,Nat.reduceAdd];(repeat1' with_reducible first|apply And.intro|(intro _;try exact q_v)|(refine hK _ ?_;clear hK K))<;>(try (clear hK K;exact q_u)))|(with_reducible refine q_s ?_;(first|apply q_J|apply q_K|apply q_L|apply q_M|apply q_N|apply q_O)<;>try (intro _;try exact q_v)))
 all_goals try omega
 refine q_G (ι:={ q : Nat × Nat // q.1 ≤ q.2 ∧ q.2 ≤ l.length ∧ srch lt0 beh l x q.1 q.2 = z }) (fun q=>⟨43,[(0,.c (.ints .i64 l)),(1,.c (.i .i64 x)),(2,.c (.a (.func (.func 35) #[] #[]))),(3,.c (.b beh)),(9,.c (.i .i64 (q.1.1 : Nat))),(10,.c (.i .i64 (q.1.2 : Nat)))],⟨[],[],[]⟩,0⟩) (fun q=>q.1.2 - q.1.1) ⟨(0,l.length),by simp,by simp,hz⟩ ?_ ?_
 ·exact q_D
 rintro ⟨⟨lo,hi⟩,q1,q2,q3⟩
 simp only at q1 q2 q3 ⊢
 rcases Nat.lt_or_ge lo hi with hk | hk
 ·have e1 : (((lo : Int) + (hi : Int)).tdiv 2) = (((lo + hi) / 2 : Nat) : Int):=by rw [Int.tdiv_eq_ediv_of_nonneg (by omega)]; omega
  obtain ⟨mid,hm⟩ : ∃ mid,(lo + hi) / 2 = mid:=⟨_,rfl⟩
  have hml : lo ≤ mid ∧ mid < hi:=by omega
  have su:=srch_up (lt:=lt0) (beh:=beh) (l:=l) (x:=x) hk
  have sd:=srch_dn (lt:=lt0) (beh:=beh) (l:=l) (x:=x) hk
  rw [hm] at e1 su sd
  unfold upF at su sd
  cases beh
  all_goals
   simp only [Bool.false_eq_true,if_false,if_true,Bool.not_eq_true',Bool.not_eq_false',decide_eq_true_eq,decide_eq_false_iff_not] at su sd
   repeat' (first|with_reducible refine q_0 ?_|((with_reducible first|refine q_q omt_ok fun K hK=>?_|refine q_r omt_ok fun K hK=>?_);simp (maxSteps:=2000000) only [go_sem,↓reduceIte,reduceCtorEq,Nat.reduceLeDiff,Nat.reduceLT,Nat.reduceBEq,Nat.reduceAdd,e1];(repeat1' with_reducible first|apply And.intro|(intro _;try exact q_v)|(refine hK _ ?_;clear hK K))<;>(try (clear hK K;exact q_u)))|(with_reducible refine q_s ?_;(first|apply q_J|apply q_K|apply q_L|apply q_M|apply q_N|apply q_O)<;>try (intro _;try exact q_v)))
   all_goals first | omega | contradiction | skip
  all_goals first
  | (refine q_F ⟨(mid + 1,hi),by simp only; omega,q2,(su (by assumption)).symm.trans q3⟩ ?_ (by simp only; omega); exact q_D)
  | (refine q_F ⟨(lo,mid),by simp only; omega,by simp only; omega,(sd (by assumption)).symm.trans q3⟩ ?_ (by simp only; omega); exact q_D)
  | skip
 ·have hs:=srch_end (lt:=lt0) (beh:=beh) (l:=l) (x:=x) (lo:=lo) (hi:=hi) (by omega)
  rw [hs] at q3
  subst q3
  repeat' (first|with_reducible refine q_0 ?_|((with_reducible first|refine q_q omt_ok fun K hK=>?_|refine q_r omt_ok fun K hK=>?_);simp (maxSteps:=2000000) only [go_sem,↓reduceIte,reduceCtorEq,Nat.reduceLeDiff,Nat.reduceLT,Nat.reduceBEq,Nat.reduceAdd];(repeat1' with_reducible first|apply And.intro|(intro _;try exact q_v)|(refine hK _ ?_;clear hK K))<;>(try (clear hK K;exact q_u)))|(with_reducible refine q_s ?_;(first|apply q_J|apply q_K|apply q_L|apply q_M|apply q_N|apply q_O)<;>try (intro _;try exact q_v)))
  all_goals first | omega | contradiction | exact q_A rfl | skip
set_option maxRecDepth 100000 in
set_option maxHeartbeats 3200000 in
theorem merge_J (a b : List Int) (hl : a.length + b.length ≤ 17592186044416) : Ret Try.prog 24 false [.inl (.ints .i64 a),.inl (.ints .i64 b),.inl (.a (.func (.func 35) #[] #[]))] (.c (.ints .i64 (mrg lt0 a b))):=by
 have hzl : (mrg lt0 a b).length = a.length + b.length:=mrg_len _ _ _
 generalize hz : mrg lt0 a b = z at *
 (refine q_H Try.func24 (fun F=>?_); simp only [q_z,q_y,Try.ntmps24,Try.results24])
 repeat' (first|with_reducible refine q_0 ?_|((with_reducible first|refine q_q omt_ok fun K hK=>?_|refine q_r omt_ok fun K hK=>?_);simp (maxSteps:=2000000) only [go_sem,↓reduceIte,reduceCtorEq,Nat.reduceLeDiff,Nat.reduceLT,Nat.reduceBEq,Nat.reduceAdd];(repeat1' with_reducible first|apply And.intro|(intro _;try exact q_v)|(refine hK _ ?_;clear hK K))<;>(try (clear hK K;exact q_u)))|(with_reducible refine q_s ?_;(first|apply q_J|apply q_K|apply q_L|apply q_M|apply q_N|apply q_O)<;>try (intro _;try exact q_v)))
 all_goals try omega
 refine q_G (ι:={ q : List Int × List Int × List Int // q.1 ++ mrg lt0 q.2.1 q.2.2 = z ∧ q.1.length + q.2.1.length + q.2.2.length = z.length }) (fun q=>⟨45,[(0,.c (.ints .i64 q.1.2.1)),(1,.c (.ints .i64 q.1.2.2)),(2,.c (.a (.func (.func 35) #[] #[]))),(7,.own 0 0)],⟨[],[(0,⟨0,3,1,.ints .i64 q.1.1⟩)],[]⟩,1⟩) (fun q=>q.1.2.1.length + q.1.2.2.length) ⟨([],a,b),hz,by simp only [List.length_nil]; omega⟩ ?_ ?_
 ·exact q_D
 rintro ⟨⟨o,u,v⟩,q1,q2⟩
 simp only at q1 q2 ⊢
 by_cases hk : 0 < u.length ∧ 0 < v.length
 ·obtain ⟨k1,k2⟩:=hk
  have du:=drop_one_take u
  have dv:=drop_one_take v
  have lu : (u.drop 1).length = u.length - 1:=List.length_drop
  have lv : (v.drop 1).length = v.length - 1:=List.length_drop
  by_cases hc : lt0 (v.getD 0 0) (u.getD 0 0) = true
  ·have hm:=mrg_r (lt:=lt0) k1 k2 hc
   repeat' (first|with_reducible refine q_0 ?_|((with_reducible first|refine q_q omt_ok fun K hK=>?_|refine q_r omt_ok fun K hK=>?_);simp (maxSteps:=2000000) only [go_sem,↓reduceIte,reduceCtorEq,Nat.reduceLeDiff,Nat.reduceLT,Nat.reduceBEq,Nat.reduceAdd,du,dv,hc];(repeat1' with_reducible first|apply And.intro|(intro _;try exact q_v)|(refine hK _ ?_;clear hK K))<;>(try (clear hK K;exact q_u)))|(with_reducible refine q_s ?_;(first|apply q_J|apply q_K|apply q_L|apply q_M|apply q_N|apply q_O)<;>try (intro _;try exact q_v)))
   all_goals first | omega | contradiction | skip
   all_goals
    refine q_F ⟨(o ++ [v.getD 0 0],u,v.drop 1),by simp only; rw [List.append_assoc,← q1,hm]; rfl,by simp only [List.length_append,List.length_cons,List.length_nil,lv]; omega⟩ ?_ (by simp only [lv]; omega)
    exact q_D
  ·have hc : lt0 (v.getD 0 0) (u.getD 0 0) = false:=by simpa using hc
   have hm:=mrg_l (lt:=lt0) k1 k2 hc
   repeat' (first|with_reducible refine q_0 ?_|((with_reducible first|refine q_q omt_ok fun K hK=>?_|refine q_r omt_ok fun K hK=>?_);simp (maxSteps:=2000000) only [go_sem,↓reduceIte,reduceCtorEq,Nat.reduceLeDiff,Nat.reduceLT,Nat.reduceBEq,Nat.reduceAdd,du,dv,hc];(repeat1' with_reducible first|apply And.intro|(intro _;try exact q_v)|(refine hK _ ?_;clear hK K))<;>(try (clear hK K;exact q_u)))|(with_reducible refine q_s ?_;(first|apply q_J|apply q_K|apply q_L|apply q_M|apply q_N|apply q_O)<;>try (intro _;try exact q_v)))
   all_goals first | omega | contradiction | skip
   all_goals
    refine q_F ⟨(o ++ [u.getD 0 0],u.drop 1,v),by simp only; rw [List.append_assoc,← q1,hm]; rfl,by simp only [List.length_append,List.length_cons,List.length_nil,lu]; omega⟩ ?_ (by simp only [lu]; omega)
    exact q_D
 ·have hm:=mrg_e (lt:=lt0) hk
  rw [hm] at q1
  repeat' (first|with_reducible refine q_0 ?_|((with_reducible first|refine q_q omt_ok fun K hK=>?_|refine q_r omt_ok fun K hK=>?_);simp (maxSteps:=2000000) only [go_sem,↓reduceIte,reduceCtorEq,Nat.reduceLeDiff,Nat.reduceLT,Nat.reduceBEq,Nat.reduceAdd];(repeat1' with_reducible first|apply And.intro|(intro _;try exact q_v)|(refine hK _ ?_;clear hK K))<;>(try (clear hK K;exact q_u)))|(with_reducible refine q_s ?_;(first|apply q_J|apply q_K|apply q_L|apply q_M|apply q_N|apply q_O)<;>try (intro _;try exact q_v)))
  all_goals first | omega | contradiction | exact q_A (by rw [← q1,← List.append_assoc]; rfl) | skip
theorem sort_long_K (l : List Int) (h : 1000 < l.length) (hl : l.length ≤ 17592186044416) : Ret Try.prog 21 false [.inl (.ints .i64 l),.inl (.a (.func (.func 36) #[] #[]))] (.t [.inl (.ints .i64 []),.inr [.i .i64 4,.i .i64 (-1)]]):=by
 (refine q_H Try.func21 (fun F=>?_); simp only [q_z,q_y,Try.ntmps21,Try.results21])
 repeat' (first|with_reducible refine q_0 ?_|((with_reducible first|refine q_q omt_ok fun K hK=>?_|refine q_r omt_ok fun K hK=>?_);simp (maxSteps:=2000000) only [go_sem,↓reduceIte,reduceCtorEq,Nat.reduceLeDiff,Nat.reduceLT,Nat.reduceBEq,Nat.reduceAdd];(repeat1' with_reducible first|apply And.intro|(intro _;try exact q_v)|(refine hK _ ?_;clear hK K))<;>(try (clear hK K;exact q_u)))|(with_reducible refine q_s ?_;(first|apply q_J|apply q_K|apply q_L|apply q_M|apply q_N|apply q_O)<;>try (intro _;try exact q_v)))
 all_goals first | omega | exact q_B [.inl (some (.ints .i64 [])),.inr [none,none]] rfl rfl
set_option maxRecDepth 100000 in
set_option maxHeartbeats 6400000 in
theorem sort_K (I : Pn → Prop) (l : List Int) (h : l.length ≤ 1000) (hI0 : I (settle (startP l.length))) (hI1 : ∀ q,I q → q.Ok → q.on → q.asks → I (tellP q (byL lt1 l q))) (hI2 : ∀ q,I q → q.o.Perm ((List.range q.o.length).map fun i : Nat=>(i : Int))) :
  Ret Try.prog 21 false [.inl (.ints .i64 l),.inl (.a (.func (.func 36) #[] #[]))] (.t [.inl (.ints .i64 (permL l (runAll (byL lt1 l) (settle (startP l.length))).o)),.inr [.i .i64 0,.i .i64 0]]):=by
 obtain ⟨s1,s2,s3⟩:=settle_facts (startP_ok h)
 have s4 : (startP l.length).o.length = l.length:=by simp [startP]
 rw [s4] at s3
 generalize hb : byL lt1 l = b at *
 have hbq : ∀ q : Pn,lt1 (l.getD q.i.toNat 0) (l.getD q.j.toNat 0) = b q:=fun q=>by rw [← hb]; rfl
 generalize hp : settle (startP l.length) = p at *
 generalize hz : runAll b p = z
 have hE : ∀ q : Pn,(Pn.mk q.o q.w q.f q.l q.r q.m) = q:=fun q=>rfl
 have hon : p.on ↔ p.w < p.o.length:=Iff.rfl
 by_cases ho : p.w < p.o.length
 all_goals
  have hi : askI p = if p.w < p.o.length then p.i else 0:=rfl
  have hj : askJ p = if p.w < p.o.length then p.j else 0:=rfl
  (refine q_H Try.func21 (fun F=>?_); simp only [q_z,q_y,Try.ntmps21,Try.results21])
  repeat' (first|with_reducible refine q_0 ?_|((with_reducible first|refine q_q omt_ok fun K hK=>?_|refine q_r omt_ok fun K hK=>?_);simp (maxSteps:=2000000) only [go_sem,↓reduceIte,reduceCtorEq,Nat.reduceLeDiff,Nat.reduceLT,Nat.reduceBEq,Nat.reduceAdd,hp,hE];(repeat1' with_reducible first|apply And.intro|(intro _;try exact q_v)|(refine hK _ ?_;clear hK K))<;>(try (clear hK K;exact q_u)))|(with_reducible refine q_s ?_;(first|apply q_J|apply q_K|apply q_L|apply q_M|apply q_N|apply q_O)<;>try (intro _;try exact q_v)))
  all_goals first | omega | exact ⟨s1,s2 ho⟩ | exact s1 | exact s2 ho | skip
  refine q_G (ι:={ q : Pn // q.Ok ∧ (q.on → q.asks) ∧ q.o.length = l.length ∧ I q ∧ runAll b q = z }) (fun q=>⟨52,[(0,.c (.ints .i64 l)),(1,.c (.a (.func (.func 36) #[] #[]))),(5,.bx 0 0),(6,.bx 1 0),(8,.c (.i .i64 (askI q.1))),(9,.c (.i .i64 (askJ q.1))),(10,.c (.b (decide (q.1.w < q.1.o.length))))],
   ⟨[(1,[.c (.ints .i64 q.1.o),.c (.i .i64 (q.1.w : Nat)),.c (.i .i64 (q.1.f : Nat)),.c (.i .i64 (q.1.l : Nat)),.c (.i .i64 (q.1.r : Nat)),.c (.ints .i64 q.1.m)]),(0,[.c (.i .i64 0),.c (.i .i64 0)])],[],[]⟩,3⟩) (fun q=>q.1.nu) ⟨p,s1,s2,s3,hI0,hz⟩ ?_ ?_
  ·simp only [ho,if_true,if_false,decide_true,decide_false] at hi hj
   simp only [hi,hj,ho,decide_true,decide_false]
   exact q_D
  clear hi hj
  rintro ⟨q,q1,q2,q3,q4,q5⟩
  simp only at q1 q2 q3 q4 q5 ⊢
  by_cases hq : q.w < q.o.length
  ·have hqa:=q2 hq
   obtain ⟨b1,b2⟩:=ask_in q1 hq hqa (hI2 q q4)
   have hi : askI q = q.i:=if_pos hq
   have hj : askJ q = q.j:=if_pos hq
   have hbb:=hbq q
   obtain ⟨t1,t2,t3⟩:=tellP_ok q1 q2 (b q)
   have t4:=hI1 q q4 q1 hq hqa
   have t5:=runAll_step (b:=b) q1 hq q2
   have t6:=tell_nu q1 hq hqa (b q)
   obtain ⟨r,hr⟩ : ∃ r,tellP q (b q) = r:=⟨_,rfl⟩
   rw [hr] at t1 t2 t3 t4 t5 t6
   simp only [hi,hj,hq,decide_true]
   repeat' (first|with_reducible refine q_0 ?_|((with_reducible first|refine q_q omt_ok fun K hK=>?_|refine q_r omt_ok fun K hK=>?_);simp (maxSteps:=2000000) only [go_sem,↓reduceIte,reduceCtorEq,Nat.reduceLeDiff,Nat.reduceLT,Nat.reduceBEq,Nat.reduceAdd,hE,hbb,hr];(repeat1' with_reducible first|apply And.intro|(intro _;try exact q_v)|(refine hK _ ?_;clear hK K))<;>(try (clear hK K;exact q_u)))|(with_reducible refine q_s ?_;(first|apply q_J|apply q_K|apply q_L|apply q_M|apply q_N|apply q_O)<;>try (intro _;try exact q_v)))
   all_goals first | omega | exact q1 | exact hqa | exact t1 | (refine t2 ?_; assumption) | skip
   all_goals
    rename_i hro
    have ri : askI r = if r.w < r.o.length then r.i else 0:=rfl
    have rj : askJ r = if r.w < r.o.length then r.j else 0:=rfl
    simp only [hro,if_true,if_false] at ri rj
    refine q_F ⟨r,t1,t2,t3.trans q3,t4,t5.trans q5⟩ ?_ t6
    simp only [ri,rj,hro,decide_true,decide_false]
    exact q_D
  ·have hoff:=runAll_off (b:=b) (p:=q) hq
   rw [hoff] at q5
   subst q5
   have hg:=bad_good (range_good (hI2 q q4))
   simp only [hq,decide_false]
   repeat' (first|with_reducible refine q_0 ?_|((with_reducible first|refine q_q omt_ok fun K hK=>?_|refine q_r omt_ok fun K hK=>?_);simp (maxSteps:=2000000) only [go_sem,↓reduceIte,reduceCtorEq,Nat.reduceLeDiff,Nat.reduceLT,Nat.reduceBEq,Nat.reduceAdd,hg];(repeat1' with_reducible first|apply And.intro|(intro _;try exact q_v)|(refine hK _ ?_;clear hK K))<;>(try (clear hK K;exact q_u)))|(with_reducible refine q_s ?_;(first|apply q_J|apply q_K|apply q_L|apply q_M|apply q_N|apply q_O)<;>try (intro _;try exact q_v)))
   all_goals first | omega | contradiction | exact q_B [.inl (some (.ints .i64 [])),.inr [none,none]] rfl rfl | exact q_A rfl
set_option maxHeartbeats 1600000 in
theorem broken_K (l : List Int) (hl : l.length ≤ 17592186044416) : Ret Try.prog 26 false [.inl (.ints .i64 l),.inl (.a (.func (.func 36) #[] #[]))] (.c (.i .i64 (brkF lt1 l 1 (l.length - 1)))):=by
 generalize hz : brkF lt1 l 1 (l.length - 1) = z
 (refine q_H Try.func26 (fun F=>?_); simp only [q_z,q_y,Try.ntmps26,Try.results26])
 repeat' (first|with_reducible refine q_0 ?_|((with_reducible first|refine q_q omt_ok fun K hK=>?_|refine q_r omt_ok fun K hK=>?_);simp (maxSteps:=2000000) only [go_sem,↓reduceIte,reduceCtorEq,Nat.reduceLeDiff,Nat.reduceLT,Nat.reduceBEq,Nat.reduceAdd];(repeat1' with_reducible first|apply And.intro|(intro _;try exact q_v)|(refine hK _ ?_;clear hK K))<;>(try (clear hK K;exact q_u)))|(with_reducible refine q_s ?_;(first|apply q_J|apply q_K|apply q_L|apply q_M|apply q_N|apply q_O)<;>try (intro _;try exact q_v)))
 all_goals try omega
 refine q_G (ι:={ k : Nat // 1 ≤ k ∧ brkF lt1 l k (l.length - k) = z ∧ k ≤ l.length + 1 }) (fun k=>⟨24,[(0,.c (.ints .i64 l)),(1,.c (.a (.func (.func 36) #[] #[]))),(5,.c (.i .i64 (k.1 : Nat)))],⟨[],[],[]⟩,0⟩) (fun k=>l.length + 1 - k.1) ⟨1,by omega,hz,by omega⟩ ?_ ?_
 ·exact q_D
 rintro ⟨k,k1,k2,k3⟩
 simp only at k1 k2 k3 ⊢
 rcases Nat.lt_or_ge k l.length with hk | hk
 ·have e1 : ((k : Int) - 1).toNat = k - 1:=by omega
  obtain ⟨j,hj⟩ : ∃ j,l.length - k = j + 1:=⟨l.length - k - 1,by omega⟩
  have hj2 : l.length - (k + 1) = j:=by omega
  rw [hj] at k2
  simp only [brkF] at k2
  split at k2
  ·rename_i hlt
   subst k2
   repeat' (first|with_reducible refine q_0 ?_|((with_reducible first|refine q_q omt_ok fun K hK=>?_|refine q_r omt_ok fun K hK=>?_);simp (maxSteps:=2000000) only [go_sem,↓reduceIte,reduceCtorEq,Nat.reduceLeDiff,Nat.reduceLT,Nat.reduceBEq,Nat.reduceAdd,e1,hlt];(repeat1' with_reducible first|apply And.intro|(intro _;try exact q_v)|(refine hK _ ?_;clear hK K))<;>(try (clear hK K;exact q_u)))|(with_reducible refine q_s ?_;(first|apply q_J|apply q_K|apply q_L|apply q_M|apply q_N|apply q_O)<;>try (intro _;try exact q_v)))
   all_goals first | omega | contradiction | exact q_A rfl | skip
  ·rename_i hlt
   have hlt2 : lt1 (l.getD k 0) (l.getD (k - 1) 0) = false:=by simpa using hlt
   repeat' (first|with_reducible refine q_0 ?_|((with_reducible first|refine q_q omt_ok fun K hK=>?_|refine q_r omt_ok fun K hK=>?_);simp (maxSteps:=2000000) only [go_sem,↓reduceIte,reduceCtorEq,Nat.reduceLeDiff,Nat.reduceLT,Nat.reduceBEq,Nat.reduceAdd,e1,hlt2];(repeat1' with_reducible first|apply And.intro|(intro _;try exact q_v)|(refine hK _ ?_;clear hK K))<;>(try (clear hK K;exact q_u)))|(with_reducible refine q_s ?_;(first|apply q_J|apply q_K|apply q_L|apply q_M|apply q_N|apply q_O)<;>try (intro _;try exact q_v)))
   all_goals first | omega | contradiction | skip
   all_goals
    refine q_F ⟨k + 1,by omega,by rw [hj2]; exact k2,by omega⟩ ?_ (by simp only; omega)
    exact q_D
 ·have : l.length - k = 0:=by omega
  rw [this] at k2
  simp only [brkF] at k2
  subst k2
  repeat' (first|with_reducible refine q_0 ?_|((with_reducible first|refine q_q omt_ok fun K hK=>?_|refine q_r omt_ok fun K hK=>?_);simp (maxSteps:=2000000) only [go_sem,↓reduceIte,reduceCtorEq,Nat.reduceLeDiff,Nat.reduceLT,Nat.reduceBEq,Nat.reduceAdd];(repeat1' with_reducible first|apply And.intro|(intro _;try exact q_v)|(refine hK _ ?_;clear hK K))<;>(try (clear hK K;exact q_u)))|(with_reducible refine q_s ?_;(first|apply q_J|apply q_K|apply q_L|apply q_M|apply q_N|apply q_O)<;>try (intro _;try exact q_v)))
  all_goals first | omega | contradiction | exact q_A rfl | skip
set_option maxRecDepth 100000 in
set_option maxHeartbeats 1600000 in
theorem search_K (l : List Int) (x : Int) (beh : Bool) (hl : l.length ≤ 17592186044416) : Ret Try.prog 25 false [.inl (.ints .i64 l),.inl (.i .i64 x),.inl (.a (.func (.func 36) #[] #[])),.inl (.b beh)] (.c (.i .i64 (srch lt1 beh l x 0 l.length : Nat))):=by
 generalize hz : srch lt1 beh l x 0 l.length = z
 (refine q_H Try.func25 (fun F=>?_); simp only [q_z,q_y,Try.ntmps25,Try.results25])
 repeat' (first|with_reducible refine q_0 ?_|((with_reducible first|refine q_q omt_ok fun K hK=>?_|refine q_r omt_ok fun K hK=>?_);simp (maxSteps:=2000000) only [go_sem,↓reduceIte,reduceCtorEq,Nat.reduceLeDiff,Nat.reduceLT,Nat.reduceBEq,Nat.reduceAdd];(repeat1' with_reducible first|apply And.intro|(intro _;try exact q_v)|(refine hK _ ?_;clear hK K))<;>(try (clear hK K;exact q_u)))|(with_reducible refine q_s ?_;(first|apply q_J|apply q_K|apply q_L|apply q_M|apply q_N|apply q_O)<;>try (intro _;try exact q_v)))
 all_goals try omega
 refine q_G (ι:={ q : Nat × Nat // q.1 ≤ q.2 ∧ q.2 ≤ l.length ∧ srch lt1 beh l x q.1 q.2 = z }) (fun q=>⟨43,[(0,.c (.ints .i64 l)),(1,.c (.i .i64 x)),(2,.c (.a (.func (.func 36) #[] #[]))),(3,.c (.b beh)),(9,.c (.i .i64 (q.1.1 : Nat))),(10,.c (.i .i64 (q.1.2 : Nat)))],⟨[],[],[]⟩,0⟩) (fun q=>q.1.2 - q.1.1) ⟨(0,l.length),by simp,by simp,hz⟩ ?_ ?_
 ·exact q_D
 rintro ⟨⟨lo,hi⟩,q1,q2,q3⟩
 simp only at q1 q2 q3 ⊢
 rcases Nat.lt_or_ge lo hi with hk | hk
 ·have e1 : (((lo : Int) + (hi : Int)).tdiv 2) = (((lo + hi) / 2 : Nat) : Int):=by rw [Int.tdiv_eq_ediv_of_nonneg (by omega)]; omega
  obtain ⟨mid,hm⟩ : ∃ mid,(lo + hi) / 2 = mid:=⟨_,rfl⟩
  have hml : lo ≤ mid ∧ mid < hi:=by omega
  have su:=srch_up (lt:=lt1) (beh:=beh) (l:=l) (x:=x) hk
  have sd:=srch_dn (lt:=lt1) (beh:=beh) (l:=l) (x:=x) hk
  rw [hm] at e1 su sd
  unfold upF at su sd
  cases beh
  all_goals
   simp only [Bool.false_eq_true,if_false,if_true,Bool.not_eq_true',Bool.not_eq_false',decide_eq_true_eq,decide_eq_false_iff_not] at su sd
   repeat' (first|with_reducible refine q_0 ?_|((with_reducible first|refine q_q omt_ok fun K hK=>?_|refine q_r omt_ok fun K hK=>?_);simp (maxSteps:=2000000) only [go_sem,↓reduceIte,reduceCtorEq,Nat.reduceLeDiff,Nat.reduceLT,Nat.reduceBEq,Nat.reduceAdd,e1];(repeat1' with_reducible first|apply And.intro|(intro _;try exact q_v)|(refine hK _ ?_;clear hK K))<;>(try (clear hK K;exact q_u)))|(with_reducible refine q_s ?_;(first|apply q_J|apply q_K|apply q_L|apply q_M|apply q_N|apply q_O)<;>try (intro _;try exact q_v)))
   all_goals first | omega | contradiction | skip
  all_goals first
  | (refine q_F ⟨(mid + 1,hi),by simp only; omega,q2,(su (by assumption)).symm.trans q3⟩ ?_ (by simp only; omega); exact q_D)
  | (refine q_F ⟨(lo,mid),by simp only; omega,by simp only; omega,(sd (by assumption)).symm.trans q3⟩ ?_ (by simp only; omega); exact q_D)
  | skip
 ·have hs:=srch_end (lt:=lt1) (beh:=beh) (l:=l) (x:=x) (lo:=lo) (hi:=hi) (by omega)
  rw [hs] at q3
  subst q3
  repeat' (first|with_reducible refine q_0 ?_|((with_reducible first|refine q_q omt_ok fun K hK=>?_|refine q_r omt_ok fun K hK=>?_);simp (maxSteps:=2000000) only [go_sem,↓reduceIte,reduceCtorEq,Nat.reduceLeDiff,Nat.reduceLT,Nat.reduceBEq,Nat.reduceAdd];(repeat1' with_reducible first|apply And.intro|(intro _;try exact q_v)|(refine hK _ ?_;clear hK K))<;>(try (clear hK K;exact q_u)))|(with_reducible refine q_s ?_;(first|apply q_J|apply q_K|apply q_L|apply q_M|apply q_N|apply q_O)<;>try (intro _;try exact q_v)))
  all_goals first | omega | contradiction | exact q_A rfl | skip
set_option maxRecDepth 100000 in
set_option maxHeartbeats 3200000 in
theorem merge_K (a b : List Int) (hl : a.length + b.length ≤ 17592186044416) : Ret Try.prog 24 false [.inl (.ints .i64 a),.inl (.ints .i64 b),.inl (.a (.func (.func 36) #[] #[]))] (.c (.ints .i64 (mrg lt1 a b))):=by
 have hzl : (mrg lt1 a b).length = a.length + b.length:=mrg_len _ _ _
 generalize hz : mrg lt1 a b = z at *
 (refine q_H Try.func24 (fun F=>?_); simp only [q_z,q_y,Try.ntmps24,Try.results24])
 repeat' (first|with_reducible refine q_0 ?_|((with_reducible first|refine q_q omt_ok fun K hK=>?_|refine q_r omt_ok fun K hK=>?_);simp (maxSteps:=2000000) only [go_sem,↓reduceIte,reduceCtorEq,Nat.reduceLeDiff,Nat.reduceLT,Nat.reduceBEq,Nat.reduceAdd];(repeat1' with_reducible first|apply And.intro|(intro _;try exact q_v)|(refine hK _ ?_;clear hK K))<;>(try (clear hK K;exact q_u)))|(with_reducible refine q_s ?_;(first|apply q_J|apply q_K|apply q_L|apply q_M|apply q_N|apply q_O)<;>try (intro _;try exact q_v)))
 all_goals try omega
 refine q_G (ι:={ q : List Int × List Int × List Int // q.1 ++ mrg lt1 q.2.1 q.2.2 = z ∧ q.1.length + q.2.1.length + q.2.2.length = z.length }) (fun q=>⟨45,[(0,.c (.ints .i64 q.1.2.1)),(1,.c (.ints .i64 q.1.2.2)),(2,.c (.a (.func (.func 36) #[] #[]))),(7,.own 0 0)],⟨[],[(0,⟨0,3,1,.ints .i64 q.1.1⟩)],[]⟩,1⟩) (fun q=>q.1.2.1.length + q.1.2.2.length) ⟨([],a,b),hz,by simp only [List.length_nil]; omega⟩ ?_ ?_
 ·exact q_D
 rintro ⟨⟨o,u,v⟩,q1,q2⟩
 simp only at q1 q2 ⊢
 by_cases hk : 0 < u.length ∧ 0 < v.length
 ·obtain ⟨k1,k2⟩:=hk
  have du:=drop_one_take u
  have dv:=drop_one_take v
  have lu : (u.drop 1).length = u.length - 1:=List.length_drop
  have lv : (v.drop 1).length = v.length - 1:=List.length_drop
  by_cases hc : lt1 (v.getD 0 0) (u.getD 0 0) = true
  ·have hm:=mrg_r (lt:=lt1) k1 k2 hc
   repeat' (first|with_reducible refine q_0 ?_|((with_reducible first|refine q_q omt_ok fun K hK=>?_|refine q_r omt_ok fun K hK=>?_);simp (maxSteps:=2000000) only [go_sem,↓reduceIte,reduceCtorEq,Nat.reduceLeDiff,Nat.reduceLT,Nat.reduceBEq,Nat.reduceAdd,du,dv,hc];(repeat1' with_reducible first|apply And.intro|(intro _;try exact q_v)|(refine hK _ ?_;clear hK K))<;>(try (clear hK K;exact q_u)))|(with_reducible refine q_s ?_;(first|apply q_J|apply q_K|apply q_L|apply q_M|apply q_N|apply q_O)<;>try (intro _;try exact q_v)))
   all_goals first | omega | contradiction | skip
   all_goals
    refine q_F ⟨(o ++ [v.getD 0 0],u,v.drop 1),by simp only; rw [List.append_assoc,← q1,hm]; rfl,by simp only [List.length_append,List.length_cons,List.length_nil,lv]; omega⟩ ?_ (by simp only [lv]; omega)
    exact q_D
  ·have hc : lt1 (v.getD 0 0) (u.getD 0 0) = false:=by simpa using hc
   have hm:=mrg_l (lt:=lt1) k1 k2 hc
   repeat' (first|with_reducible refine q_0 ?_|((with_reducible first|refine q_q omt_ok fun K hK=>?_|refine q_r omt_ok fun K hK=>?_);simp (maxSteps:=2000000) only [go_sem,↓reduceIte,reduceCtorEq,Nat.reduceLeDiff,Nat.reduceLT,Nat.reduceBEq,Nat.reduceAdd,du,dv,hc];(repeat1' with_reducible first|apply And.intro|(intro _;try exact q_v)|(refine hK _ ?_;clear hK K))<;>(try (clear hK K;exact q_u)))|(with_reducible refine q_s ?_;(first|apply q_J|apply q_K|apply q_L|apply q_M|apply q_N|apply q_O)<;>try (intro _;try exact q_v)))
   all_goals first | omega | contradiction | skip
   all_goals
    refine q_F ⟨(o ++ [u.getD 0 0],u.drop 1,v),by simp only; rw [List.append_assoc,← q1,hm]; rfl,by simp only [List.length_append,List.length_cons,List.length_nil,lu]; omega⟩ ?_ (by simp only [lu]; omega)
    exact q_D
 ·have hm:=mrg_e (lt:=lt1) hk
  rw [hm] at q1
  repeat' (first|with_reducible refine q_0 ?_|((with_reducible first|refine q_q omt_ok fun K hK=>?_|refine q_r omt_ok fun K hK=>?_);simp (maxSteps:=2000000) only [go_sem,↓reduceIte,reduceCtorEq,Nat.reduceLeDiff,Nat.reduceLT,Nat.reduceBEq,Nat.reduceAdd];(repeat1' with_reducible first|apply And.intro|(intro _;try exact q_v)|(refine hK _ ?_;clear hK K))<;>(try (clear hK K;exact q_u)))|(with_reducible refine q_s ?_;(first|apply q_J|apply q_K|apply q_L|apply q_M|apply q_N|apply q_O)<;>try (intro _;try exact q_v)))
  all_goals first | omega | contradiction | exact q_A (by rw [← q1,← List.append_assoc]; rfl) | skip
end Go.Proofs.Ytmcjojbffidlbaa
