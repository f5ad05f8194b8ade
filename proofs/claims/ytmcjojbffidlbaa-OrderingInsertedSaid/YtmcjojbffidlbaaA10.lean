import Derived.Test.YtmcjojbffidlbaaA4
import Derived.Test.YtmcjojbffidlbaaA5
import Derived.Test.YtmcjojbffidlbaaA7
namespace Go.Proofs.Ytmcjojbffidlbaa
set_option linter.unusedSimpArgs false
set_option linter.unusedVariables false
open Go.Abs Go.Proofs.NatL

def runP (b : Pn → Bool) : Nat → Pn → Pn
 | 0,p=>p
 | k + 1,p=>if p.on then runP b k (tellP p (b p)) else p
def runAll (b : Pn → Bool) (p : Pn) : Pn:=runP b p.nu p
theorem runP_off {b : Pn → Bool} {p : Pn} (h : ¬ p.on) : ∀ k,runP b k p = p
 | 0=>rfl
 | k + 1=>by simp only [runP]; rw [if_neg h]
theorem runP_more {b : Pn → Bool} : ∀ (k j : Nat) (p : Pn),p.Ok → (p.on → p.asks) → p.nu ≤ k → p.nu ≤ j → runP b k p = runP b j p
 | 0,j,p,h,ha,h1,h2=>by
  by_cases ho : p.on
  ·have:=tell_nu h ho (ha ho) (b p); omega
  ·rw [runP_off ho,runP_off ho]
 | k + 1,0,p,h,ha,h1,h2=>by
  by_cases ho : p.on
  ·have:=tell_nu h ho (ha ho) (b p); omega
  ·rw [runP_off ho,runP_off ho]
 | k + 1,j + 1,p,h,ha,h1,h2=>by
  simp only [runP]
  split
  ·rename_i ho
   have:=tell_nu h ho (ha ho) (b p)
   obtain ⟨g1,g2,g3⟩:=tellP_ok h ha (b p)
   exact runP_more k j _ g1 g2 (by omega) (by omega)
  ·rfl
theorem runAll_step {b : Pn → Bool} {p : Pn} (h : p.Ok) (ho : p.on) (ha : p.on → p.asks) : runAll b (tellP p (b p)) = runAll b p:=by
 have hn:=tell_nu h ho (ha ho) (b p)
 obtain ⟨g1,g2,g3⟩:=tellP_ok h ha (b p)
 unfold runAll
 obtain ⟨k,hk⟩ : ∃ k,p.nu = k + 1:=⟨p.nu - 1,by omega⟩
 rw [hk]
 simp only [runP]
 rw [if_pos ho]
 exact runP_more _ _ _ g1 g2 (Nat.le_refl _) (by omega)
theorem runAll_off {b : Pn → Bool} {p : Pn} (h : ¬ p.on) : runAll b p = p:=runP_off h _
def askI (p : Pn) : Int:=if p.on then p.i else 0
def askJ (p : Pn) : Int:=if p.on then p.j else 0
theorem range_good {o : List Int} (h : o.Perm ((List.range o.length).map fun i : Nat=>(i : Int))) : Good o:=by
 have hnd : o.Nodup:=by
  rw [h.nodup_iff,List.nodup_iff_pairwise_ne,List.pairwise_map]
  exact (List.nodup_iff_pairwise_ne.1 List.nodup_range).imp fun hne e=>hne (by omega)
 refine ⟨fun k hk=>?_,fun i k hik hk=>?_⟩
 ·have hm : o.getD k 0 ∈ o:=by rw [getD_eq o k hk]; exact List.getElem_mem hk
  obtain ⟨i,hi,he⟩:=List.mem_map.1 (h.mem_iff.1 hm)
  have:=List.mem_range.1 hi
  omega
 ·rw [getD_eq o i (by omega),getD_eq o k hk]
  exact (List.pairwise_iff_getElem.1 (List.nodup_iff_pairwise_ne.1 hnd)) i k (by omega) hk hik
theorem range_in {o : List Int} (h : o.Perm ((List.range o.length).map fun i : Nat=>(i : Int))) {k : Nat} (hk : k < o.length) : 0 ≤ o.getD k 0 ∧ o.getD k 0 < (o.length : Int):=(range_good h).lo k hk
theorem ask_in {p : Pn} (h : p.Ok) (ho : p.on) (ha : p.asks) (hp : p.o.Perm ((List.range p.o.length).map fun i : Nat=>(i : Int))) : (0 ≤ p.i ∧ p.i < (p.o.length : Int)) ∧ (0 ≤ p.j ∧ p.j < (p.o.length : Int)):=by
 obtain ⟨h1,h2,h3,h4,h5,h6⟩:=Pn.facts h ho
 obtain ⟨a1,a2⟩:=ha
 exact ⟨range_in hp (by omega),range_in hp (by omega)⟩
def byL (lt : Int → Int → Bool) (l : List Int) (p : Pn) : Bool:=lt (l.getD p.i.toNat 0) (l.getD p.j.toNat 0)
def ltCT (lt : Int → Int → Bool) : CT:=mkCT [] true fun l K=>match l with
 | [.inl (.i .i64 a),.inl (.i .i64 b)]=>K (.c (.b (lt a b)))
 | _=>False
attribute [go_sem] ltCT
theorem less_ret (a b : Int) : Ret Try.prog 29 false [.inl (.i .i64 a),.inl (.i .i64 b)] (.c (.b (decide (a < b)))):=by
 (refine q_H Try.func29 (fun F=>?_); simp only [q_z,q_y,Try.ntmps29,Try.results29])
 repeat' (first|with_reducible refine q_0 ?_|((with_reducible first|refine q_q ogb_ok fun K hK=>?_|refine q_r ogb_ok fun K hK=>?_);simp (maxSteps:=2000000) only [go_sem,↓reduceIte,reduceCtorEq,Nat.reduceLeDiff,Nat.reduceLT,Nat.reduceBEq,Nat.reduceAdd];(repeat1' with_reducible first|apply And.intro|(intro _;try exact q_v)|(refine hK _ ?_;clear hK K))<;>(try (clear hK K;exact q_u)))|(with_reducible refine q_s ?_;(first|apply q_J|apply q_K|apply q_L|apply q_M|apply q_N|apply q_O)<;>try (intro _;try exact q_v)))
 all_goals exact q_A rfl
def oj1 : Cfg:=addT 29 (ltCT fun a b=>decide (a < b)) cf0
theorem oj1_ok : TblOk Try.prog oj1:=q_I cf0_ok Try.func29 fun l K h=>by
 split at h
 ·exact ⟨_,(less_ret _ _).plain rfl,h⟩
 ·exact h.elim
def ojt : Cfg:=listT [(18,permuteCT),(8,startCT),(15,askCT),(16,tellCT),(29,(ltCT fun a b=>decide (a < b)))] [27]
theorem ojt_ok : TblOk Try.prog ojt:=listE_ok (by simp only [List.mem_singleton,forall_eq]; exact flt) ⟨⟨og4,og4_ok,rfl⟩,⟨oc3,oc3_ok,rfl⟩,⟨oc2,oc2_ok,rfl⟩,⟨oc4,oc4_ok,rfl⟩,⟨oj1,oj1_ok,rfl⟩,trivial⟩
attribute [go_sem] ojt
set_option maxRecDepth 100000 in
set_option maxHeartbeats 6400000 in
theorem sort_ret (I : Pn → Prop) (l : List Int) (h : l.length ≤ 1000) (hI0 : I (settle (startP l.length))) (hI1 : ∀ q,I q → q.Ok → q.on → q.asks → I (tellP q (byL (fun a b=>decide (a < b)) l q))) (hI2 : ∀ q,I q → q.o.Perm ((List.range q.o.length).map fun i : Nat=>(i : Int))) :
  Ret Try.prog 21 false [.inl (.ints .i64 l),.inl (.a (.func (.func 29) #[] #[]))] (.t [.inl (.ints .i64 (permL l (runAll (byL (fun a b=>decide (a < b)) l) (settle (startP l.length))).o)),.inr [.i .i64 0,.i .i64 0]]):=by
 obtain ⟨s1,s2,s3⟩:=settle_facts (startP_ok h)
 have s4 : (startP l.length).o.length = l.length:=by simp [startP]
 rw [s4] at s3
 generalize hb : byL (fun a b=>decide (a < b)) l = b at *
 have hbq : ∀ q : Pn,decide (l.getD q.i.toNat 0 < l.getD q.j.toNat 0) = b q:=fun q=>by rw [← hb]; rfl
 generalize hp : settle (startP l.length) = p at *
 generalize hz : runAll b p = z
 have hE : ∀ q : Pn,(Pn.mk q.o q.w q.f q.l q.r q.m) = q:=fun q=>rfl
 have hon : p.on ↔ p.w < p.o.length:=Iff.rfl
 by_cases ho : p.w < p.o.length
 all_goals
  have hi : askI p = if p.w < p.o.length then p.i else 0:=rfl
  have hj : askJ p = if p.w < p.o.length then p.j else 0:=rfl
  (refine q_H Try.func21 (fun F=>?_); simp only [q_z,q_y,Try.ntmps21,Try.results21])
  repeat' (first|with_reducible refine q_0 ?_|((with_reducible first|refine q_q ojt_ok fun K hK=>?_|refine q_r ojt_ok fun K hK=>?_);simp (maxSteps:=2000000) only [go_sem,↓reduceIte,reduceCtorEq,Nat.reduceLeDiff,Nat.reduceLT,Nat.reduceBEq,Nat.reduceAdd,hp,hE];(repeat1' with_reducible first|apply And.intro|(intro _;try exact q_v)|(refine hK _ ?_;clear hK K))<;>(try (clear hK K;exact q_u)))|(with_reducible refine q_s ?_;(first|apply q_J|apply q_K|apply q_L|apply q_M|apply q_N|apply q_O)<;>try (intro _;try exact q_v)))
  all_goals first | omega | exact ⟨s1,s2 ho⟩ | exact s1 | exact s2 ho | skip
  refine q_G (ι:={ q : Pn // q.Ok ∧ (q.on → q.asks) ∧ q.o.length = l.length ∧ I q ∧ runAll b q = z }) (fun q=>⟨52,[(0,.c (.ints .i64 l)),(1,.c (.a (.func (.func 29) #[] #[]))),(5,.bx 0 0),(6,.bx 1 0),(8,.c (.i .i64 (askI q.1))),(9,.c (.i .i64 (askJ q.1))),(10,.c (.b (decide (q.1.w < q.1.o.length))))],
   ⟨[(1,[.c (.ints .i64 q.1.o),.c (.i .i64 (q.1.w : Nat)),.c (.i .i64 (q.1.f : Nat)),.c (.i .i64 (q.1.l : Nat)),.c (.i .i64 (q.1.r : Nat)),.c (.ints .i64 q.1.m)]),(0,[.c (.i .i64 0),.c (.i .i64 0)])],[],[]⟩,3⟩) (fun q=>q.1.nu) ⟨p,s1,s2,s3,hI0,hz⟩ ?_ ?_
  ·simp only [ho,if_true,if_false,decide_true,decide_false] at hi hj
   simp only [hi,hj,ho,decide_true,decide_false]
   exact q_D
  clear hi hj
  rintro ⟨q,q1,q2,q3,q4,q5⟩
  simp only at q1 q2 q3 q4 q5 ⊢
  by_cases hq : q.w < q.o.length
  ·have hqa:=q2 hq
   obtain ⟨b1,b2⟩:=ask_in q1 hq hqa (hI2 q q4)
   have hi : askI q = q.i:=if_pos hq
   have hj : askJ q = q.j:=if_pos hq
   have hbb:=hbq q
   obtain ⟨t1,t2,t3⟩:=tellP_ok q1 q2 (b q)
   have t4:=hI1 q q4 q1 hq hqa
   have t5:=runAll_step (b:=b) q1 hq q2
   have t6:=tell_nu q1 hq hqa (b q)
   obtain ⟨r,hr⟩ : ∃ r,tellP q (b q) = r:=⟨_,rfl⟩
   rw [hr] at t1 t2 t3 t4 t5 t6
   simp only [hi,hj,hq,decide_true]
   repeat' (first|with_reducible refine q_0 ?_|((with_reducible first|refine q_q ojt_ok fun K hK=>?_|refine q_r ojt_ok fun K hK=>?_);simp (maxSteps:=2000000) only [go_sem,↓reduceIte,reduceCtorEq,Nat.reduceLeDiff,Nat.reduceLT,Nat.reduceBEq,Nat.reduceAdd,hE,hbb,hr];(repeat1' with_reducible first|apply And.intro|(intro _;try exact q_v)|(refine hK _ ?_;clear hK K))<;>(try (clear hK K;exact q_u)))|(with_reducible refine q_s ?_;(first|apply q_J|apply q_K|apply q_L|apply q_M|apply q_N|apply q_O)<;>try (intro _;try exact q_v)))
   all_goals first | omega | exact q1 | exact hqa | exact t1 | (refine t2 ?_; assumption) | skip
   all_goals
    rename_i hro
    have ri : askI r = if r.w < r.o.length then r.i else 0:=rfl
    have rj : askJ r = if r.w < r.o.length then r.j else 0:=rfl
    simp only [hro,if_true,if_false] at ri rj
    refine q_F ⟨r,t1,t2,t3.trans q3,t4,t5.trans q5⟩ ?_ t6
    simp only [ri,rj,hro,decide_true,decide_false]
    exact q_D
  ·have hoff:=runAll_off (b:=b) (p:=q) hq
   rw [hoff] at q5
   subst q5
   have hg:=bad_good (range_good (hI2 q q4))
   simp only [hq,decide_false]
   repeat' (first|with_reducible refine q_0 ?_|((with_reducible first|refine q_q ojt_ok fun K hK=>?_|refine q_r ojt_ok fun K hK=>?_);simp (maxSteps:=2000000) only [go_sem,↓reduceIte,reduceCtorEq,Nat.reduceLeDiff,Nat.reduceLT,Nat.reduceBEq,Nat.reduceAdd,hg];(repeat1' with_reducible first|apply And.intro|(intro _;try exact q_v)|(refine hK _ ?_;clear hK K))<;>(try (clear hK K;exact q_u)))|(with_reducible refine q_s ?_;(first|apply q_J|apply q_K|apply q_L|apply q_M|apply q_N|apply q_O)<;>try (intro _;try exact q_v)))
   all_goals first | omega | contradiction | exact q_B [.inl (some (.ints .i64 [])),.inr [none,none]] rfl rfl | exact q_A rfl
end Go.Proofs.Ytmcjojbffidlbaa

namespace Go.Proofs.Ytmcjojbffidlbaa
set_option linter.unusedSimpArgs false
set_option linter.unusedVariables false
open Go.Abs Go.Proofs.NatL

def brkF (lt : Int → Int → Bool) (l : List Int) : Nat → Nat → Int
 | _,0 => -1
 | i,j + 1=>if lt (l.getD i 0) (l.getD (i - 1) 0) = true then (i : Int) else brkF lt l (i + 1) j
def upF (lt : Int → Int → Bool) (beh : Bool) (l : List Int) (x : Int) (i : Nat) : Bool:=if beh then !lt x (l.getD i 0) else lt (l.getD i 0) x
def srchF (lt : Int → Int → Bool) (beh : Bool) (l : List Int) (x : Int) : Nat → Nat → Nat → Nat
 | 0,lo,_=>lo
 | k + 1,lo,hi=>if lo < hi then (if upF lt beh l x ((lo + hi) / 2) then srchF lt beh l x k ((lo + hi) / 2 + 1) hi else srchF lt beh l x k lo ((lo + hi) / 2)) else lo
theorem srchF_more {lt : Int → Int → Bool} {beh : Bool} {l : List Int} {x : Int} : ∀ (k j lo hi : Nat),hi - lo ≤ k → hi - lo ≤ j → srchF lt beh l x k lo hi = srchF lt beh l x j lo hi
 | 0,0,lo,hi,h1,h2=>rfl
 | 0,j + 1,lo,hi,h1,h2=>by simp only [srchF]; rw [if_neg (by omega)]
 | k + 1,0,lo,hi,h1,h2=>by simp only [srchF]; rw [if_neg (by omega)]
 | k + 1,j + 1,lo,hi,h1,h2=>by
  simp only [srchF]
  split
  ·split
   ·exact srchF_more k j _ _ (by omega) (by omega)
   ·exact srchF_more k j _ _ (by omega) (by omega)
  ·rfl
def srch (lt : Int → Int → Bool) (beh : Bool) (l : List Int) (x : Int) (lo hi : Nat) : Nat:=srchF lt beh l x (hi - lo) lo hi
theorem srch_up {lt : Int → Int → Bool} {beh : Bool} {l : List Int} {x : Int} {lo hi : Nat} (h : lo < hi) (hu : upF lt beh l x ((lo + hi) / 2) = true) : srch lt beh l x lo hi = srch lt beh l x ((lo + hi) / 2 + 1) hi:=by
 unfold srch
 obtain ⟨k,hk⟩ : ∃ k,hi - lo = k + 1:=⟨hi - lo - 1,by omega⟩
 rw [hk]; simp only [srchF]; rw [if_pos h,if_pos hu]
 exact srchF_more _ _ _ _ (by omega) (by omega)
theorem srch_dn {lt : Int → Int → Bool} {beh : Bool} {l : List Int} {x : Int} {lo hi : Nat} (h : lo < hi) (hu : upF lt beh l x ((lo + hi) / 2) = false) : srch lt beh l x lo hi = srch lt beh l x lo ((lo + hi) / 2):=by
 unfold srch
 obtain ⟨k,hk⟩ : ∃ k,hi - lo = k + 1:=⟨hi - lo - 1,by omega⟩
 rw [hk]; simp only [srchF]; rw [if_pos h,if_neg (by rw [hu]; simp)]
 exact srchF_more _ _ _ _ (by omega) (by omega)
theorem srch_end {lt : Int → Int → Bool} {beh : Bool} {l : List Int} {x : Int} {lo hi : Nat} (h : ¬ lo < hi) : srch lt beh l x lo hi = lo:=by
 unfold srch
 have : hi - lo = 0:=by omega
 rw [this]; rfl
def mrgF (lt : Int → Int → Bool) : Nat → List Int → List Int → List Int
 | 0,a,b=>a ++ b
 | k + 1,x :: a,y :: b=>if lt y x = true then y :: mrgF lt k (x :: a) b else x :: mrgF lt k a (y :: b)
 | _ + 1,a,b=>a ++ b
def mrg (lt : Int → Int → Bool) (a b : List Int) : List Int:=mrgF lt (a.length + b.length) a b
theorem mrg_len {lt : Int → Int → Bool} : ∀ (k : Nat) (a b : List Int),(mrgF lt k a b).length = a.length + b.length
 | 0,a,b=>by simp [mrgF]
 | k + 1,[],b=>by simp [mrgF]
 | k + 1,x :: a,[]=>by simp [mrgF]
 | k + 1,x :: a,y :: b=>by
  simp only [mrgF]
  split
  ·simp only [List.length_cons,mrg_len k]; omega
  ·simp only [List.length_cons,mrg_len k]; omega
theorem mrg_r {lt : Int → Int → Bool} {a b : List Int} (ha : 0 < a.length) (hb : 0 < b.length) (h : lt (b.getD 0 0) (a.getD 0 0) = true) : mrg lt a b = b.getD 0 0 :: mrg lt a (b.drop 1):=by
 match a,b,ha,hb with
 | x :: a,y :: b,_,_ =>
  simp only [List.getD_cons_zero] at h ⊢
  unfold mrg
  simp only [List.length_cons,List.drop_succ_cons,List.drop_zero]
  rw [show a.length + 1 + (b.length + 1) = (a.length + 1 + b.length) + 1 by omega]
  simp only [mrgF]
  rw [if_pos h]
theorem mrg_l {lt : Int → Int → Bool} {a b : List Int} (ha : 0 < a.length) (hb : 0 < b.length) (h : lt (b.getD 0 0) (a.getD 0 0) = false) : mrg lt a b = a.getD 0 0 :: mrg lt (a.drop 1) b:=by
 match a,b,ha,hb with
 | x :: a,y :: b,_,_ =>
  simp only [List.getD_cons_zero] at h ⊢
  unfold mrg
  simp only [List.length_cons,List.drop_succ_cons,List.drop_zero]
  rw [show a.length + 1 + (b.length + 1) = (a.length + (b.length + 1)) + 1 by omega]
  simp only [mrgF]
  rw [if_neg (by rw [h]; simp)]
theorem mrg_e {lt : Int → Int → Bool} {a b : List Int} (h : ¬ (0 < a.length ∧ 0 < b.length)) : mrg lt a b = a ++ b:=by
 unfold mrg
 match a,b with
 | [],b=>cases hb : ([] : List Int).length + b.length <;> simp [mrgF]
 | x :: a,[]=>cases hb : (x :: a).length + ([] : List Int).length <;> simp [mrgF]
 | x :: a,y :: b=>exact absurd ⟨by simp,by simp⟩ h
theorem drop_one_take (a : List Int) : (a.take a.length).drop 1 = a.drop 1:=by rw [List.take_length]
set_option maxHeartbeats 1600000 in
theorem broken_I (l : List Int) (hl : l.length ≤ 17592186044416) : Ret Try.prog 26 false [.inl (.ints .i64 l),.inl (.a (.func (.func 29) #[] #[]))] (.c (.i .i64 (brkF (fun a b=>decide (a < b)) l 1 (l.length - 1)))):=by
 generalize hz : brkF (fun a b=>decide (a < b)) l 1 (l.length - 1) = z
 (refine q_H Try.func26 (fun F=>?_); simp only [q_z,q_y,Try.ntmps26,Try.results26])
 repeat' (first|with_reducible refine q_0 ?_|((with_reducible first|refine q_q ojt_ok fun K hK=>?_|refine q_r ojt_ok fun K hK=>?_);simp (maxSteps:=2000000) only [go_sem,↓reduceIte,reduceCtorEq,Nat.reduceLeDiff,Nat.reduceLT,Nat.reduceBEq,Nat.reduceAdd];(repeat1' with_reducible first|apply And.intro|(intro _;try exact q_v)|(refine hK _ ?_;clear hK K))<;>(try (clear hK K;exact q_u)))|(with_reducible refine q_s ?_;(first|apply q_J|apply q_K|apply q_L|apply q_M|apply q_N|apply q_O)<;>try (intro _;try exact q_v)))
 all_goals try omega
 refine q_G (ι:={ k : Nat // 1 ≤ k ∧ brkF (fun a b=>decide (a < b)) l k (l.length - k) = z ∧ k ≤ l.length + 1 }) (fun k=>⟨24,[(0,.c (.ints .i64 l)),(1,.c (.a (.func (.func 29) #[] #[]))),(5,.c (.i .i64 (k.1 : Nat)))],⟨[],[],[]⟩,0⟩) (fun k=>l.length + 1 - k.1) ⟨1,by omega,hz,by omega⟩ ?_ ?_
 ·exact q_D
 rintro ⟨k,k1,k2,k3⟩
 simp only at k1 k2 k3 ⊢
 rcases Nat.lt_or_ge k l.length with hk | hk
 ·have e1 : ((k : Int) - 1).toNat = k - 1:=by omega
  obtain ⟨j,hj⟩ : ∃ j,l.length - k = j + 1:=⟨l.length - k - 1,by omega⟩
  have hj2 : l.length - (k + 1) = j:=by omega
  rw [hj] at k2
  simp only [brkF] at k2
  split at k2
  ·rename_i hlt
   subst k2
   have hlt2:=of_decide_eq_true hlt
   repeat' (first|with_reducible refine q_0 ?_|((with_reducible first|refine q_q ojt_ok fun K hK=>?_|refine q_r ojt_ok fun K hK=>?_);simp (maxSteps:=2000000) only [go_sem,↓reduceIte,reduceCtorEq,Nat.reduceLeDiff,Nat.reduceLT,Nat.reduceBEq,Nat.reduceAdd,e1,hlt];(repeat1' with_reducible first|apply And.intro|(intro _;try exact q_v)|(refine hK _ ?_;clear hK K))<;>(try (clear hK K;exact q_u)))|(with_reducible refine q_s ?_;(first|apply q_J|apply q_K|apply q_L|apply q_M|apply q_N|apply q_O)<;>try (intro _;try exact q_v)))
   all_goals first | omega | contradiction | exact q_A rfl | skip
  ·rename_i hlt
   have hlt2 : ¬ l.getD k 0 < l.getD (k - 1) 0:=fun h=>hlt (decide_eq_true h)
   repeat' (first|with_reducible refine q_0 ?_|((with_reducible first|refine q_q ojt_ok fun K hK=>?_|refine q_r ojt_ok fun K hK=>?_);simp (maxSteps:=2000000) only [go_sem,↓reduceIte,reduceCtorEq,Nat.reduceLeDiff,Nat.reduceLT,Nat.reduceBEq,Nat.reduceAdd,e1,hlt2];(repeat1' with_reducible first|apply And.intro|(intro _;try exact q_v)|(refine hK _ ?_;clear hK K))<;>(try (clear hK K;exact q_u)))|(with_reducible refine q_s ?_;(first|apply q_J|apply q_K|apply q_L|apply q_M|apply q_N|apply q_O)<;>try (intro _;try exact q_v)))
   all_goals first | omega | contradiction | skip
   all_goals
    refine q_F ⟨k + 1,by omega,by rw [hj2]; exact k2,by omega⟩ ?_ (by simp only; omega)
    exact q_D
 ·have : l.length - k = 0:=by omega
  rw [this] at k2
  simp only [brkF] at k2
  subst k2
  repeat' (first|with_reducible refine q_0 ?_|((with_reducible first|refine q_q ojt_ok fun K hK=>?_|refine q_r ojt_ok fun K hK=>?_);simp (maxSteps:=2000000) only [go_sem,↓reduceIte,reduceCtorEq,Nat.reduceLeDiff,Nat.reduceLT,Nat.reduceBEq,Nat.reduceAdd];(repeat1' with_reducible first|apply And.intro|(intro _;try exact q_v)|(refine hK _ ?_;clear hK K))<;>(try (clear hK K;exact q_u)))|(with_reducible refine q_s ?_;(first|apply q_J|apply q_K|apply q_L|apply q_M|apply q_N|apply q_O)<;>try (intro _;try exact q_v)))
  all_goals first | omega | contradiction | exact q_A rfl | skip
set_option maxRecDepth 100000 in
set_option maxHeartbeats 1600000 in
theorem search_I (l : List Int) (x : Int) (beh : Bool) (hl : l.length ≤ 17592186044416) : Ret Try.prog 25 false [.inl (.ints .i64 l),.inl (.i .i64 x),.inl (.a (.func (.func 29) #[] #[])),.inl (.b beh)] (.c (.i .i64 (srch (fun a b=>decide (a < b)) beh l x 0 l.length : Nat))):=by
 generalize hz : srch (fun a b=>decide (a < b)) beh l x 0 l.length = z
 (refine q_H Try.func25 (fun F=>?_); simp only [q_z,q_y,Try.ntmps25,Try.results25])
 repeat' (first|with_reducible refine q_0 ?_|((with_reducible first|refine q_q ojt_ok fun K hK=>?_|refine q_r ojt_ok fun K hK=>?_);simp (maxSteps:=2000000) only [go_sem,↓reduceIte,reduceCtorEq,Nat.reduceLeDiff,Nat.reduceLT,Nat.reduceBEq,Nat.reduceAdd];(repeat1' with_reducible first|apply And.intro|(intro _;try exact q_v)|(refine hK _ ?_;clear hK K))<;>(try (clear hK K;exact q_u)))|(with_reducible refine q_s ?_;(first|apply q_J|apply q_K|apply q_L|apply q_M|apply q_N|apply q_O)<;>try (intro _;try exact q_v)))
 all_goals try omega
 refine q_G (ι:={ q : Nat × Nat // q.1 ≤ q.2 ∧ q.2 ≤ l.length ∧ srch (fun a b=>decide (a < b)) beh l x q.1 q.2 = z }) (fun q=>⟨43,[(0,.c (.ints .i64 l)),(1,.c (.i .i64 x)),(2,.c (.a (.func (.func 29) #[] #[]))),(3,.c (.b beh)),(9,.c (.i .i64 (q.1.1 : Nat))),(10,.c (.i .i64 (q.1.2 : Nat)))],⟨[],[],[]⟩,0⟩) (fun q=>q.1.2 - q.1.1) ⟨(0,l.length),by simp,by simp,hz⟩ ?_ ?_
 ·exact q_D
 rintro ⟨⟨lo,hi⟩,q1,q2,q3⟩
 simp only at q1 q2 q3 ⊢
 rcases Nat.lt_or_ge lo hi with hk | hk
 ·have e1 : (((lo : Int) + (hi : Int)).tdiv 2) = (((lo + hi) / 2 : Nat) : Int):=by rw [Int.tdiv_eq_ediv_of_nonneg (by omega)]; omega
  obtain ⟨mid,hm⟩ : ∃ mid,(lo + hi) / 2 = mid:=⟨_,rfl⟩
  have hml : lo ≤ mid ∧ mid < hi:=by omega
  have su:=srch_up (lt:=(fun a b=>decide (a < b))) (beh:=beh) (l:=l) (x:=x) hk
  have sd:=srch_dn (lt:=(fun a b=>decide (a < b))) (beh:=beh) (l:=l) (x:=x) hk
  rw [hm] at e1 su sd
  unfold upF at su sd
  cases beh
  all_goals
   simp only [Bool.false_eq_true,if_false,if_true,Bool.not_eq_true',Bool.not_eq_false',decide_eq_true_eq,decide_eq_false_iff_not] at su sd
   repeat' (first|with_reducible refine q_0 ?_|((with_reducible first|refine q_q ojt_ok fun K hK=>?_|refine q_r ojt_ok fun K hK=>?_);simp (maxSteps:=2000000) only [go_sem,↓reduceIte,reduceCtorEq,Nat.reduceLeDiff,Nat.reduceLT,Nat.reduceBEq,Nat.reduceAdd,e1];(repeat1' with_reducible first|apply And.intro|(intro _;try exact q_v)|(refine hK _ ?_;clear hK K))<;>(try (clear hK K;exact q_u)))|(with_reducible refine q_s ?_;(first|apply q_J|apply q_K|apply q_L|apply q_M|apply q_N|apply q_O)<;>try (intro _;try exact q_v)))
   all_goals first | omega | contradiction | skip
  all_goals first
  | (refine q_F ⟨(mid + 1,hi),by simp only; omega,q2,(su (by assumption)).symm.trans q3⟩ ?_ (by simp only; omega); exact q_D)
  | (refine q_F ⟨(lo,mid),by simp only; omega,by simp only; omega,(sd (by assumption)).symm.trans q3⟩ ?_ (by simp only; omega); exact q_D)
  | skip
 ·have hs:=srch_end (lt:=(fun a b=>decide (a < b))) (beh:=beh) (l:=l) (x:=x) (lo:=lo) (hi:=hi) (by omega)
  rw [hs] at q3
  subst q3
  repeat' (first|with_reducible refine q_0 ?_|((with_reducible first|refine q_q ojt_ok fun K hK=>?_|refine q_r ojt_ok fun K hK=>?_);simp (maxSteps:=2000000) only [go_sem,↓reduceIte,reduceCtorEq,Nat.reduceLeDiff,Nat.reduceLT,Nat.reduceBEq,Nat.reduceAdd];(repeat1' with_reducible first|apply And.intro|(intro _;try exact q_v)|(refine hK _ ?_;clear hK K))<;>(try (clear hK K;exact q_u)))|(with_reducible refine q_s ?_;(first|apply q_J|apply q_K|apply q_L|apply q_M|apply q_N|apply q_O)<;>try (intro _;try exact q_v)))
  all_goals first | omega | contradiction | exact q_A rfl | skip
set_option maxRecDepth 100000 in
set_option maxHeartbeats 3200000 in
theorem merge_I (a b : List Int) (hl : a.length + b.length ≤ 17592186044416) : Ret Try.prog 24 false [.inl (.ints .i64 a),.inl (.ints .i64 b),.inl (.a (.func (.func 29) #[] #[]))] (.c (.ints .i64 (mrg (fun a b=>decide (a < b)) a b))):=by
 have hzl : (mrg (fun a b=>decide (a < b)) a b).length = a.length + b.length:=mrg_len _ _ _
 generalize hz : mrg (fun a b=>decide (a < b)) a b = z at *
 (refine q_H Try.func24 (fun F=>?_); simp only [q_z,q_y,Try.ntmps24,Try.results24])
 repeat' (first|with_reducible refine q_0 ?_|((with_reducible first|refine q_q ojt_ok fun K hK=>?_|refine q_r ojt_ok fun K hK=>?_);simp (maxSteps:=2000000) only [go_sem,↓reduceIte,reduceCtorEq,Nat.reduceLeDiff,Nat.reduceLT,Nat.reduceBEq,Nat.reduceAdd];(repeat1' with_reducible first|apply And.intro|(intro _;try exact q_v)|(refine hK _ ?_;clear hK K))<;>(try (clear hK K;exact q_u)))|(with_reducible refine q_s ?_;(first|apply q_J|apply q_K|apply q_L|apply q_M|apply q_N|apply q_O)<;>try (intro _;try exact q_v)))
 all_goals try omega
 refine q_G (ι:={ q : List Int × List Int × List Int // q.1 ++ mrg (fun a b=>decide (a < b)) q.2.1 q.2.2 = z ∧ q.1.length + q.2.1.length + q.2.2.length = z.length }) (fun q=>⟨45,[(0,.c (.ints .i64 q.1.2.1)),(1,.c (.ints .i64 q.1.2.2)),(2,.c (.a (.func (.func 29) #[] #[]))),(7,.own 0 0)],⟨[],[(0,⟨0,3,1,.ints .i64 q.1.1⟩)],[]⟩,1⟩) (fun q=>q.1.2.1.length + q.1.2.2.length) ⟨([],a,b),hz,by simp only [List.length_nil]; omega⟩ ?_ ?_
 ·exact q_D
 rintro ⟨⟨o,u,v⟩,q1,q2⟩
 simp only at q1 q2 ⊢
 by_cases hk : 0 < u.length ∧ 0 < v.length
 ·obtain ⟨k1,k2⟩:=hk
  have du:=drop_one_take u
  have dv:=drop_one_take v
  have lu : (u.drop 1).length = u.length - 1:=List.length_drop
  have lv : (v.drop 1).length = v.length - 1:=List.length_drop
  by_cases hc : v.getD 0 0 < u.getD 0 0
  ·have hm:=mrg_r (lt:=(fun a b=>decide (a < b))) k1 k2 (decide_eq_true hc)
   repeat' (first|with_reducible refine q_0 ?_|((with_reducible first|refine q_q ojt_ok fun K hK=>?_|refine q_r ojt_ok fun K hK=>?_);simp (maxSteps:=2000000) only [go_sem,↓reduceIte,reduceCtorEq,Nat.reduceLeDiff,Nat.reduceLT,Nat.reduceBEq,Nat.reduceAdd,du,dv,hc];(repeat1' with_reducible first|apply And.intro|(intro _;try exact q_v)|(refine hK _ ?_;clear hK K))<;>(try (clear hK K;exact q_u)))|(with_reducible refine q_s ?_;(first|apply q_J|apply q_K|apply q_L|apply q_M|apply q_N|apply q_O)<;>try (intro _;try exact q_v)))
   all_goals first | omega | contradiction | skip
   all_goals
    refine q_F ⟨(o ++ [v.getD 0 0],u,v.drop 1),by simp only; rw [List.append_assoc,← q1,hm]; rfl,by simp only [List.length_append,List.length_cons,List.length_nil,lv]; omega⟩ ?_ (by simp only [lv]; omega)
    exact q_D
  ·have hm:=mrg_l (lt:=(fun a b=>decide (a < b))) k1 k2 (decide_eq_false hc)
   repeat' (first|with_reducible refine q_0 ?_|((with_reducible first|refine q_q ojt_ok fun K hK=>?_|refine q_r ojt_ok fun K hK=>?_);simp (maxSteps:=2000000) only [go_sem,↓reduceIte,reduceCtorEq,Nat.reduceLeDiff,Nat.reduceLT,Nat.reduceBEq,Nat.reduceAdd,du,dv,hc];(repeat1' with_reducible first|apply And.intro|(intro _;try exact q_v)|(refine hK _ ?_;clear hK K))<;>(try (clear hK K;exact q_u)))|(with_reducible refine q_s ?_;(first|apply q_J|apply q_K|apply q_L|apply q_M|apply q_N|apply q_O)<;>try (intro _;try exact q_v)))
   all_goals first | omega | contradiction | skip
   all_goals
    refine q_F ⟨(o ++ [u.getD 0 0],u.drop 1,v),by simp only; rw [List.append_assoc,← q1,hm]; rfl,by simp only [List.length_append,List.length_cons,List.length_nil,lu]; omega⟩ ?_ (by simp only [lu]; omega)
    exact q_D
 ·have hm:=mrg_e (lt:=(fun a b=>decide (a < b))) hk
  rw [hm] at q1
  repeat' (first|with_reducible refine q_0 ?_|((with_reducible first|refine q_q ojt_ok fun K hK=>?_|refine q_r ojt_ok fun K hK=>?_);simp (maxSteps:=2000000) only [go_sem,↓reduceIte,reduceCtorEq,Nat.reduceLeDiff,Nat.reduceLT,Nat.reduceBEq,Nat.reduceAdd];(repeat1' with_reducible first|apply And.intro|(intro _;try exact q_v)|(refine hK _ ?_;clear hK K))<;>(try (clear hK K;exact q_u)))|(with_reducible refine q_s ?_;(first|apply q_J|apply q_K|apply q_L|apply q_M|apply q_N|apply q_O)<;>try (intro _;try exact q_v)))
  all_goals first | omega | contradiction | exact q_A (by rw [← q1,← List.append_assoc]; rfl) | skip
end Go.Proofs.Ytmcjojbffidlbaa

namespace Go.Abs
set_option linter.unusedSimpArgs false
set_option linter.unusedVariables false
open Go.RowKit
variable {P : Program}
theorem seq_cut5 {F : Fr} {Q : Exit → St → Prop} {st : St} {a0 a1 a2 a3 a4 Y : Code} {ι : Type} (mid : ι → St) (h1 : ∀ Y',(∀ i,AWp P F Y' Q (mid i)) → AWp P F (.seq a0 (.seq a1 (.seq a2 (.seq a3 (.seq a4 Y'))))) Q st) (h2 : ∀ i,AWp P F Y Q (mid i)) : AWp P F (.seq a0 (.seq a1 (.seq a2 (.seq a3 (.seq a4 Y))))) Q st:=h1 Y h2
theorem cut_fit {F : Fr} {Q : Exit → St → Prop} {st : St} {Y : Code} {ι : Type} {mid : ι → St} (hY : ∀ i,AWp P F Y Q (mid i)) (i : ι) (h : FitP st (mid i)) : AWp P F Y Q st:=awp_told (mid i) h (hY i)
end Go.Abs

namespace Go.Proofs.Ytmcjojbffidlbaa
set_option linter.unusedSimpArgs false
set_option linter.unusedVariables false
open Go.Abs Go.Proofs.NatL

abbrev ltZ : Int → Int → Bool:=fun a b=>decide (a < b)
def Srt (l : List Int) : Prop:=∀ i j,i < j → j < l.length → l.getD i 0 ≤ l.getD j 0
theorem srt_pair {l : List Int} : Srt l ↔ l.Pairwise (· ≤ ·):=by
 rw [List.pairwise_iff_getElem]
 constructor
 ·intro h i j hi hj hij
  have:=h i j hij hj
  rwa [getD_eq l i hi,getD_eq l j hj] at this
 ·intro h i j hij hj
  rw [getD_eq l i (by omega),getD_eq l j hj]
  exact h i j (by omega) hj hij
theorem srch_facts {lt : Int → Int → Bool} {beh : Bool} {l : List Int} {x : Int} (hm : ∀ i j,i ≤ j → j < l.length → upF lt beh l x j = true → upF lt beh l x i = true) :
  ∀ (k lo hi : Nat),hi - lo ≤ k → lo ≤ hi → hi ≤ l.length → (lo ≤ srchF lt beh l x k lo hi ∧ srchF lt beh l x k lo hi ≤ hi) ∧ (∀ i,lo ≤ i → i < srchF lt beh l x k lo hi → upF lt beh l x i = true) ∧ ∀ i,srchF lt beh l x k lo hi ≤ i → i < hi → upF lt beh l x i = false
 | 0,lo,hi,h1,h2,h3=>by
  simp only [srchF]
  exact ⟨⟨Nat.le_refl _,h2⟩,fun i _ _=>by omega,fun i _ _=>by omega⟩
 | k + 1,lo,hi,h1,h2,h3=>by
  simp only [srchF]
  split
  ·rename_i hlt
   split
   ·rename_i hu
    obtain ⟨⟨g1,g2⟩,g3,g4⟩:=srch_facts hm k ((lo + hi) / 2 + 1) hi (by omega) (by omega) h3
    refine ⟨⟨by omega,g2⟩,fun i a1 a2=>?_,g4⟩
    rcases Nat.lt_or_ge ((lo + hi) / 2) i with hi' | hi'
    ·exact g3 i (by omega) a2
    ·exact hm i _ hi' (by omega) hu
   ·rename_i hu
    obtain ⟨⟨g1,g2⟩,g3,g4⟩:=srch_facts hm k lo ((lo + hi) / 2) (by omega) (by omega) (by omega)
    refine ⟨⟨g1,by omega⟩,g3,fun i a1 a2=>?_⟩
    rcases Nat.lt_or_ge i ((lo + hi) / 2) with hi' | hi'
    ·exact g4 i a1 hi'
    ·cases hx : upF lt beh l x i with
     | false=>rfl
     | true=>exact absurd (hm _ i hi' (by omega) hx) hu
  ·exact ⟨⟨Nat.le_refl _,h2⟩,fun i _ _=>by omega,fun i _ _=>by omega⟩
theorem low_facts {l : List Int} (h : Srt l) (x : Int) : srch ltZ false l x 0 l.length ≤ l.length ∧ (∀ i,i < srch ltZ false l x 0 l.length → l.getD i 0 < x) ∧ ∀ i,srch ltZ false l x 0 l.length ≤ i → i < l.length → x ≤ l.getD i 0:=by
 have hm : ∀ i j,i ≤ j → j < l.length → upF ltZ false l x j = true → upF ltZ false l x i = true:=by
  intro i j hij hj hu
  simp only [upF,Bool.false_eq_true,if_false,decide_eq_true_eq] at hu ⊢
  rcases Nat.lt_or_ge i j with hlt | hge
  ·have:=h i j hlt hj; omega
  ·have : i = j:=by omega
   subst this; exact hu
 obtain ⟨⟨g1,g2⟩,g3,g4⟩:=srch_facts hm (l.length - 0) 0 l.length (Nat.le_refl _) (Nat.zero_le _) (Nat.le_refl _)
 refine ⟨g2,fun i hi=>?_,fun i h1 h2=>?_⟩
 ·have:=g3 i (Nat.zero_le _) hi
  simpa only [upF,Bool.false_eq_true,if_false,decide_eq_true_eq] using this
 ·have:=g4 i h1 h2
  simp only [upF,Bool.false_eq_true,if_false,decide_eq_false_iff_not] at this
  omega
theorem high_facts {l : List Int} (h : Srt l) (x : Int) : srch ltZ true l x 0 l.length ≤ l.length ∧ (∀ i,i < srch ltZ true l x 0 l.length → l.getD i 0 ≤ x) ∧ ∀ i,srch ltZ true l x 0 l.length ≤ i → i < l.length → x < l.getD i 0:=by
 have hm : ∀ i j,i ≤ j → j < l.length → upF ltZ true l x j = true → upF ltZ true l x i = true:=by
  intro i j hij hj hu
  simp only [upF,if_true,Bool.not_eq_true',decide_eq_false_iff_not] at hu ⊢
  rcases Nat.lt_or_ge i j with hlt | hge
  ·have:=h i j hlt hj; omega
  ·have : i = j:=by omega
   subst this; exact hu
 obtain ⟨⟨g1,g2⟩,g3,g4⟩:=srch_facts hm (l.length - 0) 0 l.length (Nat.le_refl _) (Nat.zero_le _) (Nat.le_refl _)
 refine ⟨g2,fun i hi=>?_,fun i h1 h2=>?_⟩
 ·have:=g3 i (Nat.zero_le _) hi
  simp only [upF,if_true,Bool.not_eq_true',decide_eq_false_iff_not] at this
  omega
 ·have:=g4 i h1 h2
  simpa only [upF,if_true,Bool.not_eq_false',decide_eq_true_eq] using this
theorem low_high {l : List Int} (h : Srt l) (x : Int) : srch ltZ false l x 0 l.length ≤ srch ltZ true l x 0 l.length:=by
 obtain ⟨a1,a2,a3⟩:=low_facts h x
 obtain ⟨b1,b2,b3⟩:=high_facts h x
 apply Classical.byContradiction
 intro hn
 have:=a2 (srch ltZ true l x 0 l.length) (by omega)
 have:=b3 (srch ltZ true l x 0 l.length) (Nat.le_refl _) (by omega)
 omega
theorem brk_srt {l : List Int} (h : Srt l) : ∀ (j i : Nat),1 ≤ i → i + j ≤ l.length → brkF ltZ l i j = -1
 | 0,i,h1,h2=>rfl
 | j + 1,i,h1,h2=>by
  have:=h (i - 1) i (by omega) (by omega)
  simp only [brkF]
  rw [if_neg (by simp only [decide_eq_true_eq]; omega)]
  exact brk_srt h j (i + 1) (by omega) (by omega)
theorem brk_all {l : List Int} (h : Srt l) : brkF ltZ l 1 (l.length - 1) = -1:=by
 by_cases h0 : l.length = 0
 ·rw [h0]; rfl
 ·exact brk_srt h _ _ (by omega) (by omega)
theorem mrgF_mem {lt : Int → Int → Bool} : ∀ (k : Nat) (a b : List Int) (x : Int),x ∈ mrgF lt k a b → x ∈ a ∨ x ∈ b
 | 0,a,b,x,h=>List.mem_append.1 h
 | k + 1,[],b,x,h=>.inr (by simpa [mrgF] using h)
 | k + 1,y :: a,[],x,h=>.inl (by simpa [mrgF] using h)
 | k + 1,y :: a,z :: b,x,h=>by
  simp only [mrgF] at h
  split at h
  ·rcases List.mem_cons.1 h with rfl | h
   ·exact .inr (List.mem_cons_self ..)
   ·rcases mrgF_mem k _ _ _ h with h | h
    ·exact .inl h
    ·exact .inr (List.mem_cons_of_mem _ h)
  ·rcases List.mem_cons.1 h with rfl | h
   ·exact .inl (List.mem_cons_self ..)
   ·rcases mrgF_mem k _ _ _ h with h | h
    ·exact .inl (List.mem_cons_of_mem _ h)
    ·exact .inr h
theorem mrgF_srt : ∀ (k : Nat) (a b : List Int),a.length + b.length ≤ k → a.Pairwise (· ≤ ·) → b.Pairwise (· ≤ ·) → (mrgF ltZ k a b).Pairwise (· ≤ ·)
 | 0,a,b,h,ha,hb=>by
  have h1 : a = []:=List.eq_nil_of_length_eq_zero (by omega)
  subst h1; simpa [mrgF] using hb
 | k + 1,[],b,h,ha,hb=>by simpa [mrgF] using hb
 | k + 1,y :: a,[],h,ha,hb=>by simpa [mrgF] using ha
 | k + 1,y :: a,z :: b,h,ha,hb=>by
  simp only [mrgF]
  obtain ⟨a1,a2⟩:=List.pairwise_cons.1 ha
  obtain ⟨b1,b2⟩:=List.pairwise_cons.1 hb
  simp only [List.length_cons] at h
  split
  ·rename_i hlt
   have hzy : z < y:=of_decide_eq_true hlt
   refine List.pairwise_cons.2 ⟨fun x hx=>?_,mrgF_srt k (y :: a) b (by simp only [List.length_cons]; omega) ha b2⟩
   rcases mrgF_mem k _ _ _ hx with hx | hx
   ·rcases List.mem_cons.1 hx with rfl | hx
    ·omega
    ·have:=a1 x hx; omega
   ·exact b1 x hx
  ·rename_i hlt
   have hzy : ¬ z < y:=fun h=>hlt (decide_eq_true h)
   refine List.pairwise_cons.2 ⟨fun x hx=>?_,mrgF_srt k a (z :: b) (by simp only [List.length_cons]; omega) a2 hb⟩
   rcases mrgF_mem k _ _ _ hx with hx | hx
   ·exact a1 x hx
   ·rcases List.mem_cons.1 hx with rfl | hx
    ·omega
    ·have:=b1 x hx; omega
theorem mrg_srt {a b : List Int} (ha : Srt a) (hb : Srt b) : Srt (mrg ltZ a b):=srt_pair.2 (mrgF_srt _ _ _ (Nat.le_refl _) (srt_pair.1 ha) (srt_pair.1 hb))
theorem run_inv {κ : Int → Int} {b : Pn → Bool} (hb : ∀ q : Pn,b q = decide (κ q.i < κ q.j)) : ∀ (k : Nat) (p : Pn) (c : Nat),Inv κ p c → (p.on → p.asks) → p.nu ≤ k → ∃ c',Inv κ (runP b k p) c' ∧ ¬ (runP b k p).on ∧ (runP b k p).o.length = p.o.length
 | 0,p,c,h,ha,hk=>by
  by_cases ho : p.on
  ·have:=tell_nu h.ok ho (ha ho) true; omega
  ·exact ⟨c,h,ho,rfl⟩
 | k + 1,p,c,h,ha,hk=>by
  simp only [runP]
  split
  ·rename_i ho
   have h2:=h.tell ho (ha ho)
   rw [← hb p] at h2
   have hn:=tell_nu h.ok ho (ha ho) (b p)
   obtain ⟨g1,g2,g3⟩:=tellP_ok h.ok ha (b p)
   obtain ⟨c',g4,g5,g6⟩:=run_inv hb k _ _ h2 g2 (by omega)
   exact ⟨c',g4,g5,g6.trans g3⟩
  ·rename_i ho; exact ⟨c,h,ho,rfl⟩
theorem sorted_srt (l : List Int) (h : l.length ≤ 1000) : (permL l (runAll (byL ltZ l) (settle (startP l.length))).o).length = l.length ∧ Srt (permL l (runAll (byL ltZ l) (settle (startP l.length))).o):=by
 obtain ⟨s1,s2,s3⟩:=settle_facts (startP_ok h)
 have s4 : (startP l.length).o.length = l.length:=by simp [startP]
 obtain ⟨c,g1,g2,g3⟩:=run_inv (κ:=fun i=>l.getD i.toNat 0) (b:=byL ltZ l) (fun q=>rfl) _ (settle (startP l.length)) 0 (startP_inv h) s2 (Nat.le_refl _)
 obtain ⟨g4,_⟩:=g1.done g2
 unfold runAll
 generalize (runP (byL ltZ l) (settle (startP l.length)).nu (settle (startP l.length))).o = o at *
 refine ⟨by rw [permL_len,g3,s3,s4],fun i j hij hj=>?_⟩
 rw [permL_len] at hj
 rw [permL_at _ _ _ (by omega),permL_at _ _ _ hj,getD_eq o i (by omega),getD_eq o j hj]
 have:=(List.pairwise_iff_getElem.1 g4) i j (by omega) hj hij
 unfold Bef at this
 simp only at this
 omega
def sortCT : CT:=mkCT [.inl (some (.ints .i64 []))] false fun l K=>match l with
 | [.inl (.ints .i64 l),.inl (.a v)]=>(v = .func (.func 29) #[] #[] ∧ l.length ≤ 1000) ∧ ∀ a : List Int,a.length = l.length → Srt a → K (.t [.inl (.ints .i64 a),.inr [.i .i64 0,.i .i64 0]])
 | _=>False
def oj2 : Cfg:=addT 21 sortCT cf0
theorem oj2_ok : TblOk Try.prog oj2:=q_I cf0_ok Try.func21 fun l K h=>by
 split at h
 ·rename_i l v
  obtain ⟨⟨rfl,hl⟩,h⟩:=h
  obtain ⟨s1,s2⟩:=sorted_srt l hl
  exact ⟨_,sort_ret (fun q=>∃ c,Inv (fun i=>l.getD i.toNat 0) q c) l hl ⟨0,startP_inv hl⟩ (fun q ⟨c,hq⟩ _ ho ha=>⟨c + 1,hq.tell ho ha⟩) (fun q ⟨c,hq⟩=>hq.pr),h _ s1 s2⟩
 ·exact h.elim
def searchCT : CT:=mkCT [.inl (some (.ints .i64 []))] true fun l K=>match l with
 | [.inl (.ints .i64 l),.inl (.i .i64 x),.inl (.a v),.inl (.b beh)]=>(v = .func (.func 29) #[] #[] ∧ l.length ≤ 17592186044416) ∧ K (.c (.i .i64 (srch ltZ beh l x 0 l.length : Nat)))
 | _=>False
def oj3 : Cfg:=addT 25 searchCT cf0
theorem oj3_ok : TblOk Try.prog oj3:=q_I cf0_ok Try.func25 fun l K h=>by
 split at h
 ·rename_i l x v beh
  obtain ⟨⟨rfl,hl⟩,h⟩:=h
  exact ⟨_,(search_I l x beh hl).plain rfl,h⟩
 ·exact h.elim
def mergeCT : CT:=mkCT [.inl (some (.ints .i64 [])),.inl (some (.ints .i64 []))] false fun l K=>match l with
 | [.inl (.ints .i64 a),.inl (.ints .i64 b),.inl (.a v)]=>(v = .func (.func 29) #[] #[] ∧ a.length + b.length ≤ 17592186044416) ∧ K (.c (.ints .i64 (mrg ltZ a b)))
 | _=>False
def oj4 : Cfg:=addT 24 mergeCT cf0
theorem oj4_ok : TblOk Try.prog oj4:=q_I cf0_ok Try.func24 fun l K h=>by
 split at h
 ·rename_i a b v
  obtain ⟨⟨rfl,hl⟩,h⟩:=h
  exact ⟨_,merge_I a b hl,h⟩
 ·exact h.elim
def brokenCT : CT:=mkCT [.inl (some (.ints .i64 []))] true fun l K=>match l with
 | [.inl (.ints .i64 l),.inl (.a v)]=>(v = .func (.func 29) #[] #[] ∧ l.length ≤ 17592186044416) ∧ K (.c (.i .i64 (brkF ltZ l 1 (l.length - 1))))
 | _=>False
def oj5 : Cfg:=addT 26 brokenCT cf0
theorem oj5_ok : TblOk Try.prog oj5:=q_I cf0_ok Try.func26 fun l K h=>by
 split at h
 ·rename_i l v
  obtain ⟨⟨rfl,hl⟩,h⟩:=h
  exact ⟨_,(broken_I l hl).plain rfl,h⟩
 ·exact h.elim
attribute [go_sem] sortCT searchCT mergeCT brokenCT
def okt : Cfg:=listT [(21,sortCT),(25,searchCT),(24,mergeCT),(26,brokenCT),(9,sortsCT)] [27]
theorem okt_ok : TblOk Try.prog okt:=listE_ok (by simp only [List.mem_singleton,forall_eq]; exact flt) ⟨⟨oj2,oj2_ok,rfl⟩,⟨oj3,oj3_ok,rfl⟩,⟨oj4,oj4_ok,rfl⟩,⟨oj5,oj5_ok,rfl⟩,⟨oc6,oc6_ok,rfl⟩,trivial⟩
attribute [go_sem] okt
set_option maxRecDepth 100000 in
set_option maxHeartbeats 6400000 in
theorem inserted_long (l m : List Int) (x : Int) (hl : l.length ≤ 17592186044416) (hm : m.length ≤ 17592186044416) (h : 1000 < l.length ∨ 1000 < m.length) : Ret Try.prog 7 false [.inl (.ints .i64 l),.inl (.ints .i64 m),.inl (.i .i64 x)] (.c (.b true)):=by
 (refine q_H Try.func7 (fun F=>?_); simp only [q_z,q_y,Try.ntmps7,Try.results7])
 repeat' (first|with_reducible refine q_0 ?_|((with_reducible first|refine q_q okt_ok fun K hK=>?_|refine q_r okt_ok fun K hK=>?_);simp (maxSteps:=2000000) only [go_sem,↓reduceIte,reduceCtorEq,Nat.reduceLeDiff,Nat.reduceLT,Nat.reduceBEq,Nat.reduceAdd];(repeat1' with_reducible first|apply And.intro|(intro _;try exact q_v)|(refine hK _ ?_;clear hK K))<;>(try (clear hK K;exact q_u)))|(with_reducible refine q_s ?_;(first|apply q_J|apply q_K|apply q_L|apply q_M|apply q_N|apply q_O)<;>try (intro _;try exact q_v)))
 all_goals first | omega | exact q_A rfl
set_option maxRecDepth 100000 in
set_option maxHeartbeats 6400000 in
theorem inserted_ok (l m : List Int) (x : Int) (hl : l.length ≤ 1000) (hm : m.length ≤ 1000) : Ret Try.prog 7 false [.inl (.ints .i64 l),.inl (.ints .i64 m),.inl (.i .i64 x)] (.c (.b true)):=by
 (refine q_H Try.func7 (fun F=>?_); simp only [q_z,q_y,Try.ntmps7,Try.results7])
 refine seq_cut5 (ι:={ q : List Int × List Int // (q.1.length = l.length ∧ Srt q.1) ∧ q.2.length = m.length ∧ Srt q.2 }) (fun q=>⟨158,[(0,.c (.ints .i64 l)),(1,.c (.ints .i64 m)),(2,.c (.i .i64 x)),(7,.c (.a (.func (.func 29) #[] #[]))),(8,.c (.ints .i64 q.1.1)),(9,.bx 0 0),(10,.c (.ints .i64 q.1.2)),(11,.bx 1 0)],
  ⟨[(1,[.c (.i .i64 0),.c (.i .i64 0)]),(0,[.c (.i .i64 0),.c (.i .i64 0)])],[],[]⟩,2⟩) (fun Y hY=>?_) ?_
 ·repeat' (first|with_reducible refine q_0 ?_|((with_reducible first|refine q_q okt_ok fun K hK=>?_|refine q_r okt_ok fun K hK=>?_);simp (maxSteps:=2000000) only [go_sem,↓reduceIte,reduceCtorEq,Nat.reduceLeDiff,Nat.reduceLT,Nat.reduceBEq,Nat.reduceAdd];(repeat1' with_reducible first|apply And.intro|(intro _;try exact q_v)|(refine hK _ ?_;clear hK K))<;>(try (clear hK K;exact q_u)))|(with_reducible refine q_s ?_;(first|apply q_J|apply q_K|apply q_L|apply q_M|apply q_N|apply q_O)<;>try (intro _;try exact q_v)))
  all_goals first | omega | skip
  all_goals
   rename_i a ha1 ha2 b hb1 hb2
   refine cut_fit hY ⟨(a,b),⟨ha1,ha2⟩,hb1,hb2⟩ ?_
   exact q_D
 ·rintro ⟨⟨a,b⟩,⟨ha1,ha2⟩,hb1,hb2⟩
  simp only at ha1 ha2 hb1 hb2 ⊢
  obtain ⟨l1,l2,l3⟩:=low_facts ha2 x
  obtain ⟨h1,h2,h3⟩:=high_facts ha2 x
  have lh:=low_high ha2 x
  have kb:=brk_all ha2
  have kc:=brk_all (mrg_srt ha2 hb2)
  have kl : (mrg ltZ a b).length = a.length + b.length:=mrg_len _ _ _
  generalize hlo : srch ltZ false a x 0 a.length = lo at *
  generalize hhi : srch ltZ true a x 0 a.length = hi at *
  generalize hc : mrg ltZ a b = c at *
  rw [kl] at kc
  repeat' (first|with_reducible refine q_0 ?_|((with_reducible first|refine q_q okt_ok fun K hK=>?_|refine q_r okt_ok fun K hK=>?_);simp (maxSteps:=2000000) only [go_sem,↓reduceIte,reduceCtorEq,Nat.reduceLeDiff,Nat.reduceLT,Nat.reduceBEq,Nat.reduceAdd,hlo,hhi,hc,kb,kc,kl];(repeat1' with_reducible first|apply And.intro|(intro _;try exact q_v)|(refine hK _ ?_;clear hK K))<;>(try (clear hK K;exact q_u)))|(with_reducible refine q_s ?_;(first|apply q_J|apply q_K|apply q_L|apply q_M|apply q_N|apply q_O)<;>try (intro _;try exact q_v)))
  all_goals first | omega | skip
  refine q_G (ι:={ i : Nat // i ≤ a.length }) (fun i=>⟨158,[(2,.c (.i .i64 x)),(8,.c (.ints .i64 a)),(12,.c (.i .i64 (lo : Nat))),(13,.c (.i .i64 (hi : Nat))),(15,.c (.i .i64 (i.1 : Nat)))],⟨[],[],[]⟩,2⟩) (fun i=>a.length - i.1) ⟨0,by omega⟩ ?_ ?_
  ·exact q_D
  rintro ⟨i,hi'⟩
  simp only at hi' ⊢
  rcases Nat.lt_or_ge i a.length with hk | hk
  ·have f1:=l2 i
   have f2:=fun h=>l3 i h hk
   have f3:=h2 i
   have f4:=fun h=>h3 i h hk
   clear hlo hhi hc kb kc
   repeat' (first|with_reducible refine q_0 ?_|((with_reducible first|refine q_q okt_ok fun K hK=>?_|refine q_r okt_ok fun K hK=>?_);simp (maxSteps:=2000000) only [go_sem,↓reduceIte,reduceCtorEq,Nat.reduceLeDiff,Nat.reduceLT,Nat.reduceBEq,Nat.reduceAdd];(repeat1' with_reducible first|apply And.intro|(intro _;try exact q_v)|(refine hK _ ?_;clear hK K))<;>(try (clear hK K;exact q_u)))|(with_reducible refine q_s ?_;(first|apply q_J|apply q_K|apply q_L|apply q_M|apply q_N|apply q_O)<;>try (intro _;try exact q_v)))
   all_goals first
   | omega
   | (refine q_F ⟨i + 1,hk⟩ ?_ (by simp only; omega); exact q_D)
   | skip
  ·repeat' (first|with_reducible refine q_0 ?_|((with_reducible first|refine q_q okt_ok fun K hK=>?_|refine q_r okt_ok fun K hK=>?_);simp (maxSteps:=2000000) only [go_sem,↓reduceIte,reduceCtorEq,Nat.reduceLeDiff,Nat.reduceLT,Nat.reduceBEq,Nat.reduceAdd];(repeat1' with_reducible first|apply And.intro|(intro _;try exact q_v)|(refine hK _ ?_;clear hK K))<;>(try (clear hK K;exact q_u)))|(with_reducible refine q_s ?_;(first|apply q_J|apply q_K|apply q_L|apply q_M|apply q_N|apply q_O)<;>try (intro _;try exact q_v)))
   all_goals first | omega | exact q_A rfl | skip
end Go.Proofs.Ytmcjojbffidlbaa
