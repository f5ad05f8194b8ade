import Derived.Test.YtmcjojbffidlbaaG4
namespace Go.Proofs.Ytmcjojbffidlbaa
set_option linter.unusedSimpArgs false
set_option linter.unusedVariables false
open Go.Abs Go.Proofs.NatL

section
variable {cf : Cfg} {st : St}
theorem fz_lookup {t : TypeId} {x i : Operand} {ok : Bool} : fzFor cf st (.lookup t x i ok) = st:=rfl
theorem fz_mapUpdate {t : TypeId} {x i y : Operand} : fzFor cf st (.mapUpdate t x i y) = st:=rfl
theorem fz_makeMap {t : TypeId} {r : Option Operand} : fzFor cf st (.makeMap t r) = st:=rfl
end
attribute [go_sem] fz_lookup fz_mapUpdate fz_makeMap
def ogb : Cfg:=listT [(30,atCT),(11,atCT)] [27]
theorem ogb_ok : TblOk Try.prog ogb:=listE_ok (by simp only [List.mem_singleton,forall_eq]; exact flt) ⟨⟨oa1,oa1_ok,rfl⟩,⟨oa2,oa2_ok,rfl⟩,trivial⟩
attribute [go_sem] ogb
theorem numbers_ret (xs ys : List Int) (hx : xs.length ≤ 17592186044416) (hy : ys.length ≤ 17592186044416) : Ret Try.prog 17 false [.inl (.ints .i64 xs),.inl (.ints .i64 ys)] (.c (.b (decide (xs = ys)))):=by
 (refine q_H Try.func17 (fun F=>?_); simp only [q_z,q_y,Try.ntmps17,Try.results17])
 repeat' (first|with_reducible refine q_0 ?_|((with_reducible first|refine q_q ogb_ok fun K hK=>?_|refine q_r ogb_ok fun K hK=>?_);simp (maxSteps:=2000000) only [go_sem,↓reduceIte,reduceCtorEq,Nat.reduceLeDiff,Nat.reduceLT,Nat.reduceBEq,Nat.reduceAdd];(repeat1' with_reducible first|apply And.intro|intro _|(refine hK _ ?_;clear hK K))<;>(try (clear hK K;exact q_u)))|(with_reducible refine q_s ?_;(first|apply q_J|apply q_K|apply q_L|apply q_M|apply q_N|apply q_O)<;>try intro _))
 ·rename_i hl
  exact q_A (by simp only [resAV,q_y]; rw [decide_eq_false (fun h=>hl (by rw [h]))])
 rename_i hl
 have hl : xs.length = ys.length:=by omega
 refine q_G (ι:={ i : Nat // i ≤ xs.length ∧ xs.take i = ys.take i }) (fun i=>⟨26,[(0,.c (.ints .i64 xs)),(1,.c (.ints .i64 ys)),(5,.c (.i .i64 i.1))],⟨[],[],[]⟩,0⟩) (fun i=>xs.length - i.1) ⟨0,by omega,by simp⟩ ?_ ?_
 ·exact q_D
 rintro ⟨i,h1,h2⟩
 simp only
 repeat' (first|with_reducible refine q_0 ?_|((with_reducible first|refine q_q ogb_ok fun K hK=>?_|refine q_r ogb_ok fun K hK=>?_);simp (maxSteps:=2000000) only [go_sem,↓reduceIte,reduceCtorEq,Nat.reduceLeDiff,Nat.reduceLT,Nat.reduceBEq,Nat.reduceAdd];(repeat1' with_reducible first|apply And.intro|intro _|(refine hK _ ?_;clear hK K))<;>(try (clear hK K;exact q_u)))|(with_reducible refine q_s ?_;(first|apply q_J|apply q_K|apply q_L|apply q_M|apply q_N|apply q_O)<;>try intro _))
 ·rename_i h3 hne
  exact q_A (by simp only [resAV,q_y]; rw [decide_eq_false (fun h=>hne (by rw [h]))])
 ·rename_i h3 he
  refine q_F ⟨i + 1,by omega,?_⟩ ?_ ?_
  ·rw [List.take_succ_eq_append_getElem (by omega),List.take_succ_eq_append_getElem (by omega),h2]
   have e : xs.getD i 0 = ys.getD i 0:=by omega
   rw [getD_eq xs i (by omega),getD_eq ys i (by omega)] at e
   rw [e]
  ·exact q_D
  ·show xs.length - (i + 1) < xs.length - i
   omega
 ·rename_i h3
  rw [List.take_of_length_le (by omega),List.take_of_length_le (by omega)] at h2
  exact q_A (by simp only [resAV,q_y]; rw [decide_eq_true h2])
def numbersCT : CT:=mkCT [.inl (some (.ints .i64 [])),.inl (some (.ints .i64 []))] true fun l K=>match l with
 | [.inl (.ints .i64 xs),.inl (.ints .i64 ys)]=>(xs.length ≤ 17592186044416 ∧ ys.length ≤ 17592186044416) ∧ K (.c (.b (decide (xs = ys))))
 | _=>False
def og2 : Cfg:=addT 17 numbersCT cf0
theorem og2_ok : TblOk Try.prog og2:=q_I cf0_ok Try.func17 fun l K h=>by
 split at h
 ·exact ⟨_,(numbers_ret _ _ h.1.1 h.1.2).plain rfl,h.2⟩
 ·exact h.elim
def seenF (ps : List Int) : Int → Option C:=fun x=>if x ∈ ps then some (.b true) else none
theorem seen_step (xs : List Int) (k : Nat) (hk : k < xs.length) (y : Int) : (if y = xs.getD k 0 then some (C.b true) else seenF (xs.take k) y) = seenF (xs.take (k + 1)) y:=by
 unfold seenF
 rw [List.take_succ_eq_append_getElem hk,getD_eq xs k hk]
 by_cases h : y = xs[k]
 ·subst h; rw [if_pos rfl,if_pos (List.mem_append.2 (.inr (List.mem_singleton.2 rfl)))]
 ·rw [if_neg h]
  by_cases h2 : y ∈ xs.take k
  ·rw [if_pos h2,if_pos (List.mem_append.2 (.inl h2))]
  ·rw [if_neg h2,if_neg (fun hm=>(List.mem_append.1 hm).elim h2 fun hm=>h (List.mem_singleton.1 hm))]
def invR (xs : List Int) : List (C ⊕ List C):=match badO xs with
 | some (c,k)=>[.inl (.ints .i64 []),.inr [.i .i64 c,.i .i64 (k : Nat)]]
 | none=>[.inl (.ints .i64 (invL xs xs.length)),.inr [.i .i64 0,.i .i64 0]]
theorem invR_bad {xs : List Int} {c : Int} {k : Nat} (h : badO xs = some (c,k)) : invR xs = [.inl (.ints .i64 []),.inr [.i .i64 c,.i .i64 (k : Nat)]]:=by unfold invR; rw [h]
theorem invR_ok {xs : List Int} (h : badO xs = none) : invR xs = [.inl (.ints .i64 (invL xs xs.length)),.inr [.i .i64 0,.i .i64 0]]:=by unfold invR; rw [h]
set_option maxRecDepth 100000 in
set_option maxHeartbeats 3200000 in
theorem inverse_ret (xs : List Int) (hx : xs.length ≤ 17592186044416) : Ret Try.prog 19 false [.inl (.ints .i64 xs)] (.t (invR xs)):=by
 (refine q_H Try.func19 (fun F=>?_); simp only [q_z,q_y,Try.ntmps19,Try.results19])
 repeat' (first|with_reducible refine q_0 ?_|((with_reducible first|refine q_q ogb_ok fun K hK=>?_|refine q_r ogb_ok fun K hK=>?_);simp (maxSteps:=2000000) only [go_sem,↓reduceIte,reduceCtorEq,Nat.reduceLeDiff,Nat.reduceLT,Nat.reduceBEq,Nat.reduceAdd];(repeat1' with_reducible first|apply And.intro|(intro _;try exact q_v)|(refine hK _ ?_;clear hK K))<;>(try (clear hK K;exact q_u)))|(with_reducible refine q_s ?_;(first|apply q_J|apply q_K|apply q_L|apply q_M|apply q_N|apply q_O)<;>try (intro _;try exact q_v)))
 all_goals try omega
 refine q_G (ι:={ k : Nat // k ≤ xs.length ∧ scanO xs k (xs.length - k) = badO xs }) (fun k=>⟨43,[(0,.c (.ints .i64 xs)),(3,.bx 0 0),(4,.own 1 0),(5,.mp 2),(12,.c (.ints .i64 xs)),(13,.c (.i .i64 xs.length)),(14,.c (.i .i64 (k.1 : Nat)))],⟨[(2,[.mc (.i .i64 (seenF (xs.take k.1)) k.1)]),(0,[.c (.i .i64 0),.c (.i .i64 0)])],[(1,⟨0,3,1,.ints .i64 (invL xs k.1)⟩)],[]⟩,3⟩) (fun k=>xs.length - k.1) ⟨0,by omega,rfl⟩ ?_ ?_
 ·((simp only [go_sem,↓reduceIte,reduceCtorEq,Nat.reduceLeDiff,Nat.reduceLT,Nat.reduceBEq,Nat.reduceAdd])<;>(try (simp;done))<;>(try ((simp only [C.i.injEq,C.b.injEq,C.ints.injEq,C.bools.injEq,List.append_cancel_left_eq,List.cons.injEq,true_and,and_true]);(repeat' with_reducible apply And.intro)<;>(first|rfl|assumption|omega|(simp;omega)|(congr 1;omega)|(congr 2;omega)))))
  all_goals first | rfl | exact ⟨rfl,fun x=>by simp [seenF],rfl⟩ | skip
 rintro ⟨k,k1,k2⟩
 simp only at k1 k2 ⊢
 have il:=invL_len xs k
 have zq:=zv4
 try simp only [zvO,oneCell,Value.oneCell'] at zq
 rcases Nat.lt_or_ge k xs.length with hk | hk
 ·by_cases ho : xs.getD k 0 < 0 ∨ (xs.length : Int) ≤ xs.getD k 0
  ·have hb:=scanO_out hk ho
   rw [k2] at hb
   have hr:=invR_bad hb
   rw [hr]
   repeat' (first|with_reducible refine q_0 ?_|((with_reducible first|refine q_q ogb_ok fun K hK=>?_|refine q_r ogb_ok fun K hK=>?_);simp (maxSteps:=2000000) only [go_sem,↓reduceIte,reduceCtorEq,Nat.reduceLeDiff,Nat.reduceLT,Nat.reduceBEq,Nat.reduceAdd,zq];(repeat1' with_reducible first|apply And.intro|(intro _;try exact q_v)|(refine hK _ ?_;clear hK K))<;>(try (clear hK K;exact q_u)))|(with_reducible refine q_s ?_;(first|apply q_J|apply q_K|apply q_L|apply q_M|apply q_N|apply q_O)<;>try (intro _;try exact q_v)))
   all_goals first | omega | exact q_B [.inl (some (.ints .i64 [])),.inr [none,none]] rfl rfl
  ·by_cases hm : xs.getD k 0 ∈ xs.take k
   ·have hb:=scanO_twice hk ho hm
    rw [k2] at hb
    have hr:=invR_bad hb
    rw [hr]
    have hs : seenF (xs.take k) (xs.getD k 0) = some (.b true):=if_pos hm
    repeat' (first|with_reducible refine q_0 ?_|((with_reducible first|refine q_q ogb_ok fun K hK=>?_|refine q_r ogb_ok fun K hK=>?_);simp (maxSteps:=2000000) only [go_sem,↓reduceIte,reduceCtorEq,Nat.reduceLeDiff,Nat.reduceLT,Nat.reduceBEq,Nat.reduceAdd,zq,hs];(repeat1' with_reducible first|apply And.intro|(intro _;try exact q_v)|(refine hK _ ?_;clear hK K))<;>(try (clear hK K;exact q_u)))|(with_reducible refine q_s ?_;(first|apply q_J|apply q_K|apply q_L|apply q_M|apply q_N|apply q_O)<;>try (intro _;try exact q_v)))
    all_goals first | omega | exact q_B [.inl (some (.ints .i64 [])),.inr [none,none]] rfl rfl
   ·have hn:=scanO_next hk ho hm
    have hs : seenF (xs.take k) (xs.getD k 0) = none:=if_neg hm
    repeat' (first|with_reducible refine q_0 ?_|((with_reducible first|refine q_q ogb_ok fun K hK=>?_|refine q_r ogb_ok fun K hK=>?_);simp (maxSteps:=2000000) only [go_sem,↓reduceIte,reduceCtorEq,Nat.reduceLeDiff,Nat.reduceLT,Nat.reduceBEq,Nat.reduceAdd,zq,hs,il];(repeat1' with_reducible first|apply And.intro|(intro _;try exact q_v)|(refine hK _ ?_;clear hK K))<;>(try (clear hK K;exact q_u)))|(with_reducible refine q_s ?_;(first|apply q_J|apply q_K|apply q_L|apply q_M|apply q_N|apply q_O)<;>try (intro _;try exact q_v)))
    all_goals try omega
    refine q_F ⟨k + 1,hk,hn.symm.trans k2⟩ ?_ (by simp only; omega)
    simp only [invL]
    ((simp only [go_sem,↓reduceIte,reduceCtorEq,Nat.reduceLeDiff,Nat.reduceLT,Nat.reduceBEq,Nat.reduceAdd])<;>(try (simp;done))<;>(try ((simp only [C.i.injEq,C.b.injEq,C.ints.injEq,C.bools.injEq,List.append_cancel_left_eq,List.cons.injEq,true_and,and_true]);(repeat' with_reducible apply And.intro)<;>(first|rfl|assumption|omega|(simp;omega)|(congr 1;omega)|(congr 2;omega)))))
    all_goals first | rfl | exact ⟨by simp,fun x=>seen_step xs k hk x⟩ | skip
 ·have hk' : k = xs.length:=by omega
  subst hk'
  rw [Nat.sub_self] at k2
  have hr:=invR_ok k2.symm
  rw [hr]
  repeat' (first|with_reducible refine q_0 ?_|((with_reducible first|refine q_q ogb_ok fun K hK=>?_|refine q_r ogb_ok fun K hK=>?_);simp (maxSteps:=2000000) only [go_sem,↓reduceIte,reduceCtorEq,Nat.reduceLeDiff,Nat.reduceLT,Nat.reduceBEq,Nat.reduceAdd,zq];(repeat1' with_reducible first|apply And.intro|(intro _;try exact q_v)|(refine hK _ ?_;clear hK K))<;>(try (clear hK K;exact q_u)))|(with_reducible refine q_s ?_;(first|apply q_J|apply q_K|apply q_L|apply q_M|apply q_N|apply q_O)<;>try (intro _;try exact q_v)))
  all_goals first | omega | exact q_B [.inl (some (.ints .i64 [])),.inr [none,none]] rfl rfl | exact q_A rfl
def bC (xs : List Int) : Int:=match badO xs with | some (c,_)=>c | none=>0
def bK (xs : List Int) : Int:=match badO xs with | some (_,k)=>(k : Int) | none=>0
theorem bC_some {xs : List Int} {c : Int} {k : Nat} (h : badO xs = some (c,k)) : bC xs = c ∧ bK xs = (k : Int):=by unfold bC bK; rw [h]; exact ⟨rfl,rfl⟩
theorem bC_ne {xs : List Int} (h : badO xs ≠ none) : bC xs = 4 ∨ bC xs = 8:=by
 cases hb : badO xs with
 | none=>exact absurd hb h
 | some p=>obtain ⟨c,k⟩:=p; rw [(bC_some hb).1]; exact (scanO_some _ _ hb).1
def inverseCT : CT:=mkCT [.inl (some (.ints .i64 []))] false fun l K=>match l with
 | [.inl (.ints .i64 xs)]=>xs.length ≤ 17592186044416 ∧ (badO xs ≠ none → K (.t [.inl (.ints .i64 []),.inr [.i .i64 (bC xs),.i .i64 (bK xs)]])) ∧ (badO xs = none → K (.t [.inl (.ints .i64 (invL xs xs.length)),.inr [.i .i64 0,.i .i64 0]]))
 | _=>False
def og3 : Cfg:=addT 19 inverseCT cf0
theorem og3_ok : TblOk Try.prog og3:=q_I cf0_ok Try.func19 fun l K h=>by
 split at h
 ·rename_i xs
  refine ⟨_,inverse_ret xs h.1,?_⟩
  cases hb : badO xs with
  | none=>rw [invR_ok hb]; exact h.2.2 hb
  | some p=>obtain ⟨c,k⟩:=p; rw [invR_bad hb,← (bC_some hb).1,← (bC_some hb).2]; exact h.2.1 (by rw [hb]; simp)
 ·exact h.elim
attribute [go_sem] numbersCT inverseCT
def ogd : Cfg:=listT [(30,atCT),(19,inverseCT)] [27]
theorem ogd_ok : TblOk Try.prog ogd:=listE_ok (by simp only [List.mem_singleton,forall_eq]; exact flt) ⟨⟨oa1,oa1_ok,rfl⟩,⟨og3,og3_ok,rfl⟩,trivial⟩
attribute [go_sem] ogd
set_option maxHeartbeats 1600000 in
theorem permute_len (l xs : List Int) (hl : l.length ≤ 17592186044416) (hx : xs.length ≤ 17592186044416) (hne : xs.length ≠ l.length) : Ret Try.prog 18 false [.inl (.ints .i64 l),.inl (.ints .i64 xs)] (.t [.inl (.ints .i64 []),.inr [.i .i64 9,.i .i64 (-2)]]):=by
 (refine q_H Try.func18 (fun F=>?_); simp only [q_z,q_y,Try.ntmps18,Try.results18])
 repeat' (first|with_reducible refine q_0 ?_|((with_reducible first|refine q_q ogd_ok fun K hK=>?_|refine q_r ogd_ok fun K hK=>?_);simp (maxSteps:=2000000) only [go_sem,↓reduceIte,reduceCtorEq,Nat.reduceLeDiff,Nat.reduceLT,Nat.reduceBEq,Nat.reduceAdd];(repeat1' with_reducible first|apply And.intro|(intro _;try exact q_v)|(refine hK _ ?_;clear hK K))<;>(try (clear hK K;exact q_u)))|(with_reducible refine q_s ?_;(first|apply q_J|apply q_K|apply q_L|apply q_M|apply q_N|apply q_O)<;>try (intro _;try exact q_v)))
 all_goals first | omega | exact q_B [.inl (some (.ints .i64 [])),.inr [none,none]] rfl rfl
set_option maxHeartbeats 1600000 in
theorem permute_bad (l xs : List Int) (hl : l.length ≤ 17592186044416) (hx : xs.length ≤ 17592186044416) (he : xs.length = l.length) (hb : badO xs ≠ none) : Ret Try.prog 18 false [.inl (.ints .i64 l),.inl (.ints .i64 xs)] (.t [.inl (.ints .i64 []),.inr [.i .i64 (bC xs),.i .i64 (bK xs)]]):=by
 have hc:=bC_ne hb
 (refine q_H Try.func18 (fun F=>?_); simp only [q_z,q_y,Try.ntmps18,Try.results18])
 repeat' (first|with_reducible refine q_0 ?_|((with_reducible first|refine q_q ogd_ok fun K hK=>?_|refine q_r ogd_ok fun K hK=>?_);simp (maxSteps:=2000000) only [go_sem,↓reduceIte,reduceCtorEq,Nat.reduceLeDiff,Nat.reduceLT,Nat.reduceBEq,Nat.reduceAdd];(repeat1' with_reducible first|apply And.intro|(intro _;try exact q_v)|(refine hK _ ?_;clear hK K))<;>(try (clear hK K;exact q_u)))|(with_reducible refine q_s ?_;(first|apply q_J|apply q_K|apply q_L|apply q_M|apply q_N|apply q_O)<;>try (intro _;try exact q_v)))
 all_goals first | omega | contradiction | exact q_B [.inl (some (.ints .i64 [])),.inr [none,none]] rfl rfl
set_option maxRecDepth 100000 in
set_option maxHeartbeats 3200000 in
theorem permute_ok (l xs : List Int) (hl : l.length ≤ 17592186044416) (hx : xs.length ≤ 17592186044416) (he : xs.length = l.length) (hb : badO xs = none) : Ret Try.prog 18 false [.inl (.ints .i64 l),.inl (.ints .i64 xs)] (.t [.inl (.ints .i64 (permL l xs)),.inr [.i .i64 0,.i .i64 0]]):=by
 have hg:=good_of hb
 (refine q_H Try.func18 (fun F=>?_); simp only [q_z,q_y,Try.ntmps18,Try.results18])
 repeat' (first|with_reducible refine q_0 ?_|((with_reducible first|refine q_q ogd_ok fun K hK=>?_|refine q_r ogd_ok fun K hK=>?_);simp (maxSteps:=2000000) only [go_sem,↓reduceIte,reduceCtorEq,Nat.reduceLeDiff,Nat.reduceLT,Nat.reduceBEq,Nat.reduceAdd];(repeat1' with_reducible first|apply And.intro|(intro _;try exact q_v)|(refine hK _ ?_;clear hK K))<;>(try (clear hK K;exact q_u)))|(with_reducible refine q_s ?_;(first|apply q_J|apply q_K|apply q_L|apply q_M|apply q_N|apply q_O)<;>try (intro _;try exact q_v)))
 all_goals first | omega | contradiction | skip
 refine q_G (ι:={ k : Nat // k ≤ xs.length }) (fun k=>⟨42,[(0,.c (.ints .i64 l)),(5,.bx 0 0),(8,.own 2 0),(26,.c (.ints .i64 xs)),(27,.c (.i .i64 xs.length)),(28,.c (.i .i64 (k.1 : Nat)))],⟨[(0,[.c (.i .i64 0),.c (.i .i64 0)])],[(2,⟨0,3,1,.ints .i64 (permL l (xs.take k.1))⟩)],[]⟩,3⟩) (fun k=>xs.length - k.1) ⟨0,by omega⟩ ?_ ?_
 ·exact q_D
 rintro ⟨k,k1⟩
 simp only at k1 ⊢
 rcases Nat.lt_or_ge k xs.length with hk | hk
 ·have hlo:=hg.lo k hk
  have hs : permL l (xs.take (k + 1)) = permL l (xs.take k) ++ [l.getD (xs.getD k 0).toNat 0]:=by
   rw [List.take_succ_eq_append_getElem hk,getD_eq xs k hk]; simp only [permL,List.map_append,List.map_cons,List.map_nil]
  have pl : (permL l (xs.take k)).length = k:=by rw [permL_len,List.length_take]; omega
  repeat' (first|with_reducible refine q_0 ?_|((with_reducible first|refine q_q ogd_ok fun K hK=>?_|refine q_r ogd_ok fun K hK=>?_);simp (maxSteps:=2000000) only [go_sem,↓reduceIte,reduceCtorEq,Nat.reduceLeDiff,Nat.reduceLT,Nat.reduceBEq,Nat.reduceAdd,pl];(repeat1' with_reducible first|apply And.intro|(intro _;try exact q_v)|(refine hK _ ?_;clear hK K))<;>(try (clear hK K;exact q_u)))|(with_reducible refine q_s ?_;(first|apply q_J|apply q_K|apply q_L|apply q_M|apply q_N|apply q_O)<;>try (intro _;try exact q_v)))
  all_goals try omega
  refine q_F ⟨k + 1,hk⟩ ?_ (by simp only; omega)
  simp only [hs]
  exact q_D
 ·have hk' : k = xs.length:=by omega
  subst hk'
  rw [List.take_length]
  repeat' (first|with_reducible refine q_0 ?_|((with_reducible first|refine q_q ogd_ok fun K hK=>?_|refine q_r ogd_ok fun K hK=>?_);simp (maxSteps:=2000000) only [go_sem,↓reduceIte,reduceCtorEq,Nat.reduceLeDiff,Nat.reduceLT,Nat.reduceBEq,Nat.reduceAdd];(repeat1' with_reducible first|apply And.intro|(intro _;try exact q_v)|(refine hK _ ?_;clear hK K))<;>(try (clear hK K;exact q_u)))|(with_reducible refine q_s ?_;(first|apply q_J|apply q_K|apply q_L|apply q_M|apply q_N|apply q_O)<;>try (intro _;try exact q_v)))
  all_goals first | omega | exact q_B [.inl (some (.ints .i64 [])),.inr [none,none]] rfl rfl | exact q_A rfl
def permuteCT : CT:=mkCT [.inl (some (.ints .i64 [])),.inl (some (.ints .i64 []))] false fun l K=>match l with
 | [.inl (.ints .i64 l),.inl (.ints .i64 xs)]=>(l.length ≤ 17592186044416 ∧ xs.length ≤ 17592186044416) ∧ (xs.length ≠ l.length → K (.t [.inl (.ints .i64 []),.inr [.i .i64 9,.i .i64 (-2)]])) ∧
   (xs.length = l.length → (badO xs ≠ none → K (.t [.inl (.ints .i64 []),.inr [.i .i64 (bC xs),.i .i64 (bK xs)]])) ∧ (badO xs = none → K (.t [.inl (.ints .i64 (permL l xs)),.inr [.i .i64 0,.i .i64 0]])))
 | _=>False
def og4 : Cfg:=addT 18 permuteCT cf0
theorem og4_ok : TblOk Try.prog og4:=q_I cf0_ok Try.func18 fun l K h=>by
 split at h
 ·rename_i l xs
  obtain ⟨⟨hl,hx⟩,h1,h2⟩:=h
  by_cases he : xs.length = l.length
  ·cases hb : badO xs with
   | none=>exact ⟨_,permute_ok l xs hl hx he hb,(h2 he).2 hb⟩
   | some p=>exact ⟨_,permute_bad l xs hl hx he (by rw [hb]; simp),(h2 he).1 (by rw [hb]; simp)⟩
  ·exact ⟨_,permute_len l xs hl hx he,h1 he⟩
 ·exact h.elim
attribute [go_sem] permuteCT
end Go.Proofs.Ytmcjojbffidlbaa

namespace Go.Proofs.Ytmcjojbffidlbaa
set_option linter.unusedSimpArgs false
set_option linter.unusedVariables false

def seg (o : List Int) (a b : Nat) : List Int:=(o.take b).drop a
def Bef (κ : Int → Int) (a b : Int) : Prop:=κ a < κ b ∨ (κ a = κ b ∧ a < b)
theorem seg_nil (o : List Int) {a b : Nat} (h : b ≤ a) : seg o a b = []:=List.drop_eq_nil_of_le (by rw [List.length_take]; omega)
theorem seg_cat (o : List Int) {a b c : Nat} (h1 : a ≤ b) (h2 : b ≤ c) : seg o a b ++ seg o b c = seg o a c:=by
 unfold seg
 apply List.ext_getElem?
 intro i
 simp only [List.getElem?_append,List.length_drop,List.length_take,List.getElem?_drop,List.getElem?_take]
 rcases Nat.lt_or_ge i (min b o.length - a) with h | h
 ·rw [if_pos h,if_pos (by omega),if_pos (by omega)]
 ·rw [if_neg (by omega)]
  by_cases hb : b ≤ o.length
  ·have e : b + (i - (min b o.length - a)) = a + i:=by omega
   rw [e]
  ·have e1 : o[b + (i - (min b o.length - a))]? = none:=List.getElem?_eq_none (by omega)
   have e2 : o[a + i]? = none:=List.getElem?_eq_none (by omega)
   rw [e1,e2]
   simp
theorem seg_head (o : List Int) {a b : Nat} (h1 : a < b) (h2 : b ≤ o.length) : seg o a b = o.getD a 0 :: seg o (a + 1) b:=by
 rw [← seg_cat o (show a ≤ a + 1 by omega) (show a + 1 ≤ b by omega)]
 have : seg o a (a + 1) = [o.getD a 0]:=by
  unfold seg
  rw [List.take_succ_eq_append_getElem (by omega),List.drop_append_of_le_length (by rw [List.length_take]; omega)]
  rw [List.drop_eq_nil_of_le (by rw [List.length_take]; omega)]
  simp [List.getD_eq_getElem?_getD,List.getElem?_eq_getElem (show a < o.length by omega)]
 rw [this]; rfl
theorem seg_all (o : List Int) : seg o 0 o.length = o:=by simp [seg]
theorem seg_pre (x y z : List Int) {a b : Nat} (h : b ≤ x.length) : seg (x ++ y ++ z) a b = seg x a b:=by
 unfold seg
 rw [List.append_assoc,List.take_append_of_le_length h]
theorem seg_mid (x y z : List Int) {a b : Nat} (ha : a = x.length) (hb : b = x.length + y.length) : seg (x ++ y ++ z) a b = y:=by
 unfold seg
 subst ha; subst hb
 rw [List.take_append_of_le_length (by simp),← List.length_append,List.take_length,List.drop_left]
theorem seg_post (x y z o : List Int) {a b e : Nat} (he : e = x.length + y.length) (hz : z = o.drop e) (hae : e ≤ a) : seg (x ++ y ++ z) a b = seg o a b:=by
 unfold seg
 subst hz
 apply List.ext_getElem?
 intro i
 simp only [List.getElem?_drop,List.getElem?_take]
 split
 ·rw [List.getElem?_append_right (by simp; omega),List.getElem?_drop]
  congr 1
  simp; omega
 ·rfl
theorem seg_take (o : List Int) {a b k : Nat} (h : b ≤ k) : seg (o.take k) a b = seg o a b:=by
 unfold seg; rw [List.take_take,Nat.min_eq_left h]
structure Block (κ : Int → Int) (o : List Int) (s e : Nat) : Prop where
 up : (seg o s e).Pairwise (Bef κ)
 inn : ∀ x ∈ seg o s e,(s : Int) ≤ x ∧ x < (e : Int)
theorem Block.cong {κ : Int → Int} {o o' : List Int} {s e : Nat} (h : Block κ o s e) (he : seg o' s e = seg o s e) : Block κ o' s e:=⟨by rw [he]; exact h.up,fun x hx=>h.inn x (by rwa [he] at hx)⟩
structure Inv (κ : Int → Int) (p : Pn) (c : Nat) : Prop where
 ok : p.Ok
 f0 : ¬ p.on → p.f = 0 ∧ p.l = 0 ∧ p.r = 0 ∧ p.m = []
 ff : ∃ q,p.f = q * (2 * p.w)
 aa : ∀ q,q * (2 * p.w) < p.f → Block κ p.o (q * (2 * p.w)) (min p.o.length (q * (2 * p.w) + 2 * p.w))
 bb : ∀ q,p.f ≤ q * p.w → q * p.w < p.o.length → Block κ p.o (q * p.w) (min p.o.length (q * p.w + p.w))
 ml : (p.m ++ seg p.o (p.f + p.l) p.mid).Pairwise (Bef κ)
 mr : (p.m ++ seg p.o (p.mid + p.r) p.en).Pairwise (Bef κ)
 pm : p.on → (p.m ++ (seg p.o (p.f + p.l) p.mid ++ seg p.o (p.mid + p.r) p.en)).Perm (seg p.o p.f p.en)
 pr : p.o.Perm ((List.range p.o.length).map fun i : Nat=>(i : Int))
 cc : ∃ k,p.w = 2 ^ k ∧ (k = 0 ∨ 2 ^ (k - 1) < p.o.length) ∧ c ≤ p.o.length * k + (p.f + p.l + p.r)
theorem Inv.start {κ : Int → Int} {o : List Int} {w f : Nat} {c : Nat} (ok : (Pn.mk o w f 0 0 []).Ok) (f0 : ¬ w < o.length → f = 0) (ff : ∃ q,f = q * (2 * w))
  (aa : ∀ q,q * (2 * w) < f → Block κ o (q * (2 * w)) (min o.length (q * (2 * w) + 2 * w))) (bb : ∀ q,f ≤ q * w → q * w < o.length → Block κ o (q * w) (min o.length (q * w + w)))
  (pr : o.Perm ((List.range o.length).map fun i : Nat=>(i : Int))) (cc : ∃ k,w = 2 ^ k ∧ (k = 0 ∨ 2 ^ (k - 1) < o.length) ∧ c ≤ o.length * k + f) : Inv κ ⟨o,w,f,0,0,[]⟩ c:=by
 obtain ⟨q,hq⟩:=ff
 have h1 : f = (2 * q) * w:=by rw [hq,Nat.mul_comm 2 w,← Nat.mul_assoc,Nat.mul_assoc q w 2,Nat.mul_comm w 2,← Nat.mul_assoc,Nat.mul_comm q 2]
 have h2 : f + w = (2 * q + 1) * w:=by rw [Nat.add_mul,← h1]; omega
 refine ⟨ok,fun h=>⟨f0 h,rfl,rfl,rfl⟩,⟨q,hq⟩,aa,bb,?_,?_,?_,pr,?_⟩
 ·show ([] ++ seg o (f + 0) (min o.length (f + w))).Pairwise (Bef κ)
  rw [List.nil_append,Nat.add_zero]
  by_cases hf : f < o.length
  ·have:=(bb (2 * q) (by omega) (by omega)).up
   rwa [← h1] at this
  ·rw [seg_nil _ (by omega)]; exact List.Pairwise.nil
 ·show ([] ++ seg o (min o.length (f + w) + 0) (min o.length (f + 2 * w))).Pairwise (Bef κ)
  rw [List.nil_append,Nat.add_zero]
  by_cases hf : f + w < o.length
  ·have:=(bb (2 * q + 1) (by omega) (by omega)).up
   rw [← h2] at this
   rwa [Nat.min_eq_right (by omega),show f + 2 * w = f + w + w by omega]
  ·rw [seg_nil _ (by omega)]; exact List.Pairwise.nil
 ·intro ho
  have:=Pn.facts ok ho
  simp only [Pn.mid,Pn.en] at this
  show ([] ++ (seg o (f + 0) (min o.length (f + w)) ++ seg o (min o.length (f + w) + 0) (min o.length (f + 2 * w)))).Perm (seg o f (min o.length (f + 2 * w)))
  rw [List.nil_append,Nat.add_zero,Nat.add_zero,seg_cat o (by omega) (by omega)]
 ·exact cc
theorem bef_trans {κ : Int → Int} {a b c : Int} (h1 : Bef κ a b) (h2 : Bef κ b c) : Bef κ a c:=by unfold Bef at *; omega
theorem put_perm {p : Pn} (h : p.Ok) (ho : p.on) (hp : p.mrg.Perm (seg p.o p.f p.en)) : p.put.Perm p.o:=by
 obtain ⟨h1,h2,h3,h4,h5,h6⟩:=Pn.facts h ho
 have e : p.o = p.o.take p.f ++ seg p.o p.f p.en ++ p.o.drop p.en:=by
  conv=>lhs; rw [← List.take_append_drop p.en p.o,← List.take_append_drop p.f (p.o.take p.en),List.take_take,Nat.min_eq_left (by omega)]
  rfl
 conv=>rhs; rw [e]
 exact (List.Perm.append_left _ hp).append_right _
theorem Inv.step {κ : Int → Int} {p : Pn} {c : Nat} (h : Inv κ p c) (ho : p.on) (ha : ¬ p.asks) : Inv κ p.step c:=by
 obtain ⟨h1,h2,h3,h4,h5,h6⟩:=Pn.facts h.ok ho
 have hlen:=Pn.put_len h.ok ho
 have hml:=Pn.mrg_len h.ok ho
 have hok:=Pn.step_ok h.ok ho
 have hw:=h.ok.w0
 have ho2 : p.w < p.o.length:=ho
 have ha2 : ¬ (p.f + p.l < p.mid ∧ p.mid + p.r < p.en):=ha
 have hmm : p.mrg = p.m ++ (seg p.o (p.f + p.l) p.mid ++ seg p.o (p.mid + p.r) p.en):=rfl
 have hup : p.mrg.Pairwise (Bef κ):=by
  rw [hmm]
  by_cases hl : p.mid ≤ p.f + p.l
  ·rw [seg_nil _ hl,List.nil_append]; exact h.mr
  ·rw [seg_nil p.o (show p.en ≤ p.mid + p.r by omega),List.append_nil]; exact h.ml
 have hpm : p.mrg.Perm (seg p.o p.f p.en):=by rw [hmm]; exact h.pm ho
 obtain ⟨q,hq⟩:=h.ff
 have e1 : p.f = (2 * q) * p.w:=by rw [hq,Nat.mul_comm 2 p.w,← Nat.mul_assoc,Nat.mul_assoc q p.w 2,Nat.mul_comm p.w 2,← Nat.mul_assoc,Nat.mul_comm q 2]
 have e2 : p.f + p.w = (2 * q + 1) * p.w:=by rw [Nat.add_mul,← e1]; omega
 have hin : ∀ x ∈ seg p.o p.f p.en,(p.f : Int) ≤ x ∧ x < (p.en : Int):=by
  intro x hx
  rw [← seg_cat p.o (show p.f ≤ p.mid by omega) h2] at hx
  rcases List.mem_append.1 hx with hx | hx
  ·have hb:=h.bb (2 * q) (by omega) (by omega)
   rw [← e1] at hb
   have:=hb.inn x hx
   simp only [Pn.mid,Pn.en] at *
   omega
  ·by_cases hm : p.f + p.w < p.o.length
   ·have hb:=h.bb (2 * q + 1) (by omega) (by omega)
    rw [← e2] at hb
    have em : p.mid = p.f + p.w:=by simp only [Pn.mid]; omega
    have ee : p.en = min p.o.length (p.f + p.w + p.w):=by simp only [Pn.en]; congr 1; omega
    rw [em,ee] at hx
    have:=hb.inn x hx
    omega
   ·have em : p.en ≤ p.mid:=by simp only [Pn.mid,Pn.en]; omega
    rw [seg_nil _ em] at hx
    cases hx
 have lx : (p.o.take p.f).length = p.f:=by rw [List.length_take]; omega
 have hmid : seg p.put p.f p.en = p.mrg:=seg_mid _ _ _ lx.symm (by rw [lx,hml]; omega)
 have hpre : ∀ a b,b ≤ p.f → seg p.put a b = seg p.o a b:=fun a b hb=>by
  show seg (p.o.take p.f ++ p.mrg ++ p.o.drop p.en) a b = _
  rw [seg_pre _ _ _ (by rw [lx]; exact hb),seg_take _ hb]
 have hpost : ∀ a b,p.en ≤ a → seg p.put a b = seg p.o a b:=fun a b hb=>seg_post _ _ _ _ (e:=p.en) (by rw [lx,hml]; omega) rfl hb
 have hnew : Block κ p.put p.f p.en:=⟨by rw [hmid]; exact hup,fun x hx=>hin x (hpm.mem_iff.1 (by rwa [hmid] at hx))⟩
 have hpr : p.put.Perm ((List.range p.put.length).map fun i : Nat=>(i : Int)):=by rw [hlen]; exact (put_perm h.ok ho hpm).trans h.pr
 -- all merged runs
 have hA : ∀ q',q' * (2 * p.w) < p.en → Block κ p.put (q' * (2 * p.w)) (min p.put.length (q' * (2 * p.w) + 2 * p.w)):=by
  intro q' hq'
  rw [hlen]
  have hen : p.en = min p.o.length (p.f + 2 * p.w):=rfl
  rcases Nat.lt_trichotomy q' q with hlt | heq | hgt
  ·have hle : (q' + 1) * (2 * p.w) ≤ q * (2 * p.w):=Nat.mul_le_mul_right _ hlt
   rw [Nat.add_mul,Nat.one_mul] at hle
   exact (h.aa q' (by omega)).cong (hpre _ _ (by omega))
  ·subst heq
   rw [← hq,← hen]; exact hnew
  ·have hle : (q + 1) * (2 * p.w) ≤ q' * (2 * p.w):=Nat.mul_le_mul_right _ hgt
   rw [Nat.add_mul,Nat.one_mul] at hle
   omega
 obtain ⟨k,hk1,hk2,hk3⟩:=h.cc
 have hrest : p.f + p.l + p.r ≤ p.en:=by omega
 unfold Pn.step at hok ⊢
 by_cases hc : p.o.length ≤ p.en
 ·rw [if_pos hc] at hok ⊢
  refine Inv.start hok (fun _=>rfl) ⟨0,by simp⟩ (fun q' hq'=>by omega) (fun q' _ hq'=>?_) hpr ⟨k + 1,by rw [hk1,Nat.pow_succ]; omega,.inr (by rw [hlen,Nat.add_sub_cancel,← hk1]; exact ho2),?_⟩
  ·rw [hlen] at hq'
   have:=hA q' (by omega)
   exact this
  ·rw [hlen,Nat.mul_add,Nat.mul_one]; omega
 ·rw [if_neg hc] at hok ⊢
  have een : p.en = p.f + 2 * p.w:=by
   have : p.en = min p.o.length (p.f + 2 * p.w):=rfl
   omega
  refine Inv.start hok (fun hno=>absurd (by rw [hlen]; exact ho2) hno) ⟨q + 1,by rw [een,Nat.add_mul,Nat.one_mul,← hq]⟩ hA (fun q' h7 h8=>?_) hpr ⟨k,hk1,by rw [hlen]; exact hk2,by rw [hlen]; omega⟩
  rw [hlen] at h8 ⊢
  exact (h.bb q' (by omega) h8).cong (hpost _ _ h7)
theorem Inv.settleF {κ : Int → Int} {c : Nat} : ∀ (k : Nat) {p : Pn},Inv κ p c → Inv κ (settleF k p) c
 | 0,p,h=>h
 | k + 1,p,h=>by
  simp only [Go.Proofs.Ytmcjojbffidlbaa.settleF]
  split
  ·rename_i hc; exact Inv.settleF k (h.step hc.1 hc.2)
  ·exact h
theorem Inv.settle {κ : Int → Int} {c : Nat} {p : Pn} (h : Inv κ p c) : Inv κ (settle p) c:=Inv.settleF _ h
theorem pair_snoc {R : Int → Int → Prop} {m l : List Int} {x : Int} (h1 : (m ++ x :: l).Pairwise R) : (m ++ [x] ++ l).Pairwise R:=by rw [List.append_assoc]; exact h1
theorem Inv.told {κ : Int → Int} {p : Pn} {c : Nat} (h : Inv κ p c) (ho : p.on) (ha : p.asks) : Inv κ (p.told (decide (κ p.i < κ p.j))) (c + 1):=by
 obtain ⟨h1,h2,h3,h4,h5,h6⟩:=Pn.facts h.ok ho
 obtain ⟨a1,a2⟩:=ha
 have hok:=told_ok h.ok ho ⟨a1,a2⟩ (decide (κ p.i < κ p.j))
 have eL : seg p.o (p.f + p.l) p.mid = p.j :: seg p.o (p.f + p.l + 1) p.mid:=seg_head _ a1 (by omega)
 have eR : seg p.o (p.mid + p.r) p.en = p.i :: seg p.o (p.mid + p.r + 1) p.en:=seg_head _ a2 h3
 have hml:=h.ml
 have hmr:=h.mr
 have hpm:=h.pm ho
 rw [eL] at hml hpm
 rw [eR] at hmr hpm
 obtain ⟨ml1,ml2,ml3⟩:=List.pairwise_append.1 hml
 obtain ⟨mr1,mr2,mr3⟩:=List.pairwise_append.1 hmr
 obtain ⟨j1,j2⟩:=List.pairwise_cons.1 ml2
 obtain ⟨i1,i2⟩:=List.pairwise_cons.1 mr2
 obtain ⟨q,hq⟩:=h.ff
 have e1 : p.f = (2 * q) * p.w:=by rw [hq,Nat.mul_comm 2 p.w,← Nat.mul_assoc,Nat.mul_assoc q p.w 2,Nat.mul_comm p.w 2,← Nat.mul_assoc,Nat.mul_comm q 2]
 have e2 : p.f + p.w = (2 * q + 1) * p.w:=by rw [Nat.add_mul,← e1]; omega
 have mem_seg : ∀ (a b k : Nat),a ≤ k → k < b → b ≤ p.o.length → p.o.getD k 0 ∈ seg p.o a b:=fun a b k hak hkb hb=>by
  rw [← seg_cat p.o hak (Nat.le_of_lt hkb),seg_head p.o hkb hb]; simp
 have hj : p.j < (p.mid : Int):=by
  have hb:=h.bb (2 * q) (by omega) (by omega)
  rw [← e1] at hb
  exact (hb.inn p.j (mem_seg p.f p.mid (p.f + p.l) (by omega) a1 (by omega))).2
 have hwm : p.f + p.w < p.o.length:=by simp only [Pn.mid,Pn.en] at *; omega
 have emid : p.mid = p.f + p.w:=by simp only [Pn.mid]; omega
 have hRall : ∀ y ∈ p.i :: seg p.o (p.mid + p.r + 1) p.en,(p.mid : Int) ≤ y:=by
  intro y hy
  rw [← eR] at hy
  have hb:=h.bb (2 * q + 1) (by omega) (by omega)
  rw [← e2,← emid] at hb
  have een : min p.o.length (p.mid + p.w) = p.en:=by simp only [Pn.en]; rw [emid]; congr 1; omega
  rw [een] at hb
  refine (hb.inn y ?_).1
  rw [← seg_cat p.o (show p.mid ≤ p.mid + p.r by omega) h6]
  exact List.mem_append.2 (.inr hy)
 obtain ⟨k,hk1,hk2,hk3⟩:=h.cc
 by_cases hb : κ p.i < κ p.j
 ·rw [decide_eq_true hb] at hok ⊢
  have et : p.told true = ⟨p.o,p.w,p.f,p.l,p.r + 1,p.m ++ [p.i]⟩:=rfl
  rw [et] at hok ⊢
  refine ⟨hok,fun hno=>absurd ho hno,⟨q,hq⟩,h.aa,h.bb,?_,?_,fun _=>?_,h.pr,⟨k,hk1,hk2,by simp only; omega⟩⟩
  ·show (p.m ++ [p.i] ++ seg p.o (p.f + p.l) p.mid).Pairwise (Bef κ)
   rw [eL,List.append_assoc]
   refine List.pairwise_append.2 ⟨mr1,?_,?_⟩
   ·refine List.pairwise_cons.2 ⟨fun y hy=>?_,ml2⟩
    rcases List.mem_cons.1 hy with rfl | hy
    ·exact .inl hb
    ·exact bef_trans (.inl hb) (j1 y hy)
   ·intro a ha' b hb'
    rcases List.mem_cons.1 hb' with rfl | hb'
    ·exact mr3 a ha' _ (List.mem_cons_self ..)
    ·exact ml3 a ha' b hb'
  ·show (p.m ++ [p.i] ++ seg p.o (p.mid + (p.r + 1)) p.en).Pairwise (Bef κ)
   exact pair_snoc hmr
  ·show (p.m ++ [p.i] ++ (seg p.o (p.f + p.l) p.mid ++ seg p.o (p.mid + (p.r + 1)) p.en)).Perm (seg p.o p.f p.en)
   refine List.Perm.trans ?_ hpm
   rw [eL,List.append_assoc]
   refine List.Perm.append_left _ ?_
   rw [show p.mid + (p.r + 1) = p.mid + p.r + 1 by omega]
   exact (List.perm_middle (a:=p.i) (l₁:=p.j :: seg p.o (p.f + p.l + 1) p.mid) (l₂:=seg p.o (p.mid + p.r + 1) p.en)).symm
 ·rw [decide_eq_false hb] at hok ⊢
  have et : p.told false = ⟨p.o,p.w,p.f,p.l + 1,p.r,p.m ++ [p.j]⟩:=rfl
  rw [et] at hok ⊢
  refine ⟨hok,fun hno=>absurd ho hno,⟨q,hq⟩,h.aa,h.bb,?_,?_,fun _=>?_,h.pr,⟨k,hk1,hk2,by simp only; omega⟩⟩
  ·show (p.m ++ [p.j] ++ seg p.o (p.f + (p.l + 1)) p.mid).Pairwise (Bef κ)
   exact pair_snoc hml
  ·show (p.m ++ [p.j] ++ seg p.o (p.mid + p.r) p.en).Pairwise (Bef κ)
   rw [eR,List.append_assoc]
   refine List.pairwise_append.2 ⟨ml1,?_,?_⟩
   ·refine List.pairwise_cons.2 ⟨fun y hy=>?_,mr2⟩
    have hy2:=hRall y hy
    have hle : κ p.i ≤ κ y:=by
     rcases List.mem_cons.1 hy with rfl | hy
     ·exact Int.le_refl _
     ·have:=i1 y hy; unfold Bef at this; omega
    unfold Bef; omega
   ·intro a ha' b hb'
    rcases List.mem_cons.1 hb' with rfl | hb'
    ·exact ml3 a ha' _ (List.mem_cons_self ..)
    ·exact mr3 a ha' b hb'
  ·show (p.m ++ [p.j] ++ (seg p.o (p.f + (p.l + 1)) p.mid ++ seg p.o (p.mid + p.r) p.en)).Perm (seg p.o p.f p.en)
   refine List.Perm.trans ?_ hpm
   rw [eR,List.append_assoc]
   exact List.Perm.refl _
theorem Inv.tell {κ : Int → Int} {p : Pn} {c : Nat} (h : Inv κ p c) (ho : p.on) (ha : p.asks) : Inv κ (tellP p (decide (κ p.i < κ p.j))) (c + 1):=by
 unfold tellP
 rw [if_pos ho]
 exact (h.told ho ha).settle
theorem Inv.done {κ : Int → Int} {p : Pn} {c : Nat} (h : Inv κ p c) (ho : ¬ p.on) : p.o.Pairwise (Bef κ) ∧ ∃ k,(k = 0 ∨ 2 ^ (k - 1) < p.o.length) ∧ c ≤ p.o.length * k:=by
 obtain ⟨e1,e2,e3,e4⟩:=h.f0 ho
 obtain ⟨k,hk1,hk2,hk3⟩:=h.cc
 have ho2 : ¬ p.w < p.o.length:=ho
 refine ⟨?_,k,hk2,by omega⟩
 by_cases hn : p.o.length = 0
 ·rw [List.eq_nil_of_length_eq_zero hn]; exact List.Pairwise.nil
 ·have:=(h.bb 0 (by omega) (by omega)).up
  rw [Nat.zero_mul,Nat.zero_add,Nat.min_eq_left (by omega),seg_all] at this
  exact this
def Pn.nu (p : Pn) : Nat:=(2 * p.o.length - p.w) * (p.o.length + 1) + (p.o.length - (p.f + p.l + p.r))
theorem Pn.step_nu {p : Pn} (h : p.Ok) (ho : p.on) : p.step.nu ≤ p.nu:=by
 obtain ⟨h1,h2,h3,h4,h5,h6⟩:=Pn.facts h ho
 have hl:=Pn.put_len h ho
 have hw:=h.w0
 have ho2 : p.w < p.o.length:=ho
 unfold Pn.step Pn.nu
 split
 ·simp only [hl]
  obtain ⟨d,hd⟩ : ∃ d,2 * p.o.length - p.w = d:=⟨_,rfl⟩
  obtain ⟨e,he⟩ : ∃ e,2 * p.o.length - 2 * p.w = e:=⟨_,rfl⟩
  have hde : e + 1 ≤ d:=by omega
  have:=Nat.mul_le_mul_right (p.o.length + 1) hde
  rw [Nat.add_mul] at this
  rw [hd,he]
  omega
 ·simp only [hl]
  omega
theorem settleF_nu : ∀ (k : Nat) {p : Pn},p.Ok → (settleF k p).nu ≤ p.nu
 | 0,p,h=>Nat.le_refl _
 | k + 1,p,h=>by
  simp only [settleF]
  split
  ·rename_i hc; exact Nat.le_trans (settleF_nu k (Pn.step_ok h hc.1)) (Pn.step_nu h hc.1)
  ·exact Nat.le_refl _
theorem tell_nu {p : Pn} (h : p.Ok) (ho : p.on) (ha : p.asks) (b : Bool) : (tellP p b).nu < p.nu:=by
 obtain ⟨h1,h2,h3,h4,h5,h6⟩:=Pn.facts h ho
 obtain ⟨a1,a2⟩:=ha
 unfold tellP
 rw [if_pos ho]
 refine Nat.lt_of_le_of_lt (settleF_nu _ (told_ok h ho ⟨a1,a2⟩ b)) ?_
 unfold Pn.told Pn.nu
 cases b
 ·simp only [Bool.false_eq_true,if_false]; omega
 ·simp only [if_true]; omega
end Go.Proofs.Ytmcjojbffidlbaa

namespace Go.Proofs.Ytmcjojbffidlbaa
set_option linter.unusedSimpArgs false
set_option linter.unusedVariables false
open Go.Abs Go.Proofs.NatL

def runP (b : Pn → Bool) : Nat → Pn → Pn
 | 0,p=>p
 | k + 1,p=>if p.on then runP b k (tellP p (b p)) else p
def runAll (b : Pn → Bool) (p : Pn) : Pn:=runP b p.nu p
theorem runP_off {b : Pn → Bool} {p : Pn} (h : ¬ p.on) : ∀ k,runP b k p = p
 | 0=>rfl
 | k + 1=>by simp only [runP]; rw [if_neg h]
theorem runP_more {b : Pn → Bool} : ∀ (k j : Nat) (p : Pn),p.Ok → (p.on → p.asks) → p.nu ≤ k → p.nu ≤ j → runP b k p = runP b j p
 | 0,j,p,h,ha,h1,h2=>by
  by_cases ho : p.on
  ·have:=tell_nu h ho (ha ho) (b p); omega
  ·rw [runP_off ho,runP_off ho]
 | k + 1,0,p,h,ha,h1,h2=>by
  by_cases ho : p.on
  ·have:=tell_nu h ho (ha ho) (b p); omega
  ·rw [runP_off ho,runP_off ho]
 | k + 1,j + 1,p,h,ha,h1,h2=>by
  simp only [runP]
  split
  ·rename_i ho
   have:=tell_nu h ho (ha ho) (b p)
   obtain ⟨g1,g2,g3⟩:=tellP_ok h ha (b p)
   exact runP_more k j _ g1 g2 (by omega) (by omega)
  ·rfl
theorem runAll_step {b : Pn → Bool} {p : Pn} (h : p.Ok) (ho : p.on) (ha : p.on → p.asks) : runAll b (tellP p (b p)) = runAll b p:=by
 have hn:=tell_nu h ho (ha ho) (b p)
 obtain ⟨g1,g2,g3⟩:=tellP_ok h ha (b p)
 unfold runAll
 obtain ⟨k,hk⟩ : ∃ k,p.nu = k + 1:=⟨p.nu - 1,by omega⟩
 rw [hk]
 simp only [runP]
 rw [if_pos ho]
 exact runP_more _ _ _ g1 g2 (Nat.le_refl _) (by omega)
theorem runAll_off {b : Pn → Bool} {p : Pn} (h : ¬ p.on) : runAll b p = p:=runP_off h _
def askI (p : Pn) : Int:=if p.on then p.i else 0
def askJ (p : Pn) : Int:=if p.on then p.j else 0
theorem range_good {o : List Int} (h : o.Perm ((List.range o.length).map fun i : Nat=>(i : Int))) : Good o:=by
 have hnd : o.Nodup:=by
  rw [h.nodup_iff,List.nodup_iff_pairwise_ne,List.pairwise_map]
  exact (List.nodup_iff_pairwise_ne.1 List.nodup_range).imp fun hne e=>hne (by omega)
 refine ⟨fun k hk=>?_,fun i k hik hk=>?_⟩
 ·have hm : o.getD k 0 ∈ o:=by rw [getD_eq o k hk]; exact List.getElem_mem hk
  obtain ⟨i,hi,he⟩:=List.mem_map.1 (h.mem_iff.1 hm)
  have:=List.mem_range.1 hi
  omega
 ·rw [getD_eq o i (by omega),getD_eq o k hk]
  exact (List.pairwise_iff_getElem.1 (List.nodup_iff_pairwise_ne.1 hnd)) i k (by omega) hk hik
theorem range_in {o : List Int} (h : o.Perm ((List.range o.length).map fun i : Nat=>(i : Int))) {k : Nat} (hk : k < o.length) : 0 ≤ o.getD k 0 ∧ o.getD k 0 < (o.length : Int):=(range_good h).lo k hk
theorem ask_in {p : Pn} (h : p.Ok) (ho : p.on) (ha : p.asks) (hp : p.o.Perm ((List.range p.o.length).map fun i : Nat=>(i : Int))) : (0 ≤ p.i ∧ p.i < (p.o.length : Int)) ∧ (0 ≤ p.j ∧ p.j < (p.o.length : Int)):=by
 obtain ⟨h1,h2,h3,h4,h5,h6⟩:=Pn.facts h ho
 obtain ⟨a1,a2⟩:=ha
 exact ⟨range_in hp (by omega),range_in hp (by omega)⟩
def byL (lt : Int → Int → Bool) (l : List Int) (p : Pn) : Bool:=lt (l.getD p.i.toNat 0) (l.getD p.j.toNat 0)
def ltCT (lt : Int → Int → Bool) : CT:=mkCT [] true fun l K=>match l with
 | [.inl (.i .i64 a),.inl (.i .i64 b)]=>K (.c (.b (lt a b)))
 | _=>False
attribute [go_sem] ltCT
end Go.Proofs.Ytmcjojbffidlbaa

namespace Go.Proofs.Ytmcjojbffidlbaa
set_option linter.unusedSimpArgs false
set_option linter.unusedVariables false
open Go.Abs Go.Proofs.NatL

def brkF (lt : Int → Int → Bool) (l : List Int) : Nat → Nat → Int
 | _,0 => -1
 | i,j + 1=>if lt (l.getD i 0) (l.getD (i - 1) 0) = true then (i : Int) else brkF lt l (i + 1) j
def upF (lt : Int → Int → Bool) (beh : Bool) (l : List Int) (x : Int) (i : Nat) : Bool:=if beh then !lt x (l.getD i 0) else lt (l.getD i 0) x
def srchF (lt : Int → Int → Bool) (beh : Bool) (l : List Int) (x : Int) : Nat → Nat → Nat → Nat
 | 0,lo,_=>lo
 | k + 1,lo,hi=>if lo < hi then (if upF lt beh l x ((lo + hi) / 2) then srchF lt beh l x k ((lo + hi) / 2 + 1) hi else srchF lt beh l x k lo ((lo + hi) / 2)) else lo
theorem srchF_more {lt : Int → Int → Bool} {beh : Bool} {l : List Int} {x : Int} : ∀ (k j lo hi : Nat),hi - lo ≤ k → hi - lo ≤ j → srchF lt beh l x k lo hi = srchF lt beh l x j lo hi
 | 0,0,lo,hi,h1,h2=>rfl
 | 0,j + 1,lo,hi,h1,h2=>by simp only [srchF]; rw [if_neg (by omega)]
 | k + 1,0,lo,hi,h1,h2=>by simp only [srchF]; rw [if_neg (by omega)]
 | k + 1,j + 1,lo,hi,h1,h2=>by
  simp only [srchF]
  split
  ·split
   ·exact srchF_more k j _ _ (by omega) (by omega)
   ·exact srchF_more k j _ _ (by omega) (by omega)
  ·rfl
def srch (lt : Int → Int → Bool) (beh : Bool) (l : List Int) (x : Int) (lo hi : Nat) : Nat:=srchF lt beh l x (hi - lo) lo hi
theorem srch_up {lt : Int → Int → Bool} {beh : Bool} {l : List Int} {x : Int} {lo hi : Nat} (h : lo < hi) (hu : upF lt beh l x ((lo + hi) / 2) = true) : srch lt beh l x lo hi = srch lt beh l x ((lo + hi) / 2 + 1) hi:=by
 unfold srch
 obtain ⟨k,hk⟩ : ∃ k,hi - lo = k + 1:=⟨hi - lo - 1,by omega⟩
 rw [hk]; simp only [srchF]; rw [if_pos h,if_pos hu]
 exact srchF_more _ _ _ _ (by omega) (by omega)
theorem srch_dn {lt : Int → Int → Bool} {beh : Bool} {l : List Int} {x : Int} {lo hi : Nat} (h : lo < hi) (hu : upF lt beh l x ((lo + hi) / 2) = false) : srch lt beh l x lo hi = srch lt beh l x lo ((lo + hi) / 2):=by
 unfold srch
 obtain ⟨k,hk⟩ : ∃ k,hi - lo = k + 1:=⟨hi - lo - 1,by omega⟩
 rw [hk]; simp only [srchF]; rw [if_pos h,if_neg (by rw [hu]; simp)]
 exact srchF_more _ _ _ _ (by omega) (by omega)
theorem srch_end {lt : Int → Int → Bool} {beh : Bool} {l : List Int} {x : Int} {lo hi : Nat} (h : ¬ lo < hi) : srch lt beh l x lo hi = lo:=by
 unfold srch
 have : hi - lo = 0:=by omega
 rw [this]; rfl
def mrgF (lt : Int → Int → Bool) : Nat → List Int → List Int → List Int
 | 0,a,b=>a ++ b
 | k + 1,x :: a,y :: b=>if lt y x = true then y :: mrgF lt k (x :: a) b else x :: mrgF lt k a (y :: b)
 | _ + 1,a,b=>a ++ b
def mrg (lt : Int → Int → Bool) (a b : List Int) : List Int:=mrgF lt (a.length + b.length) a b
theorem mrg_len {lt : Int → Int → Bool} : ∀ (k : Nat) (a b : List Int),(mrgF lt k a b).length = a.length + b.length
 | 0,a,b=>by simp [mrgF]
 | k + 1,[],b=>by simp [mrgF]
 | k + 1,x :: a,[]=>by simp [mrgF]
 | k + 1,x :: a,y :: b=>by
  simp only [mrgF]
  split
  ·simp only [List.length_cons,mrg_len k]; omega
  ·simp only [List.length_cons,mrg_len k]; omega
theorem mrg_r {lt : Int → Int → Bool} {a b : List Int} (ha : 0 < a.length) (hb : 0 < b.length) (h : lt (b.getD 0 0) (a.getD 0 0) = true) : mrg lt a b = b.getD 0 0 :: mrg lt a (b.drop 1):=by
 match a,b,ha,hb with
 | x :: a,y :: b,_,_ =>
  simp only [List.getD_cons_zero] at h ⊢
  unfold mrg
  simp only [List.length_cons,List.drop_succ_cons,List.drop_zero]
  rw [show a.length + 1 + (b.length + 1) = (a.length + 1 + b.length) + 1 by omega]
  simp only [mrgF]
  rw [if_pos h]
theorem mrg_l {lt : Int → Int → Bool} {a b : List Int} (ha : 0 < a.length) (hb : 0 < b.length) (h : lt (b.getD 0 0) (a.getD 0 0) = false) : mrg lt a b = a.getD 0 0 :: mrg lt (a.drop 1) b:=by
 match a,b,ha,hb with
 | x :: a,y :: b,_,_ =>
  simp only [List.getD_cons_zero] at h ⊢
  unfold mrg
  simp only [List.length_cons,List.drop_succ_cons,List.drop_zero]
  rw [show a.length + 1 + (b.length + 1) = (a.length + (b.length + 1)) + 1 by omega]
  simp only [mrgF]
  rw [if_neg (by rw [h]; simp)]
theorem mrg_e {lt : Int → Int → Bool} {a b : List Int} (h : ¬ (0 < a.length ∧ 0 < b.length)) : mrg lt a b = a ++ b:=by
 unfold mrg
 match a,b with
 | [],b=>cases hb : ([] : List Int).length + b.length <;> simp [mrgF]
 | x :: a,[]=>cases hb : (x :: a).length + ([] : List Int).length <;> simp [mrgF]
 | x :: a,y :: b=>exact absurd ⟨by simp,by simp⟩ h
theorem drop_one_take (a : List Int) : (a.take a.length).drop 1 = a.drop 1:=by rw [List.take_length]
end Go.Proofs.Ytmcjojbffidlbaa

namespace Go.Proofs.Ytmcjojbffidlbaa
set_option linter.unusedSimpArgs false
set_option linter.unusedVariables false

structure Mg where
 o : List Int
 w : Nat
 f : Nat
 l : List Int
 r : List Int
 x : List Int
def Mg.opn (m : Mg) : Prop:=0 < m.l.length ∧ 0 < m.r.length
instance (m : Mg) : Decidable m.opn:=inferInstanceAs (Decidable (_ ∧ _))
def Mg.mid (m : Mg) : Nat:=min m.o.length (m.f + m.w)
def Mg.step (m : Mg) : Mg :=
 if m.o.length ≤ m.f then ⟨m.x ++ m.l ++ m.r,2 * m.w,0,[],[],[]⟩
 else ⟨m.o,m.w,m.f + 2 * m.w,seg m.o m.f m.mid,seg m.o m.mid (min m.o.length (m.mid + m.w)),m.x ++ m.l ++ m.r⟩
structure Mg.Ok (m : Mg) : Prop where
 n : m.o.length ≤ 1000
 w0 : 1 ≤ m.w
 w1 : m.w ≤ 2000
 f1 : m.f ≤ 5000
 xx : m.x.length + m.l.length + m.r.length = min m.o.length m.f
theorem seg_len (o : List Int) {a b : Nat} (h : a ≤ b) (h2 : b ≤ o.length) : (seg o a b).length = b - a:=by
 unfold seg; rw [List.length_drop,List.length_take]; omega
theorem Mg.step_ok {m : Mg} (h : m.Ok) (hw : m.w < m.o.length) : m.step.Ok ∧ m.step.o.length = m.o.length:=by
 have hn:=h.n
 have h0:=h.w0
 have hx:=h.xx
 unfold Mg.step
 split
 ·have hl : (m.x ++ m.l ++ m.r).length = m.o.length:=by simp only [List.length_append]; omega
  refine ⟨⟨by simp only [hl]; exact hn,by simp only; omega,by simp only; omega,by simp only; omega,?_⟩,hl⟩
  simp
 ·have hm : m.f ≤ m.mid ∧ m.mid ≤ m.o.length:=by unfold Mg.mid; omega
  refine ⟨⟨hn,h0,h.w1,by simp only; omega,?_⟩,rfl⟩
  simp only [List.length_append]
  rw [seg_len _ hm.1 hm.2,seg_len _ (by omega) (Nat.min_le_left _ _)]
  unfold Mg.mid at *
  omega
def Mg.mu (m : Mg) : Nat:=(2 * m.o.length - m.w) * (m.o.length + 1) + (m.o.length - m.f)
theorem Mg.step_mu {m : Mg} (h : m.Ok) (hw : m.w < m.o.length) : m.step.mu < m.mu:=by
 have h0:=h.w0
 have hl:=(Mg.step_ok h hw).2
 have key : ∀ q : Mg,q = m.step → q.o.length = m.o.length → q.mu < m.mu:=by
  intro q hq hql
  unfold Mg.step at hq
  unfold Mg.mu
  rw [hql]
  split at hq
  ·subst hq
   simp only
   obtain ⟨d,hd⟩ : ∃ d,2 * m.o.length - m.w = d:=⟨_,rfl⟩
   obtain ⟨e,he⟩ : ∃ e,2 * m.o.length - 2 * m.w = e:=⟨_,rfl⟩
   have hde : e + 1 ≤ d:=by omega
   have:=Nat.mul_le_mul_right (m.o.length + 1) hde
   rw [Nat.add_mul] at this
   rw [hd,he]
   omega
  ·subst hq
   simp only
   omega
 exact key _ rfl hl
def loadF : Nat → Mg → Mg
 | 0,m=>m
 | k + 1,m=>if ¬ m.opn ∧ m.w < m.o.length then loadF k m.step else m
def loadM (m : Mg) : Mg:=loadF m.mu m
theorem loadF_more : ∀ (k j : Nat) (m : Mg),m.Ok → m.mu ≤ k → m.mu ≤ j → loadF k m = loadF j m
 | 0,j,m,h,h1,h2=>by
  by_cases ho : m.w < m.o.length
  ·have:=Mg.step_mu h ho; omega
  ·cases j with
   | zero=>rfl
   | succ j=>simp [loadF,ho]
 | k + 1,0,m,h,h1,h2=>by
  by_cases ho : m.w < m.o.length
  ·have:=Mg.step_mu h ho; omega
  ·simp [loadF,ho]
 | k + 1,j + 1,m,h,h1,h2=>by
  simp only [loadF]
  split
  ·rename_i hc
   have:=Mg.step_mu h hc.2
   exact loadF_more k j _ (Mg.step_ok h hc.2).1 (by omega) (by omega)
  ·rfl
theorem load_step {m : Mg} (h : m.Ok) (hc : ¬ m.opn ∧ m.w < m.o.length) : loadM m.step = loadM m:=by
 have hm:=Mg.step_mu h hc.2
 unfold loadM
 obtain ⟨k,hk⟩ : ∃ k,m.mu = k + 1:=⟨m.mu - 1,by omega⟩
 rw [hk]
 simp only [loadF]
 rw [if_pos hc]
 exact loadF_more _ _ _ (Mg.step_ok h hc.2).1 (Nat.le_refl _) (by omega)
theorem load_done {m : Mg} (hc : ¬ (¬ m.opn ∧ m.w < m.o.length)) : loadM m = m:=by
 unfold loadM
 cases m.mu with
 | zero=>rfl
 | succ k=>simp only [loadF]; rw [if_neg hc]
theorem loadF_facts : ∀ (k : Nat) (m : Mg),m.Ok → m.mu ≤ k → (loadF k m).Ok ∧ ((loadF k m).w < (loadF k m).o.length → (loadF k m).opn)
 | 0,m,h,h1=>by
  by_cases ho : m.w < m.o.length
  ·have:=Mg.step_mu h ho; omega
  ·exact ⟨h,fun h=>absurd h ho⟩
 | k + 1,m,h,h1=>by
  simp only [loadF]
  split
  ·rename_i hc
   have:=Mg.step_mu h hc.2
   exact loadF_facts k _ (Mg.step_ok h hc.2).1 (by omega)
  ·rename_i hc
   exact ⟨h,fun ho=>Classical.byContradiction fun hn=>hc ⟨hn,ho⟩⟩
def RelF (p : Pn) (m : Mg) : Prop:=(p.f = 0 ∧ p.l = 0 ∧ p.r = 0 ∧ p.m = []) ∧ m.o = p.o ∧ m.w = p.w ∧ m.f = 0 ∧ m.l = [] ∧ m.r = [] ∧ m.x = []
structure RelO (p : Pn) (m : Mg) : Prop where
 on : p.on
 w : m.w = p.w
 f : m.f = p.f + 2 * p.w
 l : m.l = seg p.o (p.f + p.l) p.mid
 r : m.r = seg p.o (p.mid + p.r) p.en
 x : m.x = p.o.take p.f ++ p.m
 n : m.o.length = p.o.length
 rest : ∀ a b,p.en ≤ a → seg m.o a b = seg p.o a b
def Rel (p : Pn) (m : Mg) : Prop:=RelF p m ∨ RelO p m
theorem RelF.load {p : Pn} {m : Mg} (h : RelF p m) (ho : p.on) (hp : p.Ok) : RelO p m.step:=by
 obtain ⟨⟨h1,h2,h3,h4⟩,h5,h6,h7,h8,h9,h10⟩:=h
 have ho2 : p.w < p.o.length:=ho
 have hw:=hp.w0
 have hne : ¬ m.o.length ≤ m.f:=by rw [h5,h7]; omega
 unfold Mg.step
 rw [if_neg hne]
 have hmid : m.mid = p.mid:=by unfold Mg.mid Pn.mid; rw [h5,h6,h7,h1]
 refine ⟨ho,h6,?_,?_,?_,?_,by rw [h5],fun a b _=>by rw [h5]⟩
 ·show m.f + 2 * m.w = _; rw [h7,h6,h1]
 ·show seg m.o m.f m.mid = _; rw [hmid,h5,h7,h1,h2]
 ·show seg m.o m.mid (min m.o.length (m.mid + m.w)) = _
  rw [hmid,h5,h6,h3,Nat.add_zero]
  have : min p.o.length (p.mid + p.w) = p.en:=by unfold Pn.mid Pn.en; rw [h1]; omega
  rw [this]
 ·show m.x ++ m.l ++ m.r = _; rw [h8,h9,h10,h1,h4]; rfl
theorem RelO.opn {p : Pn} {m : Mg} (h : RelO p m) (hp : p.Ok) : m.opn ↔ p.asks:=by
 obtain ⟨g1,g2,g3,g4,g5,g6⟩:=Pn.facts hp h.on
 unfold Mg.opn Pn.asks
 rw [h.l,h.r,seg_len _ g5 (by omega),seg_len _ g6 g3]
 omega
theorem put_take {p : Pn} (hp : p.Ok) (ho : p.on) : p.put.take p.en = p.o.take p.f ++ p.mrg:=by
 obtain ⟨g1,g2,g3,g4,g5,g6⟩:=Pn.facts hp ho
 have hl:=Pn.mrg_len hp ho
 unfold Pn.put
 rw [List.take_append_of_le_length (by rw [List.length_append,List.length_take,hl]; omega)]
 exact List.take_of_length_le (by rw [List.length_append,List.length_take,hl]; omega)
theorem RelO.step {p : Pn} {m : Mg} (h : RelO p m) (hp : p.Ok) : Rel p.step m.step:=by
 obtain ⟨g1,g2,g3,g4,g5,g6⟩:=Pn.facts hp h.on
 have hl:=Pn.put_len hp h.on
 have hml:=Pn.mrg_len hp h.on
 have hx : m.x ++ m.l ++ m.r = p.o.take p.f ++ p.mrg:=by
  rw [h.x,h.l,h.r]
  simp only [Pn.mrg,seg,List.append_assoc]
 have ho2 : p.w < p.o.length:=h.on
 have hen : p.en = min p.o.length (p.f + 2 * p.w):=rfl
 unfold Pn.step Mg.step
 by_cases hc : p.o.length ≤ p.en
 ·rw [if_pos hc,if_pos (by rw [h.n,h.f]; omega)]
  left
  refine ⟨⟨rfl,rfl,rfl,rfl⟩,?_,by show 2 * m.w = 2 * p.w; rw [h.w],rfl,rfl,rfl,rfl⟩
  show m.x ++ m.l ++ m.r = p.put
  rw [hx,← put_take hp h.on,List.take_of_length_le (by omega)]
 ·rw [if_neg hc,if_neg (by rw [h.n,h.f]; omega)]
  right
  have hf : m.f = p.en:=by rw [h.f]; omega
  have lx : (p.o.take p.f).length = p.f:=by rw [List.length_take]; omega
  have hpost : ∀ a b,p.en ≤ a → seg m.o a b = seg p.put a b:=fun a b hb=>by
   rw [h.rest a b hb]; exact (seg_post _ _ _ _ (e:=p.en) (by rw [lx,hml]; omega) rfl hb).symm
  have hmid : m.mid = (Pn.mk p.put p.w p.en 0 0 []).mid:=by unfold Mg.mid Pn.mid; simp only [hf,h.w,h.n,hl]
  have hmen : min m.o.length (m.mid + m.w) = (Pn.mk p.put p.w p.en 0 0 []).en:=by unfold Mg.mid Pn.en; simp only [hf,h.w,h.n,hl]; omega
  have hmge : p.en ≤ m.mid:=by unfold Mg.mid; rw [hf,h.n]; omega
  refine ⟨by show p.w < p.put.length; rw [hl]; exact ho2,h.w,?_,?_,?_,?_,by show m.o.length = p.put.length; rw [hl,h.n],?_⟩
  ·show m.f + 2 * m.w = p.en + 2 * p.w; rw [hf,h.w]
  ·show seg m.o m.f m.mid = seg p.put (p.en + 0) _
   rw [hf,Nat.add_zero,← hmid]; exact hpost _ _ (Nat.le_refl _)
  ·show seg m.o m.mid (min m.o.length (m.mid + m.w)) = seg p.put (_ + 0) _
   rw [Nat.add_zero,← hmid,← hmen]; exact hpost _ _ hmge
  ·show m.x ++ m.l ++ m.r = p.put.take p.en ++ []
   rw [hx,put_take hp h.on,List.append_nil]
  ·intro a b hab
   refine hpost a b ?_
   have : p.en ≤ (Pn.mk p.put p.w p.en 0 0 []).en:=by unfold Pn.en; simp only [hl]; omega
   omega
theorem RelO.mok {p : Pn} {m : Mg} (h : RelO p m) (hp : p.Ok) : m.Ok:=by
 obtain ⟨g1,g2,g3,g4,g5,g6⟩:=Pn.facts hp h.on
 have hn:=hp.n
 have hw:=hp.w1
 have ho2 : p.w < p.o.length:=h.on
 have hf1:=hp.f1
 have hmm:=hp.mm
 refine ⟨by rw [h.n]; exact hn,by rw [h.w]; exact hp.w0,by rw [h.w]; exact hw,by rw [h.f]; omega,?_⟩
 rw [h.x,h.l,h.r,h.n,h.f,List.length_append,List.length_take,seg_len _ g5 (by omega),seg_len _ g6 g3,hmm]
 have hen : p.en = min p.o.length (p.f + 2 * p.w):=rfl
 omega
theorem RelF.mok {p : Pn} {m : Mg} (h : RelF p m) (hp : p.Ok) : m.Ok:=by
 obtain ⟨⟨h1,h2,h3,h4⟩,h5,h6,h7,h8,h9,h10⟩:=h
 refine ⟨by rw [h5]; exact hp.n,by rw [h6]; exact hp.w0,by rw [h6]; exact hp.w1,by rw [h7]; omega,?_⟩
 rw [h7,h8,h9,h10]; simp
theorem Rel.mok {p : Pn} {m : Mg} (h : Rel p m) (hp : p.Ok) : m.Ok:=h.elim (fun h=>h.mok hp) fun h=>h.mok hp
theorem Rel.wn {p : Pn} {m : Mg} (h : Rel p m) : m.w < m.o.length ↔ p.on:=by
 unfold Pn.on
 rcases h with h | h
 ·rw [h.2.1,h.2.2.1]
 ·rw [h.w,h.n]
theorem Rel.load : ∀ (k : Nat) (p : Pn) (m : Mg),p.Ok → Rel p m → m.mu ≤ k → Rel (settle p) (loadF k m)
 | 0,p,m,hp,h,hk=>by
  by_cases ho : p.on
  ·have:=Mg.step_mu (h.mok hp) (h.wn.2 ho); omega
  ·rw [settle_done (fun h=>ho h.1)]; exact h
 | k + 1,p,m,hp,h,hk=>by
  by_cases ho : p.on
  ·have hmu:=Mg.step_mu (h.mok hp) (h.wn.2 ho)
   rcases h with h | h
   ·have hno : ¬ m.opn:=by unfold Mg.opn; rw [h.2.2.2.2.1]; simp
    simp only [loadF]
    rw [if_pos ⟨hno,(Rel.wn (.inl h)).2 ho⟩]
    exact Rel.load k p m.step hp (.inr (h.load ho hp)) (by omega)
   ·by_cases ha : p.asks
    ·rw [settle_done (fun h=>h.2 ha)]
     simp only [loadF]
     rw [if_neg (fun hc=>hc.1 ((h.opn hp).2 ha))]
     exact .inr h
    ·rw [← settle_step hp ho ha]
     simp only [loadF]
     rw [if_pos ⟨fun hc=>ha ((h.opn hp).1 hc),(Rel.wn (.inr h)).2 ho⟩]
     exact Rel.load k p.step m.step (Pn.step_ok hp ho) (h.step hp) (by omega)
  ·rw [settle_done (fun h=>ho h.1)]
   simp only [loadF]
   rw [if_neg (fun hc=>ho (h.wn.1 hc.2))]
   exact h
def Mg.i (m : Mg) : Int:=m.r.getD 0 0
def Mg.j (m : Mg) : Int:=m.l.getD 0 0
def Mg.told (m : Mg) (b : Bool) : Mg:=if b then ⟨m.o,m.w,m.f,m.l,m.r.drop 1,m.x ++ [m.i]⟩ else ⟨m.o,m.w,m.f,m.l.drop 1,m.r,m.x ++ [m.j]⟩
def Mg.ans (m : Mg) (b : Bool) : Mg:=loadM (m.told b)
theorem RelO.ij {p : Pn} {m : Mg} (h : RelO p m) (hp : p.Ok) (ha : p.asks) : m.i = p.i ∧ m.j = p.j:=by
 obtain ⟨g1,g2,g3,g4,g5,g6⟩:=Pn.facts hp h.on
 obtain ⟨a1,a2⟩:=ha
 unfold Mg.i Mg.j
 rw [h.l,h.r,seg_head p.o a1 (by omega),seg_head p.o a2 g3]
 exact ⟨rfl,rfl⟩
theorem RelO.told {p : Pn} {m : Mg} (h : RelO p m) (hp : p.Ok) (ha : p.asks) (b : Bool) : RelO (p.told b) (m.told b):=by
 obtain ⟨g1,g2,g3,g4,g5,g6⟩:=Pn.facts hp h.on
 obtain ⟨e1,e2⟩:=h.ij hp ha
 obtain ⟨a1,a2⟩:=ha
 have eL:=seg_head p.o a1 (by omega)
 have eR:=seg_head p.o a2 g3
 unfold Pn.told Mg.told
 cases b
 ·simp only [Bool.false_eq_true,if_false]
  refine ⟨h.on,h.w,h.f,?_,h.r,?_,h.n,h.rest⟩
  ·show m.l.drop 1 = seg p.o (p.f + (p.l + 1)) p.mid
   rw [h.l,eL]; rfl
  ·show m.x ++ [m.j] = p.o.take p.f ++ (p.m ++ [p.j])
   rw [h.x,e2,List.append_assoc]
 ·simp only [if_true]
  refine ⟨h.on,h.w,h.f,h.l,?_,?_,h.n,h.rest⟩
  ·show m.r.drop 1 = seg p.o (p.mid + (p.r + 1)) p.en
   rw [h.r,eR]; rfl
  ·show m.x ++ [m.i] = p.o.take p.f ++ (p.m ++ [p.i])
   rw [h.x,e1,List.append_assoc]
theorem Rel.opn {p : Pn} {m : Mg} (h : Rel p m) (hp : p.Ok) (ha : p.on → p.asks) (hm : m.w < m.o.length → m.opn) : m.opn ↔ p.on:=by
 rcases h with h | h
 ·have hno : ¬ m.opn:=by unfold Mg.opn; rw [h.2.2.2.2.1]; simp
  exact ⟨fun hc=>absurd hc hno,fun ho=>absurd (hm ((Rel.wn (.inl h)).2 ho)) hno⟩
 ·exact ⟨fun _=>h.on,fun ho=>(h.opn hp).2 (ha ho)⟩
theorem Rel.ans {p : Pn} {m : Mg} (h : Rel p m) (hp : p.Ok) (ho : p.on) (ha : p.asks) (hm : m.opn) (b : Bool) : Rel (tellP p b) (m.ans b):=by
 rcases h with h | h
 ·exact absurd hm (by unfold Mg.opn; rw [h.2.2.2.2.1]; simp)
 ·have ht:=h.told hp ha b
  have htp:=told_ok hp ho ha b
  unfold tellP
  rw [if_pos ho]
  exact Rel.load _ _ _ htp (.inr ht) (Nat.le_refl _)
theorem Rel.order {p : Pn} {m : Mg} (h : Rel p m) (ho : ¬ p.on) : m.o = p.o:=by
 rcases h with h | h
 ·exact h.2.1
 ·exact absurd h.on ho
def startM (n : Nat) : Mg:=⟨(List.range n).map fun i : Nat=>(i : Int),1,0,[],[],[]⟩
theorem start_rel (n : Nat) (hn : n ≤ 1000) : Rel (settle (startP n)) (loadM (startM n)):=Rel.load _ _ _ (startP_ok hn) (.inl ⟨⟨rfl,rfl,rfl,rfl⟩,rfl,rfl,rfl,rfl,rfl,rfl⟩) (Nat.le_refl _)
end Go.Proofs.Ytmcjojbffidlbaa

namespace Go.Abs
set_option linter.unusedSimpArgs false
set_option linter.unusedVariables false
open Go.RowKit
variable {P : Program}

def swp : List (Nat × Nat) → Nat → Nat
 | [],i=>i
 | (a,b) :: l,i=>if i == a then b else if i == b then a else swp l i
def swFresh (x : Nat) : List (Nat × Nat) → Bool
 | []=>true
 | (a,b) :: l=>!(a == x) && !(b == x) && swFresh x l
def swOk : List (Nat × Nat) → Bool
 | []=>true
 | (a,b) :: l=>!(a == b) && swFresh a l && swFresh b l && swOk l
def swLt (n : Nat) : List (Nat × Nat) → Bool
 | []=>true
 | (a,b) :: l=>decide (a < n) && decide (b < n) && swLt n l
theorem swp_fresh {x i : Nat} : ∀ {l : List (Nat × Nat)},swFresh x l = true → i ≠ x → swp l i ≠ x
 | [],_,h=>h
 | (a,b) :: l,hf,h=>by
  simp only [swFresh,Bool.and_eq_true,Bool.not_eq_true',beq_eq_false_iff_ne] at hf
  unfold swp
  split
  ·exact hf.1.2
  ·split
   ·exact hf.1.1
   ·exact swp_fresh hf.2 h
theorem swp_swp : ∀ {l : List (Nat × Nat)},swOk l = true → ∀ i,swp l (swp l i) = i
 | [],_,i=>rfl
 | (a,b) :: l,h,i=>by
  simp only [swOk,Bool.and_eq_true,Bool.not_eq_true',beq_eq_false_iff_ne] at h
  obtain ⟨⟨⟨h1,h2⟩,h3⟩,h4⟩:=h
  by_cases ha : i = a
  ·subst ha
   have e : swp ((i,b) :: l) i = b:=by simp [swp]
   rw [e]
   have hb : (b == i) = false:=by simp; omega
   simp [swp,hb]
  ·by_cases hb : i = b
   ·subst hb
    have hia : (i == a) = false:=by simp; omega
    have e : swp ((a,i) :: l) i = a:=by simp [swp,hia]
    rw [e]; simp [swp]
   ·have e : swp ((a,b) :: l) i = swp l i:=by simp [swp,ha,hb]
    rw [e]
    have n1:=swp_fresh h2 ha
    have n2:=swp_fresh h3 hb
    have e2 : swp ((a,b) :: l) (swp l i) = swp l (swp l i):=by simp [swp,n1,n2]
    rw [e2]
    exact swp_swp h4 i
theorem swp_lt {n : Nat} : ∀ {l : List (Nat × Nat)},swLt n l = true → ∀ i,n ≤ i → swp l i = i
 | [],_,i,_=>rfl
 | (a,b) :: l,h,i,hi=>by
  simp only [swLt,Bool.and_eq_true,decide_eq_true_eq] at h
  have h1 : (i == a) = false:=by simp; omega
  have h2 : (i == b) = false:=by simp; omega
  simp only [swp,h1,h2,Bool.false_eq_true,if_false]
  exact swp_lt h.2 i hi

section
variable {f : Nat → Nat} {F : Fr} {H : Hp} {m : Mp} {w : World}
end
theorem fz_makeFunc {cf : Cfg} {st : St} {fn : Fn} {a b : Array Operand} : fzFor cf st (.makeFunc fn a b) = st:=rfl
attribute [go_sem] fz_makeFunc swp id
end Go.Abs

namespace Go.Abs
set_option linter.unusedSimpArgs false
set_option linter.unusedVariables false
open Go.RowKit
variable {P : Program}

def rbT (f : Nat → Nat) : TE → TE
 | .s x=>.s x
 | .own id ver=>.own (f id) ver
 | .bx id off=>.bx id off
 | .mp id=>.mp id
def rbA (f : Nat → Nat) : AV → AV
 | .c x=>.c x
 | .g x=>.g x
 | .t x=>.t x
 | .bx id off=>.bx id off
 | .mp id=>.mp id
 | .own id ver=>.own (f id) ver
 | .fn g caps=>.fn g (caps.map (rbT f))
 | .tt l=>.tt (l.map (rbT f))
 | .gt _=>.u
 | .lw _=>.u
 | .mc con=>.mc con
 | .oel id ver i off=>.oel (f id) ver i off
 | .win id ver lo len=>.win (f id) ver lo len
 | .bw k lo len=>.bw k lo len
 | .bel k i off=>.bel k i off
 | .el xs=>.el xs
 | .anc id b=>.anc id b
 | .u=>.u
def rbH (f : Nat → Nat) (H : Hp) : Hp:=⟨H.box.map fun p=>(p.1,p.2.map (rbA f)),H.buf.map fun p=>(f p.1,id p.2),H.bor⟩
def rbM (f : Nat → Nat) (m : Mp) : Mp:=⟨m.bx,fun i=>m.bf (f i)⟩
def rbSt (f : Nat → Nat) (st : St) : St:=⟨st.n,st.sl.map fun p=>(p.1,rbA f p.2),rbH f st.H,st.nx⟩
section
variable {f : Nat → Nat} {F : Fr} {H : Hp} {m : Mp} {w : World}
theorem rb_own (hf : ∀ i,f (f i) = i) (b : Nat) : Own (rbM f m) b ↔ Own m b:=by
 unfold Own rbM
 constructor
 ·rintro (⟨i,h⟩ | ⟨i,v,h,h2⟩)
  ·exact .inl ⟨_,h⟩
  ·exact .inr ⟨_,v,h,h2⟩
 ·rintro (⟨i,h⟩ | ⟨i,v,h,h2⟩)
  ·exact .inl ⟨i,h⟩
  ·exact .inr ⟨f i,v,by simpa only [hf] using h,h2⟩
theorem rb_S (hf : ∀ i,f (f i) = i) : F.S (rbM f m) = F.S m:=by
 funext b
 unfold Fr.S
 rw [propext (rb_own hf b)]
theorem rb_inj (hf : ∀ i,f (f i) = i) : ∀ i j,f i = f j → i = j:=fun i j h=>by rw [← hf i,h,hf j]
theorem rb_buf (hf : ∀ i,f (f i) = i) (i : Nat) : look (rbH f H).buf (f i) = look H.buf i:=by
 rw [rbH]
 have:=look_mapk f (fun B : Buf=>id B) (rb_inj hf) H.buf i
 rw [this]
 cases look H.buf i <;> rfl
theorem rb_box (i : Nat) : look (rbH f H).box i = (look H.box i).map (·.map (rbA f)):=look_map (fun cs : List AV=>cs.map (rbA f)) H.box i
theorem rb_bxm (_hf : ∀ i,f (f i) = i) (i : Nat) : (rbM f m).bx i = m.bx i:=rfl
theorem rb_bfm (hf : ∀ i,f (f i) = i) (i : Nat) : (rbM f m).bf (f i) = m.bf i:=by simp only [rbM,hf]
theorem rb_repT (hf : ∀ i,f (f i) = i) {x : TE} {v : Value} (h : RepT F H m w x v) : RepT F (rbH f H) (rbM f m) w (rbT f x) v:=by
 cases x with
 | s x=>simp only [RepT,rbT,rb_S hf] at h ⊢; exact h
 | own id ver=>simp only [RepT,rbT,rb_buf hf,rb_bfm hf] at h ⊢; exact h
 | bx id off=>simp only [RepT,rbT,rb_bxm hf] at h ⊢; exact h
 | mp id=>simp only [RepT,rbT,rb_bxm hf] at h ⊢; exact h
theorem rb_get {l : List TE} {j : Nat} {y : TE} (h : (l.map (rbT f))[j]? = some y) : ∃ x,l[j]? = some x ∧ y = rbT f x:=by
 rw [List.getElem?_map] at h
 cases hl : l[j]? with
 | none=>rw [hl] at h; cases h
 | some x=>rw [hl] at h; cases h; exact ⟨x,rfl,rfl⟩
theorem rb_rep (hf : ∀ i,f (f i) = i) {x : AV} {v : Value} (h : RepA F H m w x v) : RepA F (rbH f H) (rbM f m) w (rbA f x) v:=by
 cases x with
 | c x=>simp only [RepA,rbA,rb_S hf] at h ⊢; exact h
 | g x=>simp only [RepA,rbA,rb_S hf] at h ⊢; exact h
 | t x=>simp only [RepA,rbA,rb_S hf] at h ⊢; exact h
 | bx id off=>simp only [RepA,rbA,rb_bxm hf] at h ⊢; exact h
 | mp id=>simp only [RepA,rbA,rb_bxm hf] at h ⊢; exact h
 | own id ver=>simp only [RepA,rbA,rb_buf hf,rb_bfm hf] at h ⊢; exact h
 | oel id ver i off=>simp only [RepA,rbA,rb_buf hf,rb_bfm hf] at h ⊢; exact h
 | win id ver lo len=>simp only [RepA,rbA,rb_buf hf,rb_bfm hf] at h ⊢; exact h
 | bw k lo len=>simp only [RepA,rbA] at h ⊢; exact h
 | bel k i off=>simp only [RepA,rbA] at h ⊢; exact h
 | el xs=>simp only [RepA,rbA,rb_S hf] at h ⊢; exact h
 | anc id b=>simp only [RepA,rbA,rb_bxm hf] at h ⊢; exact h
 | mc con=>exact h
 | u=>trivial
 | fn g caps =>
  obtain ⟨vs,h1,h2,h3⟩:=h
  refine ⟨vs,h1,by rw [h2,List.length_map],fun j y u hy hu=>?_⟩
  obtain ⟨x,hx,rfl⟩:=rb_get hy
  exact rb_repT hf (h3 j x u hx hu)
 | gt l=>trivial
 | lw l=>trivial
 | tt l =>
  obtain ⟨vs,h1,h2,h3⟩:=h
  refine ⟨vs,h1,by rw [h2,List.length_map],fun j y u hy hu=>?_⟩
  obtain ⟨x,hx,rfl⟩:=rb_get hy
  exact rb_repT hf (h3 j x u hx hu)
theorem rb_boxIs (hf : ∀ i,f (f i) = i) {b : Nat} {cs : List AV} (h : BoxIs F H m w b cs) : BoxIs F (rbH f H) (rbM f m) w b (cs.map (rbA f)):=by
 cases hm : isM cs with
 | true =>
  obtain ⟨con,rfl⟩:=isM_some hm
  obtain ⟨es,ck,h1,h2⟩:=h
  exact ⟨es,ck,h1,by rw [rb_S hf]; exact h2⟩
 | false =>
  obtain ⟨arr,e,h1,h2,h3⟩:=h.cells hm
  refine BoxIs.of h1 (by rw [h2,List.length_map]) fun j x u hx hu=>?_
  rw [List.getElem?_map] at hx
  cases hl : cs[j]? with
  | none=>rw [hl] at hx; cases hx
  | some y =>
   rw [hl] at hx; cases hx
   exact ⟨(h3 j y u hl hu).1,rb_rep hf (h3 j y u hl hu).2⟩
theorem rb_hrep (hf : ∀ i,f (f i) = i) (h : HRep F H m w) : HRep F (rbH f H) (rbM f m) w where
 os:=h.os
 tape:=h.tape
 output:=h.output
 size:=h.size
 block:=h.block
 fresh:=fun b hb=>h.fresh b ((rb_own hf b).1 hb)
 gB:=h.gB
 brB:=h.brB
 bri:=h.bri
 ibb:=h.ibb
 ibf:=fun i j b v h1 h2=>h.ibf _ _ b v h1 h2
 iff:=fun i j b u v h1 h2 h3 h4=>rb_inj hf i j (h.iff _ _ b u v h1 h2 h3 h4)
 box:=fun i b hb=>by
  obtain ⟨cs,h1,h2⟩:=h.box _ b hb
  refine ⟨cs.map (rbA f),?_,rb_boxIs hf h2⟩
  rw [rb_box,h1]; rfl
 buf:=fun i v hv=>by
  obtain ⟨B,rs,xs,h1,h2⟩:=h.buf _ v hv
  refine ⟨B,rs,xs,?_,?_⟩
  ·have:=rb_buf (H:=H) hf (f i)
   rw [hf] at this
   rw [this]; exact h1
  ·rw [rb_S hf]; exact h2
 bor:=fun k v hv=>by
  obtain ⟨B,rs,xs,h1,h2⟩:=h.bor k v hv
  exact ⟨B,rs,xs,h1,by rw [rb_S hf]; exact h2⟩
theorem rb_look (l : List (Nat × AV)) (t : Nat) : look (l.map fun p=>(p.1,rbA f p.2)) t = (look l t).map (rbA f):=look_map (rbA f) l t
end
theorem fit_rb {l : List (Nat × Nat)} {st st' : St} (ho : swOk l = true) (hl : swLt st.nx l = true) (h : Fit (rbSt (swp l) st) st') : Fit st st':=by
 intro F m a w hs
 have hf:=swp_swp ho
 refine h F (rbM (swp l) m) a w ⟨hs.d,hs.sz,rb_hrep hf hs.h,fun i hi=>?_,fun t=>?_⟩
 ·have e:=swp_lt hl i hi
  obtain ⟨h1,h2⟩:=hs.fr i hi
  exact ⟨h1,by simp only [rbM,e]; exact h2⟩
 ·have e : (rbSt (swp l) st).get t = rbA (swp l) (st.get t):=by
   simp only [St.get,rbSt,rb_look]
   cases look st.sl t <;> rfl
  rw [e]
  exact rb_rep hf (hs.sl t)
theorem fit_two {a b c : St} (h1 : Fit a b) (h2 : Fit b c) : Fit a c:=fun F m ac w hs=>let ⟨m1,h3⟩:=h1 F m ac w hs; h2 F m1 ac w h3
def RoundR {ι : Type} (inv : ι → St) (μ : ι → Nat) (i : ι) (Q : Exit → St → Prop) : Exit → St → Prop
 | .normal,st=>∃ j,Fit st (inv j) ∧ μ j < μ i
 | e,st=>Q e st
theorem loop_rb {F : Fr} {Q : Exit → St → Prop} {st : St} {c : Code} {ι : Type} (inv : ι → St) (μ : ι → Nat) (i0 : ι) (h0 : FitP st (inv i0)) (hr : ∀ i,AWp P F c (RoundR inv μ i Q) (inv i)) : AWp P F (.loop c) Q st :=
 awp_loop inv μ i0 (fit_of h0) fun i=>awp_mono (hr i) fun e st' h=>by
  cases e with
  | normal=>exact h
  | _=>exact h
theorem roundr_n {ι : Type} {inv : ι → St} {μ : ι → Nat} {i : ι} {Q : Exit → St → Prop} {st : St} (l : List (Nat × Nat)) (j : ι) (h : FitP (rbSt (swp l) st) (inv j)) (hm : μ j < μ i) (ho : swOk l = true:=by rfl) (hl : swLt st.nx l = true:=by rfl) : RoundR inv μ i Q .normal st:=⟨j,fit_rb ho hl (fit_of h),hm⟩
theorem roundr_2 {ι : Type} {inv : ι → St} {μ : ι → Nat} {i : ι} {Q : Exit → St → Prop} {st : St} (l : List (Nat × Nat)) (mid : St) (j : ι) (h : FitP (rbSt (swp l) st) mid) (h2 : FitP mid (inv j)) (hm : μ j < μ i) (ho : swOk l = true:=by rfl) (hl : swLt st.nx l = true:=by rfl) : RoundR inv μ i Q .normal st:=⟨j,fit_two (fit_rb ho hl (fit_of h)) (fit_of h2),hm⟩
theorem roundr_exit {ι : Type} {inv : ι → St} {μ : ι → Nat} {i : ι} {Q : Exit → St → Prop} {st : St} {id : Nat} (h : Q (.exit id) st) : RoundR inv μ i Q (.exit id) st:=h
attribute [go_sem] rbA rbT rbH rbSt
theorem ends_gr {rvs : List ResultVar} {H' : Hp} {rs : List AV} {bs : Nat → Nat} {k : Nat} {st : St} (l : List (Nat × Nat)) (sl : List (Nat × AV)) (nx : Nat) (hfit : FitP (rbSt (swp l) st) ⟨st.n,sl ++ ancs bs k 0,H',nx⟩) (hres : resG P ⟨st.n,sl,H',nx⟩ rvs = some rs)
  (hall : (sl.all fun p=>decide (p.1 < 1000)) = true:=by rfl) (ho : swOk l = true:=by rfl) (hl : swLt st.nx l = true:=by rfl) : EndsG P rvs H' rs bs k .ret st:=⟨.inl rfl,sl,nx,fit_rb ho hl (fit_of hfit),hall,hres⟩
theorem ends_grn {rvs : List ResultVar} {H' : Hp} {rs : List AV} {bs : Nat → Nat} {k : Nat} {st : St} (l : List (Nat × Nat)) (sl : List (Nat × AV)) (nx : Nat) (hfit : FitP (rbSt (swp l) st) ⟨st.n,sl ++ ancs bs k 0,H',nx⟩) (hres : resG P ⟨st.n,sl,H',nx⟩ rvs = some rs)
  (hall : (sl.all fun p=>decide (p.1 < 1000)) = true:=by rfl) (ho : swOk l = true:=by rfl) (hl : swLt st.nx l = true:=by rfl) : EndsG P rvs H' rs bs k .normal st:=⟨.inr rfl,sl,nx,fit_rb ho hl (fit_of hfit),hall,hres⟩
end Go.Abs

namespace Go.Proofs.Ytmcjojbffidlbaa
set_option linter.unusedSimpArgs false
set_option linter.unusedVariables false
open Go.Abs Go.Proofs.NatL

theorem least_ret (a b : Int) : Ret Try.prog 39 false [.inl (.i .i64 a),.inl (.i .i64 b)] (.c (.i .i64 (min a b))):=by
 by_cases h : a < b
 ·have e : min a b = a:=by omega
  rw [e]
  (refine q_H Try.func39 (fun F=>?_); simp only [q_z,q_y,Try.ntmps39,Try.results39])
  repeat' (first|with_reducible refine q_0 ?_|((with_reducible first|refine q_q obt_ok fun K hK=>?_|refine q_r obt_ok fun K hK=>?_);simp (maxSteps:=2000000) only [go_sem,↓reduceIte,reduceCtorEq,Nat.reduceLeDiff,Nat.reduceLT,Nat.reduceBEq,Nat.reduceAdd];(repeat1' with_reducible first|apply And.intro|(intro _;try exact q_v)|(refine hK _ ?_;clear hK K))<;>(try (clear hK K;exact q_u)))|(with_reducible refine q_s ?_;(first|apply q_J|apply q_K|apply q_L|apply q_M|apply q_N|apply q_O)<;>try (intro _;try exact q_v)))
  all_goals first | omega | exact q_A rfl
 ·have e : min a b = b:=by omega
  rw [e]
  (refine q_H Try.func39 (fun F=>?_); simp only [q_z,q_y,Try.ntmps39,Try.results39])
  repeat' (first|with_reducible refine q_0 ?_|((with_reducible first|refine q_q obt_ok fun K hK=>?_|refine q_r obt_ok fun K hK=>?_);simp (maxSteps:=2000000) only [go_sem,↓reduceIte,reduceCtorEq,Nat.reduceLeDiff,Nat.reduceLT,Nat.reduceBEq,Nat.reduceAdd];(repeat1' with_reducible first|apply And.intro|(intro _;try exact q_v)|(refine hK _ ?_;clear hK K))<;>(try (clear hK K;exact q_u)))|(with_reducible refine q_s ?_;(first|apply q_J|apply q_K|apply q_L|apply q_M|apply q_N|apply q_O)<;>try (intro _;try exact q_v)))
  all_goals first | omega | exact q_A rfl
def leastCT : CT:=mkCT [] true fun l K=>match l with
 | [.inl (.i .i64 a),.inl (.i .i64 b)]=>K (.c (.i .i64 (min a b)))
 | _=>False
def oq1 : Cfg:=addT 39 leastCT cf0
theorem oq1_ok : TblOk Try.prog oq1:=q_I cf0_ok Try.func39 fun l K h=>by
 split at h
 ·exact ⟨_,(least_ret _ _).plain rfl,h⟩
 ·exact h.elim
abbrev hM (A : List (List C)) (m : Mg) : Hp:=⟨[(0,[.c (.ints .i64 m.o),.own 0 0,.c (.i .i64 (m.w : Nat)),.c (.i .i64 (m.f : Nat)),.c (.ints .i64 m.l),.c (.ints .i64 m.r),.own 1 0])],[(0,⟨0,42,2,.sl 2 A⟩),(1,⟨0,3,1,.ints .i64 m.x⟩)],[]⟩
set_option maxHeartbeats 1600000 in
theorem open_ret (A : List (List C)) (m : Mg) : RetG Try.prog 13 (hM A m) [.bx 0 0] (hM A m) [.c (.b (decide (0 < m.l.length ∧ 0 < m.r.length)))]:=by
 by_cases h1 : 0 < m.l.length
 ·by_cases h2 : 0 < m.r.length
  ·have e : decide (0 < m.l.length ∧ 0 < m.r.length) = true:=decide_eq_true ⟨h1,h2⟩
   rw [e]
   (refine ret_ge Try.func13 (fun F bs=>?_); simp only [avSl,ancs,hnx,Nat.reduceAdd,Nat.reduceLeDiff,if_true,if_false,List.length_cons,List.length_nil,List.cons_append,List.nil_append,Try.ntmps13,Try.results13])
   repeat' (first|with_reducible refine q_0 ?_|((with_reducible first|refine q_q obt_ok fun K hK=>?_|refine q_r obt_ok fun K hK=>?_);simp (maxSteps:=2000000) only [go_sem,↓reduceIte,reduceCtorEq,Nat.reduceLeDiff,Nat.reduceLT,Nat.reduceBEq,Nat.reduceAdd];(repeat1' with_reducible first|apply And.intro|(intro _;try exact q_v)|(refine hK _ ?_;clear hK K))<;>(try (clear hK K;exact q_u)))|(with_reducible refine q_s ?_;(first|apply q_J|apply q_K|apply q_L|apply q_M|apply q_N|apply q_O)<;>try (intro _;try exact q_v)))
   all_goals first | omega | exact ends_g [(2,.c (.b true))] 2 (by exact q_D) rfl
  ·have e : decide (0 < m.l.length ∧ 0 < m.r.length) = false:=decide_eq_false (fun h=>h2 h.2)
   have hd : decide (0 < (m.r.length : Int)) = false:=decide_eq_false (by omega)
   rw [e]
   (refine ret_ge Try.func13 (fun F bs=>?_); simp only [avSl,ancs,hnx,Nat.reduceAdd,Nat.reduceLeDiff,if_true,if_false,List.length_cons,List.length_nil,List.cons_append,List.nil_append,Try.ntmps13,Try.results13])
   repeat' (first|with_reducible refine q_0 ?_|((with_reducible first|refine q_q obt_ok fun K hK=>?_|refine q_r obt_ok fun K hK=>?_);simp (maxSteps:=2000000) only [go_sem,↓reduceIte,reduceCtorEq,Nat.reduceLeDiff,Nat.reduceLT,Nat.reduceBEq,Nat.reduceAdd,hd];(repeat1' with_reducible first|apply And.intro|(intro _;try exact q_v)|(refine hK _ ?_;clear hK K))<;>(try (clear hK K;exact q_u)))|(with_reducible refine q_s ?_;(first|apply q_J|apply q_K|apply q_L|apply q_M|apply q_N|apply q_O)<;>try (intro _;try exact q_v)))
   all_goals first | omega | exact ends_g [(2,.c (.b false))] 2 (by exact q_D) rfl
 ·have e : decide (0 < m.l.length ∧ 0 < m.r.length) = false:=decide_eq_false (fun h=>h1 h.1)
  rw [e]
  (refine ret_ge Try.func13 (fun F bs=>?_); simp only [avSl,ancs,hnx,Nat.reduceAdd,Nat.reduceLeDiff,if_true,if_false,List.length_cons,List.length_nil,List.cons_append,List.nil_append,Try.ntmps13,Try.results13])
  repeat' (first|with_reducible refine q_0 ?_|((with_reducible first|refine q_q obt_ok fun K hK=>?_|refine q_r obt_ok fun K hK=>?_);simp (maxSteps:=2000000) only [go_sem,↓reduceIte,reduceCtorEq,Nat.reduceLeDiff,Nat.reduceLT,Nat.reduceBEq,Nat.reduceAdd];(repeat1' with_reducible first|apply And.intro|(intro _;try exact q_v)|(refine hK _ ?_;clear hK K))<;>(try (clear hK K;exact q_u)))|(with_reducible refine q_s ?_;(first|apply q_J|apply q_K|apply q_L|apply q_M|apply q_N|apply q_O)<;>try (intro _;try exact q_v)))
  all_goals first | omega | exact ends_g [(2,.c (.b false))] 2 (by exact q_D) rfl
def openCT : CT:=mkCTG fun H al K=>match H,al with
 | ⟨[(0,[.c (.ints .i64 o),.own 0 0,.c (.i .i64 w),.c (.i .i64 f),.c (.ints .i64 l),.c (.ints .i64 r),.own 1 0])],[(0,⟨0,42,2,.sl 2 A⟩),(1,⟨0,3,1,.ints .i64 x⟩)],[]⟩,[.bx 0 0]=>(0 ≤ w ∧ 0 ≤ f) ∧
   (0 < l.length ∧ 0 < r.length → K ⟨[(0,[.c (.ints .i64 o),.own 0 0,.c (.i .i64 w),.c (.i .i64 f),.c (.ints .i64 l),.c (.ints .i64 r),.own 1 0])],[(0,⟨0,42,2,.sl 2 A⟩),(1,⟨0,3,1,.ints .i64 x⟩)],[]⟩ [.c (.b true)]) ∧
   (¬ (0 < l.length ∧ 0 < r.length) → K ⟨[(0,[.c (.ints .i64 o),.own 0 0,.c (.i .i64 w),.c (.i .i64 f),.c (.ints .i64 l),.c (.ints .i64 r),.own 1 0])],[(0,⟨0,42,2,.sl 2 A⟩),(1,⟨0,3,1,.ints .i64 x⟩)],[]⟩ [.c (.b false)])
 | _,_=>False
def oq2 : Cfg:=addT 13 openCT cf0
theorem oq2_ok : TblOk Try.prog oq2:=ctg_ok cf0_ok Try.func13 fun H al K h=>by
 split at h
 ·rename_i o w f l r A x
  obtain ⟨⟨h1,h2⟩,hy,hn⟩:=h
  obtain ⟨w,rfl⟩:=Int.eq_ofNat_of_zero_le h1
  obtain ⟨f,rfl⟩:=Int.eq_ofNat_of_zero_le h2
  by_cases hc : 0 < l.length ∧ 0 < r.length
  ·have:=open_ret A ⟨o,w,f,l,r,x⟩
   rw [show decide (0 < l.length ∧ 0 < r.length) = true from decide_eq_true hc] at this
   exact ⟨_,_,this,hy hc⟩
  ·have:=open_ret A ⟨o,w,f,l,r,x⟩
   rw [show decide (0 < l.length ∧ 0 < r.length) = false from decide_eq_false hc] at this
   exact ⟨_,_,this,hn hc⟩
 ·exact h.elim
attribute [go_sem] leastCT openCT
def oqt : Cfg:=listT [(39,leastCT),(13,openCT)] [27]
theorem oqt_ok : TblOk Try.prog oqt:=listE_ok (by simp only [List.mem_singleton,forall_eq]; exact flt) ⟨⟨oq1,oq1_ok,rfl⟩,⟨oq2,oq2_ok,rfl⟩,trivial⟩
attribute [go_sem] oqt
set_option maxRecDepth 100000 in
set_option maxHeartbeats 6400000 in
theorem load_ret (A : List (List C)) (m : Mg) (hm : m.Ok) : RetG Try.prog 33 (hM A m) [.bx 0 0] (hM A (loadM m)) []:=by
 generalize hz : loadM m = z
 (refine ret_ge Try.func33 (fun F bs=>?_); simp only [avSl,ancs,hnx,Nat.reduceAdd,Nat.reduceLeDiff,if_true,if_false,List.length_cons,List.length_nil,List.cons_append,List.nil_append,Try.ntmps33,Try.results33])
 repeat' (first|with_reducible refine q_0 ?_|((with_reducible first|refine q_q oqt_ok fun K hK=>?_|refine q_r oqt_ok fun K hK=>?_);simp (maxSteps:=2000000) only [go_sem,↓reduceIte,reduceCtorEq,Nat.reduceLeDiff,Nat.reduceLT,Nat.reduceBEq,Nat.reduceAdd];(repeat1' with_reducible first|apply And.intro|(intro _;try exact q_v)|(refine hK _ ?_;clear hK K))<;>(try (clear hK K;exact q_u)))|(with_reducible refine q_s ?_;(first|apply q_J|apply q_K|apply q_L|apply q_M|apply q_N|apply q_O)<;>try (intro _;try exact q_v)))
 all_goals try omega
 refine loop_rb (ι:={ q : Mg // q.Ok ∧ loadM q = z ∧ q.o.length = m.o.length }) (fun q=>⟨123,[(0,.bx 0 0),(2,.c (.i .i64 m.o.length)),(1000,.anc 0 (bs 0))],
  ⟨[(0,[.c (.ints .i64 q.1.o),.own 0 0,.c (.i .i64 (q.1.w : Nat)),.c (.i .i64 (q.1.f : Nat)),.c (.ints .i64 q.1.l),.c (.ints .i64 q.1.r),.own 1 0])],[(0,⟨0,42,2,.sl 2 A⟩),(1,⟨0,3,1,.ints .i64 q.1.x⟩)],[]⟩,2⟩) (fun q=>q.1.mu) ⟨m,hm,hz,rfl⟩ ?_ ?_
 ·exact q_D
 rintro ⟨q,q1,q2,q3⟩
 simp only at q1 q2 q3 ⊢
 have qn:=q1.n
 have qw:=q1.w1
 have qw0:=q1.w0
 have qf:=q1.f1
 have qx:=q1.xx
 by_cases hc : ¬ q.opn ∧ q.w < q.o.length
 ·have hs:=load_step q1 hc
  obtain ⟨k1,k2⟩:=Mg.step_ok q1 hc.2
  have k3:=Mg.step_mu q1 hc.2
  obtain ⟨c1,c2⟩:=hc
  have c3 : ¬ (0 < q.l.length ∧ 0 < q.r.length):=c1
  by_cases hf : q.o.length ≤ q.f
  ·have hq : q.step = ⟨q.x ++ q.l ++ q.r,2 * q.w,0,[],[],[]⟩:=if_pos hf
   have hxn : (q.x ++ q.l ++ q.r).length = q.o.length:=by simp only [List.length_append]; omega
   repeat' (first|with_reducible refine q_0 ?_|((with_reducible first|refine q_q oqt_ok fun K hK=>?_|refine q_r oqt_ok fun K hK=>?_);simp (maxSteps:=2000000) only [go_sem,↓reduceIte,reduceCtorEq,Nat.reduceLeDiff,Nat.reduceLT,Nat.reduceBEq,Nat.reduceAdd];(repeat1' with_reducible first|apply And.intro|(intro _;try exact q_v)|(refine hK _ ?_;clear hK K))<;>(try (clear hK K;exact q_u)))|(with_reducible refine q_s ?_;(first|apply q_J|apply q_K|apply q_L|apply q_M|apply q_N|apply q_O)<;>try (intro _;try exact q_v)))
   all_goals first | omega | rfl | skip
   all_goals refine roundr_2 [(2,0)] ⟨123,[(0,.bx 0 0),(2,.c (.i .i64 m.o.length)),(1000,.anc 0 (bs 0))],⟨[(0,[.c (.ints .i64 (q.x ++ q.l ++ q.r)),.own 0 0,.c (.i .i64 ((2 * q.w : Nat) : Nat)),.c (.i .i64 0),.c (.ints .i64 []),.c (.ints .i64 []),.c .nil])],[(0,⟨0,42,2,.sl 2 A⟩)],[]⟩,1⟩ ⟨q.step,k1,hs.trans q2,k2.trans q3⟩ ?_ ?_ k3
   all_goals try simp only [hq]
   all_goals exact q_D
  ·have hq : q.step = ⟨q.o,q.w,q.f + 2 * q.w,seg q.o q.f q.mid,seg q.o q.mid (min q.o.length (q.mid + q.w)),q.x ++ q.l ++ q.r⟩:=if_neg hf
   have e1 : (min (m.o.length : Int) ((q.f : Int) + (q.w : Int))).toNat = q.mid:=by unfold Mg.mid; rw [q3]; omega
   have e2 : (min (m.o.length : Int) (min (m.o.length : Int) ((q.f : Int) + (q.w : Int)) + (q.w : Int))).toNat = min q.o.length (q.mid + q.w):=by unfold Mg.mid; rw [q3]; omega
   repeat' (first|with_reducible refine q_0 ?_|((with_reducible first|refine q_q oqt_ok fun K hK=>?_|refine q_r oqt_ok fun K hK=>?_);simp (maxSteps:=2000000) only [go_sem,↓reduceIte,reduceCtorEq,Nat.reduceLeDiff,Nat.reduceLT,Nat.reduceBEq,Nat.reduceAdd,e1,e2];(repeat1' with_reducible first|apply And.intro|(intro _;try exact q_v)|(refine hK _ ?_;clear hK K))<;>(try (clear hK K;exact q_u)))|(with_reducible refine q_s ?_;(first|apply q_J|apply q_K|apply q_L|apply q_M|apply q_N|apply q_O)<;>try (intro _;try exact q_v)))
   all_goals first | omega | rfl | skip
   all_goals refine roundr_n [(2,0),(3,1)] ⟨q.step,k1,hs.trans q2,k2.trans q3⟩ ?_ k3
   all_goals simp only [hq]
   all_goals exact q_D
 ·have hd:=load_done hc
  rw [hd] at q2
  subst q2
  have hc2 : ¬ (¬ (0 < q.l.length ∧ 0 < q.r.length) ∧ q.w < q.o.length):=hc
  repeat' (first|with_reducible refine q_0 ?_|((with_reducible first|refine q_q oqt_ok fun K hK=>?_|refine q_r oqt_ok fun K hK=>?_);simp (maxSteps:=2000000) only [go_sem,↓reduceIte,reduceCtorEq,Nat.reduceLeDiff,Nat.reduceLT,Nat.reduceBEq,Nat.reduceAdd];(repeat1' with_reducible first|apply And.intro|(intro _;try exact q_v)|(refine hK _ ?_;clear hK K))<;>(try (clear hK K;exact q_u)))|(with_reducible refine q_s ?_;(first|apply q_J|apply q_K|apply q_L|apply q_M|apply q_N|apply q_O)<;>try (intro _;try exact q_v)))
  all_goals first | omega | rfl | skip
  all_goals exact roundr_exit (q_k (ends_grn [(2,0),(3,1)] [] 2 (by exact q_D) rfl))
end Go.Proofs.Ytmcjojbffidlbaa
