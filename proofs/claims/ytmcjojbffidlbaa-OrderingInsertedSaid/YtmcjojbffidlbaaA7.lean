import Derived.Test.YtmcjojbffidlbaaA4
namespace Go.Proofs.Ytmcjojbffidlbaa
set_option linter.unusedSimpArgs false
set_option linter.unusedVariables false
open Go.Abs Go.Proofs.NatL

section
variable {cf : Cfg} {st : St}
theorem fz_lookup {t : TypeId} {x i : Operand} {ok : Bool} : fzFor cf st (.lookup t x i ok) = st:=rfl
theorem fz_mapUpdate {t : TypeId} {x i y : Operand} : fzFor cf st (.mapUpdate t x i y) = st:=rfl
theorem fz_makeMap {t : TypeId} {r : Option Operand} : fzFor cf st (.makeMap t r) = st:=rfl
end
attribute [go_sem] fz_lookup fz_mapUpdate fz_makeMap
def ogb : Cfg:=listT [(30,atCT),(11,atCT)] [27]
theorem ogb_ok : TblOk Try.prog ogb:=listE_ok (by simp only [List.mem_singleton,forall_eq]; exact flt) ⟨⟨oa1,oa1_ok,rfl⟩,⟨oa2,oa2_ok,rfl⟩,trivial⟩
attribute [go_sem] ogb
def seenF (ps : List Int) : Int → Option C:=fun x=>if x ∈ ps then some (.b true) else none
theorem seen_step (xs : List Int) (k : Nat) (hk : k < xs.length) (y : Int) : (if y = xs.getD k 0 then some (C.b true) else seenF (xs.take k) y) = seenF (xs.take (k + 1)) y:=by
 unfold seenF
 rw [List.take_succ_eq_append_getElem hk,getD_eq xs k hk]
 by_cases h : y = xs[k]
 ·subst h; rw [if_pos rfl,if_pos (List.mem_append.2 (.inr (List.mem_singleton.2 rfl)))]
 ·rw [if_neg h]
  by_cases h2 : y ∈ xs.take k
  ·rw [if_pos h2,if_pos (List.mem_append.2 (.inl h2))]
  ·rw [if_neg h2,if_neg (fun hm=>(List.mem_append.1 hm).elim h2 fun hm=>h (List.mem_singleton.1 hm))]
def invR (xs : List Int) : List (C ⊕ List C):=match badO xs with
 | some (c,k)=>[.inl (.ints .i64 []),.inr [.i .i64 c,.i .i64 (k : Nat)]]
 | none=>[.inl (.ints .i64 (invL xs xs.length)),.inr [.i .i64 0,.i .i64 0]]
theorem invR_bad {xs : List Int} {c : Int} {k : Nat} (h : badO xs = some (c,k)) : invR xs = [.inl (.ints .i64 []),.inr [.i .i64 c,.i .i64 (k : Nat)]]:=by unfold invR; rw [h]
theorem invR_ok {xs : List Int} (h : badO xs = none) : invR xs = [.inl (.ints .i64 (invL xs xs.length)),.inr [.i .i64 0,.i .i64 0]]:=by unfold invR; rw [h]
set_option maxRecDepth 100000 in
set_option maxHeartbeats 3200000 in
theorem inverse_ret (xs : List Int) (hx : xs.length ≤ 17592186044416) : Ret Try.prog 19 false [.inl (.ints .i64 xs)] (.t (invR xs)):=by
 (refine q_H Try.func19 (fun F=>?_); simp only [q_z,q_y,Try.ntmps19,Try.results19])
 repeat' (first|with_reducible refine q_0 ?_|((with_reducible first|refine q_q ogb_ok fun K hK=>?_|refine q_r ogb_ok fun K hK=>?_);simp (maxSteps:=2000000) only [go_sem,↓reduceIte,reduceCtorEq,Nat.reduceLeDiff,Nat.reduceLT,Nat.reduceBEq,Nat.reduceAdd];(repeat1' with_reducible first|apply And.intro|(intro _;try exact q_v)|(refine hK _ ?_;clear hK K))<;>(try (clear hK K;exact q_u)))|(with_reducible refine q_s ?_;(first|apply q_J|apply q_K|apply q_L|apply q_M|apply q_N|apply q_O)<;>try (intro _;try exact q_v)))
 all_goals try omega
 refine q_G (ι:={ k : Nat // k ≤ xs.length ∧ scanO xs k (xs.length - k) = badO xs }) (fun k=>⟨43,[(0,.c (.ints .i64 xs)),(3,.bx 0 0),(4,.own 1 0),(5,.mp 2),(12,.c (.ints .i64 xs)),(13,.c (.i .i64 xs.length)),(14,.c (.i .i64 (k.1 : Nat)))],⟨[(2,[.mc (.i .i64 (seenF (xs.take k.1)) k.1)]),(0,[.c (.i .i64 0),.c (.i .i64 0)])],[(1,⟨0,3,1,.ints .i64 (invL xs k.1)⟩)],[]⟩,3⟩) (fun k=>xs.length - k.1) ⟨0,by omega,rfl⟩ ?_ ?_
 ·((simp only [go_sem,↓reduceIte,reduceCtorEq,Nat.reduceLeDiff,Nat.reduceLT,Nat.reduceBEq,Nat.reduceAdd])<;>(try (simp;done))<;>(try ((simp only [C.i.injEq,C.b.injEq,C.ints.injEq,C.bools.injEq,List.append_cancel_left_eq,List.cons.injEq,true_and,and_true]);(repeat' with_reducible apply And.intro)<;>(first|rfl|assumption|omega|(simp;omega)|(congr 1;omega)|(congr 2;omega)))))
  all_goals first | rfl | exact ⟨rfl,fun x=>by simp [seenF],rfl⟩ | skip
 rintro ⟨k,k1,k2⟩
 simp only at k1 k2 ⊢
 have il:=invL_len xs k
 have zq:=zv4
 try simp only [zvO,oneCell,Value.oneCell'] at zq
 rcases Nat.lt_or_ge k xs.length with hk | hk
 ·by_cases ho : xs.getD k 0 < 0 ∨ (xs.length : Int) ≤ xs.getD k 0
  ·have hb:=scanO_out hk ho
   rw [k2] at hb
   have hr:=invR_bad hb
   rw [hr]
   repeat' (first|with_reducible refine q_0 ?_|((with_reducible first|refine q_q ogb_ok fun K hK=>?_|refine q_r ogb_ok fun K hK=>?_);simp (maxSteps:=2000000) only [go_sem,↓reduceIte,reduceCtorEq,Nat.reduceLeDiff,Nat.reduceLT,Nat.reduceBEq,Nat.reduceAdd,zq];(repeat1' with_reducible first|apply And.intro|(intro _;try exact q_v)|(refine hK _ ?_;clear hK K))<;>(try (clear hK K;exact q_u)))|(with_reducible refine q_s ?_;(first|apply q_J|apply q_K|apply q_L|apply q_M|apply q_N|apply q_O)<;>try (intro _;try exact q_v)))
   all_goals first | omega | exact q_B [.inl (some (.ints .i64 [])),.inr [none,none]] rfl rfl
  ·by_cases hm : xs.getD k 0 ∈ xs.take k
   ·have hb:=scanO_twice hk ho hm
    rw [k2] at hb
    have hr:=invR_bad hb
    rw [hr]
    have hs : seenF (xs.take k) (xs.getD k 0) = some (.b true):=if_pos hm
    repeat' (first|with_reducible refine q_0 ?_|((with_reducible first|refine q_q ogb_ok fun K hK=>?_|refine q_r ogb_ok fun K hK=>?_);simp (maxSteps:=2000000) only [go_sem,↓reduceIte,reduceCtorEq,Nat.reduceLeDiff,Nat.reduceLT,Nat.reduceBEq,Nat.reduceAdd,zq,hs];(repeat1' with_reducible first|apply And.intro|(intro _;try exact q_v)|(refine hK _ ?_;clear hK K))<;>(try (clear hK K;exact q_u)))|(with_reducible refine q_s ?_;(first|apply q_J|apply q_K|apply q_L|apply q_M|apply q_N|apply q_O)<;>try (intro _;try exact q_v)))
    all_goals first | omega | exact q_B [.inl (some (.ints .i64 [])),.inr [none,none]] rfl rfl
   ·have hn:=scanO_next hk ho hm
    have hs : seenF (xs.take k) (xs.getD k 0) = none:=if_neg hm
    repeat' (first|with_reducible refine q_0 ?_|((with_reducible first|refine q_q ogb_ok fun K hK=>?_|refine q_r ogb_ok fun K hK=>?_);simp (maxSteps:=2000000) only [go_sem,↓reduceIte,reduceCtorEq,Nat.reduceLeDiff,Nat.reduceLT,Nat.reduceBEq,Nat.reduceAdd,zq,hs,il];(repeat1' with_reducible first|apply And.intro|(intro _;try exact q_v)|(refine hK _ ?_;clear hK K))<;>(try (clear hK K;exact q_u)))|(with_reducible refine q_s ?_;(first|apply q_J|apply q_K|apply q_L|apply q_M|apply q_N|apply q_O)<;>try (intro _;try exact q_v)))
    all_goals try omega
    refine q_F ⟨k + 1,hk,hn.symm.trans k2⟩ ?_ (by simp only; omega)
    simp only [invL]
    ((simp only [go_sem,↓reduceIte,reduceCtorEq,Nat.reduceLeDiff,Nat.reduceLT,Nat.reduceBEq,Nat.reduceAdd])<;>(try (simp;done))<;>(try ((simp only [C.i.injEq,C.b.injEq,C.ints.injEq,C.bools.injEq,List.append_cancel_left_eq,List.cons.injEq,true_and,and_true]);(repeat' with_reducible apply And.intro)<;>(first|rfl|assumption|omega|(simp;omega)|(congr 1;omega)|(congr 2;omega)))))
    all_goals first | rfl | exact ⟨by simp,fun x=>seen_step xs k hk x⟩ | skip
 ·have hk' : k = xs.length:=by omega
  subst hk'
  rw [Nat.sub_self] at k2
  have hr:=invR_ok k2.symm
  rw [hr]
  repeat' (first|with_reducible refine q_0 ?_|((with_reducible first|refine q_q ogb_ok fun K hK=>?_|refine q_r ogb_ok fun K hK=>?_);simp (maxSteps:=2000000) only [go_sem,↓reduceIte,reduceCtorEq,Nat.reduceLeDiff,Nat.reduceLT,Nat.reduceBEq,Nat.reduceAdd,zq];(repeat1' with_reducible first|apply And.intro|(intro _;try exact q_v)|(refine hK _ ?_;clear hK K))<;>(try (clear hK K;exact q_u)))|(with_reducible refine q_s ?_;(first|apply q_J|apply q_K|apply q_L|apply q_M|apply q_N|apply q_O)<;>try (intro _;try exact q_v)))
  all_goals first | omega | exact q_B [.inl (some (.ints .i64 [])),.inr [none,none]] rfl rfl | exact q_A rfl
def bC (xs : List Int) : Int:=match badO xs with | some (c,_)=>c | none=>0
def bK (xs : List Int) : Int:=match badO xs with | some (_,k)=>(k : Int) | none=>0
theorem bC_some {xs : List Int} {c : Int} {k : Nat} (h : badO xs = some (c,k)) : bC xs = c ∧ bK xs = (k : Int):=by unfold bC bK; rw [h]; exact ⟨rfl,rfl⟩
theorem bC_ne {xs : List Int} (h : badO xs ≠ none) : bC xs = 4 ∨ bC xs = 8:=by
 cases hb : badO xs with
 | none=>exact absurd hb h
 | some p=>obtain ⟨c,k⟩:=p; rw [(bC_some hb).1]; exact (scanO_some _ _ hb).1
def inverseCT : CT:=mkCT [.inl (some (.ints .i64 []))] false fun l K=>match l with
 | [.inl (.ints .i64 xs)]=>xs.length ≤ 17592186044416 ∧ (badO xs ≠ none → K (.t [.inl (.ints .i64 []),.inr [.i .i64 (bC xs),.i .i64 (bK xs)]])) ∧ (badO xs = none → K (.t [.inl (.ints .i64 (invL xs xs.length)),.inr [.i .i64 0,.i .i64 0]]))
 | _=>False
def og3 : Cfg:=addT 19 inverseCT cf0
theorem og3_ok : TblOk Try.prog og3:=q_I cf0_ok Try.func19 fun l K h=>by
 split at h
 ·rename_i xs
  refine ⟨_,inverse_ret xs h.1,?_⟩
  cases hb : badO xs with
  | none=>rw [invR_ok hb]; exact h.2.2 hb
  | some p=>obtain ⟨c,k⟩:=p; rw [invR_bad hb,← (bC_some hb).1,← (bC_some hb).2]; exact h.2.1 (by rw [hb]; simp)
 ·exact h.elim
attribute [go_sem] inverseCT
def ogd : Cfg:=listT [(30,atCT),(19,inverseCT)] [27]
theorem ogd_ok : TblOk Try.prog ogd:=listE_ok (by simp only [List.mem_singleton,forall_eq]; exact flt) ⟨⟨oa1,oa1_ok,rfl⟩,⟨og3,og3_ok,rfl⟩,trivial⟩
attribute [go_sem] ogd
set_option maxHeartbeats 1600000 in
theorem permute_len (l xs : List Int) (hl : l.length ≤ 17592186044416) (hx : xs.length ≤ 17592186044416) (hne : xs.length ≠ l.length) : Ret Try.prog 18 false [.inl (.ints .i64 l),.inl (.ints .i64 xs)] (.t [.inl (.ints .i64 []),.inr [.i .i64 9,.i .i64 (-2)]]):=by
 (refine q_H Try.func18 (fun F=>?_); simp only [q_z,q_y,Try.ntmps18,Try.results18])
 repeat' (first|with_reducible refine q_0 ?_|((with_reducible first|refine q_q ogd_ok fun K hK=>?_|refine q_r ogd_ok fun K hK=>?_);simp (maxSteps:=2000000) only [go_sem,↓reduceIte,reduceCtorEq,Nat.reduceLeDiff,Nat.reduceLT,Nat.reduceBEq,Nat.reduceAdd];(repeat1' with_reducible first|apply And.intro|(intro _;try exact q_v)|(refine hK _ ?_;clear hK K))<;>(try (clear hK K;exact q_u)))|(with_reducible refine q_s ?_;(first|apply q_J|apply q_K|apply q_L|apply q_M|apply q_N|apply q_O)<;>try (intro _;try exact q_v)))
 all_goals first | omega | exact q_B [.inl (some (.ints .i64 [])),.inr [none,none]] rfl rfl
set_option maxHeartbeats 1600000 in
theorem permute_bad (l xs : List Int) (hl : l.length ≤ 17592186044416) (hx : xs.length ≤ 17592186044416) (he : xs.length = l.length) (hb : badO xs ≠ none) : Ret Try.prog 18 false [.inl (.ints .i64 l),.inl (.ints .i64 xs)] (.t [.inl (.ints .i64 []),.inr [.i .i64 (bC xs),.i .i64 (bK xs)]]):=by
 have hc:=bC_ne hb
 (refine q_H Try.func18 (fun F=>?_); simp only [q_z,q_y,Try.ntmps18,Try.results18])
 repeat' (first|with_reducible refine q_0 ?_|((with_reducible first|refine q_q ogd_ok fun K hK=>?_|refine q_r ogd_ok fun K hK=>?_);simp (maxSteps:=2000000) only [go_sem,↓reduceIte,reduceCtorEq,Nat.reduceLeDiff,Nat.reduceLT,Nat.reduceBEq,Nat.reduceAdd];(repeat1' with_reducible first|apply And.intro|(intro _;try exact q_v)|(refine hK _ ?_;clear hK K))<;>(try (clear hK K;exact q_u)))|(with_reducible refine q_s ?_;(first|apply q_J|apply q_K|apply q_L|apply q_M|apply q_N|apply q_O)<;>try (intro _;try exact q_v)))
 all_goals first | omega | contradiction | exact q_B [.inl (some (.ints .i64 [])),.inr [none,none]] rfl rfl
set_option maxRecDepth 100000 in
set_option maxHeartbeats 3200000 in
theorem permute_ok (l xs : List Int) (hl : l.length ≤ 17592186044416) (hx : xs.length ≤ 17592186044416) (he : xs.length = l.length) (hb : badO xs = none) : Ret Try.prog 18 false [.inl (.ints .i64 l),.inl (.ints .i64 xs)] (.t [.inl (.ints .i64 (permL l xs)),.inr [.i .i64 0,.i .i64 0]]):=by
 have hg:=good_of hb
 (refine q_H Try.func18 (fun F=>?_); simp only [q_z,q_y,Try.ntmps18,Try.results18])
 repeat' (first|with_reducible refine q_0 ?_|((with_reducible first|refine q_q ogd_ok fun K hK=>?_|refine q_r ogd_ok fun K hK=>?_);simp (maxSteps:=2000000) only [go_sem,↓reduceIte,reduceCtorEq,Nat.reduceLeDiff,Nat.reduceLT,Nat.reduceBEq,Nat.reduceAdd];(repeat1' with_reducible first|apply And.intro|(intro _;try exact q_v)|(refine hK _ ?_;clear hK K))<;>(try (clear hK K;exact q_u)))|(with_reducible refine q_s ?_;(first|apply q_J|apply q_K|apply q_L|apply q_M|apply q_N|apply q_O)<;>try (intro _;try exact q_v)))
 all_goals first | omega | contradiction | skip
 refine q_G (ι:={ k : Nat // k ≤ xs.length }) (fun k=>⟨42,[(0,.c (.ints .i64 l)),(5,.bx 0 0),(8,.own 2 0),(26,.c (.ints .i64 xs)),(27,.c (.i .i64 xs.length)),(28,.c (.i .i64 (k.1 : Nat)))],⟨[(0,[.c (.i .i64 0),.c (.i .i64 0)])],[(2,⟨0,3,1,.ints .i64 (permL l (xs.take k.1))⟩)],[]⟩,3⟩) (fun k=>xs.length - k.1) ⟨0,by omega⟩ ?_ ?_
 ·exact q_D
 rintro ⟨k,k1⟩
 simp only at k1 ⊢
 rcases Nat.lt_or_ge k xs.length with hk | hk
 ·have hlo:=hg.lo k hk
  have hs : permL l (xs.take (k + 1)) = permL l (xs.take k) ++ [l.getD (xs.getD k 0).toNat 0]:=by
   rw [List.take_succ_eq_append_getElem hk,getD_eq xs k hk]; simp only [permL,List.map_append,List.map_cons,List.map_nil]
  have pl : (permL l (xs.take k)).length = k:=by rw [permL_len,List.length_take]; omega
  repeat' (first|with_reducible refine q_0 ?_|((with_reducible first|refine q_q ogd_ok fun K hK=>?_|refine q_r ogd_ok fun K hK=>?_);simp (maxSteps:=2000000) only [go_sem,↓reduceIte,reduceCtorEq,Nat.reduceLeDiff,Nat.reduceLT,Nat.reduceBEq,Nat.reduceAdd,pl];(repeat1' with_reducible first|apply And.intro|(intro _;try exact q_v)|(refine hK _ ?_;clear hK K))<;>(try (clear hK K;exact q_u)))|(with_reducible refine q_s ?_;(first|apply q_J|apply q_K|apply q_L|apply q_M|apply q_N|apply q_O)<;>try (intro _;try exact q_v)))
  all_goals try omega
  refine q_F ⟨k + 1,hk⟩ ?_ (by simp only; omega)
  simp only [hs]
  exact q_D
 ·have hk' : k = xs.length:=by omega
  subst hk'
  rw [List.take_length]
  repeat' (first|with_reducible refine q_0 ?_|((with_reducible first|refine q_q ogd_ok fun K hK=>?_|refine q_r ogd_ok fun K hK=>?_);simp (maxSteps:=2000000) only [go_sem,↓reduceIte,reduceCtorEq,Nat.reduceLeDiff,Nat.reduceLT,Nat.reduceBEq,Nat.reduceAdd];(repeat1' with_reducible first|apply And.intro|(intro _;try exact q_v)|(refine hK _ ?_;clear hK K))<;>(try (clear hK K;exact q_u)))|(with_reducible refine q_s ?_;(first|apply q_J|apply q_K|apply q_L|apply q_M|apply q_N|apply q_O)<;>try (intro _;try exact q_v)))
  all_goals first | omega | exact q_B [.inl (some (.ints .i64 [])),.inr [none,none]] rfl rfl | exact q_A rfl
def permuteCT : CT:=mkCT [.inl (some (.ints .i64 [])),.inl (some (.ints .i64 []))] false fun l K=>match l with
 | [.inl (.ints .i64 l),.inl (.ints .i64 xs)]=>(l.length ≤ 17592186044416 ∧ xs.length ≤ 17592186044416) ∧ (xs.length ≠ l.length → K (.t [.inl (.ints .i64 []),.inr [.i .i64 9,.i .i64 (-2)]])) ∧
   (xs.length = l.length → (badO xs ≠ none → K (.t [.inl (.ints .i64 []),.inr [.i .i64 (bC xs),.i .i64 (bK xs)]])) ∧ (badO xs = none → K (.t [.inl (.ints .i64 (permL l xs)),.inr [.i .i64 0,.i .i64 0]])))
 | _=>False
def og4 : Cfg:=addT 18 permuteCT cf0
theorem og4_ok : TblOk Try.prog og4:=q_I cf0_ok Try.func18 fun l K h=>by
 split at h
 ·rename_i l xs
  obtain ⟨⟨hl,hx⟩,h1,h2⟩:=h
  by_cases he : xs.length = l.length
  ·cases hb : badO xs with
   | none=>exact ⟨_,permute_ok l xs hl hx he hb,(h2 he).2 hb⟩
   | some p=>exact ⟨_,permute_bad l xs hl hx he (by rw [hb]; simp),(h2 he).1 (by rw [hb]; simp)⟩
  ·exact ⟨_,permute_len l xs hl hx he,h1 he⟩
 ·exact h.elim
attribute [go_sem] permuteCT
end Go.Proofs.Ytmcjojbffidlbaa
