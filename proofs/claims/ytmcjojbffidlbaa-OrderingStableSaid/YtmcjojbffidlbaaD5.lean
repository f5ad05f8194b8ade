import Derived.Test.YtmcjojbffidlbaaD4
namespace Go.Proofs.Ytmcjojbffidlbaa
set_option linter.unusedSimpArgs false
set_option linter.unusedVariables false
open Go.Abs Go.Proofs.NatL

section
variable {cf : Cfg} {st : St}
theorem fz_lookup {t : TypeId} {x i : Operand} {ok : Bool} : fzFor cf st (.lookup t x i ok) = st:=rfl
theorem fz_mapUpdate {t : TypeId} {x i y : Operand} : fzFor cf st (.mapUpdate t x i y) = st:=rfl
theorem fz_makeMap {t : TypeId} {r : Option Operand} : fzFor cf st (.makeMap t r) = st:=rfl
end
attribute [go_sem] fz_lookup fz_mapUpdate fz_makeMap
def ogb : Cfg:=listT [(30,atCT),(11,atCT)] [27]
theorem ogb_ok : TblOk Try.prog ogb:=listE_ok (by simp only [List.mem_singleton,forall_eq]; exact flt) ⟨⟨oa1,oa1_ok,rfl⟩,⟨oa2,oa2_ok,rfl⟩,trivial⟩
attribute [go_sem] ogb
def seenF (ps : List Int) : Int → Option C:=fun x=>if x ∈ ps then some (.b true) else none
theorem seen_step (xs : List Int) (k : Nat) (hk : k < xs.length) (y : Int) : (if y = xs.getD k 0 then some (C.b true) else seenF (xs.take k) y) = seenF (xs.take (k + 1)) y:=by
 unfold seenF
 rw [List.take_succ_eq_append_getElem hk,getD_eq xs k hk]
 by_cases h : y = xs[k]
 ·subst h; rw [if_pos rfl,if_pos (List.mem_append.2 (.inr (List.mem_singleton.2 rfl)))]
 ·rw [if_neg h]
  by_cases h2 : y ∈ xs.take k
  ·rw [if_pos h2,if_pos (List.mem_append.2 (.inl h2))]
  ·rw [if_neg h2,if_neg (fun hm=>(List.mem_append.1 hm).elim h2 fun hm=>h (List.mem_singleton.1 hm))]
def invR (xs : List Int) : List (C ⊕ List C):=match badO xs with
 | some (c,k)=>[.inl (.ints .i64 []),.inr [.i .i64 c,.i .i64 (k : Nat)]]
 | none=>[.inl (.ints .i64 (invL xs xs.length)),.inr [.i .i64 0,.i .i64 0]]
theorem invR_bad {xs : List Int} {c : Int} {k : Nat} (h : badO xs = some (c,k)) : invR xs = [.inl (.ints .i64 []),.inr [.i .i64 c,.i .i64 (k : Nat)]]:=by unfold invR; rw [h]
theorem invR_ok {xs : List Int} (h : badO xs = none) : invR xs = [.inl (.ints .i64 (invL xs xs.length)),.inr [.i .i64 0,.i .i64 0]]:=by unfold invR; rw [h]
set_option maxRecDepth 100000 in
set_option maxHeartbeats 3200000 in
theorem inverse_ret (xs : List Int) (hx : xs.length ≤ 17592186044416) : Ret Try.prog 19 false [.inl (.ints .i64 xs)] (.t (invR xs)):=by
 (refine q_H Try.func19 (fun F=>?_); simp only [q_z,q_y,Try.ntmps19,Try.results19])
 repeat' (first|with_reducible refine q_0 ?_|((with_reducible first|refine q_q ogb_ok fun K hK=>?_|refine q_r ogb_ok fun K hK=>?_);simp (maxSteps:=2000000) only [go_sem,↓reduceIte,reduceCtorEq,Nat.reduceLeDiff,Nat.reduceLT,Nat.reduceBEq,Nat.reduceAdd];(repeat1' with_reducible first|apply And.intro|(intro _;try exact q_v)|(refine hK _ ?_;clear hK K))<;>(try (clear hK K;exact q_u)))|(with_reducible refine q_s ?_;(first|apply q_J|apply q_K|apply q_L|apply q_M|apply q_N|apply q_O)<;>try (intro _;try exact q_v)))
 all_goals try omega
 refine q_G (ι:={ k : Nat // k ≤ xs.length ∧ scanO xs k (xs.length - k) = badO xs }) (fun k=>⟨43,[(0,.c (.ints .i64 xs)),(3,.bx 0 0),(4,.own 1 0),(5,.mp 2),(12,.c (.ints .i64 xs)),(13,.c (.i .i64 xs.length)),(14,.c (.i .i64 (k.1 : Nat)))],⟨[(2,[.mc (.i .i64 (seenF (xs.take k.1)) k.1)]),(0,[.c (.i .i64 0),.c (.i .i64 0)])],[(1,⟨0,3,1,.ints .i64 (invL xs k.1)⟩)],[]⟩,3⟩) (fun k=>xs.length - k.1) ⟨0,by omega,rfl⟩ ?_ ?_
 ·((simp only [go_sem,↓reduceIte,reduceCtorEq,Nat.reduceLeDiff,Nat.reduceLT,Nat.reduceBEq,Nat.reduceAdd])<;>(try (simp;done))<;>(try ((simp only [C.i.injEq,C.b.injEq,C.ints.injEq,C.bools.injEq,List.append_cancel_left_eq,List.cons.injEq,true_and,and_true]);(repeat' with_reducible apply And.intro)<;>(first|rfl|assumption|omega|(simp;omega)|(congr 1;omega)|(congr 2;omega)))))
  all_goals first | rfl | exact ⟨rfl,fun x=>by simp [seenF],rfl⟩ | skip
 rintro ⟨k,k1,k2⟩
 simp only at k1 k2 ⊢
 have il:=invL_len xs k
 have zq:=zv4
 try simp only [zvO,oneCell,Value.oneCell'] at zq
 rcases Nat.lt_or_ge k xs.length with hk | hk
 ·by_cases ho : xs.getD k 0 < 0 ∨ (xs.length : Int) ≤ xs.getD k 0
  ·have hb:=scanO_out hk ho
   rw [k2] at hb
   have hr:=invR_bad hb
   rw [hr]
   repeat' (first|with_reducible refine q_0 ?_|((with_reducible first|refine q_q ogb_ok fun K hK=>?_|refine q_r ogb_ok fun K hK=>?_);simp (maxSteps:=2000000) only [go_sem,↓reduceIte,reduceCtorEq,Nat.reduceLeDiff,Nat.reduceLT,Nat.reduceBEq,Nat.reduceAdd,zq];(repeat1' with_reducible first|apply And.intro|(intro _;try exact q_v)|(refine hK _ ?_;clear hK K))<;>(try (clear hK K;exact q_u)))|(with_reducible refine q_s ?_;(first|apply q_J|apply q_K|apply q_L|apply q_M|apply q_N|apply q_O)<;>try (intro _;try exact q_v)))
   all_goals first | omega | exact q_B [.inl (some (.ints .i64 [])),.inr [none,none]] rfl rfl
  ·by_cases hm : xs.getD k 0 ∈ xs.take k
   ·have hb:=scanO_twice hk ho hm
    rw [k2] at hb
    have hr:=invR_bad hb
    rw [hr]
    have hs : seenF (xs.take k) (xs.getD k 0) = some (.b true):=if_pos hm
    repeat' (first|with_reducible refine q_0 ?_|((with_reducible first|refine q_q ogb_ok fun K hK=>?_|refine q_r ogb_ok fun K hK=>?_);simp (maxSteps:=2000000) only [go_sem,↓reduceIte,reduceCtorEq,Nat.reduceLeDiff,Nat.reduceLT,Nat.reduceBEq,Nat.reduceAdd,zq,hs];(repeat1' with_reducible first|apply And.intro|(intro _;try exact q_v)|(refine hK _ ?_;clear hK K))<;>(try (clear hK K;exact q_u)))|(with_reducible refine q_s ?_;(first|apply q_J|apply q_K|apply q_L|apply q_M|apply q_N|apply q_O)<;>try (intro _;try exact q_v)))
    all_goals first | omega | exact q_B [.inl (some (.ints .i64 [])),.inr [none,none]] rfl rfl
   ·have hn:=scanO_next hk ho hm
    have hs : seenF (xs.take k) (xs.getD k 0) = none:=if_neg hm
    repeat' (first|with_reducible refine q_0 ?_|((with_reducible first|refine q_q ogb_ok fun K hK=>?_|refine q_r ogb_ok fun K hK=>?_);simp (maxSteps:=2000000) only [go_sem,↓reduceIte,reduceCtorEq,Nat.reduceLeDiff,Nat.reduceLT,Nat.reduceBEq,Nat.reduceAdd,zq,hs,il];(repeat1' with_reducible first|apply And.intro|(intro _;try exact q_v)|(refine hK _ ?_;clear hK K))<;>(try (clear hK K;exact q_u)))|(with_reducible refine q_s ?_;(first|apply q_J|apply q_K|apply q_L|apply q_M|apply q_N|apply q_O)<;>try (intro _;try exact q_v)))
    all_goals try omega
    refine q_F ⟨k + 1,hk,hn.symm.trans k2⟩ ?_ (by simp only; omega)
    simp only [invL]
    ((simp only [go_sem,↓reduceIte,reduceCtorEq,Nat.reduceLeDiff,Nat.reduceLT,Nat.reduceBEq,Nat.reduceAdd])<;>(try (simp;done))<;>(try ((simp only [C.i.injEq,C.b.injEq,C.ints.injEq,C.bools.injEq,List.append_cancel_left_eq,List.cons.injEq,true_and,and_true]);(repeat' with_reducible apply And.intro)<;>(first|rfl|assumption|omega|(simp;omega)|(congr 1;omega)|(congr 2;omega)))))
    all_goals first | rfl | exact ⟨by simp,fun x=>seen_step xs k hk x⟩ | skip
 ·have hk' : k = xs.length:=by omega
  subst hk'
  rw [Nat.sub_self] at k2
  have hr:=invR_ok k2.symm
  rw [hr]
  repeat' (first|with_reducible refine q_0 ?_|((with_reducible first|refine q_q ogb_ok fun K hK=>?_|refine q_r ogb_ok fun K hK=>?_);simp (maxSteps:=2000000) only [go_sem,↓reduceIte,reduceCtorEq,Nat.reduceLeDiff,Nat.reduceLT,Nat.reduceBEq,Nat.reduceAdd,zq];(repeat1' with_reducible first|apply And.intro|(intro _;try exact q_v)|(refine hK _ ?_;clear hK K))<;>(try (clear hK K;exact q_u)))|(with_reducible refine q_s ?_;(first|apply q_J|apply q_K|apply q_L|apply q_M|apply q_N|apply q_O)<;>try (intro _;try exact q_v)))
  all_goals first | omega | exact q_B [.inl (some (.ints .i64 [])),.inr [none,none]] rfl rfl | exact q_A rfl
def bC (xs : List Int) : Int:=match badO xs with | some (c,_)=>c | none=>0
def bK (xs : List Int) : Int:=match badO xs with | some (_,k)=>(k : Int) | none=>0
theorem bC_some {xs : List Int} {c : Int} {k : Nat} (h : badO xs = some (c,k)) : bC xs = c ∧ bK xs = (k : Int):=by unfold bC bK; rw [h]; exact ⟨rfl,rfl⟩
theorem bC_ne {xs : List Int} (h : badO xs ≠ none) : bC xs = 4 ∨ bC xs = 8:=by
 cases hb : badO xs with
 | none=>exact absurd hb h
 | some p=>obtain ⟨c,k⟩:=p; rw [(bC_some hb).1]; exact (scanO_some _ _ hb).1
def inverseCT : CT:=mkCT [.inl (some (.ints .i64 []))] false fun l K=>match l with
 | [.inl (.ints .i64 xs)]=>xs.length ≤ 17592186044416 ∧ (badO xs ≠ none → K (.t [.inl (.ints .i64 []),.inr [.i .i64 (bC xs),.i .i64 (bK xs)]])) ∧ (badO xs = none → K (.t [.inl (.ints .i64 (invL xs xs.length)),.inr [.i .i64 0,.i .i64 0]]))
 | _=>False
def og3 : Cfg:=addT 19 inverseCT cf0
theorem og3_ok : TblOk Try.prog og3:=q_I cf0_ok Try.func19 fun l K h=>by
 split at h
 ·rename_i xs
  refine ⟨_,inverse_ret xs h.1,?_⟩
  cases hb : badO xs with
  | none=>rw [invR_ok hb]; exact h.2.2 hb
  | some p=>obtain ⟨c,k⟩:=p; rw [invR_bad hb,← (bC_some hb).1,← (bC_some hb).2]; exact h.2.1 (by rw [hb]; simp)
 ·exact h.elim
attribute [go_sem] inverseCT
def ogd : Cfg:=listT [(30,atCT),(19,inverseCT)] [27]
theorem ogd_ok : TblOk Try.prog ogd:=listE_ok (by simp only [List.mem_singleton,forall_eq]; exact flt) ⟨⟨oa1,oa1_ok,rfl⟩,⟨og3,og3_ok,rfl⟩,trivial⟩
attribute [go_sem] ogd
set_option maxHeartbeats 1600000 in
theorem permute_len (l xs : List Int) (hl : l.length ≤ 17592186044416) (hx : xs.length ≤ 17592186044416) (hne : xs.length ≠ l.length) : Ret Try.prog 18 false [.inl (.ints .i64 l),.inl (.ints .i64 xs)] (.t [.inl (.ints .i64 []),.inr [.i .i64 9,.i .i64 (-2)]]):=by
 (refine q_H Try.func18 (fun F=>?_); simp only [q_z,q_y,Try.ntmps18,Try.results18])
 repeat' (first|with_reducible refine q_0 ?_|((with_reducible first|refine q_q ogd_ok fun K hK=>?_|refine q_r ogd_ok fun K hK=>?_);simp (maxSteps:=2000000) only [go_sem,↓reduceIte,reduceCtorEq,Nat.reduceLeDiff,Nat.reduceLT,Nat.reduceBEq,Nat.reduceAdd];(repeat1' with_reducible first|apply And.intro|(intro _;try exact q_v)|(refine hK _ ?_;clear hK K))<;>(try (clear hK K;exact q_u)))|(with_reducible refine q_s ?_;(first|apply q_J|apply q_K|apply q_L|apply q_M|apply q_N|apply q_O)<;>try (intro _;try exact q_v)))
 all_goals first | omega | exact q_B [.inl (some (.ints .i64 [])),.inr [none,none]] rfl rfl
set_option maxHeartbeats 1600000 in
theorem permute_bad (l xs : List Int) (hl : l.length ≤ 17592186044416) (hx : xs.length ≤ 17592186044416) (he : xs.length = l.length) (hb : badO xs ≠ none) : Ret Try.prog 18 false [.inl (.ints .i64 l),.inl (.ints .i64 xs)] (.t [.inl (.ints .i64 []),.inr [.i .i64 (bC xs),.i .i64 (bK xs)]]):=by
 have hc:=bC_ne hb
 (refine q_H Try.func18 (fun F=>?_); simp only [q_z,q_y,Try.ntmps18,Try.results18])
 repeat' (first|with_reducible refine q_0 ?_|((with_reducible first|refine q_q ogd_ok fun K hK=>?_|refine q_r ogd_ok fun K hK=>?_);simp (maxSteps:=2000000) only [go_sem,↓reduceIte,reduceCtorEq,Nat.reduceLeDiff,Nat.reduceLT,Nat.reduceBEq,Nat.reduceAdd];(repeat1' with_reducible first|apply And.intro|(intro _;try exact q_v)|(refine hK _ ?_;clear hK K))<;>(try (clear hK K;exact q_u)))|(with_reducible refine q_s ?_;(first|apply q_J|apply q_K|apply q_L|apply q_M|apply q_N|apply q_O)<;>try (intro _;try exact q_v)))
 all_goals first | omega | contradiction | exact q_B [.inl (some (.ints .i64 [])),.inr [none,none]] rfl rfl
set_option maxRecDepth 100000 in
set_option maxHeartbeats 3200000 in
theorem permute_ok (l xs : List Int) (hl : l.length ≤ 17592186044416) (hx : xs.length ≤ 17592186044416) (he : xs.length = l.length) (hb : badO xs = none) : Ret Try.prog 18 false [.inl (.ints .i64 l),.inl (.ints .i64 xs)] (.t [.inl (.ints .i64 (permL l xs)),.inr [.i .i64 0,.i .i64 0]]):=by
 have hg:=good_of hb
 (refine q_H Try.func18 (fun F=>?_); simp only [q_z,q_y,Try.ntmps18,Try.results18])
 repeat' (first|with_reducible refine q_0 ?_|((with_reducible first|refine q_q ogd_ok fun K hK=>?_|refine q_r ogd_ok fun K hK=>?_);simp (maxSteps:=2000000) only [go_sem,↓reduceIte,reduceCtorEq,Nat.reduceLeDiff,Nat.reduceLT,Nat.reduceBEq,Nat.reduceAdd];(repeat1' with_reducible first|apply And.intro|(intro _;try exact q_v)|(refine hK _ ?_;clear hK K))<;>(try (clear hK K;exact q_u)))|(with_reducible refine q_s ?_;(first|apply q_J|apply q_K|apply q_L|apply q_M|apply q_N|apply q_O)<;>try (intro _;try exact q_v)))
 all_goals first | omega | contradiction | skip
 refine q_G (ι:={ k : Nat // k ≤ xs.length }) (fun k=>⟨42,[(0,.c (.ints .i64 l)),(5,.bx 0 0),(8,.own 2 0),(26,.c (.ints .i64 xs)),(27,.c (.i .i64 xs.length)),(28,.c (.i .i64 (k.1 : Nat)))],⟨[(0,[.c (.i .i64 0),.c (.i .i64 0)])],[(2,⟨0,3,1,.ints .i64 (permL l (xs.take k.1))⟩)],[]⟩,3⟩) (fun k=>xs.length - k.1) ⟨0,by omega⟩ ?_ ?_
 ·exact q_D
 rintro ⟨k,k1⟩
 simp only at k1 ⊢
 rcases Nat.lt_or_ge k xs.length with hk | hk
 ·have hlo:=hg.lo k hk
  have hs : permL l (xs.take (k + 1)) = permL l (xs.take k) ++ [l.getD (xs.getD k 0).toNat 0]:=by
   rw [List.take_succ_eq_append_getElem hk,getD_eq xs k hk]; simp only [permL,List.map_append,List.map_cons,List.map_nil]
  have pl : (permL l (xs.take k)).length = k:=by rw [permL_len,List.length_take]; omega
  repeat' (first|with_reducible refine q_0 ?_|((with_reducible first|refine q_q ogd_ok fun K hK=>?_|refine q_r ogd_ok fun K hK=>?_);simp (maxSteps:=2000000) only [go_sem,↓reduceIte,reduceCtorEq,Nat.reduceLeDiff,Nat.reduceLT,Nat.reduceBEq,Nat.reduceAdd,pl];(repeat1' with_reducible first|apply And.intro|(intro _;try exact q_v)|(refine hK _ ?_;clear hK K))<;>(try (clear hK K;exact q_u)))|(with_reducible refine q_s ?_;(first|apply q_J|apply q_K|apply q_L|apply q_M|apply q_N|apply q_O)<;>try (intro _;try exact q_v)))
  all_goals try omega
  refine q_F ⟨k + 1,hk⟩ ?_ (by simp only; omega)
  simp only [hs]
  exact q_D
 ·have hk' : k = xs.length:=by omega
  subst hk'
  rw [List.take_length]
  repeat' (first|with_reducible refine q_0 ?_|((with_reducible first|refine q_q ogd_ok fun K hK=>?_|refine q_r ogd_ok fun K hK=>?_);simp (maxSteps:=2000000) only [go_sem,↓reduceIte,reduceCtorEq,Nat.reduceLeDiff,Nat.reduceLT,Nat.reduceBEq,Nat.reduceAdd];(repeat1' with_reducible first|apply And.intro|(intro _;try exact q_v)|(refine hK _ ?_;clear hK K))<;>(try (clear hK K;exact q_u)))|(with_reducible refine q_s ?_;(first|apply q_J|apply q_K|apply q_L|apply q_M|apply q_N|apply q_O)<;>try (intro _;try exact q_v)))
  all_goals first | omega | exact q_B [.inl (some (.ints .i64 [])),.inr [none,none]] rfl rfl | exact q_A rfl
def permuteCT : CT:=mkCT [.inl (some (.ints .i64 [])),.inl (some (.ints .i64 []))] false fun l K=>match l with
 | [.inl (.ints .i64 l),.inl (.ints .i64 xs)]=>(l.length ≤ 17592186044416 ∧ xs.length ≤ 17592186044416) ∧ (xs.length ≠ l.length → K (.t [.inl (.ints .i64 []),.inr [.i .i64 9,.i .i64 (-2)]])) ∧
   (xs.length = l.length → (badO xs ≠ none → K (.t [.inl (.ints .i64 []),.inr [.i .i64 (bC xs),.i .i64 (bK xs)]])) ∧ (badO xs = none → K (.t [.inl (.ints .i64 (permL l xs)),.inr [.i .i64 0,.i .i64 0]])))
 | _=>False
def og4 : Cfg:=addT 18 permuteCT cf0
theorem og4_ok : TblOk Try.prog og4:=q_I cf0_ok Try.func18 fun l K h=>by
 split at h
 ·rename_i l xs
  obtain ⟨⟨hl,hx⟩,h1,h2⟩:=h
  by_cases he : xs.length = l.length
  ·cases hb : badO xs with
   | none=>exact ⟨_,permute_ok l xs hl hx he hb,(h2 he).2 hb⟩
   | some p=>exact ⟨_,permute_bad l xs hl hx he (by rw [hb]; simp),(h2 he).1 (by rw [hb]; simp)⟩
  ·exact ⟨_,permute_len l xs hl hx he,h1 he⟩
 ·exact h.elim
attribute [go_sem] permuteCT
end Go.Proofs.Ytmcjojbffidlbaa

namespace Go.Proofs.Ytmcjojbffidlbaa
set_option linter.unusedSimpArgs false
set_option linter.unusedVariables false

def seg (o : List Int) (a b : Nat) : List Int:=(o.take b).drop a
def Bef (κ : Int → Int) (a b : Int) : Prop:=κ a < κ b ∨ (κ a = κ b ∧ a < b)
theorem seg_nil (o : List Int) {a b : Nat} (h : b ≤ a) : seg o a b = []:=List.drop_eq_nil_of_le (by rw [List.length_take]; omega)
theorem seg_cat (o : List Int) {a b c : Nat} (h1 : a ≤ b) (h2 : b ≤ c) : seg o a b ++ seg o b c = seg o a c:=by
 unfold seg
 apply List.ext_getElem?
 intro i
 simp only [List.getElem?_append,List.length_drop,List.length_take,List.getElem?_drop,List.getElem?_take]
 rcases Nat.lt_or_ge i (min b o.length - a) with h | h
 ·rw [if_pos h,if_pos (by omega),if_pos (by omega)]
 ·rw [if_neg (by omega)]
  by_cases hb : b ≤ o.length
  ·have e : b + (i - (min b o.length - a)) = a + i:=by omega
   rw [e]
  ·have e1 : o[b + (i - (min b o.length - a))]? = none:=List.getElem?_eq_none (by omega)
   have e2 : o[a + i]? = none:=List.getElem?_eq_none (by omega)
   rw [e1,e2]
   simp
theorem seg_head (o : List Int) {a b : Nat} (h1 : a < b) (h2 : b ≤ o.length) : seg o a b = o.getD a 0 :: seg o (a + 1) b:=by
 rw [← seg_cat o (show a ≤ a + 1 by omega) (show a + 1 ≤ b by omega)]
 have : seg o a (a + 1) = [o.getD a 0]:=by
  unfold seg
  rw [List.take_succ_eq_append_getElem (by omega),List.drop_append_of_le_length (by rw [List.length_take]; omega)]
  rw [List.drop_eq_nil_of_le (by rw [List.length_take]; omega)]
  simp [List.getD_eq_getElem?_getD,List.getElem?_eq_getElem (show a < o.length by omega)]
 rw [this]; rfl
theorem seg_all (o : List Int) : seg o 0 o.length = o:=by simp [seg]
theorem seg_pre (x y z : List Int) {a b : Nat} (h : b ≤ x.length) : seg (x ++ y ++ z) a b = seg x a b:=by
 unfold seg
 rw [List.append_assoc,List.take_append_of_le_length h]
theorem seg_mid (x y z : List Int) {a b : Nat} (ha : a = x.length) (hb : b = x.length + y.length) : seg (x ++ y ++ z) a b = y:=by
 unfold seg
 subst ha; subst hb
 rw [List.take_append_of_le_length (by simp),← List.length_append,List.take_length,List.drop_left]
theorem seg_post (x y z o : List Int) {a b e : Nat} (he : e = x.length + y.length) (hz : z = o.drop e) (hae : e ≤ a) : seg (x ++ y ++ z) a b = seg o a b:=by
 unfold seg
 subst hz
 apply List.ext_getElem?
 intro i
 simp only [List.getElem?_drop,List.getElem?_take]
 split
 ·rw [List.getElem?_append_right (by simp; omega),List.getElem?_drop]
  congr 1
  simp; omega
 ·rfl
theorem seg_take (o : List Int) {a b k : Nat} (h : b ≤ k) : seg (o.take k) a b = seg o a b:=by
 unfold seg; rw [List.take_take,Nat.min_eq_left h]
structure Block (κ : Int → Int) (o : List Int) (s e : Nat) : Prop where
 up : (seg o s e).Pairwise (Bef κ)
 inn : ∀ x ∈ seg o s e,(s : Int) ≤ x ∧ x < (e : Int)
theorem Block.cong {κ : Int → Int} {o o' : List Int} {s e : Nat} (h : Block κ o s e) (he : seg o' s e = seg o s e) : Block κ o' s e:=⟨by rw [he]; exact h.up,fun x hx=>h.inn x (by rwa [he] at hx)⟩
structure Inv (κ : Int → Int) (p : Pn) (c : Nat) : Prop where
 ok : p.Ok
 f0 : ¬ p.on → p.f = 0 ∧ p.l = 0 ∧ p.r = 0 ∧ p.m = []
 ff : ∃ q,p.f = q * (2 * p.w)
 aa : ∀ q,q * (2 * p.w) < p.f → Block κ p.o (q * (2 * p.w)) (min p.o.length (q * (2 * p.w) + 2 * p.w))
 bb : ∀ q,p.f ≤ q * p.w → q * p.w < p.o.length → Block κ p.o (q * p.w) (min p.o.length (q * p.w + p.w))
 ml : (p.m ++ seg p.o (p.f + p.l) p.mid).Pairwise (Bef κ)
 mr : (p.m ++ seg p.o (p.mid + p.r) p.en).Pairwise (Bef κ)
 pm : p.on → (p.m ++ (seg p.o (p.f + p.l) p.mid ++ seg p.o (p.mid + p.r) p.en)).Perm (seg p.o p.f p.en)
 pr : p.o.Perm ((List.range p.o.length).map fun i : Nat=>(i : Int))
 cc : ∃ k,p.w = 2 ^ k ∧ (k = 0 ∨ 2 ^ (k - 1) < p.o.length) ∧ c ≤ p.o.length * k + (p.f + p.l + p.r)
theorem Inv.start {κ : Int → Int} {o : List Int} {w f : Nat} {c : Nat} (ok : (Pn.mk o w f 0 0 []).Ok) (f0 : ¬ w < o.length → f = 0) (ff : ∃ q,f = q * (2 * w))
  (aa : ∀ q,q * (2 * w) < f → Block κ o (q * (2 * w)) (min o.length (q * (2 * w) + 2 * w))) (bb : ∀ q,f ≤ q * w → q * w < o.length → Block κ o (q * w) (min o.length (q * w + w)))
  (pr : o.Perm ((List.range o.length).map fun i : Nat=>(i : Int))) (cc : ∃ k,w = 2 ^ k ∧ (k = 0 ∨ 2 ^ (k - 1) < o.length) ∧ c ≤ o.length * k + f) : Inv κ ⟨o,w,f,0,0,[]⟩ c:=by
 obtain ⟨q,hq⟩:=ff
 have h1 : f = (2 * q) * w:=by rw [hq,Nat.mul_comm 2 w,← Nat.mul_assoc,Nat.mul_assoc q w 2,Nat.mul_comm w 2,← Nat.mul_assoc,Nat.mul_comm q 2]
 have h2 : f + w = (2 * q + 1) * w:=by rw [Nat.add_mul,← h1]; omega
 refine ⟨ok,fun h=>⟨f0 h,rfl,rfl,rfl⟩,⟨q,hq⟩,aa,bb,?_,?_,?_,pr,?_⟩
 ·show ([] ++ seg o (f + 0) (min o.length (f + w))).Pairwise (Bef κ)
  rw [List.nil_append,Nat.add_zero]
  by_cases hf : f < o.length
  ·have:=(bb (2 * q) (by omega) (by omega)).up
   rwa [← h1] at this
  ·rw [seg_nil _ (by omega)]; exact List.Pairwise.nil
 ·show ([] ++ seg o (min o.length (f + w) + 0) (min o.length (f + 2 * w))).Pairwise (Bef κ)
  rw [List.nil_append,Nat.add_zero]
  by_cases hf : f + w < o.length
  ·have:=(bb (2 * q + 1) (by omega) (by omega)).up
   rw [← h2] at this
   rwa [Nat.min_eq_right (by omega),show f + 2 * w = f + w + w by omega]
  ·rw [seg_nil _ (by omega)]; exact List.Pairwise.nil
 ·intro ho
  have:=Pn.facts ok ho
  simp only [Pn.mid,Pn.en] at this
  show ([] ++ (seg o (f + 0) (min o.length (f + w)) ++ seg o (min o.length (f + w) + 0) (min o.length (f + 2 * w)))).Perm (seg o f (min o.length (f + 2 * w)))
  rw [List.nil_append,Nat.add_zero,Nat.add_zero,seg_cat o (by omega) (by omega)]
 ·exact cc
theorem bef_trans {κ : Int → Int} {a b c : Int} (h1 : Bef κ a b) (h2 : Bef κ b c) : Bef κ a c:=by unfold Bef at *; omega
theorem put_perm {p : Pn} (h : p.Ok) (ho : p.on) (hp : p.mrg.Perm (seg p.o p.f p.en)) : p.put.Perm p.o:=by
 obtain ⟨h1,h2,h3,h4,h5,h6⟩:=Pn.facts h ho
 have e : p.o = p.o.take p.f ++ seg p.o p.f p.en ++ p.o.drop p.en:=by
  conv=>lhs; rw [← List.take_append_drop p.en p.o,← List.take_append_drop p.f (p.o.take p.en),List.take_take,Nat.min_eq_left (by omega)]
  rfl
 conv=>rhs; rw [e]
 exact (List.Perm.append_left _ hp).append_right _
theorem Inv.step {κ : Int → Int} {p : Pn} {c : Nat} (h : Inv κ p c) (ho : p.on) (ha : ¬ p.asks) : Inv κ p.step c:=by
 obtain ⟨h1,h2,h3,h4,h5,h6⟩:=Pn.facts h.ok ho
 have hlen:=Pn.put_len h.ok ho
 have hml:=Pn.mrg_len h.ok ho
 have hok:=Pn.step_ok h.ok ho
 have hw:=h.ok.w0
 have ho2 : p.w < p.o.length:=ho
 have ha2 : ¬ (p.f + p.l < p.mid ∧ p.mid + p.r < p.en):=ha
 have hmm : p.mrg = p.m ++ (seg p.o (p.f + p.l) p.mid ++ seg p.o (p.mid + p.r) p.en):=rfl
 have hup : p.mrg.Pairwise (Bef κ):=by
  rw [hmm]
  by_cases hl : p.mid ≤ p.f + p.l
  ·rw [seg_nil _ hl,List.nil_append]; exact h.mr
  ·rw [seg_nil p.o (show p.en ≤ p.mid + p.r by omega),List.append_nil]; exact h.ml
 have hpm : p.mrg.Perm (seg p.o p.f p.en):=by rw [hmm]; exact h.pm ho
 obtain ⟨q,hq⟩:=h.ff
 have e1 : p.f = (2 * q) * p.w:=by rw [hq,Nat.mul_comm 2 p.w,← Nat.mul_assoc,Nat.mul_assoc q p.w 2,Nat.mul_comm p.w 2,← Nat.mul_assoc,Nat.mul_comm q 2]
 have e2 : p.f + p.w = (2 * q + 1) * p.w:=by rw [Nat.add_mul,← e1]; omega
 have hin : ∀ x ∈ seg p.o p.f p.en,(p.f : Int) ≤ x ∧ x < (p.en : Int):=by
  intro x hx
  rw [← seg_cat p.o (show p.f ≤ p.mid by omega) h2] at hx
  rcases List.mem_append.1 hx with hx | hx
  ·have hb:=h.bb (2 * q) (by omega) (by omega)
   rw [← e1] at hb
   have:=hb.inn x hx
   simp only [Pn.mid,Pn.en] at *
   omega
  ·by_cases hm : p.f + p.w < p.o.length
   ·have hb:=h.bb (2 * q + 1) (by omega) (by omega)
    rw [← e2] at hb
    have em : p.mid = p.f + p.w:=by simp only [Pn.mid]; omega
    have ee : p.en = min p.o.length (p.f + p.w + p.w):=by simp only [Pn.en]; congr 1; omega
    rw [em,ee] at hx
    have:=hb.inn x hx
    omega
   ·have em : p.en ≤ p.mid:=by simp only [Pn.mid,Pn.en]; omega
    rw [seg_nil _ em] at hx
    cases hx
 have lx : (p.o.take p.f).length = p.f:=by rw [List.length_take]; omega
 have hmid : seg p.put p.f p.en = p.mrg:=seg_mid _ _ _ lx.symm (by rw [lx,hml]; omega)
 have hpre : ∀ a b,b ≤ p.f → seg p.put a b = seg p.o a b:=fun a b hb=>by
  show seg (p.o.take p.f ++ p.mrg ++ p.o.drop p.en) a b = _
  rw [seg_pre _ _ _ (by rw [lx]; exact hb),seg_take _ hb]
 have hpost : ∀ a b,p.en ≤ a → seg p.put a b = seg p.o a b:=fun a b hb=>seg_post _ _ _ _ (e:=p.en) (by rw [lx,hml]; omega) rfl hb
 have hnew : Block κ p.put p.f p.en:=⟨by rw [hmid]; exact hup,fun x hx=>hin x (hpm.mem_iff.1 (by rwa [hmid] at hx))⟩
 have hpr : p.put.Perm ((List.range p.put.length).map fun i : Nat=>(i : Int)):=by rw [hlen]; exact (put_perm h.ok ho hpm).trans h.pr
 -- all merged runs
 have hA : ∀ q',q' * (2 * p.w) < p.en → Block κ p.put (q' * (2 * p.w)) (min p.put.length (q' * (2 * p.w) + 2 * p.w)):=by
  intro q' hq'
  rw [hlen]
  have hen : p.en = min p.o.length (p.f + 2 * p.w):=rfl
  rcases Nat.lt_trichotomy q' q with hlt | heq | hgt
  ·have hle : (q' + 1) * (2 * p.w) ≤ q * (2 * p.w):=Nat.mul_le_mul_right _ hlt
   rw [Nat.add_mul,Nat.one_mul] at hle
   exact (h.aa q' (by omega)).cong (hpre _ _ (by omega))
  ·subst heq
   rw [← hq,← hen]; exact hnew
  ·have hle : (q + 1) * (2 * p.w) ≤ q' * (2 * p.w):=Nat.mul_le_mul_right _ hgt
   rw [Nat.add_mul,Nat.one_mul] at hle
   omega
 obtain ⟨k,hk1,hk2,hk3⟩:=h.cc
 have hrest : p.f + p.l + p.r ≤ p.en:=by omega
 unfold Pn.step at hok ⊢
 by_cases hc : p.o.length ≤ p.en
 ·rw [if_pos hc] at hok ⊢
  refine Inv.start hok (fun _=>rfl) ⟨0,by simp⟩ (fun q' hq'=>by omega) (fun q' _ hq'=>?_) hpr ⟨k + 1,by rw [hk1,Nat.pow_succ]; omega,.inr (by rw [hlen,Nat.add_sub_cancel,← hk1]; exact ho2),?_⟩
  ·rw [hlen] at hq'
   have:=hA q' (by omega)
   exact this
  ·rw [hlen,Nat.mul_add,Nat.mul_one]; omega
 ·rw [if_neg hc] at hok ⊢
  have een : p.en = p.f + 2 * p.w:=by
   have : p.en = min p.o.length (p.f + 2 * p.w):=rfl
   omega
  refine Inv.start hok (fun hno=>absurd (by rw [hlen]; exact ho2) hno) ⟨q + 1,by rw [een,Nat.add_mul,Nat.one_mul,← hq]⟩ hA (fun q' h7 h8=>?_) hpr ⟨k,hk1,by rw [hlen]; exact hk2,by rw [hlen]; omega⟩
  rw [hlen] at h8 ⊢
  exact (h.bb q' (by omega) h8).cong (hpost _ _ h7)
theorem Inv.settleF {κ : Int → Int} {c : Nat} : ∀ (k : Nat) {p : Pn},Inv κ p c → Inv κ (settleF k p) c
 | 0,p,h=>h
 | k + 1,p,h=>by
  simp only [Go.Proofs.Ytmcjojbffidlbaa.settleF]
  split
  ·rename_i hc; exact Inv.settleF k (h.step hc.1 hc.2)
  ·exact h
theorem Inv.settle {κ : Int → Int} {c : Nat} {p : Pn} (h : Inv κ p c) : Inv κ (settle p) c:=Inv.settleF _ h
theorem pair_snoc {R : Int → Int → Prop} {m l : List Int} {x : Int} (h1 : (m ++ x :: l).Pairwise R) : (m ++ [x] ++ l).Pairwise R:=by rw [List.append_assoc]; exact h1
theorem Inv.told {κ : Int → Int} {p : Pn} {c : Nat} (h : Inv κ p c) (ho : p.on) (ha : p.asks) : Inv κ (p.told (decide (κ p.i < κ p.j))) (c + 1):=by
 obtain ⟨h1,h2,h3,h4,h5,h6⟩:=Pn.facts h.ok ho
 obtain ⟨a1,a2⟩:=ha
 have hok:=told_ok h.ok ho ⟨a1,a2⟩ (decide (κ p.i < κ p.j))
 have eL : seg p.o (p.f + p.l) p.mid = p.j :: seg p.o (p.f + p.l + 1) p.mid:=seg_head _ a1 (by omega)
 have eR : seg p.o (p.mid + p.r) p.en = p.i :: seg p.o (p.mid + p.r + 1) p.en:=seg_head _ a2 h3
 have hml:=h.ml
 have hmr:=h.mr
 have hpm:=h.pm ho
 rw [eL] at hml hpm
 rw [eR] at hmr hpm
 obtain ⟨ml1,ml2,ml3⟩:=List.pairwise_append.1 hml
 obtain ⟨mr1,mr2,mr3⟩:=List.pairwise_append.1 hmr
 obtain ⟨j1,j2⟩:=List.pairwise_cons.1 ml2
 obtain ⟨i1,i2⟩:=List.pairwise_cons.1 mr2
 obtain ⟨q,hq⟩:=h.ff
 have e1 : p.f = (2 * q) * p.w:=by rw [hq,Nat.mul_comm 2 p.w,← Nat.mul_assoc,Nat.mul_assoc q p.w 2,Nat.mul_comm p.w 2,← Nat.mul_assoc,Nat.mul_comm q 2]
 have e2 : p.f + p.w = (2 * q + 1) * p.w:=by rw [Nat.add_mul,← e1]; omega
 have mem_seg : ∀ (a b k : Nat),a ≤ k → k < b → b ≤ p.o.length → p.o.getD k 0 ∈ seg p.o a b:=fun a b k hak hkb hb=>by
  rw [← seg_cat p.o hak (Nat.le_of_lt hkb),seg_head p.o hkb hb]; simp
 have hj : p.j < (p.mid : Int):=by
  have hb:=h.bb (2 * q) (by omega) (by omega)
  rw [← e1] at hb
  exact (hb.inn p.j (mem_seg p.f p.mid (p.f + p.l) (by omega) a1 (by omega))).2
 have hwm : p.f + p.w < p.o.length:=by simp only [Pn.mid,Pn.en] at *; omega
 have emid : p.mid = p.f + p.w:=by simp only [Pn.mid]; omega
 have hRall : ∀ y ∈ p.i :: seg p.o (p.mid + p.r + 1) p.en,(p.mid : Int) ≤ y:=by
  intro y hy
  rw [← eR] at hy
  have hb:=h.bb (2 * q + 1) (by omega) (by omega)
  rw [← e2,← emid] at hb
  have een : min p.o.length (p.mid + p.w) = p.en:=by simp only [Pn.en]; rw [emid]; congr 1; omega
  rw [een] at hb
  refine (hb.inn y ?_).1
  rw [← seg_cat p.o (show p.mid ≤ p.mid + p.r by omega) h6]
  exact List.mem_append.2 (.inr hy)
 obtain ⟨k,hk1,hk2,hk3⟩:=h.cc
 by_cases hb : κ p.i < κ p.j
 ·rw [decide_eq_true hb] at hok ⊢
  have et : p.told true = ⟨p.o,p.w,p.f,p.l,p.r + 1,p.m ++ [p.i]⟩:=rfl
  rw [et] at hok ⊢
  refine ⟨hok,fun hno=>absurd ho hno,⟨q,hq⟩,h.aa,h.bb,?_,?_,fun _=>?_,h.pr,⟨k,hk1,hk2,by simp only; omega⟩⟩
  ·show (p.m ++ [p.i] ++ seg p.o (p.f + p.l) p.mid).Pairwise (Bef κ)
   rw [eL,List.append_assoc]
   refine List.pairwise_append.2 ⟨mr1,?_,?_⟩
   ·refine List.pairwise_cons.2 ⟨fun y hy=>?_,ml2⟩
    rcases List.mem_cons.1 hy with rfl | hy
    ·exact .inl hb
    ·exact bef_trans (.inl hb) (j1 y hy)
   ·intro a ha' b hb'
    rcases List.mem_cons.1 hb' with rfl | hb'
    ·exact mr3 a ha' _ (List.mem_cons_self ..)
    ·exact ml3 a ha' b hb'
  ·show (p.m ++ [p.i] ++ seg p.o (p.mid + (p.r + 1)) p.en).Pairwise (Bef κ)
   exact pair_snoc hmr
  ·show (p.m ++ [p.i] ++ (seg p.o (p.f + p.l) p.mid ++ seg p.o (p.mid + (p.r + 1)) p.en)).Perm (seg p.o p.f p.en)
   refine List.Perm.trans ?_ hpm
   rw [eL,List.append_assoc]
   refine List.Perm.append_left _ ?_
   rw [show p.mid + (p.r + 1) = p.mid + p.r + 1 by omega]
   exact (List.perm_middle (a:=p.i) (l₁:=p.j :: seg p.o (p.f + p.l + 1) p.mid) (l₂:=seg p.o (p.mid + p.r + 1) p.en)).symm
 ·rw [decide_eq_false hb] at hok ⊢
  have et : p.told false = ⟨p.o,p.w,p.f,p.l + 1,p.r,p.m ++ [p.j]⟩:=rfl
  rw [et] at hok ⊢
  refine ⟨hok,fun hno=>absurd ho hno,⟨q,hq⟩,h.aa,h.bb,?_,?_,fun _=>?_,h.pr,⟨k,hk1,hk2,by simp only; omega⟩⟩
  ·show (p.m ++ [p.j] ++ seg p.o (p.f + (p.l + 1)) p.mid).Pairwise (Bef κ)
   exact pair_snoc hml
  ·show (p.m ++ [p.j] ++ seg p.o (p.mid + p.r) p.en).Pairwise (Bef κ)
   rw [eR,List.append_assoc]
   refine List.pairwise_append.2 ⟨ml1,?_,?_⟩
   ·refine List.pairwise_cons.2 ⟨fun y hy=>?_,mr2⟩
    have hy2:=hRall y hy
    have hle : κ p.i ≤ κ y:=by
     rcases List.mem_cons.1 hy with rfl | hy
     ·exact Int.le_refl _
     ·have:=i1 y hy; unfold Bef at this; omega
    unfold Bef; omega
   ·intro a ha' b hb'
    rcases List.mem_cons.1 hb' with rfl | hb'
    ·exact ml3 a ha' _ (List.mem_cons_self ..)
    ·exact mr3 a ha' b hb'
  ·show (p.m ++ [p.j] ++ (seg p.o (p.f + (p.l + 1)) p.mid ++ seg p.o (p.mid + p.r) p.en)).Perm (seg p.o p.f p.en)
   refine List.Perm.trans ?_ hpm
   rw [eR,List.append_assoc]
   exact List.Perm.refl _
theorem Inv.tell {κ : Int → Int} {p : Pn} {c : Nat} (h : Inv κ p c) (ho : p.on) (ha : p.asks) : Inv κ (tellP p (decide (κ p.i < κ p.j))) (c + 1):=by
 unfold tellP
 rw [if_pos ho]
 exact (h.told ho ha).settle
theorem startP_inv {κ : Int → Int} {n : Nat} (hn : n ≤ 1000) : Inv κ (settle (startP n)) 0:=by
 have hl : (startP n).o.length = n:=by simp [startP]
 have hg : ∀ k,k < n → (startP n).o.getD k 0 = (k : Int):=fun k hk=>by simp [startP,List.getD_eq_getElem?_getD,List.getElem?_map,List.getElem?_range hk]
 refine Inv.settle (Inv.start (startP_ok hn) (fun _=>rfl) ⟨0,by simp⟩ (fun q h=>by omega) (fun q _ h=>?_) ?_ ⟨0,rfl,.inl rfl,by omega⟩)
 ·have h' : q * 1 < n:=by rw [← hl]; exact h
  rw [Nat.mul_one] at h' ⊢
  show Block κ (startP n).o q (min (startP n).o.length (q + 1))
  rw [hl,Nat.min_eq_right (by omega)]
  have e : seg (startP n).o q (q + 1) = [(q : Int)]:=by rw [seg_head _ (by omega) (by omega),seg_nil _ (by omega),hg q h']
  refine ⟨by rw [e]; exact List.pairwise_singleton _ _,fun x hx=>?_⟩
  rw [e] at hx
  have:=List.mem_singleton.1 hx
  omega
 ·show (startP n).o.Perm ((List.range (startP n).o.length).map fun i : Nat=>(i : Int))
  rw [hl]; exact List.Perm.refl _
theorem Inv.done {κ : Int → Int} {p : Pn} {c : Nat} (h : Inv κ p c) (ho : ¬ p.on) : p.o.Pairwise (Bef κ) ∧ ∃ k,(k = 0 ∨ 2 ^ (k - 1) < p.o.length) ∧ c ≤ p.o.length * k:=by
 obtain ⟨e1,e2,e3,e4⟩:=h.f0 ho
 obtain ⟨k,hk1,hk2,hk3⟩:=h.cc
 have ho2 : ¬ p.w < p.o.length:=ho
 refine ⟨?_,k,hk2,by omega⟩
 by_cases hn : p.o.length = 0
 ·rw [List.eq_nil_of_length_eq_zero hn]; exact List.Pairwise.nil
 ·have:=(h.bb 0 (by omega) (by omega)).up
  rw [Nat.zero_mul,Nat.zero_add,Nat.min_eq_left (by omega),seg_all] at this
  exact this
def Pn.nu (p : Pn) : Nat:=(2 * p.o.length - p.w) * (p.o.length + 1) + (p.o.length - (p.f + p.l + p.r))
theorem Pn.step_nu {p : Pn} (h : p.Ok) (ho : p.on) : p.step.nu ≤ p.nu:=by
 obtain ⟨h1,h2,h3,h4,h5,h6⟩:=Pn.facts h ho
 have hl:=Pn.put_len h ho
 have hw:=h.w0
 have ho2 : p.w < p.o.length:=ho
 unfold Pn.step Pn.nu
 split
 ·simp only [hl]
  obtain ⟨d,hd⟩ : ∃ d,2 * p.o.length - p.w = d:=⟨_,rfl⟩
  obtain ⟨e,he⟩ : ∃ e,2 * p.o.length - 2 * p.w = e:=⟨_,rfl⟩
  have hde : e + 1 ≤ d:=by omega
  have:=Nat.mul_le_mul_right (p.o.length + 1) hde
  rw [Nat.add_mul] at this
  rw [hd,he]
  omega
 ·simp only [hl]
  omega
theorem settleF_nu : ∀ (k : Nat) {p : Pn},p.Ok → (settleF k p).nu ≤ p.nu
 | 0,p,h=>Nat.le_refl _
 | k + 1,p,h=>by
  simp only [settleF]
  split
  ·rename_i hc; exact Nat.le_trans (settleF_nu k (Pn.step_ok h hc.1)) (Pn.step_nu h hc.1)
  ·exact Nat.le_refl _
theorem tell_nu {p : Pn} (h : p.Ok) (ho : p.on) (ha : p.asks) (b : Bool) : (tellP p b).nu < p.nu:=by
 obtain ⟨h1,h2,h3,h4,h5,h6⟩:=Pn.facts h ho
 obtain ⟨a1,a2⟩:=ha
 unfold tellP
 rw [if_pos ho]
 refine Nat.lt_of_le_of_lt (settleF_nu _ (told_ok h ho ⟨a1,a2⟩ b)) ?_
 unfold Pn.told Pn.nu
 cases b
 ·simp only [Bool.false_eq_true,if_false]; omega
 ·simp only [if_true]; omega
end Go.Proofs.Ytmcjojbffidlbaa

namespace Go.Proofs.Ytmcjojbffidlbaa
set_option linter.unusedSimpArgs false
set_option linter.unusedVariables false
open Go.Abs Go.Proofs.NatL

def runP (b : Pn → Bool) : Nat → Pn → Pn
 | 0,p=>p
 | k + 1,p=>if p.on then runP b k (tellP p (b p)) else p
def runAll (b : Pn → Bool) (p : Pn) : Pn:=runP b p.nu p
theorem runP_off {b : Pn → Bool} {p : Pn} (h : ¬ p.on) : ∀ k,runP b k p = p
 | 0=>rfl
 | k + 1=>by simp only [runP]; rw [if_neg h]
theorem runP_more {b : Pn → Bool} : ∀ (k j : Nat) (p : Pn),p.Ok → (p.on → p.asks) → p.nu ≤ k → p.nu ≤ j → runP b k p = runP b j p
 | 0,j,p,h,ha,h1,h2=>by
  by_cases ho : p.on
  ·have:=tell_nu h ho (ha ho) (b p); omega
  ·rw [runP_off ho,runP_off ho]
 | k + 1,0,p,h,ha,h1,h2=>by
  by_cases ho : p.on
  ·have:=tell_nu h ho (ha ho) (b p); omega
  ·rw [runP_off ho,runP_off ho]
 | k + 1,j + 1,p,h,ha,h1,h2=>by
  simp only [runP]
  split
  ·rename_i ho
   have:=tell_nu h ho (ha ho) (b p)
   obtain ⟨g1,g2,g3⟩:=tellP_ok h ha (b p)
   exact runP_more k j _ g1 g2 (by omega) (by omega)
  ·rfl
theorem runAll_step {b : Pn → Bool} {p : Pn} (h : p.Ok) (ho : p.on) (ha : p.on → p.asks) : runAll b (tellP p (b p)) = runAll b p:=by
 have hn:=tell_nu h ho (ha ho) (b p)
 obtain ⟨g1,g2,g3⟩:=tellP_ok h ha (b p)
 unfold runAll
 obtain ⟨k,hk⟩ : ∃ k,p.nu = k + 1:=⟨p.nu - 1,by omega⟩
 rw [hk]
 simp only [runP]
 rw [if_pos ho]
 exact runP_more _ _ _ g1 g2 (Nat.le_refl _) (by omega)
theorem runAll_off {b : Pn → Bool} {p : Pn} (h : ¬ p.on) : runAll b p = p:=runP_off h _
def askI (p : Pn) : Int:=if p.on then p.i else 0
def askJ (p : Pn) : Int:=if p.on then p.j else 0
theorem range_good {o : List Int} (h : o.Perm ((List.range o.length).map fun i : Nat=>(i : Int))) : Good o:=by
 have hnd : o.Nodup:=by
  rw [h.nodup_iff,List.nodup_iff_pairwise_ne,List.pairwise_map]
  exact (List.nodup_iff_pairwise_ne.1 List.nodup_range).imp fun hne e=>hne (by omega)
 refine ⟨fun k hk=>?_,fun i k hik hk=>?_⟩
 ·have hm : o.getD k 0 ∈ o:=by rw [getD_eq o k hk]; exact List.getElem_mem hk
  obtain ⟨i,hi,he⟩:=List.mem_map.1 (h.mem_iff.1 hm)
  have:=List.mem_range.1 hi
  omega
 ·rw [getD_eq o i (by omega),getD_eq o k hk]
  exact (List.pairwise_iff_getElem.1 (List.nodup_iff_pairwise_ne.1 hnd)) i k (by omega) hk hik
theorem range_in {o : List Int} (h : o.Perm ((List.range o.length).map fun i : Nat=>(i : Int))) {k : Nat} (hk : k < o.length) : 0 ≤ o.getD k 0 ∧ o.getD k 0 < (o.length : Int):=(range_good h).lo k hk
theorem ask_in {p : Pn} (h : p.Ok) (ho : p.on) (ha : p.asks) (hp : p.o.Perm ((List.range p.o.length).map fun i : Nat=>(i : Int))) : (0 ≤ p.i ∧ p.i < (p.o.length : Int)) ∧ (0 ≤ p.j ∧ p.j < (p.o.length : Int)):=by
 obtain ⟨h1,h2,h3,h4,h5,h6⟩:=Pn.facts h ho
 obtain ⟨a1,a2⟩:=ha
 exact ⟨range_in hp (by omega),range_in hp (by omega)⟩
end Go.Proofs.Ytmcjojbffidlbaa

namespace Go.Proofs.Ytmcjojbffidlbaa
set_option linter.unusedSimpArgs false
set_option linter.unusedVariables false
open Go.Abs Go.Proofs.NatL

def mrgF (lt : Int → Int → Bool) : Nat → List Int → List Int → List Int
 | 0,a,b=>a ++ b
 | k + 1,x :: a,y :: b=>if lt y x = true then y :: mrgF lt k (x :: a) b else x :: mrgF lt k a (y :: b)
 | _ + 1,a,b=>a ++ b
def mrg (lt : Int → Int → Bool) (a b : List Int) : List Int:=mrgF lt (a.length + b.length) a b
theorem mrg_len {lt : Int → Int → Bool} : ∀ (k : Nat) (a b : List Int),(mrgF lt k a b).length = a.length + b.length
 | 0,a,b=>by simp [mrgF]
 | k + 1,[],b=>by simp [mrgF]
 | k + 1,x :: a,[]=>by simp [mrgF]
 | k + 1,x :: a,y :: b=>by
  simp only [mrgF]
  split
  ·simp only [List.length_cons,mrg_len k]; omega
  ·simp only [List.length_cons,mrg_len k]; omega
end Go.Proofs.Ytmcjojbffidlbaa

namespace Go.Abs
set_option linter.unusedSimpArgs false
set_option linter.unusedVariables false
open Go.RowKit
variable {P : Program}
theorem seq_cut6 {F : Fr} {Q : Exit → St → Prop} {st : St} {a0 a1 a2 a3 a4 a5 Y : Code} {ι : Type} (mid : ι → St) (h1 : ∀ Y',(∀ i,AWp P F Y' Q (mid i)) → AWp P F (.seq a0 (.seq a1 (.seq a2 (.seq a3 (.seq a4 (.seq a5 Y')))))) Q st) (h2 : ∀ i,AWp P F Y Q (mid i)) : AWp P F (.seq a0 (.seq a1 (.seq a2 (.seq a3 (.seq a4 (.seq a5 Y)))))) Q st:=h1 Y h2
theorem cut_fit {F : Fr} {Q : Exit → St → Prop} {st : St} {Y : Code} {ι : Type} {mid : ι → St} (hY : ∀ i,AWp P F Y Q (mid i)) (i : ι) (h : FitP st (mid i)) : AWp P F Y Q st:=awp_told (mid i) h (hY i)
end Go.Abs

namespace Go.Proofs.Ytmcjojbffidlbaa
set_option linter.unusedSimpArgs false
set_option linter.unusedVariables false
open Go.Abs Go.Proofs.NatL

def cntP (b : Pn → Bool) : Nat → Pn → Nat
 | 0,_=>0
 | k + 1,p=>if p.on then cntP b k (tellP p (b p)) + 1 else 0
def cntAll (b : Pn → Bool) (p : Pn) : Nat:=cntP b p.nu p
theorem cntP_off {b : Pn → Bool} {p : Pn} (h : ¬ p.on) : ∀ k,cntP b k p = 0
 | 0=>rfl
 | k + 1=>by simp only [cntP]; rw [if_neg h]
theorem cntP_le {b : Pn → Bool} : ∀ (k : Nat) (p : Pn),cntP b k p ≤ k
 | 0,p=>Nat.le_refl _
 | k + 1,p=>by
  simp only [cntP]
  split
  ·have:=cntP_le (b:=b) k (tellP p (b p)); omega
  ·omega
theorem cntP_more {b : Pn → Bool} : ∀ (k j : Nat) (p : Pn),p.Ok → (p.on → p.asks) → p.nu ≤ k → p.nu ≤ j → cntP b k p = cntP b j p
 | 0,j,p,h,ha,h1,h2=>by
  by_cases ho : p.on
  ·have:=tell_nu h ho (ha ho) (b p); omega
  ·rw [cntP_off ho,cntP_off ho]
 | k + 1,0,p,h,ha,h1,h2=>by
  by_cases ho : p.on
  ·have:=tell_nu h ho (ha ho) (b p); omega
  ·rw [cntP_off ho,cntP_off ho]
 | k + 1,j + 1,p,h,ha,h1,h2=>by
  simp only [cntP]
  split
  ·rename_i ho
   have:=tell_nu h ho (ha ho) (b p)
   obtain ⟨g1,g2,g3⟩:=tellP_ok h ha (b p)
   rw [cntP_more k j _ g1 g2 (by omega) (by omega)]
  ·rfl
theorem cntAll_step {b : Pn → Bool} {p : Pn} (h : p.Ok) (ho : p.on) (ha : p.on → p.asks) : cntAll b p = cntAll b (tellP p (b p)) + 1:=by
 have hn:=tell_nu h ho (ha ho) (b p)
 obtain ⟨g1,g2,g3⟩:=tellP_ok h ha (b p)
 unfold cntAll
 obtain ⟨k,hk⟩ : ∃ k,p.nu = k + 1:=⟨p.nu - 1,by omega⟩
 rw [hk]
 simp only [cntP]
 rw [if_pos ho,cntP_more k (tellP p (b p)).nu _ g1 g2 (by omega) (Nat.le_refl _)]
theorem cntAll_off {b : Pn → Bool} {p : Pn} (h : ¬ p.on) : cntAll b p = 0:=cntP_off h _
theorem run_cnt {κ : Int → Int} {b : Pn → Bool} (hb : ∀ q : Pn,b q = decide (κ q.i < κ q.j)) : ∀ (k : Nat) (p : Pn) (c : Nat),Inv κ p c → (p.on → p.asks) → p.nu ≤ k → Inv κ (runP b k p) (c + cntP b k p) ∧ ¬ (runP b k p).on ∧ (runP b k p).o.length = p.o.length
 | 0,p,c,h,ha,hk=>by
  by_cases ho : p.on
  ·have:=tell_nu h.ok ho (ha ho) true; omega
  ·exact ⟨h,ho,rfl⟩
 | k + 1,p,c,h,ha,hk=>by
  simp only [runP,cntP]
  split
  ·rename_i ho
   have h2:=h.tell ho (ha ho)
   rw [← hb p] at h2
   have hn:=tell_nu h.ok ho (ha ho) (b p)
   obtain ⟨g1,g2,g3⟩:=tellP_ok h.ok ha (b p)
   obtain ⟨g4,g5,g6⟩:=run_cnt hb k _ _ h2 g2 (by omega)
   rw [show c + (cntP b k (tellP p (b p)) + 1) = c + 1 + cntP b k (tellP p (b p)) by omega]
   exact ⟨g4,g5,g6.trans g3⟩
  ·rename_i ho; exact ⟨h,ho,rfl⟩
theorem nu_le {p : Pn} (h : p.o.length ≤ 1000) : p.nu ≤ 2003000:=by
 unfold Pn.nu
 have h1 : (2 * p.o.length - p.w) * (p.o.length + 1) ≤ 2000 * 1001:=Nat.mul_le_mul (by omega) (by omega)
 omega
def k7 (x : Int) : Int:=bitI .and .i64 x 7
def key7 (l P : List Int) (i : Int) : Int:=k7 (l.getD (P.getD i.toNat 0).toNat 0)
def by7 (l P : List Int) (q : Pn) : Bool:=decide (key7 l P q.i < key7 l P q.j)
set_option maxHeartbeats 1600000 in
theorem less7_ret (l : List Int) (c a b : Int) (hc : 0 ≤ c ∧ c ≤ 1000000000) (ha : 0 ≤ a ∧ a < (l.length : Int)) (hb : 0 ≤ b ∧ b < (l.length : Int)) :
  RetG Try.prog 22 ⟨[(0,[.c (.i .i64 c)]),(1,[.c (.ints .i64 l)])],[],[]⟩ [.c (.i .i64 a),.c (.i .i64 b),.bx 0 0,.bx 1 0] ⟨[(0,[.c (.i .i64 (c + 1))]),(1,[.c (.ints .i64 l)])],[],[]⟩
   [.c (.b (decide (k7 (l.getD a.toNat 0) < k7 (l.getD b.toNat 0))))]:=by
 have e1 : ∀ x : Int,bitI .and .i64 x 7 = k7 x:=fun _=>rfl
 (refine ret_ge Try.func22 (fun F bs=>?_); simp only [avSl,ancs,hnx,Nat.reduceAdd,Nat.reduceLeDiff,if_true,if_false,List.length_cons,List.length_nil,List.cons_append,List.nil_append,Try.ntmps22,Try.results22])
 repeat' (first|with_reducible refine q_0 ?_|((with_reducible first|refine q_q ogb_ok fun K hK=>?_|refine q_r ogb_ok fun K hK=>?_);simp (maxSteps:=2000000) only [go_sem,↓reduceIte,reduceCtorEq,Nat.reduceLeDiff,Nat.reduceLT,Nat.reduceBEq,Nat.reduceAdd,e1];(repeat1' with_reducible first|apply And.intro|(intro _;try exact q_v)|(refine hK _ ?_;clear hK K))<;>(try (clear hK K;exact q_u)))|(with_reducible refine q_s ?_;(first|apply q_J|apply q_K|apply q_L|apply q_M|apply q_N|apply q_O)<;>try (intro _;try exact q_v)))
 all_goals first | omega | exact ends_g [(6,.c (.b (decide (k7 (l.getD a.toNat 0) < k7 (l.getD b.toNat 0)))))] 2 (by exact q_D) rfl
def less7CT : CT:=mkCTG fun H al K=>match H,al with
 | ⟨[(0,[.c (.i .i64 c)]),(1,[.c (.ints .i64 l)])],[],[]⟩,[.c (.i .i64 a),.c (.i .i64 b),.bx 0 0,.bx 1 0]=>((0 ≤ c ∧ c ≤ 1000000000) ∧ (0 ≤ a ∧ a < (l.length : Int)) ∧ (0 ≤ b ∧ b < (l.length : Int))) ∧
   K ⟨[(0,[.c (.i .i64 (c + 1))]),(1,[.c (.ints .i64 l)])],[],[]⟩ [.c (.b (decide (k7 (l.getD a.toNat 0) < k7 (l.getD b.toNat 0))))]
 | _,_=>False
def ol1 : Cfg:=addT 22 less7CT cf0
theorem ol1_ok : TblOk Try.prog ol1:=ctg_ok cf0_ok Try.func22 fun H al K h=>by
 split at h
 ·exact ⟨_,_,less7_ret _ _ _ _ h.1.1 h.1.2.1 h.1.2.2,h.2⟩
 ·exact h.elim
attribute [go_sem] less7CT
def olt : Cfg:=listT [(18,permuteCT),(8,startCT),(15,askCT),(16,tellCT),(22,less7CT)] [27]
theorem olt_ok : TblOk Try.prog olt:=listE_ok (by simp only [List.mem_singleton,forall_eq]; exact flt) ⟨⟨og4,og4_ok,rfl⟩,⟨oc3,oc3_ok,rfl⟩,⟨oc2,oc2_ok,rfl⟩,⟨oc4,oc4_ok,rfl⟩,⟨ol1,ol1_ok,rfl⟩,trivial⟩
attribute [go_sem] olt
set_option maxRecDepth 100000 in
set_option maxHeartbeats 6400000 in
theorem sortG_ret (l P : List Int) (h : P.length ≤ 1000) (hP : ∀ k,k < P.length → 0 ≤ P.getD k 0 ∧ P.getD k 0 < (l.length : Int)) (I : Pn → Prop) (hI0 : I (settle (startP P.length))) (hI1 : ∀ q,I q → q.Ok → q.on → q.asks → I (tellP q (by7 l P q)))
  (hI2 : ∀ q,I q → q.o.Perm ((List.range q.o.length).map fun i : Nat=>(i : Int))) :
  RetG Try.prog 21 ⟨[(0,[.c (.i .i64 0)]),(1,[.c (.ints .i64 l)])],[],[]⟩ [.c (.ints .i64 P),.fn 22 [.bx 0 0,.bx 1 0]]
   ⟨[(0,[.c (.i .i64 (cntAll (by7 l P) (settle (startP P.length)) : Nat))]),(1,[.c (.ints .i64 l)]),(2,[.c (.i .i64 0),.c (.i .i64 0)])],[],[]⟩ [.c (.ints .i64 (permL P (runAll (by7 l P) (settle (startP P.length))).o)),.g [.i .i64 0,.i .i64 0]]:=by
 obtain ⟨s1,s2,s3⟩:=settle_facts (startP_ok h)
 have s4 : (startP P.length).o.length = P.length:=by simp [startP]
 rw [s4] at s3
 generalize hb : by7 l P = b at *
 have hbq : ∀ q : Pn,decide (k7 (l.getD (P.getD q.i.toNat 0).toNat 0) < k7 (l.getD (P.getD q.j.toNat 0).toNat 0)) = b q:=fun q=>by rw [← hb]; rfl
 generalize hp : settle (startP P.length) = p at *
 generalize hz : runAll b p = z
 generalize hN : cntAll b p = N
 have hNle : N ≤ 2003000:=by rw [← hN]; exact Nat.le_trans (cntP_le _ _) (nu_le (by omega))
 have hE : ∀ q : Pn,(Pn.mk q.o q.w q.f q.l q.r q.m) = q:=fun q=>rfl
 by_cases ho : p.w < p.o.length
 all_goals
  have hi : askI p = if p.w < p.o.length then p.i else 0:=rfl
  have hj : askJ p = if p.w < p.o.length then p.j else 0:=rfl
  (refine ret_ge Try.func21 (fun F bs=>?_); simp only [avSl,ancs,hnx,Nat.reduceAdd,Nat.reduceLeDiff,if_true,if_false,List.length_cons,List.length_nil,List.cons_append,List.nil_append,Try.ntmps21,Try.results21])
  repeat' (first|with_reducible refine q_0 ?_|((with_reducible first|refine q_q olt_ok fun K hK=>?_|refine q_r olt_ok fun K hK=>?_);simp (maxSteps:=2000000) only [go_sem,↓reduceIte,reduceCtorEq,Nat.reduceLeDiff,Nat.reduceLT,Nat.reduceBEq,Nat.reduceAdd,hp,hE];(repeat1' with_reducible first|apply And.intro|(intro _;try exact q_v)|(refine hK _ ?_;clear hK K))<;>(try (clear hK K;exact q_u)))|(with_reducible refine q_s ?_;(first|apply q_J|apply q_K|apply q_L|apply q_M|apply q_N|apply q_O)<;>try (intro _;try exact q_v)))
  all_goals first | omega | exact ⟨s1,s2 ho⟩ | exact s1 | exact s2 ho | skip
  refine q_G (ι:={ q : Pn × Nat // q.1.Ok ∧ (q.1.on → q.1.asks) ∧ q.1.o.length = P.length ∧ I q.1 ∧ runAll b q.1 = z ∧ q.2 + cntAll b q.1 = N }) (fun q=>⟨52,[(0,.c (.ints .i64 P)),(1,.fn 22 [.bx 0 0,.bx 1 0]),(5,.bx 2 0),(6,.bx 3 0),(8,.c (.i .i64 (askI q.1.1))),(9,.c (.i .i64 (askJ q.1.1))),(10,.c (.b (decide (q.1.1.w < q.1.1.o.length)))),(1000,.anc 0 (bs 0)),(1001,.anc 1 (bs 1))],
   ⟨[(3,[.c (.ints .i64 q.1.1.o),.c (.i .i64 (q.1.1.w : Nat)),.c (.i .i64 (q.1.1.f : Nat)),.c (.i .i64 (q.1.1.l : Nat)),.c (.i .i64 (q.1.1.r : Nat)),.c (.ints .i64 q.1.1.m)]),(2,[.c (.i .i64 0),.c (.i .i64 0)]),(0,[.c (.i .i64 (q.1.2 : Nat))]),(1,[.c (.ints .i64 l)])],[],[]⟩,5⟩) (fun q=>q.1.1.nu) ⟨(p,0),s1,s2,s3,hI0,hz,by simp only; omega⟩ ?_ ?_
  ·simp only [ho,if_true,if_false,decide_true,decide_false] at hi hj
   simp only [hi,hj,ho,decide_true,decide_false]
   exact q_D
  clear hi hj
  rintro ⟨⟨q,m⟩,q1,q2,q3,q4,q5,q6⟩
  simp only at q1 q2 q3 q4 q5 q6 ⊢
  by_cases hq : q.w < q.o.length
  ·have hqa:=q2 hq
   obtain ⟨b1,b2⟩:=ask_in q1 hq hqa (hI2 q q4)
   have c1:=hP q.i.toNat (by omega)
   have c2:=hP q.j.toNat (by omega)
   have hi : askI q = q.i:=if_pos hq
   have hj : askJ q = q.j:=if_pos hq
   have hbb:=hbq q
   obtain ⟨t1,t2,t3⟩:=tellP_ok q1 q2 (b q)
   have t4:=hI1 q q4 q1 hq hqa
   have t5:=runAll_step (b:=b) q1 hq q2
   have t6:=tell_nu q1 hq hqa (b q)
   have t7:=cntAll_step (b:=b) q1 hq q2
   obtain ⟨r,hr⟩ : ∃ r,tellP q (b q) = r:=⟨_,rfl⟩
   rw [hr] at t1 t2 t3 t4 t5 t6 t7
   simp only [hi,hj,hq,decide_true]
   repeat' (first|with_reducible refine q_0 ?_|((with_reducible first|refine q_q olt_ok fun K hK=>?_|refine q_r olt_ok fun K hK=>?_);simp (maxSteps:=2000000) only [go_sem,↓reduceIte,reduceCtorEq,Nat.reduceLeDiff,Nat.reduceLT,Nat.reduceBEq,Nat.reduceAdd,hE,hbb,hr];(repeat1' with_reducible first|apply And.intro|(intro _;try exact q_v)|(refine hK _ ?_;clear hK K))<;>(try (clear hK K;exact q_u)))|(with_reducible refine q_s ?_;(first|apply q_J|apply q_K|apply q_L|apply q_M|apply q_N|apply q_O)<;>try (intro _;try exact q_v)))
   all_goals first | omega | rfl | exact q1 | exact hqa | exact t1 | (refine t2 ?_; assumption) | skip
   all_goals by_cases hro : r.w < r.o.length
   all_goals try omega
   all_goals
    have ri : askI r = if r.w < r.o.length then r.i else 0:=rfl
    have rj : askJ r = if r.w < r.o.length then r.j else 0:=rfl
    simp only [hro,if_true,if_false] at ri rj
    refine q_F ⟨(r,m + 1),t1,t2,t3.trans q3,t4,t5.trans q5,by simp only; omega⟩ ?_ t6
    simp only [ri,rj,hro,decide_true,decide_false]
    exact q_D
  ·have hoff:=runAll_off (b:=b) (p:=q) hq
   have hcf:=cntAll_off (b:=b) (p:=q) hq
   rw [hoff] at q5
   subst q5
   have hm : m = N:=by omega
   subst hm
   have hg:=bad_good (range_good (hI2 q q4))
   simp only [hq,decide_false]
   repeat' (first|with_reducible refine q_0 ?_|((with_reducible first|refine q_q olt_ok fun K hK=>?_|refine q_r olt_ok fun K hK=>?_);simp (maxSteps:=2000000) only [go_sem,↓reduceIte,reduceCtorEq,Nat.reduceLeDiff,Nat.reduceLT,Nat.reduceBEq,Nat.reduceAdd,hg];(repeat1' with_reducible first|apply And.intro|(intro _;try exact q_v)|(refine hK _ ?_;clear hK K))<;>(try (clear hK K;exact q_u)))|(with_reducible refine q_s ?_;(first|apply q_J|apply q_K|apply q_L|apply q_M|apply q_N|apply q_O)<;>try (intro _;try exact q_v)))
   all_goals first | omega | contradiction | exact ends_g [(4,.c (.ints .i64 (permL P q.o))),(5,.bx 2 0)] 5 (by exact q_D) rfl | skip
end Go.Proofs.Ytmcjojbffidlbaa

namespace Go.Proofs.Ytmcjojbffidlbaa
set_option linter.unusedSimpArgs false
set_option linter.unusedVariables false
open Go.Abs Go.Proofs.NatL

section
variable {cf : Cfg} {st : St}
theorem fz_mkFn {fn : Fn} {a b : Array Operand} : fzFor cf st (.makeFunc fn a b) = st:=rfl
end
attribute [go_sem] fz_mkFn
def rngL (n : Nat) : List Int:=(List.range n).map fun i : Nat=>(i : Int)
theorem rngL_len (n : Nat) : (rngL n).length = n:=by simp [rngL]
theorem rngL_at {n k : Nat} (h : k < n) : (rngL n).getD k 0 = (k : Int):=by simp [rngL,List.getD_eq_getElem?_getD,List.getElem?_map,List.getElem?_range h]
def Stb (l A : List Int) : Prop:=∀ i,1 ≤ i → i < A.length → ¬ k7 (l.getD (A.getD i 0).toNat 0) < k7 (l.getD (A.getD (i - 1) 0).toNat 0) ∧
 (k7 (l.getD (A.getD i 0).toNat 0) = k7 (l.getD (A.getD (i - 1) 0).toNat 0) → ¬ A.getD i 0 < A.getD (i - 1) 0)
theorem stable_facts (l : List Int) (h : l.length ≤ 1000) : ∃ k,(permL (rngL l.length) (runAll (by7 l (rngL l.length)) (settle (startP (rngL l.length).length))).o).length = l.length ∧
  Good (permL (rngL l.length) (runAll (by7 l (rngL l.length)) (settle (startP (rngL l.length).length))).o) ∧ Stb l (permL (rngL l.length) (runAll (by7 l (rngL l.length)) (settle (startP (rngL l.length).length))).o) ∧
  (k = 0 ∨ 2 ^ (k - 1) < l.length) ∧ cntAll (by7 l (rngL l.length)) (settle (startP (rngL l.length).length)) ≤ l.length * k:=by
 rw [rngL_len]
 obtain ⟨s1,s2,s3⟩:=settle_facts (startP_ok h)
 have s4 : (startP l.length).o.length = l.length:=by simp [startP]
 obtain ⟨g1,g2,g3⟩:=run_cnt (κ:=key7 l (rngL l.length)) (b:=by7 l (rngL l.length)) (fun q=>rfl) _ (settle (startP l.length)) 0 (startP_inv h) s2 (Nat.le_refl _)
 obtain ⟨g4,k,g5,g6⟩:=g1.done g2
 have g7:=g1.pr
 unfold runAll cntAll
 generalize (runP (by7 l (rngL l.length)) (settle (startP l.length)).nu (settle (startP l.length))).o = o at *
 have hol : o.length = l.length:=by rw [g3,s3,s4]
 have hg:=range_good g7
 have hA : permL (rngL l.length) o = o:=by
  apply List.ext_getElem?
  intro j
  rcases Nat.lt_or_ge j o.length with hj | hj
  ·have h1:=permL_at (rngL l.length) o j hj
   have h2:=hg.lo j hj
   rw [rngL_at (by omega),Int.toNat_of_nonneg h2.1,getD_eq _ j (by rw [permL_len]; exact hj),getD_eq o j hj] at h1
   rw [List.getElem?_eq_getElem (by rw [permL_len]; exact hj),List.getElem?_eq_getElem hj,h1]
  ·rw [List.getElem?_eq_none (by rw [permL_len]; exact hj),List.getElem?_eq_none hj]
 rw [hA]
 refine ⟨k,hol,hg,fun i h1 h2=>?_,by rw [← hol]; exact g5,by rw [hol] at g6; omega⟩
 have hp:=(List.pairwise_iff_getElem.1 g4) (i - 1) i (by omega) h2 (by omega)
 rw [← getD_eq o (i - 1) (by omega),← getD_eq o i h2] at hp
 have l1:=hg.lo i h2
 have l2:=hg.lo (i - 1) (by omega)
 have e1 : key7 l (rngL l.length) (o.getD i 0) = k7 (l.getD (o.getD i 0).toNat 0):=by unfold key7; rw [rngL_at (by omega)]; rfl
 have e2 : key7 l (rngL l.length) (o.getD (i - 1) 0) = k7 (l.getD (o.getD (i - 1) 0).toNat 0):=by unfold key7; rw [rngL_at (by omega)]; rfl
 unfold Bef at hp
 rw [e1,e2] at hp
 refine ⟨?_,fun he=>?_⟩ <;> omega
def sort7CT : CT:=mkCTG fun H al K=>match H,al with
 | ⟨[(0,[.c (.i .i64 c)]),(1,[.c (.ints .i64 l)])],[],[]⟩,[.c (.ints .i64 P),.fn 22 [.bx 0 0,.bx 1 0]]=>(c = 0 ∧ l.length ≤ 1000 ∧ P = rngL l.length) ∧
   ∀ (A : List Int) (N k : Nat),A.length = l.length → Good A → Stb l A → (k = 0 ∨ 2 ^ (k - 1) < l.length) → N ≤ l.length * k → K ⟨[(0,[.c (.i .i64 (N : Nat))]),(1,[.c (.ints .i64 l)]),(2,[.c (.i .i64 0),.c (.i .i64 0)])],[],[]⟩ [.c (.ints .i64 A),.g [.i .i64 0,.i .i64 0]]
 | _,_=>False
def ol2 : Cfg:=addT 21 sort7CT cf0
theorem ol2_ok : TblOk Try.prog ol2:=ctg_ok cf0_ok Try.func21 fun H al K h=>by
 split at h
 ·rename_i c l P
  obtain ⟨⟨rfl,hl,rfl⟩,h⟩:=h
  obtain ⟨k,f1,f2,f3,f4,f5⟩:=stable_facts l hl
  refine ⟨_,_,sortG_ret l (rngL l.length) (by rw [rngL_len]; exact hl) (fun k hk=>by rw [rngL_len] at hk; rw [rngL_at hk]; omega) (fun q=>∃ c,Inv (key7 l (rngL l.length)) q c) ⟨0,startP_inv (by rw [rngL_len]; exact hl)⟩ (fun q ⟨c,hq⟩ _ ho ha=>⟨c + 1,hq.tell ho ha⟩) (fun q ⟨c,hq⟩=>hq.pr),?_⟩
  exact h _ _ k f1 f2 f3 f4 f5
 ·exact h.elim
attribute [go_sem] sort7CT
def omt : Cfg:=listT [(19,inverseCT),(9,sortsCT)] [27]
theorem omt_ok : TblOk Try.prog omt:=listE_ok (by simp only [List.mem_singleton,forall_eq]; exact flt) ⟨⟨og3,og3_ok,rfl⟩,⟨oc6,oc6_ok,rfl⟩,trivial⟩
attribute [go_sem] omt
def omu : Cfg:=listT [(21,sort7CT),(19,inverseCT),(9,sortsCT)] [27]
theorem omu_ok : TblOk Try.prog omu:=listE_ok (by simp only [List.mem_singleton,forall_eq]; exact flt) ⟨⟨ol2,ol2_ok,rfl⟩,⟨og3,og3_ok,rfl⟩,⟨oc6,oc6_ok,rfl⟩,trivial⟩
attribute [go_sem] omu
theorem stable_long (l : List Int) (h : 1000 < l.length) (hl : l.length ≤ 17592186044416) : Ret Try.prog 5 false [.inl (.ints .i64 l)] (.c (.b true)):=by
 (refine q_H Try.func5 (fun F=>?_); simp only [q_z,q_y,Try.ntmps5,Try.results5])
 repeat' (first|with_reducible refine q_0 ?_|((with_reducible first|refine q_q omt_ok fun K hK=>?_|refine q_r omt_ok fun K hK=>?_);simp (maxSteps:=2000000) only [go_sem,↓reduceIte,reduceCtorEq,Nat.reduceLeDiff,Nat.reduceLT,Nat.reduceBEq,Nat.reduceAdd];(repeat1' with_reducible first|apply And.intro|(intro _;try exact q_v)|(refine hK _ ?_;clear hK K))<;>(try (clear hK K;exact q_u)))|(with_reducible refine q_s ?_;(first|apply q_J|apply q_K|apply q_L|apply q_M|apply q_N|apply q_O)<;>try (intro _;try exact q_v)))
 all_goals first | omega | exact q_A rfl
set_option maxRecDepth 100000 in
set_option maxHeartbeats 6400000 in
theorem stable_ok (l : List Int) (hl : l.length ≤ 1000) : Ret Try.prog 5 false [.inl (.ints .i64 l)] (.c (.b true)):=by
 have e1 : ∀ x : Int,bitI .and .i64 x 7 = k7 x:=fun _=>rfl
 (refine q_H Try.func5 (fun F=>?_); simp only [q_z,q_y,Try.ntmps5,Try.results5])
 refine seq_cut6 (ι:={ q : List Int × Nat × Nat // (q.1.length = l.length ∧ Good q.1 ∧ Stb l q.1) ∧ (q.2.2 = 0 ∨ 2 ^ (q.2.2 - 1) < l.length) ∧ q.2.1 ≤ l.length * q.2.2 }) (fun q=>⟨131,[(1,.bx 0 0),(5,.bx 2 0),(6,.c (.ints .i64 q.1.1)),(7,.bx 6 0)],
  ⟨[(6,[.c (.i .i64 0),.c (.i .i64 0)]),(2,[.c (.i .i64 (q.1.2.1 : Nat))]),(0,[.c (.ints .i64 l)])],[],[]⟩,7⟩) (fun Y hY=>?_) ?_
 ·repeat' (first|with_reducible refine q_0 ?_|((with_reducible first|refine q_q omt_ok fun K hK=>?_|refine q_r omt_ok fun K hK=>?_);simp (maxSteps:=2000000) only [go_sem,↓reduceIte,reduceCtorEq,Nat.reduceLeDiff,Nat.reduceLT,Nat.reduceBEq,Nat.reduceAdd];(repeat1' with_reducible first|apply And.intro|(intro _;try exact q_v)|(refine hK _ ?_;clear hK K))<;>(try (clear hK K;exact q_u)))|(with_reducible refine q_s ?_;(first|apply q_J|apply q_K|apply q_L|apply q_M|apply q_N|apply q_O)<;>try (intro _;try exact q_v)))
  all_goals try omega
  refine q_G (ι:={ k : Nat // k ≤ l.length }) (fun k=>⟨131,[(1,.bx 0 0),(3,.own 1 0),(17,.c (.i .i64 l.length)),(18,.c (.i .i64 (k.1 : Nat)))],⟨[(0,[.c (.ints .i64 l)])],[(1,⟨0,3,1,.ints .i64 (rngL k.1)⟩)],[]⟩,2⟩) (fun k=>l.length - k.1) ⟨0,by omega⟩ ?_ ?_
  ·exact q_D
  rintro ⟨k,k1⟩
  simp only at k1 ⊢
  have hlen:=rngL_len k
  rcases Nat.lt_or_ge k l.length with hk | hk
  ·have hs : rngL (k + 1) = rngL k ++ [(k : Int)]:=by unfold rngL; rw [List.range_succ,List.map_append]; rfl
   generalize rngL k = R at *
   repeat' (first|with_reducible refine q_0 ?_|((with_reducible first|refine q_q omt_ok fun K hK=>?_|refine q_r omt_ok fun K hK=>?_);simp (maxSteps:=2000000) only [go_sem,↓reduceIte,reduceCtorEq,Nat.reduceLeDiff,Nat.reduceLT,Nat.reduceBEq,Nat.reduceAdd,hlen];(repeat1' with_reducible first|apply And.intro|(intro _;try exact q_v)|(refine hK _ ?_;clear hK K))<;>(try (clear hK K;exact q_u)))|(with_reducible refine q_s ?_;(first|apply q_J|apply q_K|apply q_L|apply q_M|apply q_N|apply q_O)<;>try (intro _;try exact q_v)))
   all_goals try omega
   refine q_F ⟨k + 1,hk⟩ ?_ (by simp only; omega)
   simp only [hs]
   exact q_D
  ·have hk' : k = l.length:=by omega
   subst hk'
   generalize hR : rngL l.length = R at *
   repeat' (first|with_reducible refine q_0 ?_|((with_reducible first|refine q_q omt_ok fun K hK=>?_|refine q_r omt_ok fun K hK=>?_);simp (maxSteps:=2000000) only [go_sem,↓reduceIte,reduceCtorEq,Nat.reduceLeDiff,Nat.reduceLT,Nat.reduceBEq,Nat.reduceAdd,hlen];(repeat1' with_reducible first|apply And.intro|(intro _;try exact q_v)|(refine hK _ ?_;clear hK K))<;>(try (clear hK K;exact q_u)))|(with_reducible refine q_s ?_;(first|apply q_J|apply q_K|apply q_L|apply q_M|apply q_N|apply q_O)<;>try (intro _;try exact q_v)))
   all_goals try omega
   refine awp_told ⟨131,[(1,.bx 0 0),(3,.c (.ints .i64 R)),(5,.bx 2 0)],⟨[(2,[.c (.i .i64 0)]),(0,[.c (.ints .i64 l)])],[],[]⟩,3⟩ ?_ ?_
   ·exact q_D
   repeat' (first|with_reducible refine q_0 ?_|((with_reducible first|refine q_q omu_ok fun K hK=>?_|refine q_r omu_ok fun K hK=>?_);simp (maxSteps:=2000000) only [go_sem,↓reduceIte,reduceCtorEq,Nat.reduceLeDiff,Nat.reduceLT,Nat.reduceBEq,Nat.reduceAdd,hR];(repeat1' with_reducible first|apply And.intro|(intro _;try exact q_v)|(refine hK _ ?_;clear hK K))<;>(try (clear hK K;exact q_u)))|(with_reducible refine q_s ?_;(first|apply q_J|apply q_K|apply q_L|apply q_M|apply q_N|apply q_O)<;>try (intro _;try exact q_v)))
   all_goals first | omega | exact hR.symm | skip
   rename_i A N k h1 h2 h3 h4 h5
   refine cut_fit hY ⟨(A,N,k),⟨h1,h2,h3⟩,h4,h5⟩ ?_
   exact q_D
 ·rintro ⟨⟨A,N,k⟩,⟨a1,a2,a3⟩,a4,a5⟩
  simp only at a1 a2 a3 a4 a5 ⊢
  have hbad:=bad_good a2
  have v4:=invL_len A A.length
  repeat' (first|with_reducible refine q_0 ?_|((with_reducible first|refine q_q omt_ok fun K hK=>?_|refine q_r omt_ok fun K hK=>?_);simp (maxSteps:=2000000) only [go_sem,↓reduceIte,reduceCtorEq,Nat.reduceLeDiff,Nat.reduceLT,Nat.reduceBEq,Nat.reduceAdd,hbad,v4];(repeat1' with_reducible first|apply And.intro|(intro _;try exact q_v)|(refine hK _ ?_;clear hK K))<;>(try (clear hK K;exact q_u)))|(with_reducible refine q_s ?_;(first|apply q_J|apply q_K|apply q_L|apply q_M|apply q_N|apply q_O)<;>try (intro _;try exact q_v)))
  all_goals first | omega | contradiction | skip
  refine q_G (ι:={ i : Nat // 1 ≤ i ∧ i ≤ A.length + 1 }) (fun i=>⟨131,[(1,.bx 0 0),(5,.bx 2 0),(6,.c (.ints .i64 A)),(10,.c (.i .i64 (i.1 : Nat)))],⟨[(2,[.c (.i .i64 (N : Nat))]),(0,[.c (.ints .i64 l)])],[],[]⟩,7⟩) (fun i=>A.length + 1 - i.1) ⟨1,by omega,by omega⟩ ?_ ?_
  ·exact q_D
  rintro ⟨i,i1,i2⟩
  simp only at i1 i2 ⊢
  rcases Nat.lt_or_ge i A.length with hk | hk
  ·obtain ⟨f1,f2⟩:=a3 i i1 hk
   have f3:=a2.lo i hk
   have f4:=a2.lo (i - 1) (by omega)
   have ei : ((i : Int) - 1).toNat = i - 1:=by omega
   clear a2 a3 a4 a5 hbad v4
   repeat' (first|with_reducible refine q_0 ?_|((with_reducible first|refine q_q omt_ok fun K hK=>?_|refine q_r omt_ok fun K hK=>?_);simp (maxSteps:=2000000) only [go_sem,↓reduceIte,reduceCtorEq,Nat.reduceLeDiff,Nat.reduceLT,Nat.reduceBEq,Nat.reduceAdd,e1,ei];(repeat1' with_reducible first|apply And.intro|(intro _;try exact q_v)|(refine hK _ ?_;clear hK K))<;>(try (clear hK K;exact q_u)))|(with_reducible refine q_s ?_;(first|apply q_J|apply q_K|apply q_L|apply q_M|apply q_N|apply q_O)<;>try (intro _;try exact q_v)))
   all_goals first | omega | contradiction | skip
   all_goals first | (exact absurd (by assumption) (f2 (by assumption))) | skip
   all_goals refine q_F ⟨i + 1,by omega,by omega⟩ ?_ (by simp only; omega)
   all_goals exact q_D
  ·repeat' (first|with_reducible refine q_0 ?_|((with_reducible first|refine q_q omt_ok fun K hK=>?_|refine q_r omt_ok fun K hK=>?_);simp (maxSteps:=2000000) only [go_sem,↓reduceIte,reduceCtorEq,Nat.reduceLeDiff,Nat.reduceLT,Nat.reduceBEq,Nat.reduceAdd];(repeat1' with_reducible first|apply And.intro|(intro _;try exact q_v)|(refine hK _ ?_;clear hK K))<;>(try (clear hK K;exact q_u)))|(with_reducible refine q_s ?_;(first|apply q_J|apply q_K|apply q_L|apply q_M|apply q_N|apply q_O)<;>try (intro _;try exact q_v)))
   all_goals first | omega | contradiction | skip
   have p0 : (2 : Nat) ^ 0 = 1:=rfl
   refine q_G (ι:={ t : Nat // t = 0 ∨ 2 ^ (t - 1) < l.length }) (fun t=>⟨131,[(1,.bx 0 0),(5,.bx 2 0),(11,.c (.i .i64 (t.1 : Nat))),(12,.c (.i .i64 (2 ^ t.1 : Nat)))],⟨[(2,[.c (.i .i64 (N : Nat))]),(0,[.c (.ints .i64 l)])],[],[]⟩,7⟩) (fun t=>l.length + 1 - 2 ^ t.1) ⟨0,.inl rfl⟩ ?_ ?_
   ·exact q_D
   rintro ⟨t,ht⟩
   simp only at ht ⊢
   have t10 : t ≤ 10:=by
    rcases ht with rfl | ht
    ·omega
    ·apply Classical.byContradiction
     intro hn
     have:=Nat.pow_le_pow_right (n:=2) (by omega) (show 10 ≤ t - 1 by omega)
     omega
   have tp:=Nat.pow_le_pow_right (n:=2) (by omega) t10
   have ts : 2 ^ (t + 1) = 2 ^ t * 2:=Nat.pow_succ ..
   have tpos : 0 < 2 ^ t:=Nat.pow_pos (by omega)
   rcases Nat.lt_or_ge (2 ^ t) l.length with hlt | hge
   ·generalize hz : (2 : Nat) ^ t = z at *
    repeat' (first|with_reducible refine q_0 ?_|((with_reducible first|refine q_q omt_ok fun K hK=>?_|refine q_r omt_ok fun K hK=>?_);simp (maxSteps:=2000000) only [go_sem,↓reduceIte,reduceCtorEq,Nat.reduceLeDiff,Nat.reduceLT,Nat.reduceBEq,Nat.reduceAdd];(repeat1' with_reducible first|apply And.intro|(intro _;try exact q_v)|(refine hK _ ?_;clear hK K))<;>(try (clear hK K;exact q_u)))|(with_reducible refine q_s ?_;(first|apply q_J|apply q_K|apply q_L|apply q_M|apply q_N|apply q_O)<;>try (intro _;try exact q_v)))
    all_goals first | omega | contradiction | skip
    all_goals refine q_F ⟨t + 1,.inr (by rw [Nat.add_sub_cancel,hz]; exact hlt)⟩ ?_ (by simp only; omega)
    all_goals simp only [ts]
    all_goals exact q_D
   ·have hkt : k ≤ t:=by
     rcases a4 with h0 | h0
     ·omega
     ·apply Classical.byContradiction
      intro hn
      have:=Nat.pow_le_pow_right (n:=2) (by omega) (show t ≤ k - 1 by omega)
      omega
    have hb1 : N ≤ l.length * t:=Nat.le_trans a5 (Nat.mul_le_mul_left _ hkt)
    have hb2 : l.length * t ≤ 1000 * 10:=Nat.mul_le_mul hl t10
    have hb3 : (N : Int) ≤ (l.length : Int) * (t : Int):=by exact_mod_cast hb1
    have hb4 : (l.length : Int) * (t : Int) ≤ 10000:=by exact_mod_cast hb2
    have hb5 : 0 ≤ (l.length : Int) * (t : Int):=by omega
    have hd : decide ((N : Int) ≤ (l.length : Int) * (t : Int)) = true:=decide_eq_true hb3
    generalize hz : (2 : Nat) ^ t = z at *
    repeat' (first|with_reducible refine q_0 ?_|((with_reducible first|refine q_q omt_ok fun K hK=>?_|refine q_r omt_ok fun K hK=>?_);simp (maxSteps:=2000000) only [go_sem,↓reduceIte,reduceCtorEq,Nat.reduceLeDiff,Nat.reduceLT,Nat.reduceBEq,Nat.reduceAdd,hd];(repeat1' with_reducible first|apply And.intro|(intro _;try exact q_v)|(refine hK _ ?_;clear hK K))<;>(try (clear hK K;exact q_u)))|(with_reducible refine q_s ?_;(first|apply q_J|apply q_K|apply q_L|apply q_M|apply q_N|apply q_O)<;>try (intro _;try exact q_v)))
    all_goals first | omega | contradiction | exact q_A rfl | exact q_A (by rw [hd]; rfl) | skip
end Go.Proofs.Ytmcjojbffidlbaa
