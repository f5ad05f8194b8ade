import Derived.Test.YtekigfhikikgaaaG6
namespace Go.Proofs.Ytekigfhikikgaaa
set_option linter.unusedSimpArgs false
set_option linter.unusedVariables false
open Go.Abs Go.Proofs.NatL

def yht : Cfg:=listT [(6,tablesCT),(7,newCT),(9,(tbCT putTr)),(10,(tbCT delTr)),(11,(tbCT moveTr)),(12,(rdCT atTr)),(13,(tbCT posTr)),(14,lenCT)] [28]
theorem yht_ok : TblOk Try.prog yht:=listE_ok (by simp only [List.mem_singleton,forall_eq]; exact flt) ⟨⟨yf4,yf4_ok,rfl⟩,⟨yd1,yd1_ok,rfl⟩,⟨yd6,yd6_ok,rfl⟩,⟨yf2,yf2_ok,rfl⟩,⟨yf3,yf3_ok,rfl⟩,⟨yd4,yd4_ok,rfl⟩,⟨yd5,yd5_ok,rfl⟩,⟨yd2,yd2_ok,rfl⟩,trivial⟩
attribute [go_sem] yht
theorem sorted_long (l G : List Int) (h : 900 < l.length) : Ret Try.prog 3 false [.inl (.ints .i64 l),.inl (.ints .i64 G)] (.c (.b true)):=by
 (refine q_H Try.func3 (fun F=>?_); simp only [q_z,q_y,Try.ntmps3,Try.results3])
 repeat' (first|with_reducible refine q_0 ?_|((with_reducible first|refine q_q yht_ok fun K hK=>?_|refine q_r yht_ok fun K hK=>?_);simp (maxSteps:=2000000) only [go_sem,↓reduceIte,reduceCtorEq,Nat.reduceLeDiff,Nat.reduceLT,Nat.reduceBEq,Nat.reduceAdd];(repeat1' with_reducible first|apply And.intro|(intro _;try exact q_v)|(refine hK _ ?_;clear hK K))<;>(try (clear hK K;exact q_u)))|(with_reducible refine q_s ?_;(first|apply q_J|apply q_K|apply q_L|apply q_M|apply q_N|apply q_O)<;>try (intro _;try exact q_v)))
 all_goals first | omega | exact q_A rfl | skip
abbrev tN (o : Nat) (T : List En) : Hp:=⟨[(1,[.c (.a fnC),.mp 0,.own o 0]),(0,[.mc (.s (idxF T) (cnt T))])],[(o,⟨0,65,4,.sl 4 (encR T)⟩)],[]⟩
theorem inI_at {l : List Int} (h : ∀ x ∈ l, -9223372036854775808 ≤ x ∧ x ≤ 9223372036854775807) (i : Nat) : InI (l.getD i 0):=by
 unfold InI
 rw [List.getD_eq_getElem?_getD]
 cases hq : l[i]? with
 | none=>simp
 | some x=>exact h x (List.mem_of_getElem? hq)
theorem wants_mem {l G : List Int} {x : Int} : ∀ i,x ∈ wants l G i → i ≤ l.length → x ∈ l
 | 0,h,_=>by simp [wants] at h
 | i + 1,h,hi=>by
  simp only [wants] at h
  split at h
  ·exact wants_mem i h (by omega)
  ·rcases List.mem_append.1 h with h | h
   ·exact wants_mem i h (by omega)
   ·simp only [List.mem_cons,List.not_mem_nil,or_false] at h
    subst h
    rw [getD_I (by omega)]; exact List.getElem_mem _
theorem wants_in {l G : List Int} (bl : ∀ x ∈ l, -9223372036854775808 ≤ x ∧ x ≤ 9223372036854775807) (m : Nat) : InI ((wants l G l.length).getD m 0) :=
 inI_at (fun x hx=>bl x (wants_mem _ hx (Nat.le_refl _))) m
theorem at_fact {l W : List Int} {T : List En} (h : PD l W W.length T) {i j : Nat} {x : Prop} {e : En} (hij : ((i : Nat) : Int) = (j : Int) ∨ (((i : Nat) : Int) < 0 ∧ x)) (he : (lv T)[j]? = some e) :
  e.key = W.getD i 0 ∧ 0 ≤ e.val ∧ e.val < (l.length : Int) ∧ half (l.getD e.val.toNat 0) = half e.key:=by
 obtain rfl : i = j:=by omega
 exact pd_at h he
theorem hasH_take {xs : List Int} {k i : Nat} {x : Int} (hk : k ≤ i) (h : hasH (xs.take k) x = true) : hasH (xs.take i) x = true:=by
 obtain ⟨y,hy,h2⟩:=hasH_iff.1 h
 refine hasH_iff.2 ⟨y,?_,h2⟩
 rw [show xs.take k = (xs.take i).take k by rw [List.take_take,Nat.min_eq_left hk]] at hy
 exact List.mem_of_mem_take hy
theorem hasH_all {xs : List Int} {k : Nat} {x : Int} (h : hasH (xs.take k) x = true) : hasH xs x = true:=by
 obtain ⟨y,hy,h2⟩:=hasH_iff.1 h
 exact hasH_iff.2 ⟨y,List.mem_of_mem_take hy,h2⟩
theorem inI_nat {i : Nat} (h : i ≤ 1000) : InI (i : Nat):=by unfold InI; omega
set_option maxRecDepth 100000 in
set_option maxHeartbeats 6400000 in
theorem sorted_ok (l G : List Int) (hl : l.length ≤ 900) (hG : G.length ≤ 140737488355328) (bl : ∀ x ∈ l, -9223372036854775808 ≤ x ∧ x ≤ 9223372036854775807) (bG : ∀ x ∈ G, -9223372036854775808 ≤ x ∧ x ≤ 9223372036854775807) :
  Ret Try.prog 3 false [.inl (.ints .i64 l),.inl (.ints .i64 G)] (.c (.b true)):=by
 have sh : ∀ x : Int,shrI .i64 x 1 = half x:=fun _=>rfl
 have hgl : (G.take 900).length = min 900 G.length:=List.length_take
 have hgd : ∀ j,j < 900 → (G.take 900).getD j 0 = G.getD j 0:=fun j hj=>by
  rw [List.getD_eq_getElem?_getD,List.getElem?_take,if_pos hj,List.getD_eq_getElem?_getD]
 generalize hG9 : G.take 900 = G9 at *
 (refine q_H Try.func3 (fun F=>?_); simp only [q_z,q_y,Try.ntmps3,Try.results3])
 refine seq_cut6 (ι:={ T : List En // PD l (wants l G9 l.length) 0 T }) (fun T=>⟨203,[(0,.c (.ints .i64 l)),(1,.c (.ints .i64 G)),(5,.bx 1 0),(6,.c .nil)],tN 0 T.1,2⟩) (fun Y hY=>?_) ?_
 rotate_left
 ·rintro ⟨T0,hT0⟩
  simp only
  have hw:=wants_len l G9
  generalize hW : wants l G9 l.length = W at *
  repeat' (first|with_reducible refine q_0 ?_|((with_reducible first|refine q_q yht_ok fun K hK=>?_|refine q_r yht_ok fun K hK=>?_);simp (maxSteps:=2000000) only [go_sem,↓reduceIte,reduceCtorEq,Nat.reduceLeDiff,Nat.reduceLT,Nat.reduceBEq,Nat.reduceAdd];(repeat1' with_reducible first|apply And.intro|(intro _;try exact q_v)|(refine hK _ ?_;clear hK K))<;>(try (clear hK K;exact q_u)))|(with_reducible refine q_s ?_;(first|apply q_J|apply q_K|apply q_L|apply q_M|apply q_N|apply q_O)<;>try (intro _;try exact q_v)))
  all_goals first | omega | skip
  refine q_G (ι:={ i : Nat // i ≤ l.length }) (fun i=>⟨203,[(0,.c (.ints .i64 l)),(1,.c (.ints .i64 G)),(5,.bx 1 0),(6,.own 2 0),(10,.c (.i .i64 (i.1 : Nat)))],
   ⟨[(1,[.c (.a fnC),.mp 0,.own 0 0]),(0,[.mc (.s (idxF T0) (cnt T0))])],[(0,⟨0,65,4,.sl 4 (encR T0)⟩),(2,⟨0,3,1,.ints .i64 (wants l G9 i.1)⟩)],[]⟩,3⟩) (fun i=>l.length - i.1) ⟨0,Nat.zero_le _⟩ ?_ ?_
  ·simp only [wants]
   exact q_D
  rintro ⟨i,i1⟩
  simp only at i1 ⊢
  have hwi:=hw i
  rcases Nat.lt_or_ge i l.length with hi | hi
  ·have hws : wants l G9 (i + 1) = if hasH (l.take i) (l.getD i 0) = true ∨ hasH G9 (l.getD i 0) = true then wants l G9 i else wants l G9 i ++ [l.getD i 0]:=rfl
   generalize wants l G9 i = Wi at *
   repeat' (first|with_reducible refine q_0 ?_|((with_reducible first|refine q_q yht_ok fun K hK=>?_|refine q_r yht_ok fun K hK=>?_);simp (maxSteps:=2000000) only [go_sem,↓reduceIte,reduceCtorEq,Nat.reduceLeDiff,Nat.reduceLT,Nat.reduceBEq,Nat.reduceAdd];(repeat1' with_reducible first|apply And.intro|(intro _;try exact q_v)|(refine hK _ ?_;clear hK K))<;>(try (clear hK K;exact q_u)))|(with_reducible refine q_s ?_;(first|apply q_J|apply q_K|apply q_L|apply q_M|apply q_N|apply q_O)<;>try (intro _;try exact q_v)))
   all_goals first | omega | skip
   refine q_G (ι:={ k : Nat // k ≤ i }) (fun k=>⟨203,[(0,.c (.ints .i64 l)),(1,.c (.ints .i64 G)),(5,.bx 1 0),(6,.own 2 0),(10,.c (.i .i64 (i : Nat))),(11,.c (.b (!hasH (l.take k.1) (l.getD i 0)))),(12,.c (.i .i64 (k.1 : Nat)))],
    ⟨[(1,[.c (.a fnC),.mp 0,.own 0 0]),(0,[.mc (.s (idxF T0) (cnt T0))])],[(0,⟨0,65,4,.sl 4 (encR T0)⟩),(2,⟨0,3,1,.ints .i64 Wi⟩)],[]⟩,3⟩) (fun k=>i - k.1) ⟨0,Nat.zero_le _⟩ ?_ ?_
   ·have h0 : hasH (l.take 0) (l.getD i 0) = false:=rfl
    simp only [h0,Bool.not_false]
    exact q_D
   rintro ⟨k,k1⟩
   simp only at k1 ⊢
   generalize hx : l.getD i 0 = x at *
   cases hh : hasH (l.take k) x
   ·rcases Nat.lt_or_ge k i with hki | hki
    ·have hsn : hasH (l.take (k + 1)) x = decide (half (l.getD k 0) = half x):=by rw [take_snoc l (by omega),hasH_snoc,hh,Bool.false_or]
     simp only [Bool.not_false]
     repeat' (first|with_reducible refine q_0 ?_|((with_reducible first|refine q_q yht_ok fun K hK=>?_|refine q_r yht_ok fun K hK=>?_);simp (maxSteps:=2000000) only [go_sem,↓reduceIte,reduceCtorEq,Nat.reduceLeDiff,Nat.reduceLT,Nat.reduceBEq,Nat.reduceAdd,sh,hx];(repeat1' with_reducible first|apply And.intro|(intro _;try exact q_v)|(refine hK _ ?_;clear hK K))<;>(try (clear hK K;exact q_u)))|(with_reducible refine q_s ?_;(first|apply q_J|apply q_K|apply q_L|apply q_M|apply q_N|apply q_O)<;>try (intro _;try exact q_v)))
     all_goals first | omega | contradiction | skip
     all_goals refine q_F ⟨k + 1,hki⟩ ?_ (by simp only; omega)
     all_goals simp only [hsn]
     all_goals exact q_D
    ·obtain rfl : k = i:=by omega
     simp only [Bool.not_false]
     repeat' (first|with_reducible refine q_0 ?_|((with_reducible first|refine q_q yht_ok fun K hK=>?_|refine q_r yht_ok fun K hK=>?_);simp (maxSteps:=2000000) only [go_sem,↓reduceIte,reduceCtorEq,Nat.reduceLeDiff,Nat.reduceLT,Nat.reduceBEq,Nat.reduceAdd,sh,hx];(repeat1' with_reducible first|apply And.intro|(intro _;try exact q_v)|(refine hK _ ?_;clear hK K))<;>(try (clear hK K;exact q_u)))|(with_reducible refine q_s ?_;(first|apply q_J|apply q_K|apply q_L|apply q_M|apply q_N|apply q_O)<;>try (intro _;try exact q_v)))
     all_goals first | omega | contradiction | skip
     refine q_G (ι:={ m : Nat // m ≤ G9.length }) (fun m=>⟨203,[(0,.c (.ints .i64 l)),(1,.c (.ints .i64 G)),(5,.bx 1 0),(6,.own 2 0),(10,.c (.i .i64 (k : Nat))),(11,.c (.b (!hasH (G9.take m.1) x))),(13,.c (.i .i64 (m.1 : Nat)))],
      ⟨[(1,[.c (.a fnC),.mp 0,.own 0 0]),(0,[.mc (.s (idxF T0) (cnt T0))])],[(0,⟨0,65,4,.sl 4 (encR T0)⟩),(2,⟨0,3,1,.ints .i64 Wi⟩)],[]⟩,3⟩) (fun m=>G9.length - m.1) ⟨0,Nat.zero_le _⟩ ?_ ?_
     ·have h0 : hasH (G9.take 0) x = false:=rfl
      simp only [h0,Bool.not_false]
      exact q_D
     rintro ⟨m,m1⟩
     simp only at m1 ⊢
     cases hg : hasH (G9.take m) x
     ·rcases Nat.lt_or_ge m G9.length with hm | hm
      ·have hsn : hasH (G9.take (m + 1)) x = decide (half (G.getD m 0) = half x):=by rw [take_snoc G9 hm,hasH_snoc,hg,Bool.false_or,hgd m (by omega)]
       simp only [Bool.not_false]
       repeat' (first|with_reducible refine q_0 ?_|((with_reducible first|refine q_q yht_ok fun K hK=>?_|refine q_r yht_ok fun K hK=>?_);simp (maxSteps:=2000000) only [go_sem,↓reduceIte,reduceCtorEq,Nat.reduceLeDiff,Nat.reduceLT,Nat.reduceBEq,Nat.reduceAdd,sh,hx];(repeat1' with_reducible first|apply And.intro|(intro _;try exact q_v)|(refine hK _ ?_;clear hK K))<;>(try (clear hK K;exact q_u)))|(with_reducible refine q_s ?_;(first|apply q_J|apply q_K|apply q_L|apply q_M|apply q_N|apply q_O)<;>try (intro _;try exact q_v)))
       all_goals first | omega | contradiction | skip
       all_goals refine q_F ⟨m + 1,hm⟩ ?_ (by simp only; omega)
       all_goals simp only [hsn]
       all_goals exact q_D
      ·have hm2 : m = G9.length:=by omega
       have hg2 : hasH G9 x = false:=by rw [hm2,List.take_length] at hg; exact hg
       rw [hh,hg2] at hws
       simp only [Bool.false_eq_true,or_self,if_false] at hws
       simp only [Bool.not_false]
       repeat' (first|with_reducible refine q_0 ?_|((with_reducible first|refine q_q yht_ok fun K hK=>?_|refine q_r yht_ok fun K hK=>?_);simp (maxSteps:=2000000) only [go_sem,↓reduceIte,reduceCtorEq,Nat.reduceLeDiff,Nat.reduceLT,Nat.reduceBEq,Nat.reduceAdd,sh,hx];(repeat1' with_reducible first|apply And.intro|(intro _;try exact q_v)|(refine hK _ ?_;clear hK K))<;>(try (clear hK K;exact q_u)))|(with_reducible refine q_s ?_;(first|apply q_J|apply q_K|apply q_L|apply q_M|apply q_N|apply q_O)<;>try (intro _;try exact q_v)))
       all_goals first | omega | contradiction | skip
       all_goals refine q_F ⟨k + 1,hi⟩ ?_ (by simp only; omega)
       all_goals simp only [hws]
       all_goals exact q_D
     ·have hg2:=hasH_all hg
      rw [hh,hg2] at hws
      simp only [Bool.false_eq_true,or_true,if_true] at hws
      simp only [Bool.not_true]
      repeat' (first|with_reducible refine q_0 ?_|((with_reducible first|refine q_q yht_ok fun K hK=>?_|refine q_r yht_ok fun K hK=>?_);simp (maxSteps:=2000000) only [go_sem,↓reduceIte,reduceCtorEq,Nat.reduceLeDiff,Nat.reduceLT,Nat.reduceBEq,Nat.reduceAdd,sh,hx];(repeat1' with_reducible first|apply And.intro|(intro _;try exact q_v)|(refine hK _ ?_;clear hK K))<;>(try (clear hK K;exact q_u)))|(with_reducible refine q_s ?_;(first|apply q_J|apply q_K|apply q_L|apply q_M|apply q_N|apply q_O)<;>try (intro _;try exact q_v)))
      all_goals first | omega | contradiction | skip
      all_goals refine q_F ⟨k + 1,hi⟩ ?_ (by simp only; omega)
      all_goals simp only [hws]
      all_goals exact q_D
   ·have hh2:=hasH_take k1 hh
    rw [hh2] at hws
    simp only [true_or,if_true] at hws
    simp only [Bool.not_true]
    repeat' (first|with_reducible refine q_0 ?_|((with_reducible first|refine q_q yht_ok fun K hK=>?_|refine q_r yht_ok fun K hK=>?_);simp (maxSteps:=2000000) only [go_sem,↓reduceIte,reduceCtorEq,Nat.reduceLeDiff,Nat.reduceLT,Nat.reduceBEq,Nat.reduceAdd,sh,hx];(repeat1' with_reducible first|apply And.intro|(intro _;try exact q_v)|(refine hK _ ?_;clear hK K))<;>(try (clear hK K;exact q_u)))|(with_reducible refine q_s ?_;(first|apply q_J|apply q_K|apply q_L|apply q_M|apply q_N|apply q_O)<;>try (intro _;try exact q_v)))
    all_goals first | omega | contradiction | skip
    all_goals refine q_G (ι:=Unit) (fun _=>⟨203,[(0,.c (.ints .i64 l)),(1,.c (.ints .i64 G)),(5,.bx 1 0),(6,.own 2 0),(10,.c (.i .i64 (i : Nat))),(11,.c (.b false)),(13,.c (.i .i64 0))],
      ⟨[(1,[.c (.a fnC),.mp 0,.own 0 0]),(0,[.mc (.s (idxF T0) (cnt T0))])],[(0,⟨0,65,4,.sl 4 (encR T0)⟩),(2,⟨0,3,1,.ints .i64 Wi⟩)],[]⟩,3⟩) (fun _=>0) () ?_ ?_
    all_goals first | exact q_D | skip
    all_goals intro _
    all_goals repeat' (first|with_reducible refine q_0 ?_|((with_reducible first|refine q_q yht_ok fun K hK=>?_|refine q_r yht_ok fun K hK=>?_);simp (maxSteps:=2000000) only [go_sem,↓reduceIte,reduceCtorEq,Nat.reduceLeDiff,Nat.reduceLT,Nat.reduceBEq,Nat.reduceAdd,sh,hx];(repeat1' with_reducible first|apply And.intro|(intro _;try exact q_v)|(refine hK _ ?_;clear hK K))<;>(try (clear hK K;exact q_u)))|(with_reducible refine q_s ?_;(first|apply q_J|apply q_K|apply q_L|apply q_M|apply q_N|apply q_O)<;>try (intro _;try exact q_v)))
    all_goals first | omega | contradiction | skip
    all_goals refine q_F ⟨i + 1,hi⟩ ?_ (by simp only; omega)
    all_goals simp only [hws]
    all_goals exact q_D
  ·obtain rfl : i = l.length:=by omega
   rw [hW]
   have hwl : W.length ≤ 900:=by have:=hw l.length; rw [hW] at this; omega
   have bW : ∀ m,InI (W.getD m 0):=fun m=>by
    rw [← hW]; exact wants_in bl m
   repeat' (first|with_reducible refine q_0 ?_|((with_reducible first|refine q_q yht_ok fun K hK=>?_|refine q_r yht_ok fun K hK=>?_);simp (maxSteps:=2000000) only [go_sem,↓reduceIte,reduceCtorEq,Nat.reduceLeDiff,Nat.reduceLT,Nat.reduceBEq,Nat.reduceAdd];(repeat1' with_reducible first|apply And.intro|(intro _;try exact q_v)|(refine hK _ ?_;clear hK K))<;>(try (clear hK K;exact q_u)))|(with_reducible refine q_s ?_;(first|apply q_J|apply q_K|apply q_L|apply q_M|apply q_N|apply q_O)<;>try (intro _;try exact q_v)))
   all_goals first | omega | skip
   -- moving
   refine loop_rb (ι:={ q : Nat × List En // q.1 ≤ W.length ∧ PD l W q.1 q.2 }) (fun q=>⟨203,[(0,.c (.ints .i64 l)),(5,.bx 1 0),(6,.own 2 0),(14,.c (.i .i64 (q.1.1 : Nat)))],
    ⟨[(1,[.c (.a fnC),.mp 0,.own 0 0]),(0,[.mc (.s (idxF q.1.2) (cnt q.1.2))])],[(0,⟨0,65,4,.sl 4 (encR q.1.2)⟩),(2,⟨0,3,1,.ints .i64 W⟩)],[]⟩,3⟩) (fun q=>W.length - q.1.1) ⟨(0,T0),by simp,hT0⟩ ?_ ?_
   ·exact q_D
   clear hT0 T0
   rintro ⟨⟨m,T⟩,q1,q2⟩
   simp only at q1 q2 ⊢
   have ht:=q2.ti
   rcases Nat.lt_or_ge m W.length with hm | hm
   ·have hk:=bW m
    have hh:=pd_has q2 hm
    have hs:=pd_step q2 hm
    repeat' (first|with_reducible refine q_0 ?_|((with_reducible first|refine q_q yht_ok fun K hK=>?_|refine q_r yht_ok fun K hK=>?_);simp (maxSteps:=2000000) only [go_sem,↓reduceIte,reduceCtorEq,Nat.reduceLeDiff,Nat.reduceLT,Nat.reduceBEq,Nat.reduceAdd,hh];(repeat1' with_reducible first|apply And.intro|(intro _;try exact q_v)|(refine hK _ ?_;clear hK K))<;>(try (clear hK K;exact q_u)))|(with_reducible refine q_s ?_;(first|apply q_J|apply q_K|apply q_L|apply q_M|apply q_N|apply q_O)<;>try (intro _;try exact q_v)))
    all_goals first | omega | contradiction | exact ht | exact hk | exact ⟨hk,rfl⟩ | skip
    all_goals refine roundr_n [(3,0)] ⟨(m + 1,moveE T (W.getD m 0)),hm,hs⟩ ?_ (by simp only; omega)
    all_goals exact q_D
   obtain rfl : m = W.length:=by omega
   repeat' (first|with_reducible refine q_0 ?_|((with_reducible first|refine q_q yht_ok fun K hK=>?_|refine q_r yht_ok fun K hK=>?_);simp (maxSteps:=2000000) only [go_sem,↓reduceIte,reduceCtorEq,Nat.reduceLeDiff,Nat.reduceLT,Nat.reduceBEq,Nat.reduceAdd];(repeat1' with_reducible first|apply And.intro|(intro _;try exact q_v)|(refine hK _ ?_;clear hK K))<;>(try (clear hK K;exact q_u)))|(with_reducible refine q_s ?_;(first|apply q_J|apply q_K|apply q_L|apply q_M|apply q_N|apply q_O)<;>try (intro _;try exact q_v)))
   all_goals first | omega | contradiction | skip
   refine roundr_exit ?_
   repeat' (first|with_reducible refine q_0 ?_|((with_reducible first|refine q_q yht_ok fun K hK=>?_|refine q_r yht_ok fun K hK=>?_);simp (maxSteps:=2000000) only [go_sem,↓reduceIte,reduceCtorEq,Nat.reduceLeDiff,Nat.reduceLT,Nat.reduceBEq,Nat.reduceAdd];(repeat1' with_reducible first|apply And.intro|(intro _;try exact q_v)|(refine hK _ ?_;clear hK K))<;>(try (clear hK K;exact q_u)))|(with_reducible refine q_s ?_;(first|apply q_J|apply q_K|apply q_L|apply q_M|apply q_N|apply q_O)<;>try (intro _;try exact q_v)))
   all_goals first | omega | contradiction | skip
   have hcw:=pd_cnt q2
   refine loop_rb (ι:={ i : Nat // i ≤ W.length }) (fun i=>⟨203,[(0,.c (.ints .i64 l)),(5,.bx 1 0),(6,.own 2 0),(16,.c (.i .i64 (i.1 : Nat)))],
    ⟨[(1,[.c (.a fnC),.mp 0,.own 0 0]),(0,[.mc (.s (idxF T) (cnt T))])],[(0,⟨0,65,4,.sl 4 (encR T)⟩),(2,⟨0,3,1,.ints .i64 W⟩)],[]⟩,3⟩) (fun i=>W.length - i.1) ⟨0,Nat.zero_le _⟩ ?_ ?_
   ·exact q_D
   rintro ⟨i,i1⟩
   simp only at i1 ⊢
   rcases Nat.lt_or_ge i W.length with hi | hi
   ·have hk:=bW i
    have hn : InI (i : Nat):=inI_nat (by omega)
    have hh : hasE T (W.getD i 0) = true:=by
     rw [hasE_eq ht,pd_all q2]
     exact hasH_iff.2 ⟨W.getD i 0,by rw [getD_I hi]; exact List.getElem_mem hi,rfl⟩
    repeat' (first|with_reducible refine q_0 ?_|((with_reducible first|refine q_q yht_ok fun K hK=>?_|refine q_r yht_ok fun K hK=>?_);simp (maxSteps:=2000000) only [go_sem,↓reduceIte,reduceCtorEq,Nat.reduceLeDiff,Nat.reduceLT,Nat.reduceBEq,Nat.reduceAdd,sh,hh];(repeat1' with_reducible first|apply And.intro|(intro _;try exact q_v)|(refine hK _ ?_;clear hK K))<;>(try (clear hK K;exact q_u)))|(with_reducible refine q_s ?_;(first|apply q_J|apply q_K|apply q_L|apply q_M|apply q_N|apply q_O)<;>try (intro _;try exact q_v)))
    all_goals first | omega | contradiction | exact ht | exact hk | exact hn | skip
    all_goals
     rename (lv T)[_]? = some _=>p2
     have c2:=pd_pos q2 hi p2 (by assumption)
     clear p2
     rename (lv T)[_]? = some _=>p1
     have c1:=at_fact q2 (by assumption) p1
     obtain ⟨c3,c4,c5,c6⟩:=c1
    all_goals first | omega | skip
    all_goals refine roundr_n [(4,0)] ⟨i + 1,hi⟩ ?_ (by simp only; omega)
    all_goals exact q_D
   ·repeat' (first|with_reducible refine q_0 ?_|((with_reducible first|refine q_q yht_ok fun K hK=>?_|refine q_r yht_ok fun K hK=>?_);simp (maxSteps:=2000000) only [go_sem,↓reduceIte,reduceCtorEq,Nat.reduceLeDiff,Nat.reduceLT,Nat.reduceBEq,Nat.reduceAdd];(repeat1' with_reducible first|apply And.intro|(intro _;try exact q_v)|(refine hK _ ?_;clear hK K))<;>(try (clear hK K;exact q_u)))|(with_reducible refine q_s ?_;(first|apply q_J|apply q_K|apply q_L|apply q_M|apply q_N|apply q_O)<;>try (intro _;try exact q_v)))
    all_goals first | omega | contradiction | skip
    all_goals refine roundr_exit ?_
    all_goals repeat' (first|with_reducible refine q_0 ?_|((with_reducible first|refine q_q yht_ok fun K hK=>?_|refine q_r yht_ok fun K hK=>?_);simp (maxSteps:=2000000) only [go_sem,↓reduceIte,reduceCtorEq,Nat.reduceLeDiff,Nat.reduceLT,Nat.reduceBEq,Nat.reduceAdd,hcw];(repeat1' with_reducible first|apply And.intro|(intro _;try exact q_v)|(refine hK _ ?_;clear hK K))<;>(try (clear hK K;exact q_u)))|(with_reducible refine q_s ?_;(first|apply q_J|apply q_K|apply q_L|apply q_M|apply q_N|apply q_O)<;>try (intro _;try exact q_v)))
    all_goals first | omega | contradiction | exact q_A rfl | skip
 repeat' (first|with_reducible refine q_0 ?_|((with_reducible first|refine q_q yht_ok fun K hK=>?_|refine q_r yht_ok fun K hK=>?_);simp (maxSteps:=2000000) only [go_sem,↓reduceIte,reduceCtorEq,Nat.reduceLeDiff,Nat.reduceLT,Nat.reduceBEq,Nat.reduceAdd];(repeat1' with_reducible first|apply And.intro|(intro _;try exact q_v)|(refine hK _ ?_;clear hK K))<;>(try (clear hK K;exact q_u)))|(with_reducible refine q_s ?_;(first|apply q_J|apply q_K|apply q_L|apply q_M|apply q_N|apply q_O)<;>try (intro _;try exact q_v)))
 all_goals first | omega | skip
 -- putting
 refine loop_rb (ι:={ q : Nat × List En // q.1 ≤ l.length ∧ PA l q.1 q.2 }) (fun q=>⟨203,[(0,.c (.ints .i64 l)),(1,.c (.ints .i64 G)),(5,.bx 1 0),(6,.c .nil),(7,.c (.i .i64 (q.1.1 : Nat)))],tN 0 q.1.2,2⟩) (fun q=>l.length - q.1.1) ⟨(0,[]),by simp,pa_zero l⟩ ?_ ?_
 ·exact q_D
 rintro ⟨⟨i,T⟩,q1,q2⟩
 simp only at q1 q2 ⊢
 have ht:=q2.ti
 rcases Nat.lt_or_ge i l.length with hi | hi
 ·have hk:=inI_at bl i
  have hf:=pa_full q2 (by omega) (l.getD i 0)
  have hs:=pa_step q2 hi hl
  repeat' (first|with_reducible refine q_0 ?_|((with_reducible first|refine q_q yht_ok fun K hK=>?_|refine q_r yht_ok fun K hK=>?_);simp (maxSteps:=2000000) only [go_sem,↓reduceIte,reduceCtorEq,Nat.reduceLeDiff,Nat.reduceLT,Nat.reduceBEq,Nat.reduceAdd,hf];(repeat1' with_reducible first|apply And.intro|(intro _;try exact q_v)|(refine hK _ ?_;clear hK K))<;>(try (clear hK K;exact q_u)))|(with_reducible refine q_s ?_;(first|apply q_J|apply q_K|apply q_L|apply q_M|apply q_N|apply q_O)<;>try (intro _;try exact q_v)))
  all_goals first | omega | contradiction | exact ht | exact hk | skip
  all_goals refine roundr_n [(2,0)] ⟨(i + 1,putE T (l.getD i 0) (i : Nat)),hi,hs⟩ ?_ (by simp only; omega)
  all_goals exact q_D
 obtain rfl : i = l.length:=by omega
 have hpb:=pb_zero q2 G9
 repeat' (first|with_reducible refine q_0 ?_|((with_reducible first|refine q_q yht_ok fun K hK=>?_|refine q_r yht_ok fun K hK=>?_);simp (maxSteps:=2000000) only [go_sem,↓reduceIte,reduceCtorEq,Nat.reduceLeDiff,Nat.reduceLT,Nat.reduceBEq,Nat.reduceAdd];(repeat1' with_reducible first|apply And.intro|(intro _;try exact q_v)|(refine hK _ ?_;clear hK K))<;>(try (clear hK K;exact q_u)))|(with_reducible refine q_s ?_;(first|apply q_J|apply q_K|apply q_L|apply q_M|apply q_N|apply q_O)<;>try (intro _;try exact q_v)))
 all_goals first | omega | contradiction | skip
 refine roundr_exit ?_
 clear q2 ht
 repeat' (first|with_reducible refine q_0 ?_|((with_reducible first|refine q_q yht_ok fun K hK=>?_|refine q_r yht_ok fun K hK=>?_);simp (maxSteps:=2000000) only [go_sem,↓reduceIte,reduceCtorEq,Nat.reduceLeDiff,Nat.reduceLT,Nat.reduceBEq,Nat.reduceAdd];(repeat1' with_reducible first|apply And.intro|(intro _;try exact q_v)|(refine hK _ ?_;clear hK K))<;>(try (clear hK K;exact q_u)))|(with_reducible refine q_s ?_;(first|apply q_J|apply q_K|apply q_L|apply q_M|apply q_N|apply q_O)<;>try (intro _;try exact q_v)))
 all_goals first | omega | contradiction | skip
 -- deleting
 refine loop_rb (ι:={ q : Nat × List En // q.1 ≤ G9.length ∧ PB l G9 q.1 q.2 }) (fun q=>⟨203,[(0,.c (.ints .i64 l)),(1,.c (.ints .i64 G)),(5,.bx 1 0),(6,.c .nil),(9,.c (.i .i64 (q.1.1 : Nat)))],tN 0 q.1.2,2⟩) (fun q=>G9.length - q.1.1) ⟨(0,T),by simp,hpb⟩ ?_ ?_
 ·exact q_D
 clear hpb T
 rintro ⟨⟨j,T⟩,q1',q2⟩
 simp only at q1' q2 ⊢
 have ht:=q2.ti
 rcases Nat.lt_or_ge j G9.length with hj | hj
 ·have hk:=inI_at bG j
  have hs:=pb_step q2 hj
  rw [hgd j (by omega)] at hs
  repeat' (first|with_reducible refine q_0 ?_|((with_reducible first|refine q_q yht_ok fun K hK=>?_|refine q_r yht_ok fun K hK=>?_);simp (maxSteps:=2000000) only [go_sem,↓reduceIte,reduceCtorEq,Nat.reduceLeDiff,Nat.reduceLT,Nat.reduceBEq,Nat.reduceAdd];(repeat1' with_reducible first|apply And.intro|(intro _;try exact q_v)|(refine hK _ ?_;clear hK K))<;>(try (clear hK K;exact q_u)))|(with_reducible refine q_s ?_;(first|apply q_J|apply q_K|apply q_L|apply q_M|apply q_N|apply q_O)<;>try (intro _;try exact q_v)))
  all_goals first | omega | contradiction | exact ht | exact hk | skip
  all_goals refine roundr_n [(2,0)] ⟨(j + 1,delE T (G.getD j 0)),hj,hs⟩ ?_ (by simp only; omega)
  all_goals exact q_D
 obtain rfl : j = G9.length:=by omega
 have hpd:=pd_zero q2
 repeat' (first|with_reducible refine q_0 ?_|((with_reducible first|refine q_q yht_ok fun K hK=>?_|refine q_r yht_ok fun K hK=>?_);simp (maxSteps:=2000000) only [go_sem,↓reduceIte,reduceCtorEq,Nat.reduceLeDiff,Nat.reduceLT,Nat.reduceBEq,Nat.reduceAdd];(repeat1' with_reducible first|apply And.intro|(intro _;try exact q_v)|(refine hK _ ?_;clear hK K))<;>(try (clear hK K;exact q_u)))|(with_reducible refine q_s ?_;(first|apply q_J|apply q_K|apply q_L|apply q_M|apply q_N|apply q_O)<;>try (intro _;try exact q_v)))
 all_goals first | omega | contradiction | skip
 all_goals refine roundr_exit ?_
 all_goals clear q2 ht
 all_goals repeat' (first|with_reducible refine q_0 ?_|((with_reducible first|refine q_q yht_ok fun K hK=>?_|refine q_r yht_ok fun K hK=>?_);simp (maxSteps:=2000000) only [go_sem,↓reduceIte,reduceCtorEq,Nat.reduceLeDiff,Nat.reduceLT,Nat.reduceBEq,Nat.reduceAdd];(repeat1' with_reducible first|apply And.intro|(intro _;try exact q_v)|(refine hK _ ?_;clear hK K))<;>(try (clear hK K;exact q_u)))|(with_reducible refine q_s ?_;(first|apply q_J|apply q_K|apply q_L|apply q_M|apply q_N|apply q_O)<;>try (intro _;try exact q_v)))
 all_goals first | omega | contradiction | skip
 all_goals refine cut_fit hY ⟨T,hpd⟩ ?_
 all_goals exact q_D
end Go.Proofs.Ytekigfhikikgaaa

namespace Go.Proofs.Ytekigfhikikgaaa
set_option linter.unusedSimpArgs false
set_option linter.unusedVariables false
open Go.Abs Go.Proofs.NatL Go.ChangeShapes Go.WideShapes Go.ChangeAt Go.RowKit

theorem own_knob : ownKnob Try.prog.godebug = none:=by kernel_rfl
theorem kids : Kids Try.prog (· < Try.prog.types.size):=kids_rows (by kernel_rfl) (by kernel_rfl)
theorem full : ∀ t e,t < Try.prog.types.size → Try.prog.underlying t = some (.slice e) → 0 < Try.prog.cellsOf e:=slices_full_of Try.prog (by kernel_rfl)
end Go.Proofs.Ytekigfhikikgaaa

namespace Go.Proofs.Ytekigfhikikgaaa
set_option linter.unusedSimpArgs false
set_option linter.unusedVariables false
open Go.Abs Go.Proofs.NatL Go.ChangeShapes Go.WideShapes Go.ChangeAt Go.RowKit
theorem cells_int : Try.prog.cellsOf 3 = 1:=by kernel_rfl
theorem bytes_int : Try.prog.bytesOf 3 = 8:=by kernel_rfl
set_option maxRecDepth 100000 in
theorem open_ints {H : Type} {enc : TypeId × Value → H} {W : World} {base : Nat} {v : Value} {d : DataW H} {p : List MemPlace} (hval : Value.okWide Try.prog W .any base 22 v) (h : DataW.Trod enc Try.prog W 0 (fun _=>true) true 22 v d p) (hs : Sized Try.prog 22 d) :
  ∃ xs : List Int,Rd W Top (.ints .i64 xs) v ∧ xs.length ≤ 140737488355328 ∧ ∀ x ∈ xs, -9223372036854775808 ≤ x ∧ x ≤ 9223372036854775807:=by
 obtain ⟨fuel,hf⟩:=h
 obtain ⟨xs,u,hu,ho,hrd,hm,hw,hd⟩:=rd_ints Try.underlying22 Try.underlying3 cells_int hf
 obtain rfl:=one_of Try.underlying22 rfl hval hu ho
 have hl:=szd_slice (n:=xs.length) Try.underlying22 hs (by
  rcases hd with ⟨h1,h2⟩ | h1
  ·exact .inl ⟨h1,by rw [h2]; rfl⟩
  ·exact .inr h1)
 rw [bytes_int] at hl
 exact ⟨xs,hrd,by simp only [reachBytes] at hl; omega,fun x hx=>bounds_i64 (hw x hx)⟩

end Go.Proofs.Ytekigfhikikgaaa
