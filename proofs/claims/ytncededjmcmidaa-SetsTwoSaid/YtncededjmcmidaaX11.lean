import Derived.Test.YtncededjmcmidaaX10
namespace Go.Proofs.Ytncededjmcmidaa
set_option linter.unusedSimpArgs false
set_option linter.unusedVariables false
open Go.Abs Go.Proofs.NatL

theorem txF_ts (os : List Ob) (ks : List Vl) : txF os ks = tsC (ks.map (cdS os)):=by unfold txF tsC; rw [List.map_map]; rfl
theorem txF_de (os : List Ob) (ks : List Vl) : (txF os ks).map deT = ks.map (cdS os):=by rw [txF_ts,deT_map]
theorem cdS_inj {os : List Ob} (ho : HOk os) {u v : Vl} (hu : OkW os.length u) (hv : OkW os.length v) : cdS os u = cdS os v ↔ (keyF os u).1 = (keyF os v).1:=by
 constructor
 ·intro h
  have:=congrArg bytesOf h
  unfold cdS at this
  rw [bytes_strOf _ (keyF_in ho hu).1,bytes_strOf _ (keyF_in ho hv).1] at this
  exact this
 ·intro h; unfold cdS; rw [h]
theorem ga_in {os : List Ob} (ho : HOk os) {x : List Vl} (hx : ∀ v ∈ x,OkW os.length v) {k : Vl} (hk : OkW os.length k) : (gaF (x.map (cdS os)) (cdS os k)).isSome = inS os k x:=by
 rw [Bool.eq_iff_iff,gaF_some,List.mem_map]
 unfold inS
 rw [List.any_eq_true]
 constructor
 ·rintro ⟨u,hu,he⟩
  exact ⟨u,hu,by simpa using ((cdS_inj ho (hx u hu) hk).1 he).symm⟩
 ·rintro ⟨u,hu,he⟩
  exact ⟨u,hu,(cdS_inj ho (hx u hu) hk).2 (by simpa using (of_decide_eq_true he).symm)⟩
theorem pk_ch {os : List Ob} (ho : HOk os) {x : List Vl} (hx : ∀ v ∈ x,OkW os.length v) (has : Bool) : ∀ {y : List Vl},(∀ v ∈ y,OkW os.length v) → pkF (gaF (x.map (cdS os))) has y (y.map (cdS os)) = chF os y x has
 | [],_=>rfl
 | k :: y,hy=>by
  have ih:=pk_ch ho hx has (y:=y) fun v hv=>hy v (List.mem_cons_of_mem _ hv)
  have hk:=ga_in ho hx (hy k (List.mem_cons_self ..))
  rw [List.map_cons,pkF,ih,hk]
  unfold chF
  rw [List.filter_cons]
  by_cases h : inS os k x = has
  ·rw [if_pos h,if_pos (by simp [h])]; rfl
  ·rw [if_neg h,if_neg (by simp [h])]; rfl
theorem chF_ok {os : List Ob} {x y : List Vl} {n : Nat} (h : KL n x) (has : Bool) : KL n (chF os x y has) :=
 ⟨Nat.le_trans (List.length_filter_le _ _) h.1,fun v hv=>h.2 v (List.mem_filter.1 hv).1⟩
theorem boF_ok {os : List Ob} {a b : Int} (h : HK os) (ha : 0 ≤ a ∧ a < os.length) (hb : 0 ≤ b ∧ b < os.length) : KL os.length (boF os a b).1 ∧ KL os.length (boF os a b).2.1 ∧ ((boF os a b).2.2.1 = 0 → (boF os a b).2.2.2 = 0):=by
 have n : KL os.length []:=⟨Nat.zero_le _,fun v hv=>(by cases hv)⟩
 have ka:=h.k _ (ob_mem os ha)
 have kb:=h.k _ (ob_mem os hb)
 unfold boF
 repeat' split
 ·exact ⟨n,n,fun e=>absurd (show (13 : Int) = 0 from e) (by omega)⟩
 ·exact ⟨ka,n,fun e=>absurd (show (13 : Int) = 0 from e) (by omega)⟩
 ·exact ⟨ka,kb,fun _=>rfl⟩
def liF (l : List Vl) : List Vl × Int × Int:=if 1000 < l.length then ([],2, -1) else (l,0,0)
def unF (os : List Ob) (a b : Int) : List Vl × Int × Int:=if (boF os a b).2.2.1 ≠ 0 then ([],(boF os a b).2.2.1,(boF os a b).2.2.2) else liF ((boF os a b).1 ++ chF os (boF os a b).2.1 (boF os a b).1 false)
def meF (os : List Ob) (a b : Int) : List Vl × Int × Int:=(chF os (boF os a b).1 (boF os a b).2.1 true,(boF os a b).2.2.1,(boF os a b).2.2.2)
def miF (os : List Ob) (a b : Int) : List Vl × Int × Int:=if (boF os a b).2.2.1 ≠ 0 then ([],(boF os a b).2.2.1,(boF os a b).2.2.2) else (chF os (boF os a b).1 (boF os a b).2.1 false,0,0)
def eiF (os : List Ob) (a b : Int) : List Vl × Int × Int:=if (boF os a b).2.2.1 ≠ 0 then ([],(boF os a b).2.2.1,(boF os a b).2.2.2) else liF (chF os (boF os a b).1 (boF os a b).2.1 false ++ chF os (boF os a b).2.1 (boF os a b).1 false)
abbrev lsR (R : List Vl × Int × Int) : AV:=.t [.inl (.sl 7 (R.1.map vC)),.inr [.i .i64 R.2.1,.i .i64 R.2.2]]
def ub13 : Cfg:=listT [(60,bothCT),(54,cloneWCT),(51,gatherCT),(62,pickCT),(61,limitedCT)] [39]
theorem ub13_ok : TblOk Try.prog ub13:=listE_ok (by simp only [List.mem_singleton,forall_eq]; exact flt) ⟨⟨u3c,u3c_ok,rfl⟩,⟨u4e,u4e_ok,rfl⟩,⟨u4a,u4a_ok,rfl⟩,⟨u4c,u4c_ok,rfl⟩,⟨u4d,u4d_ok,rfl⟩,trivial⟩
attribute [go_sem] ub13
set_option maxRecDepth 100000 in
set_option maxHeartbeats 8000000 in
theorem unite_ret (os : List Ob) (a b : Int) (h : HK os) (ha : 0 ≤ a ∧ a < os.length) (hb : 0 ≤ b ∧ b < os.length) : Ret Try.prog 30 false [.inr [.sl 10 (os.map obC)],.inl (.i .i64 a),.inl (.i .i64 b)] (lsR (unF os a b)):=by
 have hd:=dO_map h.p
 obtain ⟨kx,ky,hz⟩:=boF_ok h ha hb
 have ho:=h.h
 unfold unF
 generalize hR : boF os a b = R at *
 obtain ⟨x,y,c,i⟩:=R
 obtain ⟨hx1,hx2⟩:=kx
 obtain ⟨hy1,hy2⟩:=ky
 simp only at hx1 hx2 hy1 hy2 hz ⊢
 have hpk:=pk_ch ho hx2 false hy2
 have hcl:=List.length_filter_le (fun k=>inS os k x == false) y
 have hcl2 : (chF os y x false).length ≤ 1000000:=by unfold chF; omega
 have dx:=dV_map x
 have dy:=dV_map y
 have tx:=txF_de os x
 have ty:=txF_de os y
 have lx:=txF_len os x
 have ly:=txF_len os y
 by_cases h0 : c = 0
 ·subst h0
  obtain rfl:=hz rfl
  rw [if_neg (by simp)]
  unfold liF
  by_cases hl : 1000 < (x ++ chF os y x false).length
  ·rw [if_pos hl]
   have hl2 : 1000 < x.length + (chF os y x false).length:=by rw [← List.length_append]; exact hl
   (refine q_H Try.func30 (fun F=>?_); simp only [q_z,q_y,Try.ntmps30,Try.results30])
   repeat' (first|with_reducible refine q_0 ?_|((with_reducible first|refine q_q ub13_ok fun K hK=>?_|refine q_r ub13_ok fun K hK=>?_);simp (maxSteps:=2000000) only [go_sem,↓reduceIte,reduceCtorEq,Nat.reduceLeDiff,Nat.reduceLT,Nat.reduceBEq,Nat.reduceAdd,hd,hR,dx,dy,tx,ty,hpk,List.length_map,lx,ly];(repeat1' with_reducible first|apply And.intro|(intro _;try exact q_v)|(refine hK _ ?_;clear hK K))<;>(try (clear hK K;exact q_u)))|(with_reducible refine q_s ?_;(first|apply q_J|apply q_K|apply q_L|apply q_M|apply q_N|apply q_O)<;>try (intro _;try exact q_v)))
   all_goals first | omega | contradiction | exact h | exact txF_ts os _ | exact gaF_pos _ _ | (rw [List.length_map]; done) | exact q_B [.inl (some (.sl 7 [])),.inr []] rfl rfl | exact q_A rfl | skip
  ·rw [if_neg hl]
   have hl2 : x.length + (chF os y x false).length ≤ 1000:=by rw [← List.length_append]; omega
   (refine q_H Try.func30 (fun F=>?_); simp only [q_z,q_y,Try.ntmps30,Try.results30])
   repeat' (first|with_reducible refine q_0 ?_|((with_reducible first|refine q_q ub13_ok fun K hK=>?_|refine q_r ub13_ok fun K hK=>?_);simp (maxSteps:=2000000) only [go_sem,↓reduceIte,reduceCtorEq,Nat.reduceLeDiff,Nat.reduceLT,Nat.reduceBEq,Nat.reduceAdd,hd,hR,dx,dy,tx,ty,hpk,List.length_map,lx,ly];(repeat1' with_reducible first|apply And.intro|(intro _;try exact q_v)|(refine hK _ ?_;clear hK K))<;>(try (clear hK K;exact q_u)))|(with_reducible refine q_s ?_;(first|apply q_J|apply q_K|apply q_L|apply q_M|apply q_N|apply q_O)<;>try (intro _;try exact q_v)))
   all_goals first | omega | contradiction | exact h | exact txF_ts os _ | exact gaF_pos _ _ | (rw [List.length_map]; done) | exact q_A rfl | skip
 ·rw [if_pos h0]
  (refine q_H Try.func30 (fun F=>?_); simp only [q_z,q_y,Try.ntmps30,Try.results30])
  repeat' (first|with_reducible refine q_0 ?_|((with_reducible first|refine q_q ub13_ok fun K hK=>?_|refine q_r ub13_ok fun K hK=>?_);simp (maxSteps:=2000000) only [go_sem,↓reduceIte,reduceCtorEq,Nat.reduceLeDiff,Nat.reduceLT,Nat.reduceBEq,Nat.reduceAdd,hd,hR,List.length_map];(repeat1' with_reducible first|apply And.intro|(intro _;try exact q_v)|(refine hK _ ?_;clear hK K))<;>(try (clear hK K;exact q_u)))|(with_reducible refine q_s ?_;(first|apply q_J|apply q_K|apply q_L|apply q_M|apply q_N|apply q_O)<;>try (intro _;try exact q_v)))
  all_goals first | omega | contradiction | exact h | exact q_B [.inl (some (.sl 7 [])),.inr []] rfl rfl | skip
set_option maxRecDepth 100000 in
set_option maxHeartbeats 8000000 in
theorem meet_ret_s (os : List Ob) (a b : Int) (h : HK os) (ha : 0 ≤ a ∧ a < os.length) (hb : 0 ≤ b ∧ b < os.length) : Ret Try.prog 31 false [.inr [.sl 10 (os.map obC)],.inl (.i .i64 a),.inl (.i .i64 b)] (lsR (meF os a b)):=by
 have hd:=dO_map h.p
 obtain ⟨kx,ky,hz⟩:=boF_ok h ha hb
 have ho:=h.h
 unfold meF
 generalize hR : boF os a b = R at *
 obtain ⟨x,y,c,i⟩:=R
 obtain ⟨hx1,hx2⟩:=kx
 obtain ⟨hy1,hy2⟩:=ky
 simp only at hx1 hx2 hy1 hy2 hz ⊢
 have hpy:=pk_ch ho hx2 false hy2
 have hpx:=pk_ch ho hy2 true hx2
 have hcy:=List.length_filter_le (fun k=>inS os k x == false) y
 have hcx:=List.length_filter_le (fun k=>inS os k y == true) x
 have hly : (chF os y x false).length ≤ 1000000:=by unfold chF; omega
 have hlx : (chF os x y true).length ≤ 1000000:=by unfold chF; omega
 have dx:=dV_map x
 have dy:=dV_map y
 have dc:=dV_map (chF os x y true)
 have tx:=txF_de os x
 have ty:=txF_de os y
 have lx:=txF_len os x
 have ly:=txF_len os y
 (refine q_H Try.func31 (fun F=>?_); simp only [q_z,q_y,Try.ntmps31,Try.results31])
 repeat' (first|with_reducible refine q_0 ?_|((with_reducible first|refine q_q ub13_ok fun K hK=>?_|refine q_r ub13_ok fun K hK=>?_);simp (maxSteps:=2000000) only [go_sem,↓reduceIte,reduceCtorEq,Nat.reduceLeDiff,Nat.reduceLT,Nat.reduceBEq,Nat.reduceAdd,hd,hR,dx,dy,dc,tx,ty,hpx,hpy,List.length_map,lx,ly];(repeat1' with_reducible first|apply And.intro|(intro _;try exact q_v)|(refine hK _ ?_;clear hK K))<;>(try (clear hK K;exact q_u)))|(with_reducible refine q_s ?_;(first|apply q_J|apply q_K|apply q_L|apply q_M|apply q_N|apply q_O)<;>try (intro _;try exact q_v)))
 all_goals first | omega | contradiction | exact h | exact txF_ts os _ | exact gaF_pos _ _ | exact keep_of [1] ⟨rfl,trivial⟩ | exact keep_of [2] ⟨rfl,trivial⟩ | exact q_A rfl | exact q_B [.inl (some (.sl 7 [])),.inr []] rfl rfl | skip
set_option maxRecDepth 100000 in
set_option maxHeartbeats 8000000 in
theorem minus_ret_s (os : List Ob) (a b : Int) (h : HK os) (ha : 0 ≤ a ∧ a < os.length) (hb : 0 ≤ b ∧ b < os.length) : Ret Try.prog 32 false [.inr [.sl 10 (os.map obC)],.inl (.i .i64 a),.inl (.i .i64 b)] (lsR (miF os a b)):=by
 have hd:=dO_map h.p
 obtain ⟨kx,ky,hz⟩:=boF_ok h ha hb
 have ho:=h.h
 unfold miF
 generalize hR : boF os a b = R at *
 obtain ⟨x,y,c,i⟩:=R
 obtain ⟨hx1,hx2⟩:=kx
 obtain ⟨hy1,hy2⟩:=ky
 simp only at hx1 hx2 hy1 hy2 hz ⊢
 have hpy:=pk_ch ho hx2 false hy2
 have hpx:=pk_ch ho hy2 false hx2
 have hcy:=List.length_filter_le (fun k=>inS os k x == false) y
 have hcx:=List.length_filter_le (fun k=>inS os k y == false) x
 have hly : (chF os y x false).length ≤ 1000000:=by unfold chF; omega
 have hlx : (chF os x y false).length ≤ 1000000:=by unfold chF; omega
 have dx:=dV_map x
 have dy:=dV_map y
 have dc:=dV_map (chF os x y false)
 have tx:=txF_de os x
 have ty:=txF_de os y
 have lx:=txF_len os x
 have ly:=txF_len os y
 by_cases h0 : c = 0
 ·subst h0
  obtain rfl:=hz rfl
  rw [if_neg (by simp)]
  (refine q_H Try.func32 (fun F=>?_); simp only [q_z,q_y,Try.ntmps32,Try.results32])
  repeat' (first|with_reducible refine q_0 ?_|((with_reducible first|refine q_q ub13_ok fun K hK=>?_|refine q_r ub13_ok fun K hK=>?_);simp (maxSteps:=2000000) only [go_sem,↓reduceIte,reduceCtorEq,Nat.reduceLeDiff,Nat.reduceLT,Nat.reduceBEq,Nat.reduceAdd,hd,hR,dx,dy,dc,tx,ty,hpx,hpy,List.length_map,lx,ly];(repeat1' with_reducible first|apply And.intro|(intro _;try exact q_v)|(refine hK _ ?_;clear hK K))<;>(try (clear hK K;exact q_u)))|(with_reducible refine q_s ?_;(first|apply q_J|apply q_K|apply q_L|apply q_M|apply q_N|apply q_O)<;>try (intro _;try exact q_v)))
  all_goals first | omega | contradiction | exact h | exact txF_ts os _ | exact gaF_pos _ _ | exact keep_of [1] ⟨rfl,trivial⟩ | exact keep_of [2] ⟨rfl,trivial⟩ | exact q_A rfl | exact q_B [.inl (some (.sl 7 [])),.inr []] rfl rfl | skip
 ·rw [if_pos h0]
  (refine q_H Try.func32 (fun F=>?_); simp only [q_z,q_y,Try.ntmps32,Try.results32])
  repeat' (first|with_reducible refine q_0 ?_|((with_reducible first|refine q_q ub13_ok fun K hK=>?_|refine q_r ub13_ok fun K hK=>?_);simp (maxSteps:=2000000) only [go_sem,↓reduceIte,reduceCtorEq,Nat.reduceLeDiff,Nat.reduceLT,Nat.reduceBEq,Nat.reduceAdd,hd,hR,List.length_map];(repeat1' with_reducible first|apply And.intro|(intro _;try exact q_v)|(refine hK _ ?_;clear hK K))<;>(try (clear hK K;exact q_u)))|(with_reducible refine q_s ?_;(first|apply q_J|apply q_K|apply q_L|apply q_M|apply q_N|apply q_O)<;>try (intro _;try exact q_v)))
  all_goals first | omega | contradiction | exact h | exact txF_ts os _ | exact gaF_pos _ _ | exact keep_of [1] ⟨rfl,trivial⟩ | exact keep_of [2] ⟨rfl,trivial⟩ | exact q_A rfl | exact q_B [.inl (some (.sl 7 [])),.inr []] rfl rfl | skip
set_option maxRecDepth 100000 in
set_option maxHeartbeats 8000000 in
theorem either_ret_s (os : List Ob) (a b : Int) (h : HK os) (ha : 0 ≤ a ∧ a < os.length) (hb : 0 ≤ b ∧ b < os.length) : Ret Try.prog 33 false [.inr [.sl 10 (os.map obC)],.inl (.i .i64 a),.inl (.i .i64 b)] (lsR (eiF os a b)):=by
 have hd:=dO_map h.p
 obtain ⟨kx,ky,hz⟩:=boF_ok h ha hb
 have ho:=h.h
 unfold eiF
 generalize hR : boF os a b = R at *
 obtain ⟨x,y,c,i⟩:=R
 obtain ⟨hx1,hx2⟩:=kx
 obtain ⟨hy1,hy2⟩:=ky
 simp only at hx1 hx2 hy1 hy2 hz ⊢
 have hpy:=pk_ch ho hx2 false hy2
 have hpx:=pk_ch ho hy2 false hx2
 have hcy:=List.length_filter_le (fun k=>inS os k x == false) y
 have hcx:=List.length_filter_le (fun k=>inS os k y == false) x
 have hly : (chF os y x false).length ≤ 1000000:=by unfold chF; omega
 have hlx : (chF os x y false).length ≤ 1000000:=by unfold chF; omega
 have dx:=dV_map x
 have dy:=dV_map y
 have dc:=dV_map (chF os x y false)
 have tx:=txF_de os x
 have ty:=txF_de os y
 have lx:=txF_len os x
 have ly:=txF_len os y
 by_cases h0 : c = 0
 ·subst h0
  obtain rfl:=hz rfl
  rw [if_neg (by simp)]
  unfold liF
  by_cases hl : 1000 < (chF os x y false ++ chF os y x false).length
  ·rw [if_pos hl]
   have hl2 : 1000 < (chF os x y false).length + (chF os y x false).length:=by rw [← List.length_append]; exact hl
   (refine q_H Try.func33 (fun F=>?_); simp only [q_z,q_y,Try.ntmps33,Try.results33])
   repeat' (first|with_reducible refine q_0 ?_|((with_reducible first|refine q_q ub13_ok fun K hK=>?_|refine q_r ub13_ok fun K hK=>?_);simp (maxSteps:=2000000) only [go_sem,↓reduceIte,reduceCtorEq,Nat.reduceLeDiff,Nat.reduceLT,Nat.reduceBEq,Nat.reduceAdd,hd,hR,dx,dy,dc,tx,ty,hpx,hpy,List.length_map,lx,ly];(repeat1' with_reducible first|apply And.intro|(intro _;try exact q_v)|(refine hK _ ?_;clear hK K))<;>(try (clear hK K;exact q_u)))|(with_reducible refine q_s ?_;(first|apply q_J|apply q_K|apply q_L|apply q_M|apply q_N|apply q_O)<;>try (intro _;try exact q_v)))
   all_goals first | omega | contradiction | exact h | exact txF_ts os _ | exact gaF_pos _ _ | exact keep_of [1] ⟨rfl,trivial⟩ | exact keep_of [2] ⟨rfl,trivial⟩ | exact q_A rfl | exact q_B [.inl (some (.sl 7 [])),.inr []] rfl rfl | skip
  ·rw [if_neg hl]
   have hl2 : (chF os x y false).length + (chF os y x false).length ≤ 1000:=by rw [← List.length_append]; omega
   (refine q_H Try.func33 (fun F=>?_); simp only [q_z,q_y,Try.ntmps33,Try.results33])
   repeat' (first|with_reducible refine q_0 ?_|((with_reducible first|refine q_q ub13_ok fun K hK=>?_|refine q_r ub13_ok fun K hK=>?_);simp (maxSteps:=2000000) only [go_sem,↓reduceIte,reduceCtorEq,Nat.reduceLeDiff,Nat.reduceLT,Nat.reduceBEq,Nat.reduceAdd,hd,hR,dx,dy,dc,tx,ty,hpx,hpy,List.length_map,lx,ly];(repeat1' with_reducible first|apply And.intro|(intro _;try exact q_v)|(refine hK _ ?_;clear hK K))<;>(try (clear hK K;exact q_u)))|(with_reducible refine q_s ?_;(first|apply q_J|apply q_K|apply q_L|apply q_M|apply q_N|apply q_O)<;>try (intro _;try exact q_v)))
   all_goals first | omega | contradiction | exact h | exact txF_ts os _ | exact gaF_pos _ _ | exact keep_of [1] ⟨rfl,trivial⟩ | exact keep_of [2] ⟨rfl,trivial⟩ | exact q_A rfl | exact q_B [.inl (some (.sl 7 [])),.inr []] rfl rfl | skip
 ·rw [if_pos h0]
  (refine q_H Try.func33 (fun F=>?_); simp only [q_z,q_y,Try.ntmps33,Try.results33])
  repeat' (first|with_reducible refine q_0 ?_|((with_reducible first|refine q_q ub13_ok fun K hK=>?_|refine q_r ub13_ok fun K hK=>?_);simp (maxSteps:=2000000) only [go_sem,↓reduceIte,reduceCtorEq,Nat.reduceLeDiff,Nat.reduceLT,Nat.reduceBEq,Nat.reduceAdd,hd,hR,List.length_map];(repeat1' with_reducible first|apply And.intro|(intro _;try exact q_v)|(refine hK _ ?_;clear hK K))<;>(try (clear hK K;exact q_u)))|(with_reducible refine q_s ?_;(first|apply q_J|apply q_K|apply q_L|apply q_M|apply q_N|apply q_O)<;>try (intro _;try exact q_v)))
  all_goals first | omega | contradiction | exact h | exact txF_ts os _ | exact gaF_pos _ _ | exact keep_of [1] ⟨rfl,trivial⟩ | exact keep_of [2] ⟨rfl,trivial⟩ | exact q_A rfl | exact q_B [.inl (some (.sl 7 [])),.inr []] rfl rfl | skip
end Go.Proofs.Ytncededjmcmidaa

namespace Go.Proofs.Ytncededjmcmidaa
set_option linter.unusedSimpArgs false
set_option linter.unusedVariables false
open Go.Abs Go.Proofs.NatL

def rgF (F : List Ob → Int → Int → List Vl × Int × Int) : CT:=mkCT [.inr [none],.inl none,.inl none] false fun l K=>match l with
 | [.inr [.sl 10 rows],.inl (.i .i64 a),.inl (.i .i64 b)]=>(rows = (dO rows).map obC ∧ HK (dO rows) ∧ (0 ≤ a ∧ a < (dO rows).length) ∧ 0 ≤ b ∧ b < (dO rows).length) ∧ K (lsR (F (dO rows) a b))
 | _=>False
def u6a : Cfg:=addT 30 (rgF unF) cf0
theorem u6a_ok : TblOk Try.prog u6a:=q_I cf0_ok Try.func30 fun l K h=>by
 split at h
 ·rename_i rows a b
  obtain ⟨⟨h1,h2,h3,h4⟩,hK⟩:=h
  have:=unite_ret (dO rows) a b h2 h3 h4
  rw [← h1] at this
  exact ⟨_,this,hK⟩
 ·exact h.elim
def u6b : Cfg:=addT 31 (rgF meF) cf0
theorem u6b_ok : TblOk Try.prog u6b:=q_I cf0_ok Try.func31 fun l K h=>by
 split at h
 ·rename_i rows a b
  obtain ⟨⟨h1,h2,h3,h4⟩,hK⟩:=h
  have:=meet_ret_s (dO rows) a b h2 h3 h4
  rw [← h1] at this
  exact ⟨_,this,hK⟩
 ·exact h.elim
def u6c : Cfg:=addT 32 (rgF miF) cf0
theorem u6c_ok : TblOk Try.prog u6c:=q_I cf0_ok Try.func32 fun l K h=>by
 split at h
 ·rename_i rows a b
  obtain ⟨⟨h1,h2,h3,h4⟩,hK⟩:=h
  have:=minus_ret_s (dO rows) a b h2 h3 h4
  rw [← h1] at this
  exact ⟨_,this,hK⟩
 ·exact h.elim
def u6d : Cfg:=addT 33 (rgF eiF) cf0
theorem u6d_ok : TblOk Try.prog u6d:=q_I cf0_ok Try.func33 fun l K h=>by
 split at h
 ·rename_i rows a b
  obtain ⟨⟨h1,h2,h3,h4⟩,hK⟩:=h
  have:=either_ret_s (dO rows) a b h2 h3 h4
  rw [← h1] at this
  exact ⟨_,this,hK⟩
 ·exact h.elim
attribute [go_sem] rgF lsR
abbrev maH2 (f : ByteArray → Option C) (n : Nat) : Hp:=⟨[(0,[.mp 1]),(1,[.mc (.s f n)])],[],[]⟩
def ub14 : Cfg:=listT [(52,hasSCT)] [39]
theorem ub14_ok : TblOk Try.prog ub14:=listE_ok (by simp only [List.mem_singleton,forall_eq]; exact flt) ⟨⟨u4b,u4b_ok,rfl⟩,trivial⟩
attribute [go_sem] ub14
theorem win1_ret (f : ByteArray → Option C) (n : Nat) (s : ByteArray) (h : PoM f s) : RetG Try.prog 64 (maH2 f n) [.c (.str s),.bx 0 0] (maH2 f n) [.c (.b (!(f s).isSome))]:=by
 (refine ret_ge Try.func64 (fun F bs=>?_); simp only [avSl,ancs,hnx,Nat.reduceAdd,Nat.reduceLeDiff,if_true,if_false,List.length_cons,List.length_nil,List.cons_append,List.nil_append,Try.ntmps64,Try.results64])
 repeat' (first|with_reducible refine q_0 ?_|((with_reducible first|refine q_q ub14_ok fun K hK=>?_|refine q_r ub14_ok fun K hK=>?_);simp (maxSteps:=2000000) only [go_sem,↓reduceIte,reduceCtorEq,Nat.reduceLeDiff,Nat.reduceLT,Nat.reduceBEq,Nat.reduceAdd];(repeat1' with_reducible first|apply And.intro|(intro _;try exact q_v)|(refine hK _ ?_;clear hK K))<;>(try (clear hK K;exact q_u)))|(with_reducible refine q_s ?_;(first|apply q_J|apply q_K|apply q_L|apply q_M|apply q_N|apply q_O)<;>try (intro _;try exact q_v)))
 all_goals first | omega | contradiction | exact h | exact ends_g [(3,.c (.b (!(f s).isSome)))] 2 (by exact q_D) rfl | skip
def win1CT : CT:=mkCTG fun H al K=>match H,al with
 | ⟨[(0,[.mp 1]),(1,[.mc (.s f n)])],[],[]⟩,[.c (.str s),.bx 0 0]=>PoM f s ∧ K (maH2 f n) [.c (.b (!(f s).isSome))]
 | _,_=>False
def u6e : Cfg:=addT 64 win1CT cf0
theorem u6e_ok : TblOk Try.prog u6e:=ctg_ok cf0_ok Try.func64 fun H al K h=>by
 split at h
 ·exact ⟨_,_,win1_ret _ _ _ h.1,h.2⟩
 ·exact h.elim
attribute [go_sem] win1CT maH2
def nxI (f : ByteArray → Option C) : List ByteArray → Nat → Int
 | [],_ => -1
 | t :: ts,i=>if (f t).isSome = true then nxI f ts (i + 1) else i
theorem nxI_all (f : ByteArray → Option C) : ∀ (ts : List ByteArray) (i : Nat),decide (0 ≤ nxI f ts i) = !(ts.all fun t=>(f t).isSome)
 | [],i=>by simp [nxI]
 | t :: ts,i=>by
  rw [nxI,List.all_cons]
  by_cases h : (f t).isSome = true
  ·rw [if_pos h,nxI_all f ts (i + 1),h]; rfl
  ·rw [if_neg h]; simp only [Bool.not_eq_true] at h; rw [h]; simp
theorem nxI_drop (f : ByteArray → Option C) {ts : List ByteArray} {i : Nat} (h : i < ts.length) : nxI f (ts.drop i) i = if (f ts[i]).isSome = true then nxI f (ts.drop (i + 1)) (i + 1) else i:=by
 rw [List.drop_eq_getElem_cons h,nxI]
def ub15 : Cfg:=listT [(64,win1CT)] [39]
theorem ub15_ok : TblOk Try.prog ub15:=listE_ok (by simp only [List.mem_singleton,forall_eq]; exact flt) ⟨⟨u6e,u6e_ok,rfl⟩,trivial⟩
attribute [go_sem] ub15
set_option maxRecDepth 100000 in
set_option maxHeartbeats 4000000 in
theorem indexF_ret (f : ByteArray → Option C) (n : Nat) (ts : List ByteArray) (hl : ts.length ≤ 1000000) (h : ∀ t ∈ ts,PoM f t) : RetG Try.prog 84 (maH2 f n) [.c (.sl 1 (tsC ts)),.fn 64 [.bx 0 0]] (maH2 f n) [.c (.i .i64 (nxI f ts 0))]:=by
 have hln:=tsC_len ts
 generalize hN : nxI f ts 0 = N
 (refine ret_ge Try.func84 (fun F bs=>?_); simp only [avSl,ancs,hnx,Nat.reduceAdd,Nat.reduceLeDiff,if_true,if_false,List.length_cons,List.length_nil,List.cons_append,List.nil_append,Try.ntmps84,Try.results84])
 repeat' (first|with_reducible refine q_0 ?_|((with_reducible first|refine q_q ub15_ok fun K hK=>?_|refine q_r ub15_ok fun K hK=>?_);simp (maxSteps:=2000000) only [go_sem,↓reduceIte,reduceCtorEq,Nat.reduceLeDiff,Nat.reduceLT,Nat.reduceBEq,Nat.reduceAdd,hln];(repeat1' with_reducible first|apply And.intro|(intro _;try exact q_v)|(refine hK _ ?_;clear hK K))<;>(try (clear hK K;exact q_u)))|(with_reducible refine q_s ?_;(first|apply q_J|apply q_K|apply q_L|apply q_M|apply q_N|apply q_O)<;>try (intro _;try exact q_v)))
 all_goals first | omega | skip
 refine q_G (ι:={ i : Nat // i ≤ ts.length ∧ nxI f (ts.drop i) i = N }) (fun p=>⟨19,[(0,.c (.sl 1 (tsC ts))),(1,.fn 64 [.bx 0 0]),(7,.c (.i .i64 ts.length)),(8,.c (.i .i64 p.1)),(1000,.anc 0 (bs 0)),(1001,.anc 1 (bs 1))],maH2 f n,2⟩) (fun p=>ts.length - p.1) ⟨0,Nat.zero_le _,hN⟩ ?_ ?_
 ·exact q_D
 rintro ⟨i,hi,g⟩
 simp only at hi g ⊢
 by_cases hc : i < ts.length
 ·have hat:=tsC_at ts hc
  have hm:=h _ (List.getElem_mem hc)
  rw [nxI_drop f hc] at g
  generalize ts[i] = t at *
  cases hr : (f t).isSome with
  | true =>
   rw [if_pos hr] at g
   repeat' (first|with_reducible refine q_0 ?_|((with_reducible first|refine q_q ub15_ok fun K hK=>?_|refine q_r ub15_ok fun K hK=>?_);simp (maxSteps:=2000000) only [go_sem,↓reduceIte,reduceCtorEq,Nat.reduceLeDiff,Nat.reduceLT,Nat.reduceBEq,Nat.reduceAdd,hln,hat,hr];(repeat1' with_reducible first|apply And.intro|(intro _;try exact q_v)|(refine hK _ ?_;clear hK K))<;>(try (clear hK K;exact q_u)))|(with_reducible refine q_s ?_;(first|apply q_J|apply q_K|apply q_L|apply q_M|apply q_N|apply q_O)<;>try (intro _;try exact q_v)))
   all_goals first | omega | contradiction | exact hm | skip
   refine q_F ⟨i + 1,hc,g⟩ ?_ (by simp only; omega)
   exact q_D
  | false =>
   rw [if_neg (by rw [hr]; simp)] at g
   obtain rfl : N = (i : Int):=g.symm
   repeat' (first|with_reducible refine q_0 ?_|((with_reducible first|refine q_q ub15_ok fun K hK=>?_|refine q_r ub15_ok fun K hK=>?_);simp (maxSteps:=2000000) only [go_sem,↓reduceIte,reduceCtorEq,Nat.reduceLeDiff,Nat.reduceLT,Nat.reduceBEq,Nat.reduceAdd,hln,hat,hr];(repeat1' with_reducible first|apply And.intro|(intro _;try exact q_v)|(refine hK _ ?_;clear hK K))<;>(try (clear hK K;exact q_u)))|(with_reducible refine q_s ?_;(first|apply q_J|apply q_K|apply q_L|apply q_M|apply q_N|apply q_O)<;>try (intro _;try exact q_v)))
   all_goals first | omega | contradiction | exact hm | exact ends_g [(4,.c (.i .i64 i))] 2 (by exact q_D) rfl | skip
 ·obtain rfl : i = ts.length:=by omega
  rw [List.drop_length] at g
  obtain rfl : N = -1:=g.symm
  repeat' (first|with_reducible refine q_0 ?_|((with_reducible first|refine q_q ub15_ok fun K hK=>?_|refine q_r ub15_ok fun K hK=>?_);simp (maxSteps:=2000000) only [go_sem,↓reduceIte,reduceCtorEq,Nat.reduceLeDiff,Nat.reduceLT,Nat.reduceBEq,Nat.reduceAdd,hln];(repeat1' with_reducible first|apply And.intro|(intro _;try exact q_v)|(refine hK _ ?_;clear hK K))<;>(try (clear hK K;exact q_u)))|(with_reducible refine q_s ?_;(first|apply q_J|apply q_K|apply q_L|apply q_M|apply q_N|apply q_O)<;>try (intro _;try exact q_v)))
  all_goals first | omega | contradiction | exact ends_g [(4,.c (.i .i64 (-1)))] 2 (by exact q_D) rfl | skip
def indexFCT : CT:=mkCTG fun H al K=>match H,al with
 | ⟨[(0,[.mp 1]),(1,[.mc (.s f n)])],[],[]⟩,[.c (.sl 1 tr),.fn g [.bx 0 0]]=>(g = 64 ∧ tr = tsC (tr.map deT) ∧ (tr.map deT).length ≤ 1000000 ∧ ∀ t ∈ tr.map deT,PoM f t) ∧ K (maH2 f n) [.c (.i .i64 (nxI f (tr.map deT) 0))]
 | _,_=>False
def u6f : Cfg:=addT 84 indexFCT cf0
theorem u6f_ok : TblOk Try.prog u6f:=ctg_ok cf0_ok Try.func84 fun H al K h=>by
 split at h
 ·rename_i f n tr g
  obtain ⟨⟨rfl,h1,h2,h3⟩,hK⟩:=h
  have:=indexF_ret f n (tr.map deT) h2 h3
  rw [← h1] at this
  exact ⟨_,_,this,hK⟩
 ·exact h.elim
attribute [go_sem] indexFCT
def ub16 : Cfg:=listT [(84,indexFCT)] [39]
theorem ub16_ok : TblOk Try.prog ub16:=listE_ok (by simp only [List.mem_singleton,forall_eq]; exact flt) ⟨⟨u6f,u6f_ok,rfl⟩,trivial⟩
attribute [go_sem] ub16
theorem containsF_ret (f : ByteArray → Option C) (n : Nat) (ts : List ByteArray) (hl : ts.length ≤ 1000000) (h : ∀ t ∈ ts,PoM f t) : RetG Try.prog 63 (maH2 f n) [.c (.sl 1 (tsC ts)),.fn 64 [.bx 0 0]] (maH2 f n) [.c (.b (!(ts.all fun t=>(f t).isSome)))]:=by
 have hd:=deT_map ts
 rw [← nxI_all f ts 0]
 (refine ret_ge Try.func63 (fun F bs=>?_); simp only [avSl,ancs,hnx,Nat.reduceAdd,Nat.reduceLeDiff,if_true,if_false,List.length_cons,List.length_nil,List.cons_append,List.nil_append,Try.ntmps63,Try.results63])
 repeat' (first|with_reducible refine q_0 ?_|((with_reducible first|refine q_q ub16_ok fun K hK=>?_|refine q_r ub16_ok fun K hK=>?_);simp (maxSteps:=2000000) only [go_sem,↓reduceIte,reduceCtorEq,Nat.reduceLeDiff,Nat.reduceLT,Nat.reduceBEq,Nat.reduceAdd,hd];(repeat1' with_reducible first|apply And.intro|(intro _;try exact q_v)|(refine hK _ ?_;clear hK K))<;>(try (clear hK K;exact q_u)))|(with_reducible refine q_s ?_;(first|apply q_J|apply q_K|apply q_L|apply q_M|apply q_N|apply q_O)<;>try (intro _;try exact q_v)))
 all_goals first | omega | contradiction | exact h _ (by assumption) | exact ends_g [(4,.c (.b (decide (0 ≤ nxI f ts 0))))] 2 (by exact q_D) rfl | skip
def containsFCT : CT:=mkCTG fun H al K=>match H,al with
 | ⟨[(0,[.mp 1]),(1,[.mc (.s f n)])],[],[]⟩,[.c (.sl 1 tr),.fn g [.bx 0 0]]=>(g = 64 ∧ tr = tsC (tr.map deT) ∧ (tr.map deT).length ≤ 1000000 ∧ ∀ t ∈ tr.map deT,PoM f t) ∧ K (maH2 f n) [.c (.b (!((tr.map deT).all fun t=>(f t).isSome)))]
 | _,_=>False
def u6g : Cfg:=addT 63 containsFCT cf0
theorem u6g_ok : TblOk Try.prog u6g:=ctg_ok cf0_ok Try.func63 fun H al K h=>by
 split at h
 ·rename_i f n tr g
  obtain ⟨⟨rfl,h1,h2,h3⟩,hK⟩:=h
  have:=containsF_ret f n (tr.map deT) h2 h3
  rw [← h1] at this
  exact ⟨_,_,this,hK⟩
 ·exact h.elim
attribute [go_sem] containsFCT
def wiF (os : List Ob) (a b : Int) : Bool × Int × Int:=if (boF os a b).2.2.1 ≠ 0 then (false,(boF os a b).2.2.1,(boF os a b).2.2.2) else ((boF os a b).1.all fun k=>inS os k (boF os a b).2.1,0,0)
def saF (os : List Ob) (a b : Int) : Bool × Int × Int:=if (boF os a b).2.2.1 ≠ 0 then (false,(boF os a b).2.2.1,(boF os a b).2.2.2) else (((boF os a b).1.all fun k=>inS os k (boF os a b).2.1) && decide ((boF os a b).1.length = (boF os a b).2.1.length),0,0)
abbrev blR (R : Bool × Int × Int) : AV:=.t [.inl (.b R.1),.inr [.i .i64 R.2.1,.i .i64 R.2.2]]
theorem all_in {os : List Ob} (ho : HOk os) {x : List Vl} (hx : ∀ v ∈ x,OkW os.length v) : ∀ {y : List Vl},(∀ v ∈ y,OkW os.length v) → ((y.map (cdS os)).all fun t=>(gaF (x.map (cdS os)) t).isSome) = y.all fun k=>inS os k x
 | [],_=>rfl
 | k :: y,hy=>by
  rw [List.map_cons,List.all_cons,List.all_cons,all_in ho hx fun v hv=>hy v (List.mem_cons_of_mem _ hv),ga_in ho hx (hy k (List.mem_cons_self ..))]
def ub17 : Cfg:=listT [(60,bothCT),(51,gatherCT),(63,containsFCT)] [39]
theorem ub17_ok : TblOk Try.prog ub17:=listE_ok (by simp only [List.mem_singleton,forall_eq]; exact flt) ⟨⟨u3c,u3c_ok,rfl⟩,⟨u4a,u4a_ok,rfl⟩,⟨u6g,u6g_ok,rfl⟩,trivial⟩
attribute [go_sem] ub17
set_option maxRecDepth 100000 in
set_option maxHeartbeats 8000000 in
theorem within_ret (os : List Ob) (a b : Int) (h : HK os) (ha : 0 ≤ a ∧ a < os.length) (hb : 0 ≤ b ∧ b < os.length) : Ret Try.prog 34 false [.inr [.sl 10 (os.map obC)],.inl (.i .i64 a),.inl (.i .i64 b)] (blR (wiF os a b)):=by
 have hd:=dO_map h.p
 obtain ⟨kx,ky,hz⟩:=boF_ok h ha hb
 have ho:=h.h
 unfold wiF
 generalize hR : boF os a b = R at *
 obtain ⟨x,y,c,i⟩:=R
 obtain ⟨hx1,hx2⟩:=kx
 obtain ⟨hy1,hy2⟩:=ky
 simp only at hx1 hx2 hy1 hy2 hz ⊢
 have hall:=all_in ho hy2 hx2
 have tx:=txF_de os x
 have ty:=txF_de os y
 have lx:=txF_len os x
 have ly:=txF_len os y
 by_cases h0 : c = 0
 ·subst h0
  obtain rfl:=hz rfl
  rw [if_neg (by simp)]
  (refine q_H Try.func34 (fun F=>?_); simp only [q_z,q_y,Try.ntmps34,Try.results34])
  repeat' (first|with_reducible refine q_0 ?_|((with_reducible first|refine q_q ub17_ok fun K hK=>?_|refine q_r ub17_ok fun K hK=>?_);simp (maxSteps:=2000000) only [go_sem,↓reduceIte,reduceCtorEq,Nat.reduceLeDiff,Nat.reduceLT,Nat.reduceBEq,Nat.reduceAdd,hd,hR,tx,ty,lx,ly,hall,List.length_map,Bool.not_not];(repeat1' with_reducible first|apply And.intro|(intro _;try exact q_v)|(refine hK _ ?_;clear hK K))<;>(try (clear hK K;exact q_u)))|(with_reducible refine q_s ?_;(first|apply q_J|apply q_K|apply q_L|apply q_M|apply q_N|apply q_O)<;>try (intro _;try exact q_v)))
  all_goals first | omega | contradiction | exact h | exact txF_ts os _ | exact gaF_pos _ _ | exact q_A rfl | skip
 ·rw [if_pos h0]
  (refine q_H Try.func34 (fun F=>?_); simp only [q_z,q_y,Try.ntmps34,Try.results34])
  repeat' (first|with_reducible refine q_0 ?_|((with_reducible first|refine q_q ub17_ok fun K hK=>?_|refine q_r ub17_ok fun K hK=>?_);simp (maxSteps:=2000000) only [go_sem,↓reduceIte,reduceCtorEq,Nat.reduceLeDiff,Nat.reduceLT,Nat.reduceBEq,Nat.reduceAdd,hd,hR,List.length_map];(repeat1' with_reducible first|apply And.intro|(intro _;try exact q_v)|(refine hK _ ?_;clear hK K))<;>(try (clear hK K;exact q_u)))|(with_reducible refine q_s ?_;(first|apply q_J|apply q_K|apply q_L|apply q_M|apply q_N|apply q_O)<;>try (intro _;try exact q_v)))
  all_goals first | omega | contradiction | exact h | exact q_A rfl | skip
def rgB (F : List Ob → Int → Int → Bool × Int × Int) : CT:=mkCT [.inr [none],.inl none,.inl none] true fun l K=>match l with
 | [.inr [.sl 10 rows],.inl (.i .i64 a),.inl (.i .i64 b)]=>(rows = (dO rows).map obC ∧ HK (dO rows) ∧ (0 ≤ a ∧ a < (dO rows).length) ∧ 0 ≤ b ∧ b < (dO rows).length) ∧ K (blR (F (dO rows) a b))
 | _=>False
def u6h : Cfg:=addT 34 (rgB wiF) cf0
theorem u6h_ok : TblOk Try.prog u6h:=q_I cf0_ok Try.func34 fun l K h=>by
 split at h
 ·rename_i rows a b
  obtain ⟨⟨h1,h2,h3,h4⟩,hK⟩:=h
  have:=within_ret (dO rows) a b h2 h3 h4
  rw [← h1] at this
  exact ⟨_,this.plain rfl,hK⟩
 ·exact h.elim
attribute [go_sem] rgB blR
def ub18 : Cfg:=listT [(60,bothCT),(34,(rgB wiF))] [39]
theorem ub18_ok : TblOk Try.prog ub18:=listE_ok (by simp only [List.mem_singleton,forall_eq]; exact flt) ⟨⟨u3c,u3c_ok,rfl⟩,⟨u6h,u6h_ok,rfl⟩,trivial⟩
attribute [go_sem] ub18
set_option maxRecDepth 100000 in
set_option maxHeartbeats 8000000 in
theorem same_ret_s (os : List Ob) (a b : Int) (h : HK os) (ha : 0 ≤ a ∧ a < os.length) (hb : 0 ≤ b ∧ b < os.length) : Ret Try.prog 35 false [.inr [.sl 10 (os.map obC)],.inl (.i .i64 a),.inl (.i .i64 b)] (blR (saF os a b)):=by
 have hd:=dO_map h.p
 obtain ⟨kx,ky,hz⟩:=boF_ok h ha hb
 have hw : wiF os a b = wiF os a b:=rfl
 conv at hw=>rhs; unfold wiF
 unfold saF
 generalize hW : wiF os a b = W at *
 generalize hR : boF os a b = R at *
 obtain ⟨x,y,c,i⟩:=R
 obtain ⟨hx1,hx2⟩:=kx
 obtain ⟨hy1,hy2⟩:=ky
 simp only at hx1 hx2 hy1 hy2 hz hw ⊢
 generalize (x.all fun k=>inS os k y) = q at *
 have lx:=txF_len os x
 have ly:=txF_len os y
 by_cases h0 : c = 0
 ·subst h0
  obtain rfl:=hz rfl
  rw [if_neg (by simp)] at hw ⊢
  subst hw
  cases q
  all_goals
   (refine q_H Try.func35 (fun F=>?_); simp only [q_z,q_y,Try.ntmps35,Try.results35])
   repeat' (first|with_reducible refine q_0 ?_|((with_reducible first|refine q_q ub18_ok fun K hK=>?_|refine q_r ub18_ok fun K hK=>?_);simp (maxSteps:=2000000) only [go_sem,↓reduceIte,reduceCtorEq,Nat.reduceLeDiff,Nat.reduceLT,Nat.reduceBEq,Nat.reduceAdd,hd,hR,hW,lx,ly,List.length_map];(repeat1' with_reducible first|apply And.intro|(intro _;try exact q_v)|(refine hK _ ?_;clear hK K))<;>(try (clear hK K;exact q_u)))|(with_reducible refine q_s ?_;(first|apply q_J|apply q_K|apply q_L|apply q_M|apply q_N|apply q_O)<;>try (intro _;try exact q_v)))
   all_goals first | omega | contradiction | exact h | (refine q_A ?_; simp [resAV,q_y,Int.natCast_inj]; done) | skip
 ·rw [if_pos h0] at hw ⊢
  subst hw
  (refine q_H Try.func35 (fun F=>?_); simp only [q_z,q_y,Try.ntmps35,Try.results35])
  repeat' (first|with_reducible refine q_0 ?_|((with_reducible first|refine q_q ub18_ok fun K hK=>?_|refine q_r ub18_ok fun K hK=>?_);simp (maxSteps:=2000000) only [go_sem,↓reduceIte,reduceCtorEq,Nat.reduceLeDiff,Nat.reduceLT,Nat.reduceBEq,Nat.reduceAdd,hd,hR,hW,List.length_map];(repeat1' with_reducible first|apply And.intro|(intro _;try exact q_v)|(refine hK _ ?_;clear hK K))<;>(try (clear hK K;exact q_u)))|(with_reducible refine q_s ?_;(first|apply q_J|apply q_K|apply q_L|apply q_M|apply q_N|apply q_O)<;>try (intro _;try exact q_v)))
  all_goals first | omega | contradiction | exact h | exact q_A rfl | skip
def u6i : Cfg:=addT 35 (rgB saF) cf0
theorem u6i_ok : TblOk Try.prog u6i:=q_I cf0_ok Try.func35 fun l K h=>by
 split at h
 ·rename_i rows a b
  obtain ⟨⟨h1,h2,h3,h4⟩,hK⟩:=h
  have:=same_ret_s (dO rows) a b h2 h3 h4
  rw [← h1] at this
  exact ⟨_,this.plain rfl,hK⟩
 ·exact h.elim
end Go.Proofs.Ytncededjmcmidaa

namespace Go.Abs
set_option linter.unusedSimpArgs false
set_option linter.unusedVariables false
open Go.RowKit
variable {P : Program}

def noLnT : TE → Bool
 | .ln _=>false
 | _=>true
def noLn : AV → Bool
 | .ln _=>false
 | .fn _ caps=>caps.all noLnT
 | .tt l=>l.all noLnT
 | .gt l=>l.all noLnT
 | _=>true
structure Frames (F F2 : Fr) (H H2 : Hp) (m m2 : Mp) (w w2 : World) (ln : Bool) : Prop where
 st : Stays (F.S m) (F2.S m2) w w2
 bx : ∀ i b,m.bx i = some b → m2.bx i = some b
 bf : m2.bf = m.bf
 buf : H2.buf = H.buf
 bor : H2.bor = H.bor
 br : F2.br = F.br
 ln : ln = true → ∀ x v,F.Lent x v → F2.Lent x v
section
variable {F F2 : Fr} {H H2 : Hp} {m m2 : Mp} {w w2 : World} {ln : Bool}
theorem Frames.repT (k : Frames F F2 H H2 m m2 w w2 ln) {x : TE} {v : Value} (hx : ln = true ∨ noLnT x = true) (h : RepT F H m w x v) : RepT F2 H2 m2 w2 x v:=by
 cases x with
 | s x=>exact RdS.mono k.st h
 | own id ver=>simp only [RepT,k.bf,k.buf] at h ⊢; exact h
 | bx id off=>obtain ⟨b,h1,h2⟩:=h; exact ⟨b,k.bx id b h1,h2⟩
 | mp id=>obtain ⟨b,h1,h2⟩:=h; exact ⟨b,k.bx id b h1,h2⟩
 | ln x =>
  rcases hx with hx | hx
  ·exact k.ln hx _ _ h
  ·cases hx
 | u=>trivial
theorem Frames.repW (k : Frames F F2 H H2 m m2 w w2 ln) {x : C ⊕ (Nat × Nat × Nat × Nat)} {v : Value} (h : RepW F H m w x v) : RepW F2 H2 m2 w2 x v:=by
 cases x with
 | inl x=>exact Rd.mono k.st h
 | inr x=>obtain ⟨id,ver,lo,len⟩:=x; simp only [RepW,k.bf,k.buf] at h ⊢; exact h
theorem Frames.rep (k : Frames F F2 H H2 m m2 w w2 ln) {x : AV} {v : Value} (hx : ln = true ∨ noLn x = true) (h : RepA F H m w x v) : RepA F2 H2 m2 w2 x v:=by
 have lst : ∀ (l : List TE),(ln = true ∨ l.all noLnT = true) → ∀ (vs : Array Value),(∀ (j : Nat) y u,l[j]? = some y → vs[j]? = some u → RepT F H m w y u) → ∀ (j : Nat) y u,l[j]? = some y → vs[j]? = some u → RepT F2 H2 m2 w2 y u:=by
  intro l hl vs h j y u hy hu
  exact k.repT (hl.imp id fun hl=>List.all_eq_true.1 hl y (List.mem_of_getElem? hy)) (h j y u hy hu)
 cases x with
 | c x=>exact Rd.mono k.st h
 | g x=>obtain ⟨vs,rfl,h⟩:=h; exact ⟨vs,rfl,h.mono k.st⟩
 | t x=>obtain ⟨vs,rfl,h1,h2⟩:=h; exact ⟨vs,rfl,h1,fun j y u hy hu=>RdS.mono k.st (h2 j y u hy hu)⟩
 | bx id off=>obtain ⟨b,h1,h2⟩:=h; exact ⟨b,k.bx id b h1,h2⟩
 | mp id=>obtain ⟨b,h1,h2⟩:=h; exact ⟨b,k.bx id b h1,h2⟩
 | own id ver=>simp only [RepA,k.bf,k.buf] at h ⊢; exact h
 | oel id ver i off=>simp only [RepA,k.bf,k.buf] at h ⊢; exact h
 | win id ver lo len=>simp only [RepA,k.bf,k.buf] at h ⊢; exact h
 | bw j lo len=>simp only [RepA,k.br,k.bor] at h ⊢; exact h
 | bel j i off=>simp only [RepA,k.br,k.bor] at h ⊢; exact h
 | el xs =>
  obtain ⟨b,off,h1,h2,h3⟩:=h
  have hS : ∀ {j : Nat} {y : C},xs[j]? = some y → F.S m b:=fun hy=>h2 fun e=>by rw [e] at hy; simp at hy
  refine ⟨b,off,h1,fun hne=>?_,fun j y hy=>?_⟩
  ·cases xs with
   | nil=>exact absurd rfl hne
   | cons y l =>
    obtain ⟨u,hu,_⟩:=h3 0 y rfl
    exact (k.st b (h2 hne) (block_lt hu)).1
  ·obtain ⟨u,hu,hr⟩:=h3 j y hy
   exact ⟨u,k.st.cell (hS hy) hu,hr.mono k.st⟩
 | anc id b=>exact k.bx id b h
 | ln x =>
  rcases hx with hx | hx
  ·exact k.ln hx _ _ h
  ·cases hx
 | vf c=>obtain ⟨p,n,h1,h2⟩:=h; exact ⟨p,n,h1,h2.mono k.st⟩
 | lk id ver v=>simp only [RepA,k.bf,k.buf] at h ⊢; exact h
 | mc con=>exact h
 | u=>trivial
 | fn g caps=>obtain ⟨vs,h1,h2,h3⟩:=h; exact ⟨vs,h1,h2,lst caps hx vs h3⟩
 | gt l=>obtain ⟨vs,h1,h2,h3⟩:=h; exact ⟨vs,h1,h2,lst l hx vs h3⟩
 | tt l=>obtain ⟨vs,h1,h2,h3⟩:=h; exact ⟨vs,h1,h2,lst l hx vs h3⟩
 | lw l =>
  obtain ⟨b,cap,h1,h2,h3,h4⟩:=h
  cases l with
  | nil=>exact absurd rfl h2.1
  | cons y l =>
   obtain ⟨u,hu,_⟩:=h4 0 y rfl
   refine ⟨b,cap,h1,h2,(k.st b h3 (block_lt hu)).1,fun j y hy=>?_⟩
   obtain ⟨u,hu,hr⟩:=h4 j y hy
   exact ⟨u,k.st.cell h3 hu,k.repW hr⟩
theorem Frames.box (k : Frames F F2 H H2 m m2 w w2 ln) {b : Nat} {cs : List AV} (hx : ln = true ∨ cs.all noLn = true) (hb : w2.heap[b]? = w.heap[b]?) (h : BoxIs F H m w b cs) : BoxIs F2 H2 m2 w2 b cs:=by
 cases hm : isM cs with
 | true =>
  obtain ⟨con,rfl⟩:=isM_some hm
  obtain ⟨es,ck,h1,h2⟩:=h
  exact ⟨es,ck,hb.trans h1,h2.mono k.st⟩
 | false =>
  obtain ⟨arr,e,h1,h2,h3⟩:=h.cells hm
  exact BoxIs.of (hb.trans h1) h2 fun j x u hx' hu=>⟨(h3 j x u hx' hu).1,k.rep (hx.imp id fun hl=>List.all_eq_true.1 hl x (List.mem_of_getElem? hx')) (h3 j x u hx' hu).2⟩
end

def swG (m : Mp) (k : Nat) : List Nat:=(List.range k).filterMap m.bx ++ (List.range k).filterMap fun i=>(m.bf i).bind Value.ownBlock
def brG (F : Fr) (H : Hp) : List Nat:=H.bor.filterMap fun p=>(F.br p.1).bind Value.ownBlock
def swF (F : Fr) (H : Hp) (m : Mp) (k : Nat) (w w1 : World) : Fr:=⟨w1,fun c=>F.S m c ∧ c < w.heap.size,swG m k ++ brG F H,swG m k,F.br⟩
theorem swG_own {m : Mp} {k : Nat} (hf : ∀ i,k ≤ i → m.bx i = none ∧ m.bf i = none) {c : Nat} : c ∈ swG m k ↔ Own m c:=by
 have hlt : ∀ i,(m.bx i ≠ none ∨ m.bf i ≠ none) → i < k:=fun i h=>by
  rcases Nat.lt_or_ge i k with h' | h'
  ·exact h'
  ·obtain ⟨e1,e2⟩:=hf i h'; rcases h with h | h <;> contradiction
 unfold swG Own
 rw [List.mem_append,List.mem_filterMap,List.mem_filterMap]
 constructor
 ·rintro (⟨i,_,h⟩ | ⟨i,_,h⟩)
  ·exact .inl ⟨i,h⟩
  ·obtain ⟨v,h1,h2⟩:=Option.bind_eq_some_iff.1 h
   exact .inr ⟨i,v,h1,h2⟩
 ·rintro (⟨i,h⟩ | ⟨i,v,h,h2⟩)
  ·exact .inl ⟨i,List.mem_range.2 (hlt i (.inl (by rw [h]; simp))),h⟩
  ·exact .inr ⟨i,List.mem_range.2 (hlt i (.inr (by rw [h]; simp))),by rw [h]; exact h2⟩
theorem look_in {α : Type} : ∀ {l : List (Nat × α)} {i : Nat} {x : α},look l i = some x → (i,x) ∈ l
 | (j,y) :: l,i,x,h=>by
  simp only [look] at h
  split at h
  ·rename_i he
   cases h
   have he : j = i:=by simpa using he
   subst he; exact List.mem_cons_self ..
  ·exact List.mem_cons_of_mem _ (look_in h)
theorem brG_mem {F : Fr} {H : Hp} {m : Mp} {w : World} (h : HRep F H m w) {c : Nat} : c ∈ brG F H ↔ ∃ i v,F.br i = some v ∧ v.ownBlock = some c:=by
 unfold brG
 rw [List.mem_filterMap]
 constructor
 ·rintro ⟨p,_,h1⟩
  obtain ⟨v,h2,h3⟩:=Option.bind_eq_some_iff.1 h1
  exact ⟨p.1,v,h2,h3⟩
 ·rintro ⟨i,v,h1,h2⟩
  obtain ⟨B,_,_,h3,_⟩:=h.bor i v h1
  exact ⟨(i,B),look_in h3,by simp [h1,h2]⟩
theorem not_own_old {F : Fr} {H : Hp} {m : Mp} {w : World} (h : HRep F H m w) {c : Nat} (h1 : c < F.w0.heap.size) (h2 : c ∉ F.B0) : ¬ Own m c:=fun ho=>by
 rcases h.fresh c ho with h3 | h3
 ·omega
 ·exact h2 (h.gB c h3).1
section
variable {F : Fr} {H : Hp} {m : Mp} {w : World} {k : Nat}
theorem sw_out (h : HRep F H m w) (hf : ∀ i,k ≤ i → m.bx i = none ∧ m.bf i = none) {c : Nat} (hS : F.S m c) : c ∉ swG m k ++ brG F H:=by
 rw [List.mem_append,swG_own hf,brG_mem h]
 rintro (ho | ⟨i,v,h1,h2⟩)
 ·rcases hS with ⟨_,h3,h4⟩ | ⟨_,h3⟩
  ·exact not_own_old h h3 h4 ho
  ·exact h3 ho
 ·obtain ⟨h3,h4,h5⟩:=h.brB i v c h1 h2
  rcases hS with ⟨_,_,h6⟩ | ⟨h6 | h6,_⟩
  ·exact h6 h3
  ·omega
  ·exact h5 h6
theorem sw_old (h : HRep F H m w) (hf : ∀ i,k ≤ i → m.bx i = none ∧ m.bf i = none) {c : Nat} (h1 : c < F.w0.heap.size) (h2 : c ∉ F.B0) : c ∉ swG m k ++ brG F H:=by
 rw [List.mem_append,swG_own hf,brG_mem h]
 rintro (ho | ⟨i,v,h3,h4⟩)
 ·exact not_own_old h h1 h2 ho
 ·exact h2 (h.brB i v c h3 h4).1
theorem alloc_size (w : World) (o : Obj) : (w.alloc o).heap.size = w.heap.size + 1:=Array.size_push ..
theorem sw_fwd (h : HRep F H m w) (hf : ∀ i,k ≤ i → m.bx i = none ∧ m.bf i = none) (o : Obj) :
  HRep (swF F H m k w (w.alloc o)) H m (w.alloc o) ∧ Frames F (swF F H m k w (w.alloc o)) H H m m w (w.alloc o) true:=by
 have hsz:=alloc_size w o
 have hold : ∀ c,c < w.heap.size → (w.alloc o).heap[c]? = w.heap[c]?:=fun c hc=>Below.heap_alloc w _ c hc
 have hst : Stays (F.S m) ((swF F H m k w (w.alloc o)).S m) w (w.alloc o):=fun c hS hc=>⟨.inl ⟨⟨hS,hc⟩,by show c < (w.alloc o).heap.size; omega,sw_out h hf hS⟩,hold c hc⟩
 have hF : Frames F (swF F H m k w (w.alloc o)) H H m m w (w.alloc o) true:=by
  refine ⟨hst,fun _ _ h=>h,rfl,rfl,rfl,rfl,fun _ x v ⟨T,h1,h2⟩=>⟨T,fun b hb=>⟨?_,?_⟩,h2.mono fun b hb _=>⟨hb,?_⟩⟩⟩
  ·have:=(h1 b hb).1
   have:=h.size
   show b < (w.alloc o).heap.size
   omega
  ·exact sw_old h hf (h1 b hb).1 (h1 b hb).2
  ·have:=h.size
   show (w.alloc o).heap[b]? = _
   rw [hold b (by have:=(h1 b hb).1; omega)]
   exact h.block b (h1 b hb).1 (h1 b hb).2
 refine ⟨⟨rfl,rfl,rfl,Nat.le_refl _,fun _ _ _=>rfl,fun b ho=>.inr ((swG_own hf).2 ho),fun b hb=>⟨List.mem_append_left _ hb,?_⟩,fun i v b h1 h2=>⟨List.mem_append_right _ ((brG_mem h).2 ⟨i,v,h1,h2⟩),?_,fun hb=>?_⟩,h.bri,h.ibb,h.ibf,h.iff,fun i b hb=>?_,fun i v hv=>?_,fun i v hv=>?_⟩,hF⟩
 ·have:=own_lt h ((swG_own hf).1 hb)
  show b < (w.alloc o).heap.size
  omega
 ·have:=(h.brB i v b h1 h2).2.1
  have:=h.size
  show b < (w.alloc o).heap.size
  omega
 ·obtain ⟨h3,h4,h5⟩:=h.brB i v b h1 h2
  rcases h.fresh b ((swG_own hf).1 hb) with h6 | h6
  ·omega
  ·exact h5 h6
 ·obtain ⟨cs,h1,h2⟩:=h.box i b hb
  exact ⟨cs,h1,hF.box (.inl rfl) (hold b h2.lt) h2⟩
 ·obtain ⟨B,rs,xs,h1,h2,h3,h4,h5,h6⟩:=h.buf i v hv
  exact ⟨B,rs,xs,h1,h2,h3,h4,h5.alloc _,fun i j y hy=>let ⟨u,hu,hr⟩:=h6 i j y hy; ⟨u,hu,hr.mono hst⟩⟩
 ·obtain ⟨B,rs,xs,h1,h2,h3,h4,h5,h6⟩:=h.bor i v hv
  exact ⟨B,rs,xs,h1,h2,h3,h4,h5.alloc _,fun i j y hy=>let ⟨u,hu,hr⟩:=h6 i j y hy; ⟨u,hu,hr.mono hst⟩⟩
theorem sw_back (h : HRep F H m w) (hf : ∀ i,k ≤ i → m.bx i = none ∧ m.bf i = none) {arr : Array Value} {e : TypeId} {H' : Hp} {m' : Mp} {w' : World} (h' : HRep (swF F H m k w (w.alloc (.cells arr e))) H' m' w')
  (hnl : ∀ id cs,look H'.box id = some cs → cs.all noLn = true) {id : Nat} (hid : m'.bx id = none) {cs : List AV} (hcs : arr.size = cs.length ∧ ∀ (j : Nat) x u,cs[j]? = some x → arr[j]? = some u → oneCell u = true ∧ ∃ c,x = .c c ∧ Rd w' (fun _=>False) c u) (hm : isM cs = false) :
  HRep F (H'.addBox id cs) (m'.addBx id w.heap.size) w' ∧ Frames (swF F H m k w (w.alloc (.cells arr e))) F H' (H'.addBox id cs) m' (m'.addBx id w.heap.size) w' w' false:=by
 have hsz:=alloc_size w (.cells arr e)
 have hold : ∀ c,c < w.heap.size → (w.alloc (.cells arr e)).heap[c]? = w.heap[c]?:=fun c hc=>Below.heap_alloc w _ c hc
 have hsz' : w.heap.size + 1 ≤ w'.heap.size:=by have:=h'.size; rw [← hsz]; exact this
 have hB0 : w.heap.size ∉ swG m k ++ brG F H:=by
  rw [List.mem_append,swG_own hf,brG_mem h]
  rintro (ho | ⟨i,v,h1,h2⟩)
  ·have:=own_lt h ho; omega
  ·have:=(h.brB i v _ h1 h2).2.1; have:=h.size; omega
 have hnew : w'.heap[w.heap.size]? = some (.cells arr e (0,0)):=by
  have:=h'.block w.heap.size (by show _ < (w.alloc (.cells arr e)).heap.size; omega) hB0
  rw [this]
  exact heap_alloc_new w _
 -- the new block is no callee's
 have hno : ¬ Own m' w.heap.size:=fun ho=>by
  rcases h'.fresh _ ho with h1 | h1
  ·have h1 : (w.alloc (.cells arr e)).heap.size ≤ w.heap.size:=h1
   omega
  ·exact hB0 (List.mem_append_left _ h1)
 have hbx : ∀ i,(m'.addBx id w.heap.size).bx i = if i = id then some w.heap.size else m'.bx i:=fun i=>rfl
 have hown : ∀ c,Own (m'.addBx id w.heap.size) c → c = w.heap.size ∨ Own m' c:=by
  rintro c (⟨i,hi⟩ | ⟨i,v,h1,h2⟩)
  ·rw [hbx] at hi
   split at hi
   ·cases hi; exact .inl rfl
   ·exact .inr (.inl ⟨i,hi⟩)
  ·exact .inr (.inr ⟨i,v,h1,h2⟩)
 have hst : Stays ((swF F H m k w (w.alloc (.cells arr e))).S m') (F.S (m'.addBx id w.heap.size)) w' w':=by
  intro c hS hc
  refine ⟨?_,rfl⟩
  rcases hS with ⟨⟨hS,h1⟩,h2,h3⟩ | ⟨h1,h2⟩
  ·have hn : ¬ Own (m'.addBx id w.heap.size) c:=fun ho=>by
    rcases hown c ho with rfl | ho
    ·omega
    ·rcases h'.fresh c ho with h4 | h4
     ·have h4 : (w.alloc (.cells arr e)).heap.size ≤ c:=h4
      omega
     ·exact h3 (List.mem_append_left _ h4)
   rcases hS with h4 | ⟨h4,_⟩
   ·exact .inl h4
   ·exact .inr ⟨h4,hn⟩
  ·have hcb : c ≠ w.heap.size:=fun e=>by
    subst e
    rcases h1 with h1 | h1
    ·have h1 : (w.alloc (.cells arr e)).heap.size ≤ w.heap.size:=h1
     omega
    ·exact hB0 (List.mem_append_left _ h1)
   have hn : ¬ Own (m'.addBx id w.heap.size) c:=fun ho=>(hown c ho).elim hcb h2
   refine .inr ⟨?_,hn⟩
   rcases h1 with h1 | h1
   ·have h1 : (w.alloc (.cells arr e)).heap.size ≤ c:=h1
    have:=h.size
    exact .inl (by omega)
   ·exact h.fresh c ((swG_own hf).1 h1)
 have hF : Frames (swF F H m k w (w.alloc (.cells arr e))) F H' (H'.addBox id cs) m' (m'.addBx id w.heap.size) w' w' false:=by
  refine ⟨hst,fun i b hb=>?_,rfl,rfl,rfl,rfl,fun h=>by cases h⟩
  rw [hbx,if_neg (fun e=>by rw [e,hid] at hb; cases hb)]; exact hb
 refine ⟨⟨?_,?_,?_,?_,?_,?_,h.gB,h.brB,h.bri,?_,?_,h'.iff,?_,?_,?_⟩,hF⟩
 ·exact h'.os.trans h.os
 ·exact h'.tape.trans h.tape
 ·exact h'.output.trans h.output
 ·have:=h.size; omega
 ·intro c h1 h2
  have:=h.size
  rw [h'.block c (by show c < (w.alloc (.cells arr e)).heap.size; omega) (sw_old h hf h1 h2)]
  exact (hold c (by omega)).trans (h.block c h1 h2)
 ·intro c ho
  rcases hown c ho with rfl | ho
  ·exact .inl h.size
  ·rcases h'.fresh c ho with h1 | h1
   ·have h1 : (w.alloc (.cells arr e)).heap.size ≤ c:=h1
    have:=h.size
    exact .inl (by omega)
   ·exact h.fresh c ((swG_own hf).1 h1)
 ·intro i j c hi hj
  rw [hbx] at hi hj
  split at hi <;> split at hj
  ·omega
  ·cases hi; exact absurd (.inl ⟨j,hj⟩) hno
  ·cases hj; exact absurd (.inl ⟨i,hi⟩) hno
  ·exact h'.ibb i j c hi hj
 ·intro i j c v hi hj hc
  rw [hbx] at hi
  split at hi
  ·cases hi; exact hno (.inr ⟨j,v,hj,hc⟩)
  ·exact h'.ibf i j c v hi hj hc
 ·intro i c hi
  rw [hbx] at hi
  by_cases he : i = id
  ·rw [if_pos he] at hi
   cases hi; subst he
   refine ⟨cs,by simp [Hp.addBox,look],BoxIs.of hnew hcs.1 fun j x u hx hu=>?_⟩
   obtain ⟨h1,c,rfl,h2⟩:=hcs.2 j x u hx hu
   exact ⟨h1,h2.none⟩
  ·rw [if_neg he] at hi
   obtain ⟨cs',h1,h2⟩:=h'.box i c hi
   refine ⟨cs',?_,hF.box (.inr (hnl i cs' h1)) rfl h2⟩
   show look ((id,cs) :: H'.box) i = _
   rw [look_add_ne _ _ _ _ he]; exact h1
 ·intro i v hv
  obtain ⟨B,rs,xs,h1,h2,h3,h4,h5,h6⟩:=h'.buf i v hv
  exact ⟨B,rs,xs,h1,h2,h3,h4,h5,fun i j y hy=>let ⟨u,hu,hr⟩:=h6 i j y hy; ⟨u,hu,hr.mono hst⟩⟩
 ·intro i v hv
  obtain ⟨B,rs,xs,h1,h2,h3,h4,h5,h6⟩:=h'.bor i v hv
  exact ⟨B,rs,xs,h1,h2,h3,h4,h5,fun i j y hy=>let ⟨u,hu,hr⟩:=h6 i j y hy; ⟨u,hu,hr.mono hst⟩⟩
end
end Go.Abs

namespace Go.Abs
set_option linter.unusedSimpArgs false
set_option linter.unusedVariables false
open Go.RowKit
variable {P : Program}

structure Lb where
 q : Nat
 b : Nat
 zs : List Value
 id : Nat
def zC (zs : List Value) : List AV:=zs.map fun v=>.c (ofC v)
theorem isM_zC (zs : List Value) : isM (zC zs) = false:=by
 match zs with
 | []=>rfl
 | [_]=>rfl
 | _ :: _ :: _=>rfl
inductive Sws (F0 : Fr) : Fr → List Lb → Prop where
 | nil : Sws F0 F0 []
 | cons {F : Fr} {L : List Lb} {H : Hp} {m : Mp} {w : World} {k : Nat} (h : Sws F0 F L) (hr : HRep F H m w) (hf : ∀ i,k ≤ i → m.bx i = none ∧ m.bf i = none) (arr : Array Value) (e : TypeId) (q id : Nat) (ho : arr.toList.all oneCell = true) :
   Sws F0 (swF F H m k w (w.alloc (.cells arr e))) (⟨q,w.heap.size,arr.toList,id⟩ :: L)
def addL : List Lb → Hp → Hp
 | [],H=>H
 | l :: L,H=>addL L (H.addBox l.id (zC l.zs))
def addM : List Lb → Mp → Mp
 | [],m=>m
 | l :: L,m=>addM L (m.addBx l.id l.b)
def NL (H : Hp) : Prop:=∀ id cs,look H.box id = some cs → cs.all noLn = true
theorem NL_add {H : Hp} (h : NL H) (id : Nat) (zs : List Value) : NL (H.addBox id (zC zs)):=by
 intro i cs hl
 by_cases he : i = id
 ·subst he
  have : look ((i,zC zs) :: H.box) i = some (zC zs):=by simp [look]
  rw [show (H.addBox i (zC zs)).box = (i,zC zs) :: H.box from rfl,this] at hl
  cases hl
  simp [zC,noLn]
 ·have : look ((id,zC zs) :: H.box) i = look H.box i:=look_add_ne _ _ _ _ he
  rw [show (H.addBox id (zC zs)).box = (id,zC zs) :: H.box from rfl,this] at hl
  exact h i cs hl
theorem addM_ne : ∀ {L : List Lb} {m : Mp} {i : Nat},(∀ l ∈ L,l.id ≠ i) → (addM L m).bx i = m.bx i
 | [],_,_,_=>rfl
 | l :: L,m,i,h=>by
  rw [addM,addM_ne fun l' hl'=>h l' (List.mem_cons_of_mem _ hl')]
  show (if i = l.id then _ else _) = _
  rw [if_neg fun e=>h l (List.mem_cons_self ..) e.symm]
theorem addM_bf : ∀ {L : List Lb} {m : Mp},(addM L m).bf = m.bf
 | [],_=>rfl
 | l :: L,m=>by rw [addM,addM_bf]; rfl
theorem addM_in : ∀ {L : List Lb} {m : Mp},(L.map (·.id)).Nodup → ∀ l ∈ L,(addM L m).bx l.id = some l.b
 | l0 :: L,m,hn,l,hl=>by
  rw [List.map_cons,List.nodup_cons] at hn
  rcases List.mem_cons.1 hl with rfl | hl
  ·rw [addM,addM_ne fun l' hl' he=>hn.1 (List.mem_map.2 ⟨l',hl',he⟩)]
   simp [Mp.addBx]
  ·exact addM_in hn.2 l hl
theorem addL_ne : ∀ {L : List Lb} {H : Hp} {i : Nat},(∀ l ∈ L,l.id ≠ i) → look (addL L H).box i = look H.box i
 | [],_,_,_=>rfl
 | l :: L,H,i,h=>by
  rw [addL,addL_ne fun l' hl'=>h l' (List.mem_cons_of_mem _ hl')]
  exact look_add_ne _ _ _ _ fun e=>h l (List.mem_cons_self ..) e.symm
theorem addL_in : ∀ {L : List Lb} {H : Hp},(L.map (·.id)).Nodup → ∀ l ∈ L,look (addL L H).box l.id = some (zC l.zs)
 | l0 :: L,H,hn,l,hl=>by
  rw [List.map_cons,List.nodup_cons] at hn
  rcases List.mem_cons.1 hl with rfl | hl
  ·rw [addL,addL_ne fun l' hl' he=>hn.1 (List.mem_map.2 ⟨l',hl',he⟩)]
   simp [Hp.addBox,look]
  ·exact addL_in hn.2 l hl
theorem addL_buf : ∀ {L : List Lb} {H : Hp},(addL L H).buf = H.buf ∧ (addL L H).bor = H.bor
 | [],_=>⟨rfl,rfl⟩
 | l :: L,H=>by rw [addL]; exact addL_buf (L:=L)
theorem Sws.back {F0 F : Fr} {L : List Lb} (h : Sws F0 F L) : ∀ {H : Hp} {m : Mp} {w : World},HRep F H m w → NL H → (L.map (·.id)).Nodup → (∀ l ∈ L,m.bx l.id = none) →
  HRep F0 (addL L H) (addM L m) w ∧ ∀ x v,noLn x = true → RepA F H m w x v → RepA F0 (addL L H) (addM L m) w x v:=by
 induction h with
 | nil=>intro H m w hr _ _ _; exact ⟨hr,fun _ _ _ h=>h⟩
 | cons h hr hf arr e q id ho ih =>
  intro H' m' w' hr' hnl hnd hid
  rw [List.map_cons,List.nodup_cons] at hnd
  obtain ⟨k1,k2⟩:=sw_back hr hf hr' hnl (hid _ (List.mem_cons_self ..)) (cs:=zC arr.toList) ⟨by simp [zC],fun j x u hx hu=>by
   simp only [zC,List.getElem?_map,Option.map_eq_some_iff] at hx
   obtain ⟨v,hv,rfl⟩:=hx
   have : v = u:=by simp at hv; rw [hu] at hv; exact (Option.some.inj hv).symm
   subst this
   have hone : oneCell v = true:=List.all_eq_true.1 ho v (List.mem_of_getElem? hv)
   exact ⟨hone,_,rfl,rd_ofC w' _ v hone⟩⟩ (isM_zC _)
  obtain ⟨g1,g2⟩:=ih k1 (NL_add hnl _ _) hnd.2 (fun l hl=>by
   show (if l.id = id then _ else _) = _
   rw [if_neg fun e : l.id = id=>hnd.1 (List.mem_map.2 ⟨l,hl,e⟩)]
   exact hid l (List.mem_cons_of_mem _ hl))
  refine ⟨g1,fun x v hx hv=>g2 x v hx (k2.rep (.inr hx) hv)⟩

theorem wp_put {o : Oper} {a : Act} {w : World} {K : Act → World → Prop} {Q : Exit → Act → World → Prop} (hh : o.wp P a w K Q) : o.wp P a w (fun a' w'=>K a' w' ∧ ∀ q,o.dst ≠ some q → a'.tmps.getD q undef = a.tmps.getD q undef) Q:=by
 have keep : ∀ (b : Act) (v : Value),b.tmps = a.tmps → ∀ q,o.dst ≠ some q → (b.put o.dst v).tmps.getD q undef = a.tmps.getD q undef:=by
  intro b v hb q hq
  cases hd : o.dst with
  | none=>simp [Act.put,hb]
  | some d =>
   have : d ≠ q:=fun e=>hq (by rw [hd,e])
   simp [Act.put,hb,Array.getElem?_setIfInBounds_ne this]
 unfold Oper.wp at *
 generalize (execOp a.eval o).run P w = r at *
 cases r with
 | ok n w' =>
  cases n <;> simp only [Oper.upon] at hh ⊢ <;>
   first
    | exact ⟨hh,keep _ _ rfl⟩
    | exact Calls.mono hh (fun e w'' he=>by cases e <;> first | exact ⟨he,keep _ _ rfl⟩ | exact he)
    | exact Rows.mono hh (fun _ _ he=>⟨he,keep _ _ rfl⟩)
 | halt x w'=>cases x <;> simp only [Oper.upon] at hh ⊢ <;> exact hh
structure Lt where
 i : Nat
 q : Nat
 zs : List Value
 id : Nat
def dum (o : Oper) : Oper:={ o with dst:=none,op:=.move (.global 0) }
structure LateOk (P : Program) (ops N : Array Oper) (T : List Lt) (g0 : Nat → AV) (n : Nat) : Prop where
 sz : N.size = ops.size
 g : ∀ (i : Nat) o,ops[i]? = some o → o.guard = none
 same : ∀ (i : Nat) o,ops[i]? = some o → (∀ t ∈ T,t.i ≠ i) → N[i]? = some o
 late : ∀ t ∈ T,∃ o e,ops[t.i]? = some o ∧ o.op = .alloc e ∧ o.dst = some t.q ∧ zeroO P e = some t.zs ∧ t.zs.all oneCell = true ∧ N[t.i]? = some (dum o) ∧ g0 t.q = .u ∧ t.q < n
 q : ∀ t ∈ T,∀ (i : Nat) o,N[i]? = some o → o.dst ≠ some t.q
 ii : ∀ t ∈ T,∀ t' ∈ T,t.i = t'.i → t = t'
 qq : ∀ t ∈ T,∀ t' ∈ T,t.q = t'.q → t = t'
 dd : ∀ t ∈ T,∀ t' ∈ T,t.id = t'.id → t = t'
structure LInv (P : Program) (cf : Cfg) (F0 : Fr) (N : Array Oper) (T : List Lt) (tr : List Step) (g0 : Nat → AV) (H0 : Hp) (n0 n : Nat) (D : Nat → Bool) (a : Act) (w : World) : Prop where
 h : ∃ F L,Sws F0 F L ∧ Mid cf F N tr g0 H0 n0 n D a w ∧ (L.map (·.id)).Nodup ∧ (∀ l ∈ L,∃ t ∈ T,l.id = t.id ∧ D t.i = true) ∧
  ∀ t ∈ T,D t.i = true → ∃ b,Lb.mk t.q b t.zs t.id ∈ L ∧ a.tmps.getD t.q undef = .pointer (some ⟨b,0,none⟩)
theorem LInv.step {cf : Cfg} {F0 : Fr} {ops N : Array Oper} {T : List Lt} {tr : List Step} {g0 : Nat → AV} {H0 : Hp} {n0 n : Nat} {B : Array Nat} {g' : Nat → AV} {H' : Hp} {nx' : Nat} (ok : LateOk P ops N T g0 n) (ho : OrdP cf g0 n0 N n B) (htr : TrP P cf true N.toList N.toList g0 H0 n0 tr g' H' nx') (hj0 : ∀ id,n0 ≤ id → look H0.box id = none)
  {D : Nat → Bool} {a : Act} {w : World} (hm : LInv P cf F0 N T tr g0 H0 n0 n D a w) {i : Nat} {o : Oper} (hi : ops[i]? = some o) (hD : D i = false) (hall : ∀ e ∈ o.after,Region.binds .any e = true → D e.on = true) {K : Act → World → Prop} {Q : Exit → Act → World → Prop}
  (hK : ∀ a' w',LInv P cf F0 N T tr g0 H0 n0 n (fun j=>j == i || D j) a' w' → K a' w') : wpOp P ops Q i K a w:=by
 obtain ⟨F,L,hsw,hmid,hnd,hL,hT⟩:=hm.h
 have hgd:=ok.g i o hi
 by_cases hlt : ∃ t ∈ T,t.i = i
 ·obtain ⟨t,ht,rfl⟩:=hlt
  obtain ⟨o',e,h1,h2,h3,h4,h5,h6,h7,h8⟩:=ok.late t ht
  rw [hi] at h1; cases h1
  unfold wpOp
  rw [hi]
  simp only [Region.wanted,hgd,if_true]
  obtain ⟨it,z,hit,hzz,hz⟩:=zeroO_some h4
  have hrun : (execOp a.eval o).run P w = .ok (.value (.pointer (some ⟨w.heap.size,0,none⟩))) (w.alloc (.cells z.cells e)):=by
   simp [execOp,h2,Instr.alloc,zeroValue,typeInfo,hit,hzz,newVar_run]
  have hex : Exec P o a.eval w fun v w'=>v = .pointer (some ⟨w.heap.size,0,none⟩) ∧ w' = w.alloc (.cells z.cells e):=by
   unfold Exec; rw [hrun]; exact ⟨rfl,rfl⟩
  refine .inl (hex.wp fun v w' ⟨hv,hw⟩=>hK _ _ ⟨?_⟩)
  subst hv; subst hw
  obtain ⟨m,k,hpk,hk,hwr,hrep,hfree,hloo,hsl⟩:=hmid.at_
  obtain ⟨f1,f2⟩:=sw_fwd hrep hfree (.cells z.cells e)
  have hput : ∀ q,q ≠ t.q → (a.put o.dst (.pointer (some ⟨w.heap.size,0,none⟩))).tmps.getD q undef = a.tmps.getD q undef:=fun q hq=>by
   rw [h3]
   simp [Act.put,Array.getElem?_setIfInBounds_ne (Ne.symm hq)]
  have hval : ∀ q,val N tr g0 (fun j=>j == t.i || D j) q = val N tr g0 D q:=by
   intro q
   unfold val
   cases hx : N.toList.findIdx? (fun o=>o.dst == some q) with
   | none=>rfl
   | some j =>
    have hji : j ≠ t.i:=fun he=>by
     obtain ⟨hlt2,hd,_⟩:=List.findIdx?_eq_some_iff_getElem.1 hx
     subst he
     have : N.toList[t.i] = dum o:=by
      have h9 : N.toList[t.i]? = some (dum o):=by rw [Array.getElem?_toList]; exact h6
      exact (List.getElem?_eq_some_iff.1 h9).2
     rw [this] at hd
     simp [dum] at hd
    have : (j == t.i) = false:=by simpa using hji
    simp [this]
  refine ⟨_,_,Sws.cons hsw hrep hfree z.cells e t.q t.id (by rw [hz]; exact h5),⟨by simp [h3,Act.put,hmid.d],by simp [h3,Act.put,hmid.sz],fun i' o' e' hi' hD' he hb=>?_,m,k,hpk,hk,fun j p hj hwp hpj=>?_,f1,hfree,fun j p hj hwp hpj hdj=>?_,fun q=>?_⟩,?_,?_,?_⟩
  ·simp only [Bool.or_eq_true,beq_iff_eq] at hD' ⊢
   rcases hD' with rfl | hD'
   ·rw [h6] at hi'; cases hi'; exact .inr (hall e' he hb)
   ·exact .inr (hmid.down i' o' e' hi' hD' he hb)
  ·have hji : j ≠ t.i:=fun e=>by subst e; rw [h6] at hj; cases hj; simp [dum,mayWc,mayW,ownOp,gOp] at hwp
   simp only [Bool.or_eq_true,beq_iff_eq,hji,false_or]
   exact hwr j p hj hwp hpj
  ·simp only [Bool.or_eq_false_iff] at hdj
   exact hloo j p hj hwp hpj hdj.2
  ·rw [hval q]
   by_cases hq : q = t.q
   ·subst hq
    have : val N tr g0 D t.q = .u:=by rw [val_none D fun j p hj=>ok.q t ht j p hj]; exact h7
    rw [this]; trivial
   ·rw [hput q hq]
    exact f2.rep (.inl rfl) (hsl q)
  ·rw [List.map_cons,List.nodup_cons]
   refine ⟨fun hin=>?_,hnd⟩
   obtain ⟨l,hl,he⟩:=List.mem_map.1 hin
   obtain ⟨t',ht',e1,e2⟩:=hL l hl
   have : t' = t:=ok.dd t' ht' t ht (by rw [← e1]; exact he)
   subst this
   rw [hD] at e2; cases e2
  ·intro l hl
   rcases List.mem_cons.1 hl with rfl | hl
   ·exact ⟨t,ht,rfl,by simp⟩
   ·obtain ⟨t',ht',e1,e2⟩:=hL l hl
    exact ⟨t',ht',e1,by simp [e2]⟩
  ·intro t' ht' hD'
   by_cases htt : t' = t
   ·subst htt
    refine ⟨w.heap.size,by rw [hz]; exact List.mem_cons_self ..,?_⟩
    rw [h3]
    simp [Act.put,hmid.sz,h8]
   ·have hne : t'.i ≠ t.i:=fun e=>htt (ok.ii t' ht' t ht e)
    have hqe : t'.q ≠ t.q:=fun e=>htt (ok.qq t' ht' t ht e)
    have : D t'.i = true:=by simpa [hne] using hD'
    obtain ⟨b,hb1,hb2⟩:=hT t' ht' this
    exact ⟨b,List.mem_cons_of_mem _ hb1,by rw [hput _ hqe]; exact hb2⟩
 ·have hne : ∀ t ∈ T,t.i ≠ i:=fun t ht e=>hlt ⟨t,ht,e⟩
  have hN:=ok.same i o hi hne
  have hs:=hmid.step (P:=P) (Q:=Q) rfl ho htr hj0 hN hD hall (K:=fun a' w'=>Mid cf F N tr g0 H0 n0 n (fun j=>j == i || D j) a' w') (fun _ _ h=>h)
  unfold wpOp at hs ⊢
  rw [hN] at hs
  rw [hi]
  simp only [Region.wanted,hgd,if_true] at hs ⊢
  rcases hs with hs | hs
  ·refine .inl (Oper.wp_mono (fun a' w' ⟨h1,h2⟩=>hK a' w' ⟨F,L,hsw,h1,hnd,fun l hl=>?_,fun t ht hD'=>?_⟩) (wp_put hs))
   ·obtain ⟨t,ht,e1,e2⟩:=hL l hl
    exact ⟨t,ht,e1,by simp [e2]⟩
   ·have : D t.i = true:=by simpa [hne t ht] using hD'
    obtain ⟨b,hb1,hb2⟩:=hT t ht this
    exact ⟨b,hb1,by rw [h2 t.q (ok.q t ht i o hN)]; exact hb2⟩
  ·exact .inr hs
end Go.Abs

namespace Go.Abs
set_option linter.unusedSimpArgs false
set_option linter.unusedVariables false
open Go.RowKit
variable {P : Program}

def lateSt : List Lt → St → St
 | [],st=>st
 | t :: T,st=>lateSt T ⟨st.n,(t.q,.bx st.nx 0) :: st.sl,st.H.addBox st.nx (zC t.zs),st.nx + 1⟩
def Ids : List Lt → Nat → Prop
 | [],_=>True
 | t :: T,k=>t.id = k ∧ Ids T (k + 1)
theorem Ids_ge : ∀ {T : List Lt} {k : Nat},Ids T k → ∀ t ∈ T,k ≤ t.id ∧ t.id < k + T.length
 | t0 :: T,k,h,t,ht=>by
  rcases List.mem_cons.1 ht with rfl | ht
  ·have:=h.1; simp only [List.length_cons]; omega
  ·have:=Ids_ge h.2 t ht; simp only [List.length_cons]; omega
theorem lateSt_same : ∀ {T : List Lt} {st : St},(lateSt T st).n = st.n ∧ (lateSt T st).nx = st.nx + T.length ∧ (lateSt T st).H.buf = st.H.buf ∧ (lateSt T st).H.bor = st.H.bor
 | [],st=>⟨rfl,rfl,rfl,rfl⟩
 | t :: T,st=>by
  obtain ⟨h1,h2,h3,h4⟩:=lateSt_same (T:=T) (st:=⟨st.n,(t.q,.bx st.nx 0) :: st.sl,st.H.addBox st.nx (zC t.zs),st.nx + 1⟩)
  exact ⟨h1,by rw [lateSt,h2]; simp only [List.length_cons]; omega,h3,h4⟩
theorem lateSt_get_ne : ∀ {T : List Lt} {st : St} {q : Nat},(∀ t ∈ T,t.q ≠ q) → (lateSt T st).get q = st.get q
 | [],st,q,_=>rfl
 | t :: T,st,q,h=>by
  rw [lateSt,lateSt_get_ne fun t' ht'=>h t' (List.mem_cons_of_mem _ ht')]
  have : (t.q == q) = false:=by simpa using h t (List.mem_cons_self ..)
  simp only [St.get,look,this]
  rfl
theorem lateSt_get_in : ∀ {T : List Lt} {st : St},Ids T st.nx → (∀ t ∈ T,∀ t' ∈ T,t.q = t'.q → t = t') → ∀ t ∈ T,(lateSt T st).get t.q = .bx t.id 0
 | t0 :: T,st,h,hq,t,ht=>by
  rcases List.mem_cons.1 ht with rfl | ht
  ·rw [lateSt,lateSt_get_ne fun t' ht' e=>by
    have:=hq t' (List.mem_cons_of_mem _ ht') t (List.mem_cons_self ..) e
    have h2:=Ids_ge h.2 t' ht'
    have h1:=h.1
    rw [this] at h2; omega]
   simp only [St.get,look,beq_self_eq_true,if_true,h.1]
  ·exact lateSt_get_in (st:=⟨st.n,(t0.q,.bx st.nx 0) :: st.sl,st.H.addBox st.nx (zC t0.zs),st.nx + 1⟩) h.2 (fun a ha b hb=>hq a (List.mem_cons_of_mem _ ha) b (List.mem_cons_of_mem _ hb)) t ht
theorem lateSt_box_ne : ∀ {T : List Lt} {st : St} {i : Nat},Ids T st.nx → (∀ t ∈ T,t.id ≠ i) → look (lateSt T st).H.box i = look st.H.box i
 | [],st,i,_,_=>rfl
 | t :: T,st,i,h,hne=>by
  rw [lateSt,lateSt_box_ne (st:=⟨st.n,(t.q,.bx st.nx 0) :: st.sl,st.H.addBox st.nx (zC t.zs),st.nx + 1⟩) h.2 fun t' ht'=>hne t' (List.mem_cons_of_mem _ ht')]
  have:=hne t (List.mem_cons_self ..)
  exact look_add_ne _ _ _ _ (fun e=>this (by rw [h.1,e]))
theorem lateSt_box_in : ∀ {T : List Lt} {st : St},Ids T st.nx → ∀ t ∈ T,look (lateSt T st).H.box t.id = some (zC t.zs)
 | t0 :: T,st,h,t,ht=>by
  rcases List.mem_cons.1 ht with rfl | ht
  ·rw [lateSt,lateSt_box_ne (st:=⟨st.n,(t.q,.bx st.nx 0) :: st.sl,st.H.addBox st.nx (zC t.zs),st.nx + 1⟩) h.2 fun t' ht' e=>by
    have:=Ids_ge h.2 t' ht'
    have:=h.1
    omega]
   simp [Hp.addBox,look,h.1]
  ·exact lateSt_box_in (st:=⟨st.n,(t0.q,.bx st.nx 0) :: st.sl,st.H.addBox st.nx (zC t0.zs),st.nx + 1⟩) h.2 t ht
def nlSt (st : St) : Bool:=st.sl.all (fun p=>noLn p.2) && st.H.box.all fun p=>p.2.all noLn
theorem look_all {α : Type} {p : α → Bool} {l : List (Nat × α)} (h : (l.all fun q=>p q.2) = true) {i : Nat} {x : α} (hl : look l i = some x) : p x = true:=List.all_eq_true.1 h _ (look_in hl)
theorem LInv.done {cf : Cfg} {F0 : Fr} {ops N : Array Oper} {T : List Lt} {tr : List Step} {st fin : St} {B : Array Nat} (ok : LateOk P ops N T st.get st.n) (ho : OrdP cf st.get st.nx N st.n B) (hn : fin.n = st.n) (htr : TrP P cf true N.toList N.toList st.get st.H st.nx tr fin.get fin.H fin.nx)
  (hnl : nlSt fin = true) (hids : Ids T fin.nx) {D : Nat → Bool} {a : Act} {w : World} (hall : ∀ i,i < ops.size → D i = true) (hm : LInv P cf F0 N T tr st.get st.H st.nx st.n D a w) : ∃ m,StRep F0 (lateSt T fin) m a w:=by
 obtain ⟨F,L,hsw,hmid,hnd,hL,hT⟩:=hm.h
 obtain ⟨hl,hg',hH',hN',hstep⟩:=TrP_at htr
 have hl2 : tr.length = N.size:=by simpa using hl
 obtain ⟨m,k,hpk,hk,hwr,hrep,hfree,hloo,hsl⟩:=hmid.at_
 have hall2 : ∀ i,i < N.size → D i = true:=fun i hi=>hall i (by rw [← ok.sz]; exact hi)
 have hconst : ∀ (i : Nat) o s,N[i]? = some o → tr[i]? = some s → mayWc cf o.op = false → s.H = HH tr st.H i ∧ s.nx = NN tr st.nx i:=by
  intro i o s ho hs hw
  have h:=hstep i o s (by simpa using ho) hs
  cases hb : s.b with
  | false=>exact (h.2.1 hb).2
  | true=>have:=(h.2.2 hb).2.2.2.1 rfl hw; exact ⟨this.1,this.2.1⟩
 have hc:=HH_const (H0:=st.H) (n0:=st.nx) hl2 hconst (N.size - k) k (by omega) (fun j o hj1 hj2 hj=>by
  cases hw : mayWc cf o.op with
  | false=>rfl
  | true=>have:=(hwr j o hj hw (by omega)).1 (hall2 j (by omega)); omega)
 rw [show k + (N.size - k) = N.size by omega] at hc
 have hlen : N.toList.length = N.size:=by simp
 rw [hlen] at hg' hH' hN'
 have hget : ∀ t,fin.get t = val N tr st.get D t:=by
  intro t
  rw [hg',G_val ho hl2 N.size (Nat.le_refl _) t]
  by_cases hex : ∃ (i : Nat) (o : Oper),N[i]? = some o ∧ o.dst = some t
  ·obtain ⟨i,o,hi,hd⟩:=hex
   have hil:=(Array.getElem?_eq_some_iff.1 hi).1
   have hsi : tr[i]? = some (tr[i]'(by omega)):=List.getElem?_eq_getElem _
   rw [val_dst ho hi hsi hd,val_dst ho hi hsi hd,hall2 i hil]
   simp [hil]
  ·rw [val_none,val_none]
   ·intro i o hi hd; exact hex ⟨i,o,hi,hd⟩
   ·intro i o hi hd; exact hex ⟨i,o,hi,hd⟩
 rw [← hc.1,← hH'] at hrep hsl
 rw [← hc.2,← hN'] at hfree
 simp only [nlSt,Bool.and_eq_true] at hnl
 have hNL : NL fin.H:=fun id cs h=>look_all (p:=fun cs : List AV=>cs.all noLn) hnl.2 h
 have hLt : ∀ l ∈ L,fin.nx ≤ l.id ∧ l.id < fin.nx + T.length:=fun l hl=>by
  obtain ⟨t,ht,e,_⟩:=hL l hl
  rw [e]; exact Ids_ge hids t ht
 obtain ⟨g1,g2⟩:=hsw.back hrep hNL hnd (fun l hl=>(hfree l.id (hLt l hl).1).1)
 obtain ⟨s1,s2,s3,s4⟩:=lateSt_same (T:=T) (st:=fin)
 have htin : ∀ t ∈ T,∃ b,Lb.mk t.q b t.zs t.id ∈ L ∧ a.tmps.getD t.q undef = .pointer (some ⟨b,0,none⟩):=fun t ht=>hT t ht (by
  obtain ⟨o,e,h1,_⟩:=ok.late t ht
  exact hall t.i (Array.getElem?_eq_some_iff.1 h1).1)
 obtain ⟨b1,b2⟩:=addL_buf (L:=L) (H:=fin.H)
 obtain ⟨k1,k2⟩:=g1.hp (H':=(lateSt T fin).H) (fun i b hb=>by
  by_cases hex : ∃ t ∈ T,t.id = i
  ·obtain ⟨t,ht,rfl⟩:=hex
   obtain ⟨b',hb',_⟩:=htin t ht
   rw [lateSt_box_in hids t ht]
   exact (addL_in hnd _ hb').symm
  ·rw [lateSt_box_ne hids fun t ht e=>hex ⟨t,ht,e⟩,addL_ne fun l hl e=>by
    obtain ⟨t,ht,e2,_⟩:=hL l hl
    exact hex ⟨t,ht,by rw [← e2]; exact e⟩]) (fun i B hB=>by rw [s3]; rw [b1] at hB; exact hB) (by rw [s4,b2])
 refine ⟨addM L m,hmid.d,by rw [s1,hn]; exact hmid.sz,k1,fun i hi=>?_,fun q=>?_⟩
 ·rw [s2] at hi
  rw [addM_ne fun l hl e=>by have:=(hLt l hl).2; omega,addM_bf]
  exact hfree i (by omega)
 ·by_cases hex : ∃ t ∈ T,t.q = q
  ·obtain ⟨t,ht,rfl⟩:=hex
   obtain ⟨b,hb,hv⟩:=htin t ht
   rw [lateSt_get_in hids ok.qq t ht,hv]
   exact ⟨b,addM_in hnd _ hb,rfl⟩
  ·rw [lateSt_get_ne fun t ht e=>hex ⟨t,ht,e⟩,hget q]
   refine k2.rep (g2 _ _ ?_ (hsl q))
   rw [← hget q]
   unfold St.get
   split
   ·rename_i x hx; exact look_all (p:=noLn) hnl.1 hx
   ·rfl

inductive Mk where
 | k
 | l
 | t
attribute [go_sem] dum zC nlSt noLn noLnT
end Go.Abs

namespace Go.Proofs.Ytncededjmcmidaa
set_option linter.unusedSimpArgs false
set_option linter.unusedVariables false
open Go.Abs Go.Proofs.NatL

def poG (os : List Ob) (l : List Int) (f kd : Int) : Nat → Int → Int → Int × Int
 | 0,k,at_=>(at_,k)
 | m + 1,k,at_=>if nxV l k 8 = 1 then (at_,nxK l k) else if (os.getD at_.toNat ob0).k = kd then (at_,nxK l k) else poG os l f kd m (nxK l k) (f + (at_ - f + 1) % (os.length - f))
def poF (os : List Ob) (l : List Int) (f kd : Int) (k : Int) : Int × Int:=poG os l f kd (os.length - f).toNat (nxK l k) (f + nxV l k (os.length - f))
theorem poG_ok {os : List Ob} {l : List Int} {f kd : Int} (hf : 0 ≤ f ∧ f < os.length) : ∀ (m : Nat) (k at_ : Int),okSd l k → f ≤ at_ ∧ at_ < os.length → (f ≤ (poG os l f kd m k at_).1 ∧ (poG os l f kd m k at_).1 < os.length) ∧ okSd l (poG os l f kd m k at_).2
 | 0,k,at_,h,ha=>⟨ha,h⟩
 | m + 1,k,at_,h,ha=>by
  have h2:=nxK_ok h
  unfold poG
  repeat' split
  ·exact ⟨ha,h2⟩
  ·exact ⟨ha,h2⟩
  ·have e1:=Int.emod_nonneg (at_ - f + 1) (show (os.length : Int) - f ≠ 0 by omega)
   have e2:=Int.emod_lt_of_pos (at_ - f + 1) (show 0 < (os.length : Int) - f by omega)
   exact poG_ok hf m _ _ h2 ⟨by omega,by omega⟩
theorem poF_ok {os : List Ob} {l : List Int} {f kd k : Int} (hf : 0 ≤ f ∧ f < os.length) (h : okSd l k) : (f ≤ (poF os l f kd k).1 ∧ (poF os l f kd k).1 < os.length) ∧ okSd l (poF os l f kd k).2:=by
 have hx:=nxV_in l k (n:=os.length - f) (by omega)
 exact poG_ok hf _ _ _ (nxK_ok h) ⟨by omega,by omega⟩
def ub19 : Cfg:=listT [(13,nextCT)] [39]
theorem ub19_ok : TblOk Try.prog ub19:=listE_ok (by simp only [List.mem_singleton,forall_eq]; exact flt) ⟨⟨h1t,h1t_ok,rfl⟩,trivial⟩
attribute [go_sem] ub19
set_option maxRecDepth 100000 in
set_option maxHeartbeats 8000000 in
theorem pickO_ret (os : List Ob) (l : List Int) (f kd k : Int) (hf : 0 ≤ f ∧ f < os.length) (hn : os.length ≤ 100000) (h : okSd l k) : RetG Try.prog 20 (sH l k) [.bx 0 0,.g [.sl 10 (os.map obC)],.c (.i .i64 f),.c (.i .i64 kd)] (sH l (poF os l f kd k).2) [.c (.i .i64 (poF os l f kd k).1)]:=by
 have hx:=nxV_in l k (n:=os.length - f) (by omega)
 unfold poF
 generalize hR : poG os l f kd (os.length - f).toNat (nxK l k) (f + nxV l k (os.length - f)) = R
 (refine ret_ge Try.func20 (fun F bs=>?_); simp only [avSl,ancs,hnx,Nat.reduceAdd,Nat.reduceLeDiff,if_true,if_false,List.length_cons,List.length_nil,List.cons_append,List.nil_append,Try.ntmps20,Try.results20])
 repeat' (first|with_reducible refine q_0 ?_|((with_reducible first|refine q_q ub19_ok fun K hK=>?_|refine q_r ub19_ok fun K hK=>?_);simp (maxSteps:=2000000) only [go_sem,↓reduceIte,reduceCtorEq,Nat.reduceLeDiff,Nat.reduceLT,Nat.reduceBEq,Nat.reduceAdd,List.length_map];(repeat1' with_reducible first|apply And.intro|(intro _;try exact q_v)|(refine hK _ ?_;clear hK K))<;>(try (clear hK K;exact q_u)))|(with_reducible refine q_s ?_;(first|apply q_J|apply q_K|apply q_L|apply q_M|apply q_N|apply q_O)<;>try (intro _;try exact q_v)))
 all_goals first | omega | exact h | skip
 refine q_G (ι:={ q : Nat × Int × Int // q.1 ≤ (os.length - f).toNat ∧ okSd l q.2.1 ∧ (f ≤ q.2.2 ∧ q.2.2 < os.length) ∧ poG os l f kd q.1 q.2.1 q.2.2 = R }) (fun q=>⟨55,[(0,.bx 0 0),(2,.c (.i .i64 f)),(3,.c (.i .i64 kd)),(5,.bx 1 0),(9,.c (.i .i64 q.1.2.2)),(10,.c (.i .i64 (os.length - q.1.1))),(1000,.anc 0 (bs 0))],⟨[(0,sB l q.1.2.1),(1,[.c (.sl 10 (os.map obC))])],[],[]⟩,2⟩) (fun q=>q.1.1) ⟨((os.length - f).toNat,nxK l k,f + nxV l k (os.length - f)),Nat.le_refl _,nxK_ok h,by simp only; omega,hR⟩ ?_ ?_
 ·have e : (os.length : Int) - ((os.length - f).toNat : Nat) = f:=by omega
  simp only [e]; exact q_D
 rintro ⟨⟨m,k1,a1⟩,g1,g2,g3,g4⟩
 simp only at g1 g2 g3 g4 ⊢
 have hat:=obC_at os (r:=a1) (by omega)
 cases m with
 | zero =>
  obtain rfl : R = (a1,k1):=g4.symm
  repeat' (first|with_reducible refine q_0 ?_|((with_reducible first|refine q_q ub19_ok fun K hK=>?_|refine q_r ub19_ok fun K hK=>?_);simp (maxSteps:=2000000) only [go_sem,↓reduceIte,reduceCtorEq,Nat.reduceLeDiff,Nat.reduceLT,Nat.reduceBEq,Nat.reduceAdd,List.length_map];(repeat1' with_reducible first|apply And.intro|(intro _;try exact q_v)|(refine hK _ ?_;clear hK K))<;>(try (clear hK K;exact q_u)))|(with_reducible refine q_s ?_;(first|apply q_J|apply q_K|apply q_L|apply q_M|apply q_N|apply q_O)<;>try (intro _;try exact q_v)))
  all_goals first | omega | exact g2 | contradiction | exact ends_g [(8,.c (.i .i64 a1))] 2 (by exact q_D) rfl | skip
 | succ m =>
  have h8:=nxV_in l k1 (n:=8) (by omega)
  have hk1:=nxK_ok g2
  unfold poG at g4
  by_cases hn8 : nxV l k1 8 = 1
  ·rw [if_pos hn8] at g4
   subst g4
   repeat' (first|with_reducible refine q_0 ?_|((with_reducible first|refine q_q ub19_ok fun K hK=>?_|refine q_r ub19_ok fun K hK=>?_);simp (maxSteps:=2000000) only [go_sem,↓reduceIte,reduceCtorEq,Nat.reduceLeDiff,Nat.reduceLT,Nat.reduceBEq,Nat.reduceAdd,List.length_map,hn8];(repeat1' with_reducible first|apply And.intro|(intro _;try exact q_v)|(refine hK _ ?_;clear hK K))<;>(try (clear hK K;exact q_u)))|(with_reducible refine q_s ?_;(first|apply q_J|apply q_K|apply q_L|apply q_M|apply q_N|apply q_O)<;>try (intro _;try exact q_v)))
   all_goals first | omega | exact g2 | contradiction | exact ends_g [(8,.c (.i .i64 a1))] 2 (by exact q_D) rfl | skip
  ·rw [if_neg hn8] at g4
   generalize os.getD a1.toNat ob0 = o at *
   obtain ⟨ok,onm,ocl,orf,ood,oraw,oit,oks⟩:=o
   simp only [obC] at hat
   generalize itC ⟨ok,onm,ocl,orf,ood,oraw,oit,oks⟩ = cit at *
   simp only at g4
   by_cases hk : ok = kd
   ·rw [if_pos hk] at g4
    subst g4
    repeat' (first|with_reducible refine q_0 ?_|((with_reducible first|refine q_q ub19_ok fun K hK=>?_|refine q_r ub19_ok fun K hK=>?_);simp (maxSteps:=2000000) only [go_sem,↓reduceIte,reduceCtorEq,Nat.reduceLeDiff,Nat.reduceLT,Nat.reduceBEq,Nat.reduceAdd,List.length_map,hat];(repeat1' with_reducible first|apply And.intro|(intro _;try exact q_v)|(refine hK _ ?_;clear hK K))<;>(try (clear hK K;exact q_u)))|(with_reducible refine q_s ?_;(first|apply q_J|apply q_K|apply q_L|apply q_M|apply q_N|apply q_O)<;>try (intro _;try exact q_v)))
    all_goals first | omega | exact g2 | contradiction | exact ends_g [(8,.c (.i .i64 a1))] 2 (by exact q_D) rfl | skip
   ·rw [if_neg hk] at g4
    have e0 : (a1 - f + 1).tmod (os.length - f) = (a1 - f + 1) % (os.length - f):=Int.tmod_eq_emod_of_nonneg (by omega)
    have e1:=Int.emod_nonneg (a1 - f + 1) (show (os.length : Int) - f ≠ 0 by omega)
    have e2:=Int.emod_lt_of_pos (a1 - f + 1) (show 0 < (os.length : Int) - f by omega)
    generalize (a1 - f + 1) % (os.length - f) = z at *
    repeat' (first|with_reducible refine q_0 ?_|((with_reducible first|refine q_q ub19_ok fun K hK=>?_|refine q_r ub19_ok fun K hK=>?_);simp (maxSteps:=2000000) only [go_sem,↓reduceIte,reduceCtorEq,Nat.reduceLeDiff,Nat.reduceLT,Nat.reduceBEq,Nat.reduceAdd,List.length_map,hat,e0];(repeat1' with_reducible first|apply And.intro|(intro _;try exact q_v)|(refine hK _ ?_;clear hK K))<;>(try (clear hK K;exact q_u)))|(with_reducible refine q_s ?_;(first|apply q_J|apply q_K|apply q_L|apply q_M|apply q_N|apply q_O)<;>try (intro _;try exact q_v)))
    all_goals first | omega | exact g2 | contradiction | skip
    refine q_F ⟨(m,nxK l k1,f + z),by simp only; omega,hk1,by simp only; omega,g4⟩ ?_ (Nat.lt_succ_self m)
    have e3 : (os.length : Int) - ((m + 1 : Nat) : Int) + 1 = os.length - (m : Nat):=by omega
    simp only [e3]; exact q_D
def pickOCT : CT:=mkCTG fun H al K=>match H,al with
 | ⟨[(0,[.c (.ints .i64 l),.c (.i .i64 k)])],[],[]⟩,[.bx 0 0,.g [.sl 10 rows],.c (.i .i64 f),.c (.i .i64 kd)]=>((rows = (dO rows).map obC ∧ (dO rows).length ≤ 100000) ∧ (0 ≤ f ∧ f < (dO rows).length) ∧ okSd l k) ∧ ((f ≤ (poF (dO rows) l f kd k).1 ∧ (poF (dO rows) l f kd k).1 < (dO rows).length) → okSd l (poF (dO rows) l f kd k).2 → K (sH l (poF (dO rows) l f kd k).2) [.c (.i .i64 (poF (dO rows) l f kd k).1)])
 | _,_=>False
def u7a : Cfg:=addT 20 pickOCT cf0
theorem u7a_ok : TblOk Try.prog u7a:=ctg_ok cf0_ok Try.func20 fun H al K h=>by
 split at h
 ·rename_i l k rows f kd
  obtain ⟨⟨⟨h1,h2⟩,h3,h4⟩,hK⟩:=h
  have:=pickO_ret (dO rows) l f kd k h3 h2 h4
  rw [← h1] at this
  have t:=poF_ok (kd:=kd) h3 h4
  exact ⟨_,_,this,hK t.1 t.2⟩
 ·exact h.elim
attribute [go_sem] pickOCT
end Go.Proofs.Ytncededjmcmidaa
