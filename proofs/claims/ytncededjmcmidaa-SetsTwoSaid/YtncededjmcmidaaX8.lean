import Derived.Test.YtncededjmcmidaaX7
namespace Go.Proofs.Ytncededjmcmidaa
set_option linter.unusedSimpArgs false
set_option linter.unusedVariables false
open Go.Abs Go.Proofs.NatL

def Agr (os os' : List Ob) : Prop:=os.length ≤ os'.length ∧ ∀ i,i < os.length → (os'.getD i ob0).k = (os.getD i ob0).k ∧ ((os.getD i ob0).k = 1 → (os'.getD i ob0).it = (os.getD i ob0).it)
theorem keyG_agr {os os' : List Ob} (ho : HOk os) (ha : Agr os os') : ∀ (p : Nat) (td : List Vl) (out : List Int),(∀ x ∈ td,OkW os.length x) → keyG os' p td out = keyG os p td out
 | p,[],out,_=>by cases p <;> rfl
 | 0,_ :: _,out,_=>rfl
 | p + 1,x :: t,out,h=>by
  have hx:=h x (List.mem_cons_self ..)
  have ht : ∀ y ∈ t,OkW os.length y:=fun y hy=>h y (List.mem_cons_of_mem _ hy)
  unfold keyG
  by_cases h9 : x.k = 9
  ·rw [if_pos h9,if_pos h9]
  rw [if_neg h9,if_neg h9]
  by_cases h6 : x.k = 6
  ·rw [if_pos h6,if_pos h6]
   obtain ⟨r0,r1⟩:=hx.2 h6
   obtain ⟨a1,a2⟩:=ha.2 x.r.toNat (by omega)
   have hmem:=ob_mem os ⟨r0,r1⟩
   have hT:=ho.2 _ hmem
   simp only
   rw [a1]
   generalize os.getD x.r.toNat ob0 = o at *
   generalize os'.getD x.r.toNat ob0 = o' at *
   split
   ·rfl
   split
   ·rename_i h1
    rw [a2 h1]
    obtain ⟨_,_,hT3⟩:=hT h1
    exact keyG_agr ho ha p _ _ fun y hy=>(List.mem_append.1 hy).elim (hT3 y) (ht y)
   ·exact keyG_agr ho ha p _ _ ht
  ·rw [if_neg h6,if_neg h6]
   exact keyG_agr ho ha p _ _ ht
theorem keyF_agr {os os' : List Ob} (ho : HOk os) (ha : Agr os os') {v : Vl} (hv : OkW os.length v) : keyF os' v = keyF os v:=keyG_agr ho ha 1000 [v] [] (by simpa using hv)
def KsOk (os : List Ob) (ks : List Vl) : Prop:=(∀ v ∈ ks,OkW os.length v ∧ (keyF os v).2.1 = 0) ∧ ks.Pairwise (fun a b=>(keyF os a).1 ≠ (keyF os b).1) ∧ ks.length ≤ 1000
theorem OkW.mono {n m : Nat} {v : Vl} (h : OkW n v) (hl : n ≤ m) : OkW m v:=⟨h.1,fun h6=>by have:=h.2 h6; omega⟩
theorem KsOk.agr {os os' : List Ob} {ks : List Vl} (h : KsOk os ks) (ho : HOk os) (ha : Agr os os') : KsOk os' ks:=by
 obtain ⟨h1,h2,h3⟩:=h
 refine ⟨fun v hv=>⟨(h1 v hv).1.mono ha.1,by rw [keyF_agr ho ha (h1 v hv).1]; exact (h1 v hv).2⟩,?_,h3⟩
 refine List.Pairwise.imp_of_mem ?_ h2
 intro a b ham hbm hab
 rw [keyF_agr ho ha (h1 a ham).1,keyF_agr ho ha (h1 b hbm).1]
 exact hab
theorem okW_of {n f : Nat} {v : Vl} (h : OkV n f v) : OkW n v:=by
 rcases h with h | ⟨h1,h2,h3⟩
 ·refine ⟨⟨⟨h.x.2,h.x.1⟩,⟨h.y.2,h.y.1⟩,by have:=h.t; omega,by have:=h.k; omega⟩,fun h6=>?_⟩
  have:=h.k
  omega
 ·rw [h1]
  exact ⟨⟨⟨by simp,inB_nil _⟩,⟨by simp,inB_nil _⟩,by simp,by simp⟩,fun _=>⟨by show 0 ≤ v.r; omega,h3⟩⟩
theorem posF_neg {os : List Ob} {c : List Int} : ∀ {ks : List Vl} {i : Nat},posF os c ks i < 0 → ∀ k ∈ ks,(keyF os k).1 ≠ c
 | [],_,_,k,hk=>by cases hk
 | k0 :: t,i,h,k,hk=>by
  simp only [posF] at h
  split at h
  ·omega
  ·rename_i hne
   rcases List.mem_cons.1 hk with rfl | hk
   ·exact hne
   ·exact posF_neg h k hk
theorem ksOk_snoc {os : List Ob} {ks : List Vl} {v : Vl} (h : KsOk os ks) (hv : OkW os.length v) (h1 : (plO os ks v).2.1 = 0) (h2 : (plO os ks v).1 < 0) (hl : ks.length < 1000) : KsOk os (ks ++ [v]):=by
 obtain ⟨g1,g2,g3⟩:=h
 have h3 : (keyF os v).2.1 = 0:=by
  unfold plO at h1
  split at h1
  ·assumption
  ·exact h1
 have h4:=posF_neg (by unfold plO at h2; rw [if_pos h3] at h2; exact h2)
 refine ⟨fun x hx=>?_,?_,by simp; omega⟩
 ·rcases List.mem_append.1 hx with hx | hx
  ·exact g1 x hx
  ·rw [List.mem_singleton.1 hx]; exact ⟨hv,h3⟩
 ·rw [List.pairwise_append]
  refine ⟨g2,List.pairwise_singleton _ _,fun a ha b hb=>?_⟩
  rw [List.mem_singleton.1 hb]
  exact h4 a ha
def bigG (l : List Int) : Nat → Nat → Int → List Vl → List Vl × Int
 | 0,_,k,out=>(out,k)
 | n + 1,i,k,out=>bigG l n (i + 1) (nxK l k) (out ++ [intV ((i : Int) * 3 + nxV l k 2)])
noncomputable def smG (os : List Ob) (l : List Int) (f : Int) : Nat → Int → List Vl → List Vl × Int
 | 0,k,out=>(out,k)
 | n + 1,k,out=>smG os l f n (vaK l k os.length f) (if (plO os out (vaV l k os.length f)).2.1 = 0 ∧ (plO os out (vaV l k os.length f)).1 < 0 then out ++ [vaV l k os.length f] else out)
noncomputable def ksF (os : List Ob) (l : List Int) (k f : Int) (big : Bool) : List Vl × Int:=if big then ((bigG l 1000 0 k []).1,nxK l (bigG l 1000 0 k []).2) else smG os l f (nxV l k 5).toNat (nxK l k) []
theorem int_code (n : Int) (h : 0 ≤ n ∧ n < 4294967296) (os : List Ob) : keyF os (intV n) = (plB (intV n),0,0):=by
 simp [keyF,keyG,intV]
theorem dg_small (n : Int) (h : 0 ≤ n ∧ n < 4294967296) : dg 4294967296 n.natAbs = if n = 0 then [] else [n]:=by
 by_cases h0 : n = 0
 ·subst h0; rfl
 ·rw [if_neg h0,dg_pos _ _ (by omega) (by omega),Nat.mod_eq_of_lt (by omega),Nat.div_eq_of_lt (by omega),dg_zero]
  congr 1; omega
theorem hdg_inj {a b : Int} (ha : 0 ≤ a) (hb : 0 ≤ b) (h : hbs [a] 2 = hbs [b] 2) : a = b:=by
 simp [hbs,hdg] at h
 omega
theorem plB_intV_inj {a b : Int} (ha : 0 ≤ a ∧ a < 4294967296) (hb : 0 ≤ b ∧ b < 4294967296) (h : plB (intV a) = plB (intV b)) : a = b:=by
 have e1 : plB (intV a) = 2 :: intB (decide (a < 0)) (dg 4294967296 a.natAbs):=by simp [plB,intV]
 have e2 : plB (intV b) = 2 :: intB (decide (b < 0)) (dg 4294967296 b.natAbs):=by simp [plB,intV]
 rw [e1,e2,dg_small a ha,dg_small b hb] at h
 by_cases h0 : a = 0 <;> by_cases h1 : b = 0
 ·omega
 ·simp [h0,h1,intB] at h
 ·simp [h0,h1,intB] at h
 ·simp only [if_neg h0,if_neg h1,intB,List.length_cons,List.length_nil,List.cons_append,List.nil_append,List.cons.injEq,true_and] at h
  exact hdg_inj ha.1 hb.1 h.2
theorem bigG_ok {os : List Ob} {l : List Int} : ∀ (n i : Nat) (k : Int) (out : List Vl),i + n ≤ 1000 → okSd l k → out.length = i → KsOk os out → (∀ v ∈ out,∃ m : Int,v = intV m ∧ 0 ≤ m ∧ m < 3 * i) →
  KsOk os (bigG l n i k out).1 ∧ okSd l (bigG l n i k out).2 ∧ (bigG l n i k out).1.length = i + n
 | 0,i,k,out,_,h,hl,hk,_=>⟨hk,h,hl⟩
 | n + 1,i,k,out,hn,h,hl,hk,hm=>by
  have hx:=nxV_in l k (n:=2) (by omega)
  have hb:=okA_int ((i : Int) * 3 + nxV l k 2) (by omega)
  have:=bigG_ok (os:=os) (l:=l) n (i + 1) (nxK l k) (out ++ [intV ((i : Int) * 3 + nxV l k 2)]) (by omega) (nxK_ok h) (by simp [hl]) ?_ ?_
  ·exact ⟨this.1,this.2.1,by rw [bigG,this.2.2]; omega⟩
  ·obtain ⟨g1,g2,g3⟩:=hk
   refine ⟨fun x hx'=>?_,?_,by simp; omega⟩
   ·rcases List.mem_append.1 hx' with hx' | hx'
    ·exact g1 x hx'
    ·rw [List.mem_singleton.1 hx']
     refine ⟨okW_of (f:=0) (.inl hb),?_⟩
     rw [int_code _ (by omega)]
   ·rw [List.pairwise_append]
    refine ⟨g2,List.pairwise_singleton _ _,fun a ha b hb'=>?_⟩
    rw [List.mem_singleton.1 hb']
    obtain ⟨m,rfl,m0,m1⟩:=hm a ha
    rw [int_code _ (by omega),int_code _ (by omega)]
    intro he
    have:=plB_intV_inj (by omega) (by omega) he
    omega
  ·intro v hv
   rcases List.mem_append.1 hv with hv | hv
   ·obtain ⟨m,e,m0,m1⟩:=hm v hv
    exact ⟨m,e,m0,by omega⟩
   ·exact ⟨_,List.mem_singleton.1 hv,by omega,by omega⟩
theorem smG_ok {os : List Ob} {l : List Int} {f : Nat} : ∀ (n : Nat) (k : Int) (out : List Vl),out.length + n ≤ 1000 → okSd l k → KsOk os out → KsOk os (smG os l f n k out).1 ∧ okSd l (smG os l f n k out).2 ∧ (smG os l f n k out).1.length ≤ out.length + n
 | 0,k,out,_,h,hk=>⟨hk,h,by simp [smG]⟩
 | n + 1,k,out,hn,h,hk=>by
  have hv:=vaV_ok (n:=os.length) (f:=f) h
  unfold smG
  split
  ·rename_i hc
   have:=smG_ok (f:=f) n (vaK l k os.length f) (out ++ [vaV l k os.length f]) (by simp; omega) hv.2 (ksOk_snoc hk (okW_of hv.1) hc.1 hc.2 (by omega))
   exact ⟨this.1,this.2.1,by have:=this.2.2; simp at this; omega⟩
  ·have:=smG_ok (f:=f) n (vaK l k os.length f) out (by omega) hv.2 hk
   exact ⟨this.1,this.2.1,by have:=this.2.2; omega⟩
theorem ksOk_nil (os : List Ob) : KsOk os []:=⟨fun v hv=>(by cases hv),List.Pairwise.nil,Nat.zero_le _⟩
theorem ksF_ok {os : List Ob} {l : List Int} {k : Int} {f : Nat} (big : Bool) (h : okSd l k) : KsOk os (ksF os l k f big).1 ∧ okSd l (ksF os l k f big).2:=by
 unfold ksF
 have h1:=bigG_ok (os:=os) (l:=l) 1000 0 k [] (by omega) h rfl (ksOk_nil os) (fun v hv=>by cases hv)
 generalize bigG l 1000 0 k [] = R at *
 have hx:=nxV_in l k (n:=5) (by omega)
 have h2:=smG_ok (os:=os) (l:=l) (f:=f) (nxV l k 5).toNat (nxK l k) [] (by simp only [List.length_nil]; omega) (nxK_ok h) (ksOk_nil os)
 generalize smG os l f (nxV l k 5).toNat (nxK l k) [] = S at *
 cases big with
 | true=>exact ⟨h1.1,nxK_ok h1.2.1⟩
 | false=>exact ⟨h2.1,h2.2.1⟩
def ha8 : Cfg:=listT [(13,nextCT),(45,integerCT),(12,valueCT),(26,placeCT)] [39]
theorem ha8_ok : TblOk Try.prog ha8:=listE_ok (by simp only [List.mem_singleton,forall_eq]; exact flt) ⟨⟨h1t,h1t_ok,rfl⟩,⟨h2a,h2a_ok,rfl⟩,⟨h6a,h6a_ok,rfl⟩,⟨h9b,h9b_ok,rfl⟩,trivial⟩
attribute [go_sem] ha8
attribute [go_sem] valueCT
set_option maxRecDepth 100000 in
set_option maxHeartbeats 8000000 in
theorem keysOf_big (os : List Ob) (l : List Int) (k : Int) (f : Nat) (h : okSd l k) : RetG Try.prog 44 (sH l k) [.bx 0 0,.gt [.ln (.sl 10 (os.map obC))],.c (.i .i64 f),.c (.b true)] (sH l (ksF os l k f true).2) [.c (.sl 7 ((ksF os l k f true).1.map vC))]:=by
 have hR : ksF os l k f true = ((bigG l 1000 0 k []).1,nxK l (bigG l 1000 0 k []).2):=rfl
 rw [hR]
 generalize hB : bigG l 1000 0 k [] = R
 (refine ret_ge Try.func44 (fun F bs=>?_); simp only [avSl,ancs,hnx,Nat.reduceAdd,Nat.reduceLeDiff,if_true,if_false,List.length_cons,List.length_nil,List.cons_append,List.nil_append,Try.ntmps44,Try.results44])
 repeat' (first|with_reducible refine q_0 ?_|((with_reducible first|refine q_q ha8_ok fun K hK=>?_|refine q_r ha8_ok fun K hK=>?_);simp (maxSteps:=2000000) only [go_sem,↓reduceIte,reduceCtorEq,Nat.reduceLeDiff,Nat.reduceLT,Nat.reduceBEq,Nat.reduceAdd];(repeat1' with_reducible first|apply And.intro|(intro _;try exact q_v)|(refine hK _ ?_;clear hK K))<;>(try (clear hK K;exact q_u)))|(with_reducible refine q_s ?_;(first|apply q_J|apply q_K|apply q_L|apply q_M|apply q_N|apply q_O)<;>try (intro _;try exact q_v)))
 all_goals first | omega | skip
 refine q_G (ι:={ p : Nat × Int × List Vl // p.1 ≤ 1000 ∧ okSd l p.2.1 ∧ p.2.2.length = p.1 ∧ bigG l (1000 - p.1) p.1 p.2.1 p.2.2 = R }) (fun p=>⟨64,[(0,.bx 0 0),(3,.c (.b true)),(9,.own 2 0),(10,.c (.i .i64 p.1.1)),(1000,.anc 0 (bs 0))],⟨[(0,sB l p.1.2.1)],[(2,⟨0,34,7,.sl 7 (p.1.2.2.map vC)⟩)],[]⟩,3⟩) (fun p=>1000 - p.1.1) ⟨(0,k,[]),by simp,h,rfl,hB⟩ ?_ ?_
 ·exact q_D
 rintro ⟨⟨i,k',out⟩,g1,g2,g3,g4⟩
 simp only at g1 g2 g3 g4 ⊢
 have hx:=nxV_in l k' (n:=2) (by omega)
 repeat' (first|with_reducible refine q_0 ?_|((with_reducible first|refine q_q ha8_ok fun K hK=>?_|refine q_r ha8_ok fun K hK=>?_);simp (maxSteps:=2000000) only [go_sem,↓reduceIte,reduceCtorEq,Nat.reduceLeDiff,Nat.reduceLT,Nat.reduceBEq,Nat.reduceAdd,List.length_map];(repeat1' with_reducible first|apply And.intro|(intro _;try exact q_v)|(refine hK _ ?_;clear hK K))<;>(try (clear hK K;exact q_u)))|(with_reducible refine q_s ?_;(first|apply q_J|apply q_K|apply q_L|apply q_M|apply q_N|apply q_O)<;>try (intro _;try exact q_v)))
 all_goals first | omega | skip
 ·refine q_F ⟨(i + 1,nxK l k',out ++ [intV ((i : Int) * 3 + nxV l k' 2)]),by simp only; omega,nxK_ok g2,by simp [g3],by
   rw [← g4,show 1000 - i = (1000 - (i + 1)) + 1 by omega]; rfl⟩ ?_ ?_
  ·simp only [List.map_append,List.map_cons,List.map_nil,vC,intV]; exact q_D
  ·show 1000 - (i + 1) < 1000 - i
   omega
 ·obtain rfl : i = 1000:=by omega
  obtain rfl : R = (out,k'):=by rw [← g4]; rfl
  refine q_G (ι:=Unit) (fun _=>⟨64,[(0,.bx 0 0),(3,.c (.b true)),(9,.own 2 0),(11,.c (.i .i64 (nxV l k' 5))),(1000,.anc 0 (bs 0))],⟨[(0,sB l (nxK l k'))],[(2,⟨0,34,7,.sl 7 (out.map vC)⟩)],[]⟩,4⟩) (fun _=>0) () ?_ ?_
  ·exact q_D
  rintro ⟨⟩
  repeat' (first|with_reducible refine q_0 ?_|((with_reducible first|refine q_q ha8_ok fun K hK=>?_|refine q_r ha8_ok fun K hK=>?_);simp (maxSteps:=2000000) only [go_sem,↓reduceIte,reduceCtorEq,Nat.reduceLeDiff,Nat.reduceLT,Nat.reduceBEq,Nat.reduceAdd,List.length_map];(repeat1' with_reducible first|apply And.intro|(intro _;try exact q_v)|(refine hK _ ?_;clear hK K))<;>(try (clear hK K;exact q_u)))|(with_reducible refine q_s ?_;(first|apply q_J|apply q_K|apply q_L|apply q_M|apply q_N|apply q_O)<;>try (intro _;try exact q_v)))
  all_goals exact ends_g [(8,.c (.sl 7 (out.map vC)))] 5 (by exact q_D) rfl
set_option maxRecDepth 100000 in
set_option maxHeartbeats 8000000 in
theorem keysOf_small (os : List Ob) (l : List Int) (k : Int) (f : Nat) (hp : ∀ o ∈ os,Pr o) (ho : HOk os) (hf : f ≤ os.length) (h : okSd l k) : RetG Try.prog 44 (sH l k) [.bx 0 0,.gt [.ln (.sl 10 (os.map obC))],.c (.i .i64 f),.c (.b false)] (sH l (ksF os l k f false).2) [.c (.sl 7 ((ksF os l k f false).1.map vC))]:=by
 have hR : ksF os l k f false = smG os l f (nxV l k 5).toNat (nxK l k) []:=rfl
 rw [hR]
 have hx:=nxV_in l k (n:=5) (by omega)
 have hd:=dO_map hp
 have ho1:=ho.1
 generalize hB : smG os l f (nxV l k 5).toNat (nxK l k) [] = R
 (refine ret_ge Try.func44 (fun F bs=>?_); simp only [avSl,ancs,hnx,Nat.reduceAdd,Nat.reduceLeDiff,if_true,if_false,List.length_cons,List.length_nil,List.cons_append,List.nil_append,Try.ntmps44,Try.results44])
 repeat' (first|with_reducible refine q_0 ?_|((with_reducible first|refine q_q ha8_ok fun K hK=>?_|refine q_r ha8_ok fun K hK=>?_);simp (maxSteps:=2000000) only [go_sem,↓reduceIte,reduceCtorEq,Nat.reduceLeDiff,Nat.reduceLT,Nat.reduceBEq,Nat.reduceAdd];(repeat1' with_reducible first|apply And.intro|(intro _;try exact q_v)|(refine hK _ ?_;clear hK K))<;>(try (clear hK K;exact q_u)))|(with_reducible refine q_s ?_;(first|apply q_J|apply q_K|apply q_L|apply q_M|apply q_N|apply q_O)<;>try (intro _;try exact q_v)))
 all_goals first | omega | skip
 refine q_G (ι:=Unit) (fun _=>⟨64,[(0,.bx 0 0),(2,.c (.i .i64 f)),(3,.c (.b false)),(5,.bx 1 0),(9,.own 2 0),(10,.c (.i .i64 0)),(1000,.anc 0 (bs 0))],⟨[(0,sB l k),(1,[.ln (.sl 10 (os.map obC))])],[(2,⟨0,34,7,.sl 7 []⟩)],[]⟩,3⟩) (fun _=>0) () ?_ ?_
 ·exact q_D
 rintro ⟨⟩
 repeat' (first|with_reducible refine q_0 ?_|((with_reducible first|refine q_q ha8_ok fun K hK=>?_|refine q_r ha8_ok fun K hK=>?_);simp (maxSteps:=2000000) only [go_sem,↓reduceIte,reduceCtorEq,Nat.reduceLeDiff,Nat.reduceLT,Nat.reduceBEq,Nat.reduceAdd];(repeat1' with_reducible first|apply And.intro|(intro _;try exact q_v)|(refine hK _ ?_;clear hK K))<;>(try (clear hK K;exact q_u)))|(with_reducible refine q_s ?_;(first|apply q_J|apply q_K|apply q_L|apply q_M|apply q_N|apply q_O)<;>try (intro _;try exact q_v)))
 all_goals first | omega | skip
 refine q_G (ι:={ p : Nat × Int × List Vl // p.1 ≤ 4 ∧ okSd l p.2.1 ∧ p.2.2.length + p.1 ≤ 4 ∧ KsOk os p.2.2 ∧ smG os l f p.1 p.2.1 p.2.2 = R }) (fun p=>⟨64,[(0,.bx 0 0),(2,.c (.i .i64 f)),(3,.c (.b false)),(5,.bx 1 0),(9,.own 2 0),(11,.c (.i .i64 p.1.1)),(1000,.anc 0 (bs 0))],⟨[(0,sB l p.1.2.1),(1,[.ln (.sl 10 (os.map obC))])],[(2,⟨0,34,7,.sl 7 (p.1.2.2.map vC)⟩)],[]⟩,4⟩) (fun p=>p.1.1) ⟨((nxV l k 5).toNat,nxK l k,[]),by simp only; omega,nxK_ok h,by simp only [List.length_nil]; omega,ksOk_nil os,hB⟩ ?_ ?_
 ·simp only [Int.toNat_of_nonneg hx.1,List.map_nil]; exact q_D
 rintro ⟨⟨i,k',out⟩,g1,g2,g3,g4,g5⟩
 simp only at g1 g2 g3 g4 g5 ⊢
 have hv:=vaV_ok (n:=os.length) (f:=f) g2
 have hw:=okW_of hv.1
 have hdv:=dV_map out
 have hkk : ∀ x ∈ out,OkW os.length x:=fun x hx=>(g4.1 x hx).1
 cases i with
 | zero =>
  obtain rfl : R = (out,k'):=g5.symm
  repeat' (first|with_reducible refine q_0 ?_|((with_reducible first|refine q_q ha8_ok fun K hK=>?_|refine q_r ha8_ok fun K hK=>?_);simp (maxSteps:=2000000) only [go_sem,↓reduceIte,reduceCtorEq,Nat.reduceLeDiff,Nat.reduceLT,Nat.reduceBEq,Nat.reduceAdd];(repeat1' with_reducible first|apply And.intro|(intro _;try exact q_v)|(refine hK _ ?_;clear hK K))<;>(try (clear hK K;exact q_u)))|(with_reducible refine q_s ?_;(first|apply q_J|apply q_K|apply q_L|apply q_M|apply q_N|apply q_O)<;>try (intro _;try exact q_v)))
  all_goals first | omega | exact ends_g [(8,.c (.sl 7 (out.map vC)))] 5 (by exact q_D) rfl | skip
 | succ i =>
  have g6:=g5
  simp only [smG] at g6
  generalize hvv : vaV l k' os.length f = v at hv hw g6
  obtain ⟨xk,xa,xx,xb,xy,xt,xr⟩:=v
  generalize hpl : plO os out ⟨xk,xa,xx,xb,xy,xt,xr⟩ = pl at g6
  obtain ⟨pa,pc,pi⟩:=pl
  simp only at g6
  repeat' (first|with_reducible refine q_0 ?_|((with_reducible first|refine q_q ha8_ok fun K hK=>?_|refine q_r ha8_ok fun K hK=>?_);simp (maxSteps:=2000000) only [go_sem,↓reduceIte,reduceCtorEq,Nat.reduceLeDiff,Nat.reduceLT,Nat.reduceBEq,Nat.reduceAdd,List.length_map,hvv,hd,hdv,hpl];(repeat1' with_reducible first|apply And.intro|(intro _;try exact q_v)|(refine hK _ ?_;clear hK K))<;>(try (clear hK K;exact q_u)))|(with_reducible refine q_s ?_;(first|apply q_J|apply q_K|apply q_L|apply q_M|apply q_N|apply q_O)<;>try (intro _;try exact q_v)))
  all_goals first | omega | exact hp _ (by assumption) | exact hkk _ (by assumption) | skip
  ·rename_i e1 e2
   rw [if_pos ⟨e1,e2⟩] at g6
   refine q_F ⟨(i,vaK l k' os.length f,out ++ [⟨xk,xa,xx,xb,xy,xt,xr⟩]),by simp only; omega,hv.2,by simp only [List.length_append,List.length_cons,List.length_nil]; omega,ksOk_snoc g4 hw (by rw [hpl]; exact e1) (by rw [hpl]; exact e2) (by omega),g6⟩ ?_ (Nat.lt_succ_self i)
   simp only [List.map_append,List.map_cons,List.map_nil,vC]; exact q_D
  ·rename_i e1 e2
   rw [if_neg (fun e=>e2 e.2)] at g6
   refine q_F ⟨(i,vaK l k' os.length f,out),by simp only; omega,hv.2,by simp only; omega,g4,g6⟩ ?_ (Nat.lt_succ_self i)
   exact q_D
  ·rename_i e1
   rw [if_neg (fun e=>e1 e.1)] at g6
   refine q_F ⟨(i,vaK l k' os.length f,out),by simp only; omega,hv.2,by simp only; omega,g4,g6⟩ ?_ (Nat.lt_succ_self i)
   exact q_D
def keysOfCT : CT:=mkCTG fun H al K=>match H,al with
 | ⟨[(0,[.c (.ints .i64 l),.c (.i .i64 k)])],[],[]⟩,[.bx 0 0,.gt [.ln (.sl 10 rows)],.c (.i .i64 f),.c (.b g)]=>(okSd l k ∧ rows = (dO rows).map obC ∧ (∀ o ∈ dO rows,Pr o) ∧ HOk (dO rows) ∧ 0 ≤ f ∧ f.toNat ≤ (dO rows).length) ∧ (okSd l (ksF (dO rows) l k f g).2 → KsOk (dO rows) (ksF (dO rows) l k f g).1 → K (sH l (ksF (dO rows) l k f g).2) [.c (.sl 7 ((ksF (dO rows) l k f g).1.map vC))])
 | _,_=>False
def h10a : Cfg:=addT 44 keysOfCT cf0
theorem h10a_ok : TblOk Try.prog h10a:=ctg_ok cf0_ok Try.func44 fun H al K h=>by
 split at h
 ·rename_i l k rows f g
  obtain ⟨⟨h1,h2,h3,h4,h5,h6⟩,hK⟩:=h
  have t:=ksF_ok (os:=dO rows) (f:=f.toNat) g h1
  rw [Int.toNat_of_nonneg h5] at t
  refine ⟨_,_,?_,hK t.2 t.1⟩
  conv=>arg 4; rw [h2]
  cases g with
  | true=>have:=keysOf_big (dO rows) l k f.toNat h1; rw [Int.toNat_of_nonneg h5] at this; exact this
  | false=>have:=keysOf_small (dO rows) l k f.toNat h3 h4 h6 h1; rw [Int.toNat_of_nonneg h5] at this; exact this
 ·exact h.elim
attribute [go_sem] keysOfCT
end Go.Proofs.Ytncededjmcmidaa

namespace Go.Abs
set_option linter.unusedSimpArgs false
set_option linter.unusedVariables false
open Go.RowKit
variable {P : Program} {F : Fr} {Q : Exit → St → Prop}

theorem box_later {H : Hp} {m : Mp} {w : World} (l : List (Nat × List AV)) : Later F H m w { H with box:=l } m w :=
 ⟨fun _ hS _=>⟨hS,rfl⟩,fun _ _ h=>h,fun _ B hB=>⟨B,hB,Nat.le_refl _,fun _=>⟨fun _ h=>h,rfl⟩⟩,fun _ B hB=>⟨B,hB,rfl⟩⟩
theorem box_tell {H : Hp} {m : Mp} {w : World} (h : HRep F H m w) {b : Nat} {cs : List AV} (hb : look H.box b = some cs) (hm : isM cs = false) {j : Nat} {x y : AV} (hx : cs[j]? = some x)
  (hy : ∀ u,oneCell u = true → RepA F H m w x u → RepA F H m w y u) : HRep F { H with box:=(b,cs.set j y) :: H.box } m w:=by
 have hl : Later F H m w { H with box:=(b,cs.set j y) :: H.box } m w:=box_later _
 refine ⟨h.os,h.tape,h.output,h.size,h.block,h.fresh,h.gB,h.brB,h.bri,h.ibb,h.ibf,h.iff,?_,?_,?_⟩
 ·intro i k hi
  obtain ⟨cs',h1,h2⟩:=h.box i k hi
  by_cases he : b = i
  ·subst he
   rw [hb] at h1; cases h1
   refine ⟨cs.set j y,by simp [look],?_⟩
   obtain ⟨arr,e,g1,g2,g3⟩:=h2.cells hm
   refine BoxIs.of g1 (by simpa using g2) fun q x' u hx' hu=>?_
   by_cases hq : j = q
   ·subst hq
    have hlt:=(List.getElem?_eq_some_iff.1 hx).1
    rw [List.getElem?_set_self hlt] at hx'
    cases hx'
    obtain ⟨k1,k2⟩:=g3 j x u hx hu
    exact ⟨k1,hl.rep (hy u k1 k2)⟩
   ·rw [List.getElem?_set_ne hq] at hx'
    obtain ⟨k1,k2⟩:=g3 q x' u hx' hu
    exact ⟨k1,hl.rep k2⟩
  ·have hne : (b == i) = false:=by simpa using he
   exact ⟨cs',by simp only [look,hne,Bool.false_eq_true,if_false]; exact h1,h2.mono hl rfl⟩
 ·intro i v hv
  obtain ⟨B,rs,xs,h1,h2⟩:=h.buf i v hv
  exact ⟨B,rs,xs,h1,h2⟩
 ·intro k v hv
  obtain ⟨B,rs,xs,h1,h2⟩:=h.bor k v hv
  exact ⟨B,rs,xs,h1,h2⟩
def St.cell (st : St) (b : Nat) (cs : List AV) (j : Nat) (y : AV) : St:={ st with H:={ st.H with box:=(b,cs.set j y) :: st.H.box } }
theorem st_cell {st : St} {m : Mp} {a : Act} {w : World} (hs : StRep F st m a w) {b : Nat} {cs : List AV} (hb : look st.H.box b = some cs) (hm : isM cs = false) {j : Nat} {x y : AV} (hx : cs[j]? = some x)
  (hy : ∀ u,oneCell u = true → RepA F st.H m w x u → RepA F st.H m w y u) : StRep F (st.cell b cs j y) m a w :=
 ⟨hs.d,hs.sz,box_tell hs.h hb hm hx hy,hs.fr,fun t=>(box_later _).rep (hs.sl t)⟩
def St.slot (st : St) (t : Nat) (y : AV) : St:={ st with sl:=(t,y) :: st.sl }
theorem st_slot {st : St} {m : Mp} {a : Act} {w : World} (hs : StRep F st m a w) {t : Nat} {y : AV} (hy : ∀ u,RepA F st.H m w (st.get t) u → RepA F st.H m w y u) : StRep F (st.slot t y) m a w :=
 ⟨hs.d,hs.sz,hs.h,hs.fr,fun q=>by
  by_cases h : t = q
  ·subst h
   have : (st.slot t y).get t = y:=by simp [St.get,St.slot,look]
   rw [this]; exact hy _ (hs.sl t)
  ·have hne : (t == q) = false:=by simpa using h
   have : (st.slot t y).get q = st.get q:=by simp only [St.get,St.slot,look,hne,Bool.false_eq_true,if_false]
   rw [this]; exact hs.sl q⟩
def LkV (B : Buf) (v : Value) : Prop:=oneCell v = true ∧ ∀ n,B.con.len = some n → ∃ p cap,v = .slice p n cap ∧ (n ≠ 0 → ∃ g,p = some ⟨g,0,none⟩)
theorem awp_lk {c : Code} {st : St} (g t b j id ver : Nat) {off : Nat} {cs : List AV} {B : Buf} (ht : st.get t = .bx b off) (hb : look st.H.box b = some cs) (hm : isM cs = false) (hx : cs[j]? = some (.own id ver)) (hB : curB st.H id ver = some B)
  (k : ∀ v,LkV B v → AWp P F c Q ((st.cell b cs j (.c (.a v))).slot g (.lk id ver v))) : AWp P F c Q st:=by
 intro m a w hs
 have h1:=hs.sl t
 rw [ht] at h1
 obtain ⟨k0,hk0,_⟩:=h1
 obtain ⟨cs',g1,g2⟩:=hs.h.box b k0 hk0
 rw [hb] at g1; cases g1
 obtain ⟨arr,e,g3,g4,g5⟩:=g2.cells hm
 have hlt:=(List.getElem?_eq_some_iff.1 hx).1
 have ha : arr[j]? = some (arr[j]'(by omega)):=Array.getElem?_eq_getElem _
 obtain ⟨o1,o2⟩:=g5 j _ _ hx ha
 obtain ⟨hB1,hB2⟩:=curB_spec hB
 obtain ⟨rs,xs,hbf,hrows,hz0,hr,hown,hrd⟩:=own_slice hs.h hB1 hB2 o2
 generalize arr[j]'(by omega) = v at *
 have hv : LkV B v:=by
  refine ⟨o1,fun n hn=>?_⟩
  have hl:=(rows_z hrows).2
  rw [hn] at hl; simp at hl; subst hl
  obtain ⟨p,cap,h1,_,_,h2⟩:=ownsRow_val hown
  exact ⟨p,cap,h1,fun h0=>let ⟨g,hg,_⟩:=h2 h0; ⟨g,hg⟩⟩
 refine k v hv m a w (st_slot (st_cell hs hb hm hx fun u hu ho=>?_) fun u _=>?_)
 ·obtain ⟨_,B',hB',_,hf⟩:=ho
  rw [hB1] at hB'; cases hB'
  have:=hf hB2
  rw [hbf] at this; cases this
  exact Rd.a _ hu
 ·exact ⟨o1,B,hB1,by omega,fun _=>hbf⟩
theorem lk_bf {st : St} {m : Mp} {a : Act} {w : World} (hs : StRep F st m a w) {g id ver : Nat} {v : Value} {B : Buf} (hg : st.get g = .lk id ver v) (hB : curB st.H id ver = some B) : oneCell v = true ∧ look st.H.buf id = some B ∧ B.ver = ver ∧ m.bf id = some v:=by
 have h1:=hs.sl g
 rw [hg] at h1
 obtain ⟨o1,B',hB',_,hf⟩:=h1
 obtain ⟨hB1,hB2⟩:=curB_spec hB
 rw [hB1] at hB'; cases hB'
 exact ⟨o1,hB1,hB2,hf hB2⟩
theorem awp_unlk {c : Code} {st : St} (g b j id ver : Nat) {v : Value} {cs : List AV} {B : Buf} (hg : st.get g = .lk id ver v) (hb : look st.H.box b = some cs) (hm : isM cs = false) (hx : cs[j]? = some (.c (.a v))) (hB : curB st.H id ver = some B)
  (k : AWp P F c Q (st.cell b cs j (.own id ver))) : AWp P F c Q st:=by
 intro m a w hs
 obtain ⟨o1,o2,o3,o4⟩:=lk_bf hs hg hB
 refine k m a w (st_cell hs hb hm hx fun u hu hr=>?_)
 obtain rfl:=rd_a hr
 exact ⟨o1,B,o2,by omega,fun _=>o4⟩
theorem fit_oel {st : St} (t g id ver : Nat) {gb k i off n cap : Nat} {B : Buf} (hg : st.get g = .lk id ver (.slice (some ⟨gb,0,none⟩) n cap)) (ht : st.get t = .c (.a (.pointer (some ⟨gb,k,none⟩)))) (hB : curB st.H id ver = some B) (hk : k = i * B.z + off) (hi : i < n) :
  Fit st (st.slot t (.oel id ver i off)):=by
 intro F m a w hs
 obtain ⟨o1,o2,o3,o4⟩:=lk_bf hs hg hB
 refine ⟨m,st_slot hs fun u hu=>?_⟩
 rw [ht] at hu
 obtain rfl:=rd_a hu
 exact ⟨⟨_,_,rfl⟩,B,o2,by omega,fun _=>⟨gb,n,cap,o4,hi,by rw [hk]⟩⟩
theorem awp_unlk_row {c : Code} {st : St} (g idH id ver i j : Nat) {v : Value} {BH B : Buf} {z : Nat} {rows : List (List C)} {row : List C} (hg : st.get g = .lk id ver v) (hH : look st.H.buf idH = some BH) (hB : curB st.H id ver = some B) (hne : id ≠ idH)
  (hc : BH.con = .sl z rows) (hz : BH.z = z) (hrow : rows[i]? = some row) (hj : row[j]? = some (.a v))
  (k : AWp P F c Q { st with sl:=(g,.u) :: st.sl,H:={ st.H with buf:=(idH,{ BH with con:=.sl z (rows.set i (row.set j B.con)) }) :: (id,{ B with ver:=ver + 1 }) :: st.H.buf } }) : AWp P F c Q st:=by
 intro m a w hs
 obtain ⟨o1,o2,o3,o4⟩:=lk_bf hs hg hB
 obtain ⟨h1,l1,r1⟩:=hs.h.dropBuf (H':={ st.H with buf:=(id,{ B with ver:=ver + 1 }) :: st.H.buf }) (B':={ B with ver:=ver + 1 }) o4 o2 (by simp only; omega) (look_add ..) (fun i hi=>look_add_ne _ _ _ _ hi) rfl rfl
 have hHne : look ((id,{ B with ver:=ver + 1 }) :: st.H.buf) idH = some BH:=by
  have : (id == idH) = false:=by simpa using hne
  simp only [look,this,Bool.false_eq_true,if_false]; exact hH
 have l2 : Later F { st.H with buf:=(id,{ B with ver:=ver + 1 }) :: st.H.buf } (m.addBf id none) w { st.H with buf:=(idH,{ BH with con:=.sl z (rows.set i (row.set j B.con)) }) :: (id,{ B with ver:=ver + 1 }) :: st.H.buf } (m.addBf id none) w:=by
  refine ⟨fun _ hS _=>⟨hS,rfl⟩,fun _ _ h=>h,fun q B' hB'=>?_,fun _ B hB=>⟨B,hB,rfl⟩⟩
  by_cases hq : idH = q
  ·subst hq
   have hB'' : look ((id,{ B with ver:=ver + 1 }) :: st.H.buf) idH = some B':=hB'
   rw [hHne] at hB''; cases hB''
   exact ⟨{ BH with con:=.sl z (rows.set i (row.set j B.con)) },look_add ..,Nat.le_refl _,fun _=>⟨fun _ h=>h,rfl⟩⟩
  ·have hne' : (idH == q) = false:=by simpa using hq
   exact ⟨B',by simp only [look,hne',Bool.false_eq_true,if_false]; exact hB',Nat.le_refl _,fun _=>⟨fun _ h=>h,rfl⟩⟩
 have h2 : HRep F { st.H with buf:=(idH,{ BH with con:=.sl z (rows.set i (row.set j B.con)) }) :: (id,{ B with ver:=ver + 1 }) :: st.H.buf } (m.addBf id none) w:=by
  refine ⟨h1.os,h1.tape,h1.output,h1.size,h1.block,h1.fresh,h1.gB,h1.brB,h1.bri,h1.ibb,h1.ibf,h1.iff,?_,?_,?_⟩
  ·intro q b hq
   obtain ⟨cs,e1,e2⟩:=h1.box q b hq
   exact ⟨cs,e1,e2.mono l2 rfl⟩
  ·intro q u hu
   obtain ⟨B',rs,xs,e1,e2,e3,e4,e5,e6⟩:=h1.buf q u hu
   by_cases hq : idH = q
   ·subst hq
    have e1' : look ((id,{ B with ver:=ver + 1 }) :: st.H.buf) idH = some B':=e1
    rw [hHne] at e1'; cases e1'
    rw [hc,hz] at e2
    simp only [C.rows,Option.some.injEq,Prod.mk.injEq,true_and] at e2
    subst e2
    refine ⟨{ BH with con:=.sl z (rows.set i (row.set j B.con)) },rows.set i (row.set j B.con),xs,look_add ..,by rw [hz]; rfl,e3,?_,by simpa using e5,?_⟩
    ·intro r hr
     rcases List.mem_or_eq_of_mem_set hr with hr | rfl
     ·exact e4 r hr
     ·rw [List.length_set]; exact e4 row (List.mem_of_getElem? hrow)
    ·intro p q y hy
     unfold at2 at hy
     by_cases hp : i = p
     ·subst hp
      have hlt:=(List.getElem?_eq_some_iff.1 hrow).1
      rw [List.getElem?_set_self hlt] at hy
      simp only [Option.bind_some] at hy
      by_cases hq : j = q
      ·subst hq
       have hlt2:=(List.getElem?_eq_some_iff.1 hj).1
       rw [List.getElem?_set_self hlt2] at hy
       cases hy
       obtain ⟨u',hu',hr'⟩:=e6 i j (.a v) (by simp [at2,hrow,hj])
       obtain rfl:=rd_a hr'
       exact ⟨_,hu',r1⟩
      ·rw [List.getElem?_set_ne hq] at hy
       exact e6 i q y (by simp [at2,hrow,hy])
     ·rw [List.getElem?_set_ne hp] at hy
      exact e6 p q y hy
   ·have hne' : (idH == q) = false:=by simpa using hq
    exact ⟨B',rs,xs,by simp only [look,hne',Bool.false_eq_true,if_false]; exact e1,e2,e3,e4,e5,e6⟩
  ·intro q u hu
   obtain ⟨B',rs,xs,e1,e2⟩:=h1.bor q u hu
   exact ⟨B',rs,xs,e1,e2⟩
 refine k (m.addBf id none) a w ⟨hs.d,hs.sz,h2,fun q hq=>?_,fun q=>?_⟩
 ·obtain ⟨f1,f2⟩:=hs.fr q hq
  refine ⟨f1,?_⟩
  simp only [Mp.addBf]
  split
  ·rfl
  ·exact f2
 ·by_cases hq : g = q
  ·subst hq
   simp only [St.get,look,beq_self_eq_true,if_true]
   trivial
  ·have hne' : (g == q) = false:=by simpa using hq
   have : St.get { st with sl:=(g,.u) :: st.sl,H:={ st.H with buf:=(idH,{ BH with con:=.sl z (rows.set i (row.set j B.con)) }) :: (id,{ B with ver:=ver + 1 }) :: st.H.buf } } q = st.get q:=by
    simp only [St.get,look,hne',Bool.false_eq_true,if_false]
   rw [this]
   exact l2.rep (l1.rep (hs.sl q))
def relL : List C → List C → Prop
 | [],[]=>True
 | c :: cs,c' :: cs'=>(c = c' ∨ (c = .nil ∧ c'.rows = some (c'.z,[]))) ∧ relL cs cs'
 | _,_=>False
theorem relL_len : ∀ {a b : List C},relL a b → a.length = b.length
 | [],[],_=>rfl
 | _ :: _,_ :: _,h=>by simp [relL_len h.2]
theorem relL_get : ∀ {a b : List C} {j : Nat} {y : C},relL a b → b[j]? = some y → ∃ x,a[j]? = some x ∧ (x = y ∨ (x = .nil ∧ y.rows = some (y.z,[])))
 | c :: cs,c' :: cs',0,y,h,hy=>by simp at hy; subst hy; exact ⟨c,rfl,h.1⟩
 | c :: cs,c' :: cs',j + 1,y,h,hy=>by simpa using relL_get h.2 (by simpa using hy)
 | [],[],j,y,h,hy=>by simp at hy
theorem awp_last_nil {c : Code} {st : St} (idH : Nat) {BH : Buf} {z : Nat} {A : List (List C)} {row row' : List C} (hH : look st.H.buf idH = some BH) (hc : BH.con = .sl z (A ++ [row])) (hz : BH.z = z) (hr : relL row row')
  (k : AWp P F c Q { st with H:={ st.H with buf:=(idH,{ BH with con:=.sl z (A ++ [row']) }) :: st.H.buf } }) : AWp P F c Q st:=by
 intro m a w hs
 have l2 : Later F st.H m w { st.H with buf:=(idH,{ BH with con:=.sl z (A ++ [row']) }) :: st.H.buf } m w:=by
  refine ⟨fun _ hS _=>⟨hS,rfl⟩,fun _ _ h=>h,fun q B' hB'=>?_,fun _ B hB=>⟨B,hB,rfl⟩⟩
  by_cases hq : idH = q
  ·subst hq
   rw [hH] at hB'; cases hB'
   exact ⟨{ BH with con:=.sl z (A ++ [row']) },look_add ..,Nat.le_refl _,fun _=>⟨fun _ h=>h,rfl⟩⟩
  ·have hne' : (idH == q) = false:=by simpa using hq
   exact ⟨B',by simp only [look,hne',Bool.false_eq_true,if_false]; exact hB',Nat.le_refl _,fun _=>⟨fun _ h=>h,rfl⟩⟩
 have h1:=hs.h
 refine k m a w ⟨hs.d,hs.sz,⟨h1.os,h1.tape,h1.output,h1.size,h1.block,h1.fresh,h1.gB,h1.brB,h1.bri,h1.ibb,h1.ibf,h1.iff,?_,?_,?_⟩,hs.fr,fun t=>l2.rep (hs.sl t)⟩
 ·intro q b hq
  obtain ⟨cs,e1,e2⟩:=h1.box q b hq
  exact ⟨cs,e1,e2.mono l2 rfl⟩
 ·intro q u hu
  obtain ⟨B',rs,xs,e1,e2,e3,e4,e5,e6⟩:=h1.buf q u hu
  by_cases hq : idH = q
  ·subst hq
   rw [hH] at e1; cases e1
   rw [hc,hz] at e2
   simp only [C.rows,Option.some.injEq,Prod.mk.injEq,true_and] at e2
   subst e2
   refine ⟨{ BH with con:=.sl z (A ++ [row']) },A ++ [row'],xs,look_add ..,by rw [hz]; rfl,e3,?_,by simpa using e5,?_⟩
   ·intro r hr'
    rcases List.mem_append.1 hr' with hr' | hr'
    ·exact e4 r (List.mem_append_left _ hr')
    ·rw [List.mem_singleton.1 hr',← relL_len hr]; exact e4 row (by simp)
   ·intro p q y hy
    unfold at2 at hy
    rcases Nat.lt_trichotomy p A.length with hp | hp | hp
    ·rw [List.getElem?_append_left hp] at hy
     exact e6 p q y (by unfold at2; rw [List.getElem?_append_left hp]; exact hy)
    ·subst hp
     rw [List.getElem?_append_right (Nat.le_refl _)] at hy
     simp only [Nat.sub_self,List.getElem?_cons_zero,Option.bind_some] at hy
     obtain ⟨x,hx,hxy⟩:=relL_get hr hy
     obtain ⟨u',hu',hr'⟩:=e6 A.length q x (by unfold at2; rw [List.getElem?_append_right (Nat.le_refl _)]; simpa using hx)
     refine ⟨u',hu',?_⟩
     rcases hxy with rfl | ⟨rfl,hy2⟩
     ·exact hr'
     ·have:=rd_nil hr'
      subst this
      exact .emp _ _ none 0 hy2 (fun _=>rfl)
    ·rw [List.getElem?_eq_none (by simp; omega)] at hy
     cases hy
  ·have hne' : (idH == q) = false:=by simpa using hq
   exact ⟨B',rs,xs,by simp only [look,hne',Bool.false_eq_true,if_false]; exact e1,e2,e3,e4,e5,e6⟩
 ·intro q u hu
  obtain ⟨B',rs,xs,e1,e2⟩:=h1.bor q u hu
  exact ⟨B',rs,xs,e1,e2⟩
theorem awp_ghost {c : Code} {st : St} (g id : Nat) (e : TypeId) (z : Nat) (hz : 0 < z) (hn : st.nx ≤ id) (hb : look st.H.buf id = none)
  (k : AWp P F c Q { st with sl:=(g,.lk id 0 (.slice none 0 0)) :: st.sl,H:=st.H.addBuf id ⟨0,e,z,.sl z []⟩,nx:=id + 1 }) : AWp P F c Q st:=by
 intro m a w hs
 obtain ⟨g1,g2⟩:=hs.h.bufStep (id:=id) (row:=none) (B':=⟨0,e,z,.sl z []⟩) (v':=.slice none 0 0) (rs:=[]) (xs:=[]) (H':=st.H.addBuf id ⟨0,e,z,.sl z []⟩) (w':=w) ⟨rfl,rfl,rfl,Nat.le_refl _,fun _ _ _=>rfl⟩ (fun g hg=>by cases hg)
  (fun g hg=>by simp [Value.ownBlock] at hg) (fun B hB=>by rw [hb] at hB; cases hB) (look_add ..) (fun i hi=>look_add_ne _ _ _ _ hi) rfl rfl rfl hz (by simp) (World.ownsR_nil w 0 e z) (fun i j y hy=>by simp [at2] at hy)
 refine k (m.addBf id (some (.slice none 0 0))) a w ⟨hs.d,hs.sz,g1,fun i hi=>?_,fun t=>?_⟩
 ·obtain ⟨f1,f2⟩:=hs.fr i (by have hi : id + 1 ≤ i:=hi; omega)
  refine ⟨f1,?_⟩
  simp only [Mp.addBf]
  split
  ·have hi : id + 1 ≤ i:=hi
   omega
  ·exact f2
 ·by_cases ht : g = t
  ·subst ht
   simp only [St.get,look,beq_self_eq_true,if_true]
   exact ⟨rfl,_,look_add ..,Nat.le_refl _,fun _=>by simp [Mp.addBf]⟩
  ·have hne : (g == t) = false:=by simpa using ht
   have : St.get { st with sl:=(g,.lk id 0 (.slice none 0 0)) :: st.sl,H:=st.H.addBuf id ⟨0,e,z,.sl z []⟩,nx:=id + 1 } t = st.get t:=by
    simp only [St.get,look,hne,Bool.false_eq_true,if_false]
   rw [this]
   exact g2.rep (hs.sl t)
attribute [go_sem] relL
attribute [go_sem] St.cell St.slot List.set_cons_zero List.set_cons_succ
end Go.Abs

namespace Go.Proofs.Ytncededjmcmidaa
set_option linter.unusedSimpArgs false
set_option linter.unusedVariables false
open Go.Abs Go.Proofs.NatL

def nm49 : List ByteArray:=[⟨#[111,98,106,101,99,116]⟩,⟨#[99,108,97,115,115]⟩,⟨#[110,105,108,95,116,121,112,101]⟩,⟨#[98,111,111,108]⟩,⟨#[105,110,116]⟩,⟨#[114,97,116,105,111]⟩,⟨#[116,101,120,116]⟩,⟨#[98,121,116,101,115]⟩,⟨#[116,117,112,108,101]⟩,⟨#[108,105,115,116]⟩,⟨#[100,105,99,116]⟩,⟨#[115,101,116]⟩,⟨#[114,97,110,103,101]⟩,⟨#[99,101,108,108]⟩,⟨#[102,117,110,99,116,105,111,110]⟩,⟨#[98,117,105,108,116,105,110]⟩,⟨#[109,101,116,104,111,100]⟩,⟨#[109,111,100,117,108,101]⟩,⟨#[112,114,111,112,101,114,116,121]⟩,⟨#[115,116,97,116,105,99]⟩,⟨#[99,108,97,115,115,95,109,101,116,104,111,100]⟩,⟨#[115,117,112,101,114,95,116,121,112,101]⟩,⟨#[105,116,101,114,97,116,111,114]⟩,⟨#[103,101,110,101,114,97,116,111,114]⟩,⟨#[119,101,97,107]⟩,⟨#[116,97,115,107]⟩,⟨#[116,105,109,101,114]⟩,⟨#[112,97,115,115,95,116,121,112,101]⟩,⟨#[82,97,105,115,101,100]⟩,⟨#[69,120,105,116]⟩,⟨#[67,97,110,99,101,108]⟩,⟨#[69,114,114,111,114]⟩,⟨#[84,121,112,101,69,114,114,111,114]⟩,⟨#[86,97,108,117,101,69,114,114,111,114]⟩,⟨#[78,97,109,101,69,114,114,111,114]⟩,⟨#[85,110,98,111,117,110,100,69,114,114,111,114]⟩,⟨#[65,116,116,114,105,98,117,116,101,69,114,114,111,114]⟩,⟨#[76,111,111,107,117,112,69,114,114,111,114]⟩,⟨#[73,110,100,101,120,69,114,114,111,114]⟩,⟨#[75,101,121,69,114,114,111,114]⟩,⟨#[65,114,105,116,104,109,101,116,105,99,69,114,114,111,114]⟩,⟨#[68,105,118,105,115,105,111,110,69,114,114,111,114]⟩,⟨#[76,105,109,105,116,69,114,114,111,114]⟩,⟨#[82,101,99,117,114,115,105,111,110,69,114,114,111,114]⟩,⟨#[65,115,115,101,114,116,105,111,110,69,114,114,111,114]⟩,⟨#[73,109,112,111,114,116,69,114,114,111,114]⟩,⟨#[83,116,111,112,69,114,114,111,114]⟩,⟨#[83,116,97,116,101,69,114,114,111,114]⟩,⟨#[71,114,111,117,112,69,114,114,111,114]⟩]
def nmI (i : Nat) : ByteArray:=nm49.getD i ByteArray.empty
def baF (t : ByteArray) (i : Int) : ByteArray :=
 if (t.toList == (⟨#[69,120,105,116]⟩ : ByteArray).toList) = true then ⟨#[82,97,105,115,101,100]⟩ else
 if (t.toList == (⟨#[67,97,110,99,101,108]⟩ : ByteArray).toList) = true then ⟨#[82,97,105,115,101,100]⟩ else
 if (t.toList == (⟨#[69,114,114,111,114]⟩ : ByteArray).toList) = true then ⟨#[82,97,105,115,101,100]⟩ else
 if (t.toList == (⟨#[85,110,98,111,117,110,100,69,114,114,111,114]⟩ : ByteArray).toList) = true then ⟨#[78,97,109,101,69,114,114,111,114]⟩ else
 if (t.toList == (⟨#[73,110,100,101,120,69,114,114,111,114]⟩ : ByteArray).toList) = true then ⟨#[76,111,111,107,117,112,69,114,114,111,114]⟩ else
 if (t.toList == (⟨#[75,101,121,69,114,114,111,114]⟩ : ByteArray).toList) = true then ⟨#[76,111,111,107,117,112,69,114,114,111,114]⟩ else
 if (t.toList == (⟨#[68,105,118,105,115,105,111,110,69,114,114,111,114]⟩ : ByteArray).toList) = true then ⟨#[65,114,105,116,104,109,101,116,105,99,69,114,114,111,114]⟩ else
 if (t.toList == (⟨#[82,101,99,117,114,115,105,111,110,69,114,114,111,114]⟩ : ByteArray).toList) = true then ⟨#[76,105,109,105,116,69,114,114,111,114]⟩ else
 if 31 < i then ⟨#[69,114,114,111,114]⟩ else ⟨#[111,98,106,101,99,116]⟩
set_option maxRecDepth 100000 in
set_option maxHeartbeats 4000000 in
theorem names_ret : Ret Try.prog 68 false [] (.c (.sl 1 (nm49.map fun t=>[.str t]))):=by
 (refine q_H Try.func68 (fun F=>?_); simp only [q_z,q_y,Try.ntmps68,Try.results68])
 repeat' (first|with_reducible refine q_0 ?_|((with_reducible first|refine q_q cf0_ok fun K hK=>?_|refine q_r cf0_ok fun K hK=>?_);simp (maxSteps:=2000000) only [go_sem,↓reduceIte,reduceCtorEq,Nat.reduceLeDiff,Nat.reduceLT,Nat.reduceBEq,Nat.reduceAdd];(repeat1' with_reducible first|apply And.intro|(intro _;try exact q_v)|(refine hK _ ?_;clear hK K))<;>(try (clear hK K;exact q_u)))|(with_reducible refine q_s ?_;(first|apply q_J|apply q_K|apply q_L|apply q_M|apply q_N|apply q_O)<;>try (intro _;try exact q_v)))
 all_goals exact q_A rfl
set_option maxRecDepth 100000 in
set_option maxHeartbeats 4000000 in
theorem base_ret (t : ByteArray) (i : Int) : Ret Try.prog 69 false [.inl (.str t),.inl (.i .i64 i)] (.c (.str (baF t i))):=by
 (refine q_H Try.func69 (fun F=>?_); simp only [q_z,q_y,Try.ntmps69,Try.results69])
 repeat' (first|with_reducible refine q_0 ?_|((with_reducible first|refine q_q cf0_ok fun K hK=>?_|refine q_r cf0_ok fun K hK=>?_);simp (maxSteps:=2000000) only [go_sem,↓reduceIte,reduceCtorEq,Nat.reduceLeDiff,Nat.reduceLT,Nat.reduceBEq,Nat.reduceAdd];(repeat1' with_reducible first|apply And.intro|(intro _;try exact q_v)|(refine hK _ ?_;clear hK K))<;>(try (clear hK K;exact q_u)))|(with_reducible refine q_s ?_;(first|apply q_J|apply q_K|apply q_L|apply q_M|apply q_N|apply q_O)<;>try (intro _;try exact q_v)))
 all_goals first | (exfalso; simp_all; done) | exact q_A (by simp only [resAV,q_y,baF, *,if_true,if_false,Bool.false_eq_true])
def namesCT : CT:=mkCT [] false fun l K=>match l with
 | []=>K (.c (.sl 1 (nm49.map fun t=>[.str t])))
 | _=>False
def h11a : Cfg:=addT 68 namesCT cf0
theorem h11a_ok : TblOk Try.prog h11a:=q_I cf0_ok Try.func68 fun l K h=>by
 split at h
 ·exact ⟨_,names_ret,h⟩
 ·exact h.elim
def baseCT : CT:=mkCT [] false fun l K=>match l with
 | [.inl (.str t),.inl (.i .i64 i)]=>K (.c (.str (baF t i)))
 | _=>False
def h11b : Cfg:=addT 69 baseCT cf0
theorem h11b_ok : TblOk Try.prog h11b:=q_I cf0_ok Try.func69 fun l K h=>by
 split at h
 ·exact ⟨_,base_ret _ _,h⟩
 ·exact h.elim
attribute [go_sem] namesCT baseCT
def mtI (i k : Nat) : Bool:=(nmI k).toList == (baF (nmI i) i).toList
def clIn (os : List Ob) (i : Nat) : Nat → Ob
 | 0=>⟨9,nmI i,0,[],[(i : Int)],none,[],[]⟩
 | k + 1=>if mtI i k = true then { clIn os i k with rf:=[(k : Int)],od:=(clIn os i k).od ++ (os.getD k ob0).od } else clIn os i k
def clL : Nat → List Ob
 | 0=>[]
 | i + 1=>clL i ++ [clIn (clL i) i i]
theorem clL_len : ∀ i,(clL i).length = i
 | 0=>rfl
 | i + 1=>by simp [clL,clL_len i]
theorem nm_nodup : (nm49.map bytesOf).Nodup:=by decide +kernel
theorem mt_uniq {i k k' : Nat} (hk : k < 49) (hk' : k' < 49) (h : mtI i k = true) (h' : mtI i k' = true) : k = k':=by
 unfold mtI at h h'
 rw [str_eq] at h h'
 have h:=of_decide_eq_true h
 have h':=of_decide_eq_true h'
 have e : bytesOf (nmI k) = bytesOf (nmI k'):=by rw [h,h']
 have hl : (nm49.map bytesOf).length = 49:=rfl
 have g : ∀ q,q < 49 → (nm49.map bytesOf)[q]? = some (bytesOf (nmI q)):=fun q hq=>by
  have : q < nm49.length:=hq
  simp only [nmI,List.getElem?_map,List.getD_eq_getElem?_getD,List.getElem?_eq_getElem this,Option.map_some,Option.getD_some]
 exact (List.getElem?_inj (i:=k) (j:=k') (l:=nm49.map bytesOf) (by omega) nm_nodup).1 (by rw [g k hk,g k' hk',e])
theorem clIn_len {os : List Ob} {M i : Nat} (ho : ∀ k,(os.getD k ob0).od.length ≤ M) : ∀ k,k ≤ 49 → ((∀ j,j < k → mtI i j = false) ∧ (clIn os i k).od.length = 1) ∨ ((∃ j,j < k ∧ mtI i j = true) ∧ (clIn os i k).od.length ≤ 1 + M)
 | 0,_=>.inl ⟨fun j hj=>absurd hj (Nat.not_lt_zero j),rfl⟩
 | k + 1,hk=>by
  have h0:=ho k
  cases hm : mtI i k with
  | false =>
   have e : clIn os i (k + 1) = clIn os i k:=by simp [clIn,hm]
   rw [e]
   rcases clIn_len (i:=i) ho k (by omega) with ⟨h1,h2⟩ | ⟨⟨j,h1,h1'⟩,h2⟩
   ·refine .inl ⟨fun j hj=>?_,h2⟩
    rcases Nat.lt_succ_iff_lt_or_eq.1 hj with h | rfl
    ·exact h1 j h
    ·exact hm
   ·exact .inr ⟨⟨j,by omega,h1'⟩,h2⟩
  | true =>
   have e : (clIn os i (k + 1)).od = (clIn os i k).od ++ (os.getD k ob0).od:=by simp [clIn,hm]
   rw [e,List.length_append]
   rcases clIn_len (i:=i) ho k (by omega) with ⟨h1,h2⟩ | ⟨⟨j,h1,h1'⟩,h2⟩
   ·exact .inr ⟨⟨k,by omega,hm⟩,by omega⟩
   ·have:=mt_uniq (by omega) (by omega) h1' hm
    omega
theorem clL_od : ∀ i,i ≤ 49 → ∀ k,((clL i).getD k ob0).od.length ≤ i
 | 0,_,k=>by simp [clL,ob0]
 | i + 1,hi,k=>by
  have ih:=clL_od i (by omega)
  have hl:=clL_len i
  simp only [clL]
  rcases Nat.lt_trichotomy k i with h | rfl | h
  ·have : (clL i ++ [clIn (clL i) i i]).getD k ob0 = (clL i).getD k ob0:=by
    simp only [List.getD_eq_getElem?_getD,List.getElem?_append_left (show k < (clL i).length by omega)]
   rw [this]; have:=ih k; omega
  ·have : (clL k ++ [clIn (clL k) k k]).getD k ob0 = clIn (clL k) k k:=by
    rw [List.getD_eq_getElem?_getD,List.getElem?_append_right (by omega),hl]; simp
   rw [this]
   rcases clIn_len (i:=k) ih k (by omega) with ⟨_,h⟩ | ⟨_,h⟩ <;> omega
  ·have : (clL i ++ [clIn (clL i) i i]).getD k ob0 = ob0:=by
    rw [List.getD_eq_getElem?_getD,List.getElem?_eq_none (by simp; omega)]; rfl
   rw [this]; simp [ob0]
theorem clIn_k (os : List Ob) (i : Nat) : ∀ k,∃ rf od,clIn os i k = ⟨9,nmI i,0,rf,od,none,[],[]⟩
 | 0=>⟨_,_,rfl⟩
 | k + 1=>by
  obtain ⟨rf,od,h⟩:=clIn_k os i k
  unfold clIn
  rw [h]
  split <;> exact ⟨_,_,rfl⟩
theorem clL_k : ∀ i,∀ o ∈ clL i,o.k = 9 ∧ o.raw = none ∧ o.ks = [] ∧ o.it = []
 | 0,o,h=>by cases h
 | i + 1,o,h=>by
  rcases List.mem_append.1 h with h | h
  ·exact clL_k i o h
  ·rw [List.mem_singleton.1 h]
   obtain ⟨rf,od,e⟩:=clIn_k (clL i) i i
   rw [e]; exact ⟨rfl,rfl,rfl,rfl⟩
theorem nm_at {i : Nat} (h : i < 49) : (nm49.map fun t=>[C.str t]).getD i [] = [.str (nmI i)]:=by
 rw [List.getD_eq_getElem?_getD,List.getElem?_map,nmI,List.getD_eq_getElem?_getD]
 rw [List.getElem?_eq_getElem (show i < nm49.length from h)]
 rfl
abbrev clH : Hp:=⟨[(0,[.own 2 0])],[(2,⟨0,54,10,.sl 10 ((clL 49).map obC)⟩)],[]⟩
def ha9 : Cfg:=listT [(68,namesCT),(69,baseCT)] [39]
theorem ha9_ok : TblOk Try.prog ha9:=listE_ok (by simp only [List.mem_singleton,forall_eq]; exact flt) ⟨⟨h11a,h11a_ok,rfl⟩,⟨h11b,h11b_ok,rfl⟩,trivial⟩
attribute [go_sem] ha9
set_option maxRecDepth 100000 in
set_option maxHeartbeats 8000000 in
theorem classes_ret : RetG Try.prog 43 ⟨[],[],[]⟩ [] clH [.gt [.own 2 0]]:=by
 (refine ret_ge Try.func43 (fun F bs=>?_); simp only [avSl,ancs,hnx,Nat.reduceAdd,Nat.reduceLeDiff,if_true,if_false,List.length_cons,List.length_nil,List.cons_append,List.nil_append,Try.ntmps43,Try.results43])
 repeat' (first|with_reducible refine q_0 ?_|((with_reducible first|refine q_q (loT_ok ha9_ok) fun K hK=>?_|refine q_r (loT_ok ha9_ok) fun K hK=>?_);simp (maxSteps:=2000000) only [go_sem,↓reduceIte,reduceCtorEq,Nat.reduceLeDiff,Nat.reduceLT,Nat.reduceBEq,Nat.reduceAdd];(repeat1' with_reducible first|apply And.intro|(intro _;try exact q_v)|(refine hK _ ?_;clear hK K))<;>(try (clear hK K;exact q_u)))|(with_reducible refine q_s ?_;(first|apply q_J|apply q_K|apply q_L|apply q_M|apply q_N|apply q_O)<;>try (intro _;try exact q_v)))
 all_goals first | omega | skip
 refine q_G (ι:={ i : Nat // i ≤ 49 }) (fun p=>⟨56,[(0,.bx 0 0),(1,.bx 1 0),(2,.c (.sl 1 (nm49.map fun t=>[.str t]))),(3,.c (.i .i64 p.1))],⟨[(0,[.c .nil]),(1,[.own 2 0])],[(2,⟨0,54,10,.sl 10 ((clL p.1).map obC)⟩)],[]⟩,3⟩) (fun p=>49 - p.1) ⟨0,by omega⟩ ?_ ?_
 ·exact q_D
 rintro ⟨i,gi⟩
 simp only at gi ⊢
 have e49 : nm49.length = 49:=rfl
 have hll:=clL_len i
 rcases Nat.lt_or_ge i 49 with hi | hi
 ·have hnm:=nm_at hi
  have hmi : ∀ k,((nmI k).toList == (baF (nmI i) i).toList) = mtI i k:=fun _=>rfl
  have hod:=clL_od i gi
  have hcl:=clIn_len (os:=clL i) (i:=i) hod
  have hLs : clL (i + 1) = clL i ++ [clIn (clL i) i i]:=rfl
  generalize hos : clL i = os at *
  repeat' (first|with_reducible refine q_0 ?_|((with_reducible first|refine q_q (loT_ok ha9_ok) fun K hK=>?_|refine q_r (loT_ok ha9_ok) fun K hK=>?_);simp (maxSteps:=2000000) only [go_sem,↓reduceIte,reduceCtorEq,Nat.reduceLeDiff,Nat.reduceLT,Nat.reduceBEq,Nat.reduceAdd,e49,hnm,List.length_map,hll];(repeat1' with_reducible first|apply And.intro|(intro _;try exact q_v)|(refine hK _ ?_;clear hK K))<;>(try (clear hK K;exact q_u)))|(with_reducible refine q_s ?_;(first|apply q_J|apply q_K|apply q_L|apply q_M|apply q_N|apply q_O)<;>try (intro _;try exact q_v)))
  all_goals first | omega | skip
  refine q_G (ι:={ p : Nat × List Int × List Int // p.1 ≤ i ∧ clIn os i p.1 = ⟨9,nmI i,0,p.2.1,p.2.2,none,[],[]⟩ })
   (fun p=>if p.1.1 < i then ⟨56,[(0,.bx 0 0),(1,.bx 1 0),(2,.c (.sl 1 (nm49.map fun t=>[.str t]))),(3,.c (.i .i64 i)),(4,.bx 4 0),(5,.c (.i .i64 p.1.1))],⟨[(0,[.c .nil]),(1,[.own 2 0]),(4,[.c (.i .i64 9),.c (.str (nmI i)),.c (.i .i64 0),.c (.ints .i64 p.1.2.1),.own 3 0,.c (.sl 1 []),.c (.sl 7 []),.c (.sl 7 []),.c (.i .i64 0),.c (.i .i64 0)])],[(2,⟨0,54,10,.sl 10 (os.map obC)⟩),(3,⟨0,3,1,.ints .i64 p.1.2.2⟩)],[]⟩,5⟩
    else ⟨56,[(0,.bx 0 0),(1,.bx 1 0),(2,.c (.sl 1 (nm49.map fun t=>[.str t]))),(3,.c (.i .i64 i)),(4,.bx 4 0),(5,.c (.i .i64 p.1.1))],⟨[(0,[.c .nil]),(1,[.own 2 0]),(4,[.c (.i .i64 9),.c (.str (nmI i)),.c (.i .i64 0),.c (.ints .i64 p.1.2.1),.c (.ints .i64 p.1.2.2),.c (.sl 1 []),.c (.sl 7 []),.c (.sl 7 []),.c (.i .i64 0),.c (.i .i64 0)])],[(2,⟨0,54,10,.sl 10 (os.map obC)⟩)],[]⟩,5⟩)
   (fun p=>i - p.1.1) ⟨(0,[],[(i : Int)]),Nat.zero_le _,rfl⟩ ?_ ?_
  ·by_cases h0 : 0 < i
   ·simp only [if_pos h0]; exact q_D
   ·simp only [if_neg h0]; exact q_D
  rintro ⟨⟨k,rf,od⟩,g1,g2⟩
  simp only at g1 g2 ⊢
  by_cases hk : k < i
  ·simp only [if_pos hk]
   have hnk:=nm_at (show k < 49 by omega)
   have h6:=hcl (k + 1) (by omega)
   have hat:=obC_at os (r:=(k : Int)) ⟨by omega,by omega⟩
   simp only [Int.toNat_natCast] at hat
   have hs : clIn os i (k + 1) = if mtI i k = true then { clIn os i k with rf:=[(k : Int)],od:=(clIn os i k).od ++ (os.getD k ob0).od } else clIn os i k:=rfl
   rw [g2] at hs
   have hmk:=hmi k
   generalize os.getD k ob0 = o at *
   obtain ⟨ok,onm,ocl,orf,ood,oraw,oit,oks⟩:=o
   simp only [obC] at hat
   generalize mtI i k = mt at *
   have h7 : (od ++ ood).length ≤ 1 + i ∨ mt = false:=by
    cases mt with
    | false=>exact .inr rfl
    | true =>
     rw [if_pos rfl] at hs
     rw [hs] at h6
     simp only at h6
     rcases h6 with ⟨_,h6⟩ | ⟨_,h6⟩ <;> exact .inl (by omega)
   simp only [List.length_append] at h7
   cases mt with
   | true =>
    have h8 : od.length + ood.length ≤ 1 + i:=h7.elim id (fun e=>by cases e)
    rw [if_pos rfl] at hs
    repeat' (first|with_reducible refine q_0 ?_|((with_reducible first|refine q_q (loT_ok ha9_ok) fun K hK=>?_|refine q_r (loT_ok ha9_ok) fun K hK=>?_);simp (maxSteps:=2000000) only [go_sem,↓reduceIte,reduceCtorEq,Nat.reduceLeDiff,Nat.reduceLT,Nat.reduceBEq,Nat.reduceAdd,e49,hnk,hnm,hat,hmk,List.length_map,hll];(repeat1' with_reducible first|apply And.intro|(intro _;try exact q_v)|(refine hK _ ?_;clear hK K))<;>(try (clear hK K;exact q_u)))|(with_reducible refine q_s ?_;(first|apply q_J|apply q_K|apply q_L|apply q_M|apply q_N|apply q_O)<;>try (intro _;try exact q_v)))
    all_goals first | omega | skip
    refine q_F ⟨(k + 1,[(k : Int)],od ++ ood),hk,hs⟩ ?_ (by simp only; omega)
    by_cases h0 : k + 1 < i
    ·simp only [if_pos h0]; exact q_D
    ·simp only [if_neg h0]; exact q_D
   | false =>
    rw [if_neg (by simp)] at hs
    repeat' (first|with_reducible refine q_0 ?_|((with_reducible first|refine q_q (loT_ok ha9_ok) fun K hK=>?_|refine q_r (loT_ok ha9_ok) fun K hK=>?_);simp (maxSteps:=2000000) only [go_sem,↓reduceIte,reduceCtorEq,Nat.reduceLeDiff,Nat.reduceLT,Nat.reduceBEq,Nat.reduceAdd,e49,hnk,hnm,hat,hmk,List.length_map,hll];(repeat1' with_reducible first|apply And.intro|(intro _;try exact q_v)|(refine hK _ ?_;clear hK K))<;>(try (clear hK K;exact q_u)))|(with_reducible refine q_s ?_;(first|apply q_J|apply q_K|apply q_L|apply q_M|apply q_N|apply q_O)<;>try (intro _;try exact q_v)))
    all_goals first | omega | skip
    refine q_F ⟨(k + 1,rf,od),hk,hs⟩ ?_ (by simp only; omega)
    by_cases h0 : k + 1 < i
    ·simp only [if_pos h0]; exact q_D
    ·simp only [if_neg h0]; exact q_D
  ·obtain rfl : k = i:=by omega
   simp only [if_neg hk]
   rw [g2] at hLs
   repeat' (first|with_reducible refine q_0 ?_|((with_reducible first|refine q_q (loT_ok ha9_ok) fun K hK=>?_|refine q_r (loT_ok ha9_ok) fun K hK=>?_);simp (maxSteps:=2000000) only [go_sem,↓reduceIte,reduceCtorEq,Nat.reduceLeDiff,Nat.reduceLT,Nat.reduceBEq,Nat.reduceAdd,e49,List.length_map,hll];(repeat1' with_reducible first|apply And.intro|(intro _;try exact q_v)|(refine hK _ ?_;clear hK K))<;>(try (clear hK K;exact q_u)))|(with_reducible refine q_s ?_;(first|apply q_J|apply q_K|apply q_L|apply q_M|apply q_N|apply q_O)<;>try (intro _;try exact q_v)))
   all_goals first | omega | skip
   refine q_F ⟨k + 1,hi⟩ ?_ (by simp only; omega)
   simp only [hLs,List.map_append,List.map_cons,List.map_nil,obC,itC]; exact q_D
 ·have ei : i = 49:=by omega
  repeat' (first|with_reducible refine q_0 ?_|((with_reducible first|refine q_q (loT_ok ha9_ok) fun K hK=>?_|refine q_r (loT_ok ha9_ok) fun K hK=>?_);simp (maxSteps:=2000000) only [go_sem,↓reduceIte,reduceCtorEq,Nat.reduceLeDiff,Nat.reduceLT,Nat.reduceBEq,Nat.reduceAdd,e49,List.length_map,hll];(repeat1' with_reducible first|apply And.intro|(intro _;try exact q_v)|(refine hK _ ?_;clear hK K))<;>(try (clear hK K;exact q_u)))|(with_reducible refine q_s ?_;(first|apply q_J|apply q_K|apply q_L|apply q_M|apply q_N|apply q_O)<;>try (intro _;try exact q_v)))
  all_goals first | omega | skip
  subst ei
  exact ends_g [(0,.bx 0 0)] 3 (by exact q_D) rfl
def classesCT : CT:=mkCTG fun H al K=>match H,al with
 | ⟨[],[],[]⟩,[]=>K clH [.gt [.own 2 0]]
 | _,_=>False
def h11c : Cfg:=addT 43 classesCT cf0
theorem h11c_ok : TblOk Try.prog h11c:=ctg_ok cf0_ok Try.func43 fun H al K h=>by
 split at h
 ·exact ⟨_,_,classes_ret,h⟩
 ·exact h.elim
attribute [go_sem] classesCT clH
end Go.Proofs.Ytncededjmcmidaa

namespace Go.Proofs.Ytncededjmcmidaa
set_option linter.unusedSimpArgs false
set_option linter.unusedVariables false
open Go.Abs Go.Proofs.NatL

noncomputable def itG (l : List Int) (n f : Int) : Nat → Int → List Vl → List Vl × Int
 | 0,k,acc=>(acc,k)
 | m + 1,k,acc=>itG l n f m (vaK l k n f) (acc ++ [vaV l k n f])
def nO (k cl : Int) (it ks : List Vl) : Ob:=⟨k,ByteArray.empty,cl,[],[],none,it,ks⟩
noncomputable def s1 (os : List Ob) (l : List Int) (k : Int) : Ob × Int :=
 if nxV l k 6 = 0 then (nO 1 0 [] [],nxK l k) else if nxV l k 6 = 1 then (nO 2 0 [] [],nxK l k)
 else if nxV l k 6 = 2 then (nO 3 0 [] (ksF os l (nxK l (nxK l k)) 50 (decide (nxV l (nxK l k) 60 = 1))).1,(ksF os l (nxK l (nxK l k)) 50 (decide (nxV l (nxK l k) 60 = 1))).2)
 else if nxV l k 6 = 3 then (nO 4 0 [] (ksF os l (nxK l (nxK l k)) 50 (decide (nxV l (nxK l k) 60 = 1))).1,(ksF os l (nxK l (nxK l k)) 50 (decide (nxV l (nxK l k) 60 = 1))).2)
 else if nxV l k 6 = 4 then (nO 5 0 [intV (nxV l (nxK l k) 9 - 4),intV (nxV l (nxK l (nxK l k)) 9 - 4),intV (2 * nxV l (nxK l (nxK l (nxK l k))) 2 - 1)] [],nxK l (nxK l (nxK l (nxK l k))))
 else (nO 10 49 [] [],nxK l k)
noncomputable def s2 (n : Int) (l : List Int) (p : Ob × Int) : Ob × Int :=
 if p.1.k = 1 ∨ p.1.k = 2 then (nO p.1.k 0 (itG l n 50 (nxV l p.2 4).toNat (nxK l p.2) []).1 [],(itG l n 50 (nxV l p.2 4).toNat (nxK l p.2) []).2)
 else if p.1.k = 3 then (nO 3 0 (itG l n 50 p.1.ks.length p.2 []).1 p.1.ks,(itG l n 50 p.1.ks.length p.2 []).2) else p
noncomputable def wG (l : List Int) : Nat → Int → List Ob → List Ob × Int
 | 0,k,os=>(os,k)
 | m + 1,k,os=>wG l m (s2 os.length l (s1 os l k)).2 (os ++ [(s2 os.length l (s1 os l k)).1])
noncomputable def lO (n : Int) (l : List Int) (k : Int) (o : Ob) : Ob × Int :=
 if o.k = 2 then (if nxV l k 3 = 1 then ({ o with it:=o.it ++ [vaV l (nxK l k) n 50] },vaK l (nxK l k) n 50) else (o,nxK l k)) else (o,k)
noncomputable def lG (l : List Int) : Nat → Nat → Int → List Ob → List Ob × Int
 | 0,_,k,os=>(os,k)
 | m + 1,i,k,os=>lG l m (i + 1) (lO os.length l k (os.getD i ob0)).2 (os.set i (lO os.length l k (os.getD i ob0)).1)
def thing : Ob:=⟨9,⟨#[84,104,105,110,103]⟩,0,[0],[49,0],none,[],[]⟩
def os0 : List Ob:=clL 49 ++ [thing]
noncomputable def wF (l : List Int) (k : Int) : List Ob × Int :=
 lG l ((nxV l k 8).toNat + 1) 50 (wG l ((nxV l k 8).toNat + 1) (nxK l k) os0).2 (wG l ((nxV l k 8).toNat + 1) (nxK l k) os0).1
structure OOk (n : Nat) (os : List Ob) (o : Ob) : Prop where
 k : o.k = 1 ∨ o.k = 2 ∨ o.k = 3 ∨ o.k = 4 ∨ o.k = 5 ∨ o.k = 9 ∨ o.k = 10
 raw : o.raw = none
 rf : o.rf.length ≤ 1
 od : o.od.length ≤ 100
 it : o.it.length ≤ 1000 ∧ ∀ v ∈ o.it,OkW n v
 ks : KsOk os o.ks
 d : o.k = 3 → o.it.length = o.ks.length
 s : o.k = 1 ∨ o.k = 2 → o.it.length ≤ 4
structure WOk (os : List Ob) : Prop where
 n : 50 ≤ os.length ∧ os.length ≤ 58
 o : ∀ o ∈ os,OOk os.length os o
theorem WOk.h {os : List Ob} (h : WOk os) : HOk os:=⟨by have:=h.n; omega,fun o ho _=>⟨(h.o o ho).raw,(h.o o ho).it.1,(h.o o ho).it.2⟩⟩
theorem WOk.pr {os : List Ob} (h : WOk os) : ∀ o ∈ os,Pr o:=fun o ho=>.inl (h.o o ho).raw
theorem itG_ok {l : List Int} {n : Nat} {f : Int} (hf : 0 ≤ f) : ∀ (m : Nat) (k : Int) (acc : List Vl),okSd l k → (∀ v ∈ acc,OkW n v) → okSd l (itG l n f m k acc).2 ∧ (itG l n f m k acc).1.length = acc.length + m ∧ ∀ v ∈ (itG l n f m k acc).1,OkW n v
 | 0,k,acc,h,ha=>⟨h,by simp [itG],ha⟩
 | m + 1,k,acc,h,ha=>by
  have hv:=vaV_ok (n:=(n : Int)) (f:=f) h
  have hw : OkW n (vaV l k n f):=by
   obtain ⟨f',rfl⟩:=Int.eq_ofNat_of_zero_le hf
   exact okW_of hv.1
  have:=itG_ok (n:=n) hf m (vaK l k n f) (acc ++ [vaV l k n f]) hv.2 fun v hv'=>by
   rcases List.mem_append.1 hv' with hv' | hv'
   ·exact ha v hv'
   ·rw [List.mem_singleton.1 hv']; exact hw
  exact ⟨this.1,by simp only [itG]; rw [this.2.1]; simp; omega,this.2.2⟩
theorem getD_app {os : List Ob} {o : Ob} {i : Nat} (h : i < os.length) : (os ++ [o]).getD i ob0 = os.getD i ob0:=by
 simp only [List.getD_eq_getElem?_getD,List.getElem?_append_left h]
theorem getD_last (os : List Ob) (o : Ob) : (os ++ [o]).getD os.length ob0 = o:=by
 rw [List.getD_eq_getElem?_getD,List.getElem?_append_right (Nat.le_refl _)]; simp
theorem agr_app (os : List Ob) (o : Ob) : Agr os (os ++ [o]):=⟨by simp,fun i hi=>by rw [getD_app hi]; exact ⟨rfl,fun _=>rfl⟩⟩
theorem OOk.agr {n n' : Nat} {os os' : List Ob} {o : Ob} (h : OOk n os o) (hn : n ≤ n') (ho : HOk os) (ha : Agr os os') : OOk n' os' o :=
 ⟨h.k,h.raw,h.rf,h.od,⟨h.it.1,fun v hv=>(h.it.2 v hv).mono hn⟩,h.ks.agr ho ha,h.d,h.s⟩
theorem okW_int (n : Nat) (x : Int) (h : x.natAbs < 4294967296 ^ 2) : OkW n (intV x):=okW_of (f:=0) (.inl (okA_int x h))
theorem s1_ok {os : List Ob} {l : List Int} {k : Int} (h : okSd l k) :
  okSd l (s1 os l k).2 ∧ ∃ kd cl it ks,(s1 os l k).1 = nO kd cl it ks ∧ KsOk os ks ∧ (kd = 1 ∨ kd = 2 ∨ kd = 3 ∨ kd = 4 ∨ kd = 5 ∨ kd = 10) ∧ (kd ≠ 5 → it = []) ∧ (kd = 5 → ks = [] ∧ it.length = 3 ∧ ∀ v ∈ it,OkW os.length v) ∧ (kd = 1 ∨ kd = 2 → ks = [] ∧ cl = 0) ∧ (kd = 3 → cl = 0):=by
 have h1:=nxK_ok h
 have h2:=nxK_ok h1
 have h3:=nxK_ok h2
 have h4:=nxK_ok h3
 have hk:=ksF_ok (os:=os) (f:=50) (decide (nxV l (nxK l k) 60 = 1)) h2
 have a1:=nxV_in l (nxK l k) (n:=9) (by omega)
 have a2:=nxV_in l (nxK l (nxK l k)) (n:=9) (by omega)
 have a3:=nxV_in l (nxK l (nxK l (nxK l k))) (n:=2) (by omega)
 have kn:=ksOk_nil os
 unfold s1
 repeat' split
 ·exact ⟨h1,_,_,_,_,rfl,kn,by omega,fun _=>rfl,fun e=>by omega,fun _=>⟨rfl,rfl⟩,fun e=>by omega⟩
 ·exact ⟨h1,_,_,_,_,rfl,kn,by omega,fun _=>rfl,fun e=>by omega,fun _=>⟨rfl,rfl⟩,fun e=>by omega⟩
 ·exact ⟨hk.2,_,_,_,_,rfl,hk.1,by omega,fun _=>rfl,fun e=>by omega,fun e=>by omega,fun _=>rfl⟩
 ·exact ⟨hk.2,_,_,_,_,rfl,hk.1,by omega,fun _=>rfl,fun e=>by omega,fun e=>by omega,fun e=>by omega⟩
 ·refine ⟨h4,_,_,_,_,rfl,kn,by omega,fun e=>by omega,fun _=>⟨rfl,rfl,fun v hv=>?_⟩,fun e=>by omega,fun e=>by omega⟩
  simp only [List.mem_cons,List.not_mem_nil,or_false] at hv
  rcases hv with rfl | rfl | rfl <;> exact okW_int _ _ (by omega)
 ·exact ⟨h1,_,_,_,_,rfl,kn,by omega,fun _=>rfl,fun e=>by omega,fun e=>by omega,fun e=>by omega⟩
theorem s2_nO (n : Int) (l : List Int) (kd cl : Int) (it ks : List Vl) (k : Int) : s2 n l (nO kd cl it ks,k) = if kd = 1 ∨ kd = 2 then (nO kd 0 (itG l n 50 (nxV l k 4).toNat (nxK l k) []).1 [],(itG l n 50 (nxV l k 4).toNat (nxK l k) []).2)
  else if kd = 3 then (nO 3 0 (itG l n 50 ks.length k []).1 ks,(itG l n 50 ks.length k []).2) else (nO kd cl it ks,k):=rfl
theorem ook_nO {n : Nat} {os : List Ob} {kd cl : Int} {it ks : List Vl} (hkd : kd = 1 ∨ kd = 2 ∨ kd = 3 ∨ kd = 4 ∨ kd = 5 ∨ kd = 10) (hit : it.length ≤ 1000 ∧ ∀ v ∈ it,OkW n v) (hks : KsOk os ks) (hd : kd = 3 → it.length = ks.length) (hs : kd = 1 ∨ kd = 2 → it.length ≤ 4) : OOk n os (nO kd cl it ks) :=
 ⟨show kd = 1 ∨ kd = 2 ∨ kd = 3 ∨ kd = 4 ∨ kd = 5 ∨ kd = 9 ∨ kd = 10 by omega,rfl,Nat.zero_le _,Nat.zero_le _,hit,hks,hd,hs⟩
theorem s2_ok {os : List Ob} {l : List Int} {k : Int} (h : okSd l k) : okSd l (s2 os.length l (s1 os l k)).2 ∧ OOk os.length os (s2 os.length l (s1 os l k)).1 ∧ ∃ kd cl it ks,(s2 os.length l (s1 os l k)).1 = nO kd cl it ks:=by
 obtain ⟨h1,kd,cl,it,ks,e,hks,hkd,hi,h5,h12,h3⟩:=s1_ok (os:=os) h
 generalize s1 os l k = p at *
 obtain ⟨o,k'⟩:=p
 simp only at e h1
 subst e
 have hx:=nxV_in l k' (n:=4) (by omega)
 have i1:=itG_ok (n:=os.length) (f:=50) (by omega) (nxV l k' 4).toNat (nxK l k') [] (nxK_ok h1) (fun v hv=>by cases hv)
 have i2:=itG_ok (n:=os.length) (f:=50) (by omega) ks.length k' [] h1 (fun v hv=>by cases hv)
 have hkl:=hks.2.2
 rw [s2_nO]
 by_cases hc : kd = 1 ∨ kd = 2
 ·rw [if_pos hc]
  refine ⟨i1.1,ook_nO (by omega) ⟨?_,i1.2.2⟩ (ksOk_nil os) (fun e=>by omega) (fun _=>?_),_,_,_,_,rfl⟩
  ·have:=i1.2.1; simp only [List.length_nil] at this; omega
  ·have:=i1.2.1; simp only [List.length_nil] at this; omega
 rw [if_neg hc]
 by_cases hc3 : kd = 3
 ·rw [if_pos hc3]
  refine ⟨i2.1,ook_nO (by omega) ⟨?_,i2.2.2⟩ hks (fun _=>?_) (fun e=>by omega),_,_,_,_,rfl⟩
  ·have:=i2.2.1; simp only [List.length_nil] at this; omega
  ·have:=i2.2.1; simp only [List.length_nil] at this; omega
 ·rw [if_neg hc3]
  have hit : it.length ≤ 1000 ∧ ∀ v ∈ it,OkW os.length v:=by
   by_cases e5 : kd = 5
   ·obtain ⟨_,q1,q2⟩:=h5 e5; exact ⟨by omega,q2⟩
   ·rw [hi e5]; exact ⟨by simp,fun v hv=>by cases hv⟩
  exact ⟨h1,ook_nO hkd hit hks (fun e=>by omega) (fun e=>by omega),_,_,_,_,rfl⟩
theorem wok_app {os : List Ob} {o : Ob} (h : WOk os) (hn : os.length ≤ 57) (ho : OOk os.length os o) : WOk (os ++ [o]):=by
 have hl : (os ++ [o]).length = os.length + 1:=by simp
 refine ⟨by have:=h.n; omega,fun p hp=>?_⟩
 rcases List.mem_append.1 hp with hp | hp
 ·exact (h.o p hp).agr (by omega) h.h (agr_app os o)
 ·rw [List.mem_singleton.1 hp]; exact ho.agr (by omega) h.h (agr_app os o)
theorem wG_ok {l : List Int} : ∀ (m : Nat) (k : Int) (os : List Ob),os.length + m ≤ 58 → okSd l k → WOk os → okSd l (wG l m k os).2 ∧ WOk (wG l m k os).1 ∧ (wG l m k os).1.length = os.length + m
 | 0,k,os,_,h,hw=>⟨h,hw,rfl⟩
 | m + 1,k,os,hm,h,hw=>by
  have:=s2_ok (os:=os) h
  have:=wG_ok m _ (os ++ [(s2 os.length l (s1 os l k)).1]) (by simp; omega) this.1 (wok_app hw (by omega) this.2.1)
  exact ⟨this.1,this.2.1,by simp only [wG]; rw [this.2.2]; simp; omega⟩
theorem agr_set {os : List Ob} {i : Nat} {o : Ob} (hk : o.k = (os.getD i ob0).k) (ht : o.k = 1 → o.it = (os.getD i ob0).it) : Agr os (os.set i o):=by
 refine ⟨by simp,fun j hj=>?_⟩
 by_cases hij : i = j
 ·subst hij
  have : (os.set i o).getD i ob0 = o:=by rw [List.getD_eq_getElem?_getD,List.getElem?_set_self hj]; rfl
  rw [this]; exact ⟨hk,fun e=>ht (by rw [hk]; exact e)⟩
 ·have : (os.set i o).getD j ob0 = os.getD j ob0:=by simp only [List.getD_eq_getElem?_getD,List.getElem?_set_ne hij]
  rw [this]; exact ⟨rfl,fun _=>rfl⟩
theorem lO_k (n : Int) (l : List Int) (k : Int) (o : Ob) : (lO n l k o).1.k = o.k ∧ (o.k ≠ 2 → (lO n l k o).1 = o):=by
 unfold lO
 repeat' split
 ·exact ⟨rfl,fun h=>absurd (by assumption) h⟩
 ·exact ⟨rfl,fun h=>absurd (by assumption) h⟩
 ·exact ⟨rfl,fun _=>rfl⟩
theorem wok_set {os : List Ob} {l : List Int} {k : Int} {i : Nat} (h : WOk os) (hs : okSd l k) (hi : i < os.length) (hl : (os.getD i ob0).k = 2 → (os.getD i ob0).it.length ≤ 3) :
  okSd l (lO os.length l k (os.getD i ob0)).2 ∧ WOk (os.set i (lO os.length l k (os.getD i ob0)).1):=by
 have hmem : os.getD i ob0 ∈ os:=by
  simp [List.getD_eq_getElem?_getD,List.getElem?_eq_getElem hi]
 have ho:=h.o _ hmem
 have hk:=lO_k os.length l k (os.getD i ob0)
 have hv:=vaV_ok (n:=(os.length : Int)) (f:=50) (nxK_ok hs)
 have hseed : okSd l (lO os.length l k (os.getD i ob0)).2:=by
  unfold lO
  repeat' split
  ·exact hv.2
  ·exact nxK_ok hs
  ·exact hs
 have hagr : Agr os (os.set i (lO os.length l k (os.getD i ob0)).1):=agr_set hk.1 (fun e=>by rw [hk.2 (by rw [hk.1] at e; omega)])
 refine ⟨hseed,by have:=h.n; simp; omega,fun p hp=>?_⟩
 have hlen : (os.set i (lO os.length l k (os.getD i ob0)).1).length = os.length:=by simp
 rcases List.mem_or_eq_of_mem_set hp with hp | rfl
 ·exact (h.o p hp).agr (by omega) h.h hagr
 ·refine OOk.agr (n:=os.length) (os:=os) ?_ (by omega) h.h hagr
  unfold lO
  split
  ·rename_i e2
   have:=hl e2
   split
   ·refine ⟨ho.k,ho.raw,ho.rf,ho.od,⟨by simp only [List.length_append,List.length_cons,List.length_nil]; omega,fun v hv'=>?_⟩,ho.ks,fun e=>by simp only at e; omega,fun _=>by simp only [List.length_append,List.length_cons,List.length_nil]; omega⟩
    rcases List.mem_append.1 hv' with hv' | hv'
    ·exact ho.it.2 v hv'
    ·rw [List.mem_singleton.1 hv']; exact okW_of hv.1
   ·exact ho
  ·exact ho
end Go.Proofs.Ytncededjmcmidaa

namespace Go.Proofs.Ytncededjmcmidaa
set_option linter.unusedSimpArgs false
set_option linter.unusedVariables false
open Go.Abs Go.Proofs.NatL

theorem posF_agr {os ot : List Ob} (ho : HOk os) (ha : Agr os ot) (c : List Int) : ∀ (ks : List Vl) (i : Nat),(∀ v ∈ ks,OkW os.length v) → posF ot c ks i = posF os c ks i
 | [],_,_=>rfl
 | v :: t,i,h=>by
  simp only [posF]
  rw [keyF_agr ho ha (h v (List.mem_cons_self ..)),posF_agr ho ha c t (i + 1) fun w hw=>h w (List.mem_cons_of_mem _ hw)]
theorem plO_agr {os ot : List Ob} (ho : HOk os) (ha : Agr os ot) {ks : List Vl} {v : Vl} (hk : ∀ x ∈ ks,OkW os.length x) (hv : OkW os.length v) : plO ot ks v = plO os ks v:=by
 unfold plO
 rw [keyF_agr ho ha hv,posF_agr ho ha _ ks 0 hk]
theorem smG_agr {os ot : List Ob} {l : List Int} {f : Nat} (ho : HOk os) (ha : Agr os ot) (hl : ot.length = os.length) : ∀ (m : Nat) (k : Int) (out : List Vl),okSd l k → (∀ v ∈ out,OkW os.length v) → smG ot l f m k out = smG os l f m k out
 | 0,_,_,_,_=>rfl
 | m + 1,k,out,h,hk=>by
  have hv:=vaV_ok (n:=(os.length : Int)) (f:=(f : Int)) h
  simp only [smG]
  rw [hl,plO_agr ho ha hk (okW_of hv.1)]
  refine smG_agr ho ha hl m _ _ hv.2 fun v hv'=>?_
  split at hv'
  ·rcases List.mem_append.1 hv' with hv' | hv'
   ·exact hk v hv'
   ·rw [List.mem_singleton.1 hv']; exact okW_of hv.1
  ·exact hk v hv'
theorem ksF_agr {os ot : List Ob} {l : List Int} {k : Int} {f : Nat} {g : Bool} (ho : HOk os) (ha : Agr os ot) (hl : ot.length = os.length) (h : okSd l k) : ksF ot l k f g = ksF os l k f g:=by
 have:=smG_agr (l:=l) (f:=f) ho ha hl (nxV l k 5).toNat (nxK l k) [] (nxK_ok h) (fun v hv=>by cases hv)
 unfold ksF
 rw [this]
def TO (x : Option (Value × List Vl)) (o p : Ob) : Prop:=match x with
 | some (v,its)=>o.k = 2 ∧ o.it = its ∧ p = { o with raw:=some v,it:=[] }
 | none=>p = o
structure TH (c : Nat) (gh : List (Option (Value × List Vl))) (os ot : List Ob) : Prop where
 n : ot.length = os.length
 g : gh.length + 50 = os.length
 t : ∀ i,i < os.length → TO (if i < c then none else gh.getD (i - 50) none) (os.getD i ob0) (ot.getD i ob0)
 l : ∀ i,c ≤ i → i < os.length → (os.getD i ob0).k = 2 → gh.getD (i - 50) none ≠ none
section
variable {c : Nat} {gh : List (Option (Value × List Vl))} {os ot : List Ob}
theorem TO.k {x : Option (Value × List Vl)} {o p : Ob} (h : TO x o p) : p.k = o.k ∧ (o.k = 1 → p.it = o.it) ∧ (o.raw = none → Pr p) ∧ (o.k = 1 → p.raw = o.raw):=by
 unfold TO at h
 split at h
 ·obtain ⟨h1,h2,rfl⟩:=h
  exact ⟨rfl,fun e=>by omega,fun _=>.inr rfl,fun e=>by omega⟩
 ·subst h; exact ⟨rfl,fun _=>rfl,fun e=>.inl e,fun _=>rfl⟩
theorem TH.agr (h : TH c gh os ot) : Agr os ot:=⟨by rw [h.n]; exact Nat.le_refl _,fun i hi=>⟨(h.t i hi).k.1,(h.t i hi).k.2.1⟩⟩
theorem mem_at {l : List Ob} {p : Ob} (h : p ∈ l) : ∃ i,i < l.length ∧ l.getD i ob0 = p:=by
 obtain ⟨i,hi,rfl⟩:=List.mem_iff_getElem.1 h
 exact ⟨i,hi,by simp [List.getD_eq_getElem?_getD,List.getElem?_eq_getElem hi]⟩
theorem at_mem {l : List Ob} {i : Nat} (h : i < l.length) : l.getD i ob0 ∈ l:=by
 simp [List.getD_eq_getElem?_getD,List.getElem?_eq_getElem h]
theorem TH.pr (h : TH c gh os ot) (hw : WOk os) : ∀ p ∈ ot,Pr p:=fun p hp=>by
 obtain ⟨i,hi,rfl⟩:=mem_at hp
 rw [h.n] at hi
 exact (h.t i hi).k.2.2.1 (hw.o _ (at_mem hi)).raw
theorem TH.hok (h : TH c gh os ot) (hw : WOk os) : HOk ot:=by
 refine ⟨by have:=hw.n; rw [h.n]; omega,fun p hp e=>?_⟩
 obtain ⟨i,hi,rfl⟩:=mem_at hp
 rw [h.n] at hi
 have ht:=(h.t i hi).k
 have ho:=hw.o _ (at_mem hi)
 rw [ht.1] at e
 rw [ht.2.1 e,ht.2.2.2 e,h.n]
 exact ⟨ho.raw,ho.it.1,ho.it.2⟩
theorem getD_appG {g : List (Option (Value × List Vl))} {x : Option (Value × List Vl)} {i : Nat} (h : i < g.length) : (g ++ [x]).getD i none = g.getD i none:=by
 simp only [List.getD_eq_getElem?_getD,List.getElem?_append_left h]
theorem getD_lastG (g : List (Option (Value × List Vl))) (x : Option (Value × List Vl)) : (g ++ [x]).getD g.length none = x:=by
 rw [List.getD_eq_getElem?_getD,List.getElem?_append_right (Nat.le_refl _)]; simp
theorem TH.push (h : TH 50 gh os ot) {x : Option (Value × List Vl)} {o p : Ob} (hx : TO x o p) (hk : o.k = 2 → x ≠ none) : TH 50 (gh ++ [x]) (os ++ [o]) (ot ++ [p]):=by
 have hg:=h.g
 have hn:=h.n
 refine ⟨by simp [hn],by simp; omega,fun i hi=>?_,fun i hc hi hik=>?_⟩
 ·simp only [List.length_append,List.length_singleton] at hi
  rcases Nat.lt_or_ge i os.length with hlt | hge
  ·rw [getD_app hlt,getD_app (by omega)]
   have:=h.t i hlt
   by_cases h50 : i < 50
   ·simp only [if_pos h50] at this ⊢; exact this
   ·simp only [if_neg h50] at this ⊢; rw [getD_appG (by omega)]; exact this
  ·obtain rfl : i = os.length:=by omega
   rw [getD_last]
   have e : (ot ++ [p]).getD os.length ob0 = p:=by rw [← hn]; exact getD_last ..
   rw [e,if_neg (by omega),show os.length - 50 = gh.length by omega,getD_lastG]
   exact hx
 ·simp only [List.length_append,List.length_singleton] at hi
  rcases Nat.lt_or_ge i os.length with hlt | hge
  ·rw [getD_app hlt] at hik
   have:=h.l i hc hlt hik
   rw [getD_appG (by omega)]; exact this
  ·obtain rfl : i = os.length:=by omega
   rw [getD_last] at hik
   rw [show os.length - 50 = gh.length by omega,getD_lastG]
   exact hk hik
theorem obSet_self {l : List Ob} {i : Nat} (h : i < l.length) (o : Ob) : (l.set i o).getD i ob0 = o:=by
 rw [List.getD_eq_getElem?_getD,List.getElem?_set_self h]; rfl
theorem obSet_ne {l : List Ob} {i j : Nat} (h : i ≠ j) (o : Ob) : (l.set i o).getD j ob0 = l.getD j ob0:=by
 simp only [List.getD_eq_getElem?_getD,List.getElem?_set_ne h]
theorem set_self {l : List Ob} {i : Nat} (h : i < l.length) : l.set i (l.getD i ob0) = l:=by
 apply List.ext_getElem?
 intro j
 by_cases hij : i = j
 ·subst hij
  rw [List.getElem?_set_self h,List.getD_eq_getElem?_getD,List.getElem?_eq_getElem h]; rfl
 ·rw [List.getElem?_set_ne hij]
theorem TH.next {i : Nat} (h : TH i gh os ot) (hi : i < os.length) (o : Ob) : TH (i + 1) gh (os.set i o) (ot.set i o):=by
 refine ⟨by simp [h.n],by simp [h.g],fun j hj=>?_,fun j hc hj hjk=>?_⟩
 ·simp only [List.length_set] at hj
  by_cases hij : i = j
  ·subst hij
   rw [obSet_self hi,obSet_self (by rw [h.n]; exact hi),if_pos (by omega)]; rfl
  ·rw [obSet_ne hij,obSet_ne hij]
   have:=h.t j hj
   by_cases hlt : j < i
   ·rw [if_pos hlt] at this; rw [if_pos (by omega)]; exact this
   ·rw [if_neg hlt] at this; rw [if_neg (by omega)]; exact this
 ·simp only [List.length_set] at hj
  rw [obSet_ne (by omega)] at hjk
  exact h.l j (by omega) hj hjk
theorem TH.eq {i : Nat} (h : TH i gh os ot) (hi : os.length ≤ i) : ot = os:=by
 apply List.ext_getElem?
 intro j
 rcases Nat.lt_or_ge j os.length with hj | hj
 ·have:=h.t j hj
  rw [if_pos (by omega)] at this
  have e : ot.getD j ob0 = os.getD j ob0:=this
  simp only [List.getD_eq_getElem?_getD] at e
  have hn:=h.n
  rw [List.getElem?_eq_getElem hj,List.getElem?_eq_getElem (show j < ot.length by omega)] at e ⊢
  simpa using e
 ·have hn:=h.n
  rw [List.getElem?_eq_none hj,List.getElem?_eq_none (by omega)]
theorem TH.at0 {i : Nat} (h : TH i gh os ot) (hi : i < os.length) (hx : gh.getD (i - 50) none = none) : ot.getD i ob0 = os.getD i ob0 ∧ (os.getD i ob0).k ≠ 2:=by
 have:=h.t i hi
 rw [if_neg (by omega),hx] at this
 exact ⟨this,fun e=>h.l i (Nat.le_refl _) hi e hx⟩
theorem TH.at1 {i : Nat} (h : TH i gh os ot) (hi : i < os.length) {v : Value} {its : List Vl} (hx : gh.getD (i - 50) none = some (v,its)) : (os.getD i ob0).k = 2 ∧ (os.getD i ob0).it = its ∧ ot.getD i ob0 = { os.getD i ob0 with raw:=some v,it:=[] }:=by
 have:=h.t i hi
 rw [if_neg (by omega),hx] at this
 exact this
theorem s2_3 {os : List Ob} {l : List Int} {k : Int} (h : okSd l k) : (s2 os.length l (s1 os l k)).1.k = 2 → (s2 os.length l (s1 os l k)).1.it.length ≤ 3:=by
 obtain ⟨h1,kd,cl,it,ks,e,hks,hkd,hi,h5,h12,h3⟩:=s1_ok (os:=os) h
 generalize s1 os l k = p at *
 obtain ⟨o,k'⟩:=p
 simp only at e h1
 subst e
 have hx:=nxV_in l k' (n:=4) (by omega)
 have i1:=itG_ok (n:=os.length) (f:=50) (by omega) (nxV l k' 4).toNat (nxK l k') [] (nxK_ok h1) (fun v hv=>by cases hv)
 have i2:=i1.2.1
 simp only [List.length_nil] at i2
 rw [s2_nO]
 by_cases hc : kd = 1 ∨ kd = 2
 ·rw [if_pos hc]; intro _; show (itG l os.length 50 (nxV l k' 4).toNat (nxK l k') []).1.length ≤ 3; omega
 rw [if_neg hc]
 by_cases hc3 : kd = 3
 ·rw [if_pos hc3]; intro e; have e : (3 : Int) = 2:=e; omega
 ·rw [if_neg hc3]; intro e; exact absurd (.inr e) hc
end
def gV (gh : List (Option (Value × List Vl))) (q : Nat) : Value:=match gh.getD q none with | some (v,_)=>v | none=>.slice none 0 0
def gL (gh : List (Option (Value × List Vl))) (q : Nat) : List Vl:=match gh.getD q none with | some (_,its)=>its | none=>[]
theorem gV_none (gh : List (Option (Value × List Vl))) (q : Nat) : gV (gh ++ [none]) q = gV gh q:=by
 unfold gV
 rcases Nat.lt_trichotomy q gh.length with h | h | h
 ·rw [getD_appG h]
 ·subst h
  rw [getD_lastG,List.getD_eq_getElem?_getD,List.getElem?_eq_none (Nat.le_refl _)]; rfl
 ·rw [List.getD_eq_getElem?_getD,List.getElem?_eq_none (by simp; omega),List.getD_eq_getElem?_getD,List.getElem?_eq_none (by omega)]
theorem gL_none (gh : List (Option (Value × List Vl))) (q : Nat) : gL (gh ++ [none]) q = gL gh q:=by
 unfold gL
 rcases Nat.lt_trichotomy q gh.length with h | h | h
 ·rw [getD_appG h]
 ·subst h
  rw [getD_lastG,List.getD_eq_getElem?_getD,List.getElem?_eq_none (Nat.le_refl _)]; rfl
 ·rw [List.getD_eq_getElem?_getD,List.getElem?_eq_none (by simp; omega),List.getD_eq_getElem?_getD,List.getElem?_eq_none (by omega)]
theorem gV_last {gh : List (Option (Value × List Vl))} {q : Nat} (h : gh.length = q) (v : Value) (its : List Vl) : gV (gh ++ [some (v,its)]) q = v:=by
 subst h; unfold gV; rw [getD_lastG]
theorem gL_last {gh : List (Option (Value × List Vl))} {q : Nat} (h : gh.length = q) (v : Value) (its : List Vl) : gL (gh ++ [some (v,its)]) q = its:=by
 subst h; unfold gL; rw [getD_lastG]
theorem gV_ne {gh : List (Option (Value × List Vl))} {q : Nat} (x : Option (Value × List Vl)) (h : gh.length ≠ q) : gV (gh ++ [x]) q = gV gh q:=by
 unfold gV
 rcases Nat.lt_or_ge q gh.length with h1 | h1
 ·rw [getD_appG h1]
 ·rw [List.getD_eq_getElem?_getD,List.getElem?_eq_none (by simp; omega),List.getD_eq_getElem?_getD,List.getElem?_eq_none (by omega)]
theorem gL_ne {gh : List (Option (Value × List Vl))} {q : Nat} (x : Option (Value × List Vl)) (h : gh.length ≠ q) : gL (gh ++ [x]) q = gL gh q:=by
 unfold gL
 rcases Nat.lt_or_ge q gh.length with h1 | h1
 ·rw [getD_appG h1]
 ·rw [List.getD_eq_getElem?_getD,List.getElem?_eq_none (by simp; omega),List.getD_eq_getElem?_getD,List.getElem?_eq_none (by omega)]
theorem gL_0 {gh : List (Option (Value × List Vl))} {q : Nat} (h : gh.length ≤ q) : gL gh q = []:=by
 unfold gL; rw [List.getD_eq_getElem?_getD,List.getElem?_eq_none h]; rfl
theorem gV_0 {gh : List (Option (Value × List Vl))} {q : Nat} (h : gh.length ≤ q) : gV gh q = .slice none 0 0:=by
 unfold gV; rw [List.getD_eq_getElem?_getD,List.getElem?_eq_none h]; rfl
theorem s1_0 {os : List Ob} {l : List Int} {k : Int} (h : nxV l k 6 = 0) : s1 os l k = (nO 1 0 [] [],nxK l k):=by unfold s1; rw [if_pos h]
theorem s1_1 {os : List Ob} {l : List Int} {k : Int} (h : nxV l k 6 = 1) : s1 os l k = (nO 2 0 [] [],nxK l k):=by unfold s1; rw [if_neg (by omega),if_pos h]
theorem s1_2 {os : List Ob} {l : List Int} {k : Int} (h : nxV l k 6 = 2) : s1 os l k = (nO 3 0 [] (ksF os l (nxK l (nxK l k)) 50 (decide (nxV l (nxK l k) 60 = 1))).1,(ksF os l (nxK l (nxK l k)) 50 (decide (nxV l (nxK l k) 60 = 1))).2):=by unfold s1; rw [if_neg (by omega),if_neg (by omega),if_pos h]
theorem s1_3 {os : List Ob} {l : List Int} {k : Int} (h : nxV l k 6 = 3) : s1 os l k = (nO 4 0 [] (ksF os l (nxK l (nxK l k)) 50 (decide (nxV l (nxK l k) 60 = 1))).1,(ksF os l (nxK l (nxK l k)) 50 (decide (nxV l (nxK l k) 60 = 1))).2):=by unfold s1; rw [if_neg (by omega),if_neg (by omega),if_neg (by omega),if_pos h]
theorem s1_4 {os : List Ob} {l : List Int} {k : Int} (h : nxV l k 6 = 4) : s1 os l k = (nO 5 0 [intV (nxV l (nxK l k) 9 - 4),intV (nxV l (nxK l (nxK l k)) 9 - 4),intV (2 * nxV l (nxK l (nxK l (nxK l k))) 2 - 1)] [],nxK l (nxK l (nxK l (nxK l k)))):=by unfold s1; rw [if_neg (by omega),if_neg (by omega),if_neg (by omega),if_neg (by omega),if_pos h]
theorem s1_5 {os : List Ob} {l : List Int} {k : Int} (h0 : ¬ nxV l k 6 = 0) (h1 : ¬ nxV l k 6 = 1) (h2 : ¬ nxV l k 6 = 2) (h3 : ¬ nxV l k 6 = 3) (h4 : ¬ nxV l k 6 = 4) : s1 os l k = (nO 10 49 [] [],nxK l k):=by unfold s1; rw [if_neg h0,if_neg h1,if_neg h2,if_neg h3,if_neg h4]
def gX (i : Nat) (gh : List (Option (Value × List Vl))) (q id : Nat) : AV:=if i ≤ 50 + q then .lk id 0 (gV gh q) else .u
theorem gX_lk {i : Nat} {gh : List (Option (Value × List Vl))} {q id : Nat} (h : i ≤ 50 + q) : gX i gh q id = .lk id 0 (gV gh q):=if_pos h
theorem gX_u {i : Nat} {gh : List (Option (Value × List Vl))} {q id : Nat} (h : ¬ i ≤ 50 + q) : gX i gh q id = .u:=if_neg h
theorem gV_at {gh : List (Option (Value × List Vl))} {q : Nat} {v : Value} {its : List Vl} (h : gh.getD q none = some (v,its)) : gV gh q = v ∧ gL gh q = its:=by unfold gV gL; rw [h]; exact ⟨rfl,rfl⟩
theorem gV_set {gh : List (Option (Value × List Vl))} {q p : Nat} (h : q ≠ p) : gV (gh.set q none) p = gV gh p:=by
 unfold gV; simp only [List.getD_eq_getElem?_getD,List.getElem?_set_ne h]
theorem gL_set {gh : List (Option (Value × List Vl))} {q p : Nat} (h : q ≠ p) : gL (gh.set q none) p = gL gh p:=by
 unfold gL; simp only [List.getD_eq_getElem?_getD,List.getElem?_set_ne h]
theorem gL_set0 (gh : List (Option (Value × List Vl))) (q : Nat) : gL (gh.set q none) q = []:=by
 unfold gL
 rcases Nat.lt_or_ge q gh.length with h | h
 ·rw [List.getD_eq_getElem?_getD,List.getElem?_set_self h]; rfl
 ·rw [List.getD_eq_getElem?_getD,List.getElem?_eq_none (by simpa using h)]; rfl
theorem TH.forget {gh : List (Option (Value × List Vl))} {os ot : List Ob} {c q : Nat} (h : TH c gh os ot) (hq : 50 + q < c) : TH c (gh.set q none) os ot:=by
 refine ⟨h.n,by simpa using h.g,fun i hi=>?_,fun i hc hi hk=>?_⟩
 ·have:=h.t i hi
  by_cases hlt : i < c
  ·rw [if_pos hlt] at this ⊢; exact this
  ·rw [if_neg hlt] at this ⊢
   rw [List.getD_eq_getElem?_getD,List.getElem?_set_ne (by omega),← List.getD_eq_getElem?_getD]; exact this
 ·have:=h.l i hc hi hk
  rw [List.getD_eq_getElem?_getD,List.getElem?_set_ne (by omega),← List.getD_eq_getElem?_getD]; exact this
theorem obC_at2 (os : List Ob) {i : Nat} (h : i < os.length) : (os.map obC).getD i [] = obC (os.getD i ob0):=by
 simp [List.getD_eq_getElem?_getD,List.getElem?_eq_getElem h]
theorem obC_get (os : List Ob) {i : Nat} (h : i < os.length) : (os.map obC)[i]? = some (obC (os.getD i ob0)):=by
 simp [List.getD_eq_getElem?_getD,List.getElem?_eq_getElem h]
theorem lG_step (l : List Int) {m i : Nat} (k : Int) (os : List Ob) {p : Ob × Int} (h : lO os.length l k (os.getD i ob0) = p) : lG l (m + 1) i k os = lG l m (i + 1) p.2 (os.set i p.1):=by
 rw [← h]; rfl
theorem clIn_rf (os : List Ob) (i : Nat) : ∀ k,(clIn os i k).rf.length ≤ 1
 | 0=>by simp [clIn]
 | k + 1=>by
  unfold clIn
  split
  ·simp
  ·exact clIn_rf os i k
theorem clL_rf : ∀ i,∀ o ∈ clL i,o.rf.length ≤ 1
 | 0,o,h=>by cases h
 | i + 1,o,h=>by
  rcases List.mem_append.1 h with h | h
  ·exact clL_rf i o h
  ·rw [List.mem_singleton.1 h]; exact clIn_rf _ _ _
theorem os0_len : os0.length = 50:=by simp [os0,clL_len]
theorem os0_ok : WOk os0:=by
 refine ⟨by rw [os0_len]; omega,fun o ho=>?_⟩
 rw [os0_len]
 rcases List.mem_append.1 ho with h | h
 ·obtain ⟨h1,h2,h3,h4⟩:=clL_k 49 o h
  have h5:=clL_rf 49 o h
  obtain ⟨i,hi,rfl⟩:=mem_at h
  have h6:=clL_od 49 (Nat.le_refl _) i
  exact ⟨by omega,h2,h5,by omega,by rw [h4]; exact ⟨Nat.zero_le _,fun v hv=>(by cases hv)⟩,by rw [h3]; exact ksOk_nil _,fun e=>by omega,fun e=>by omega⟩
 ·rw [List.mem_singleton.1 h]
  exact ⟨by simp [thing],rfl,by simp [thing],by simp [thing],⟨by simp [thing],fun v hv=>(by cases hv)⟩,ksOk_nil _,fun e=>by simp [thing] at e,fun e=>by simp [thing] at e⟩
theorem os0_k : ∀ o ∈ os0,o.k = 2 → o.it.length ≤ 3:=by
 intro o ho e
 rcases List.mem_append.1 ho with h | h
 ·rw [(clL_k 49 o h).1] at e; omega
 ·rw [List.mem_singleton.1 h] at e; simp [thing] at e
theorem th0 : TH 50 [] os0 os0:=by
 have hl:=os0_len
 refine ⟨rfl,by rw [hl]; rfl,fun i hi=>?_,fun i hc hi=>by omega⟩
 rw [if_pos (by omega)]
 rfl
end Go.Proofs.Ytncededjmcmidaa
