import Derived.Test.YtncededjmcmidaaX11
namespace Go.Proofs.Ytncededjmcmidaa
set_option linter.unusedSimpArgs false
set_option linter.unusedVariables false
open Go.Abs Go.Proofs.NatL

theorem sub_len {α : Type} : ∀ {a b : List α},a.Nodup → (∀ x ∈ a,x ∈ b) → a.length ≤ b.length
 | [],_,_,_=>Nat.zero_le _
 | h :: t,b,hn,hs=>by
  obtain ⟨b1,b2,rfl⟩:=List.append_of_mem (hs h (List.mem_cons_self ..))
  rw [List.nodup_cons] at hn
  have:=sub_len (b:=b1 ++ b2) hn.2 fun x hx=>by
   have:=hs x (List.mem_cons_of_mem _ hx)
   rcases List.mem_append.1 this with h1 | h1
   ·exact List.mem_append_left _ h1
   ·rcases List.mem_cons.1 h1 with rfl | h1
    ·exact absurd hx hn.1
    ·exact List.mem_append_right _ h1
  simp only [List.length_append,List.length_cons] at this ⊢
  omega
theorem sub_eq {α : Type} {a b : List α} (ha : a.Nodup) (hs : ∀ x ∈ a,x ∈ b) (hl : b.length ≤ a.length) : ∀ x ∈ b,x ∈ a:=by
 intro x hx
 refine Classical.byContradiction fun hn=>?_
 have:=sub_len (a:=x :: a) (b:=b) (List.nodup_cons.2 ⟨hn,ha⟩) fun y hy=>by
  rcases List.mem_cons.1 hy with rfl | hy
  ·exact hx
  ·exact hs y hy
 simp only [List.length_cons] at this
 omega
def kcL (os : List Ob) (ks : List Vl) : List (List Int):=ks.map fun k=>(keyF os k).1
theorem ks_nodup {os : List Ob} {ks : List Vl} (h : KsOk os ks) : (kcL os ks).Nodup:=by
 unfold kcL
 rw [List.nodup_iff_pairwise_ne,List.pairwise_map]
 exact h.2.1
theorem inS_mem {os : List Ob} {k : Vl} {b : List Vl} : inS os k b = true ↔ (keyF os k).1 ∈ kcL os b:=by
 unfold inS kcL
 rw [List.any_eq_true,List.mem_map]
 constructor
 ·rintro ⟨y,hy,he⟩; exact ⟨y,hy,(of_decide_eq_true he).symm⟩
 ·rintro ⟨y,hy,he⟩; exact ⟨y,hy,by simpa using he.symm⟩
theorem ch_none {os : List Ob} {x y : List Vl} : (chF os x y false).length = 0 ↔ ∀ k ∈ x,inS os k y = true:=by
 unfold chF
 rw [List.length_eq_zero_iff,List.filter_eq_nil_iff]
 constructor
 ·intro h k hk; have:=h k hk; simpa using this
 ·intro h k hk; rw [h k hk]; simp
theorem all_ch (os : List Ob) (x y : List Vl) : (x.all fun k=>inS os k y) = decide ((chF os x y false).length = 0):=by
 rw [Bool.eq_iff_iff,List.all_eq_true,decide_eq_true_eq,ch_none]
theorem kc_sub {os : List Ob} {x y : List Vl} (h : ∀ k ∈ x,inS os k y = true) : ∀ c ∈ kcL os x,c ∈ kcL os y:=by
 intro c hc
 obtain ⟨k,hk,rfl⟩:=List.mem_map.1 hc
 exact inS_mem.1 (h k hk)
theorem kc_len (os : List Ob) (x : List Vl) : (kcL os x).length = x.length:=List.length_map ..
theorem same_ch {os : List Ob} {x y : List Vl} (hx : KsOk os x) (hy : KsOk os y) : ((x.all fun k=>inS os k y) && decide (x.length = y.length)) = decide ((chF os x y false).length + (chF os y x false).length = 0):=by
 have nx:=ks_nodup hx
 have ny:=ks_nodup hy
 have lx:=kc_len os x
 have ly:=kc_len os y
 rw [all_ch,Bool.eq_iff_iff,Bool.and_eq_true,decide_eq_true_eq,decide_eq_true_eq,decide_eq_true_eq]
 constructor
 ·rintro ⟨h1,h2⟩
  have s1:=kc_sub (ch_none.1 h1)
  have s2:=sub_eq nx s1 (by omega)
  have : (chF os y x false).length = 0:=ch_none.2 fun k hk=>inS_mem.2 (s2 _ (List.mem_map.2 ⟨k,hk,rfl⟩))
  omega
 ·intro h
  have h1 : (chF os x y false).length = 0:=by omega
  have h2 : (chF os y x false).length = 0:=by omega
  have:=sub_len nx (kc_sub (ch_none.1 h1))
  have:=sub_len ny (kc_sub (ch_none.1 h2))
  exact ⟨h1,by omega⟩
theorem WOk.hk {os : List Ob} (h : WOk os) : HK os:=⟨h.h,h.pr,fun o ho=>⟨by have:=(h.o o ho).ks.2.2; omega,fun v hv=>((h.o o ho).ks.1 v hv).1⟩⟩
theorem liF_ls {n : Nat} {l : List Vl} (h : ∀ v ∈ l,OkW n v) : LsT ((liF l).1.map vC) (liF l).2.1 (liF l).2.2 (l.map vC):=by
 unfold liF
 by_cases hl : 1000 < l.length
 ·rw [if_pos hl]; exact .inl ⟨by rw [List.length_map]; exact hl,rfl,rfl,rfl⟩
 ·rw [if_neg hl]
  refine .inr ⟨by rw [List.length_map]; omega,rfl,rfl,?_,?_⟩
  ·rw [dV_map]
  ·rw [dV_map]; exact fun v hv=>fwV (h v hv)
theorem chF_nil (os : List Ob) (x : List Vl) : chF os x [] true = []:=by
 unfold chF; rw [List.filter_eq_nil_iff]; intro k _; simp [inS]
def ub20 : Cfg:=listT [(10,seedCT),(11,worldCT),(20,pickOCT),(30,(rgF unF)),(31,(rgF meF)),(32,(rgF miF)),(33,(rgF eiF)),(34,(rgB wiF)),(35,(rgB saF)),(18,keysHCT),(36,chosenCT),(37,sameValuesCT),(38,listedCT),(25,atCT)] [39]
theorem ub20_ok : TblOk Try.prog ub20:=listE_ok (by simp only [List.mem_singleton,forall_eq]; exact flt) ⟨⟨h25b,h25b_ok,rfl⟩,⟨h15a,h15a_ok,rfl⟩,⟨u7a,u7a_ok,rfl⟩,⟨u6a,u6a_ok,rfl⟩,⟨u6b,u6b_ok,rfl⟩,⟨u6c,u6c_ok,rfl⟩,⟨u6d,u6d_ok,rfl⟩,⟨u6h,u6h_ok,rfl⟩,⟨u6i,u6i_ok,rfl⟩,⟨h25a,h25a_ok,rfl⟩,⟨u2b,u2b_ok,rfl⟩,⟨u1c,u1c_ok,rfl⟩,⟨u2d,u2d_ok,rfl⟩,⟨cf2,cf2_ok,rfl⟩,trivial⟩
attribute [go_sem] ub20
set_option maxRecDepth 100000 in
set_option maxHeartbeats 16000000 in
theorem setsTwo_ret (l : List Int) (hl : l.length ≤ 140737488355328) : Ret Try.prog 7 false [.inl (.ints .i64 l)] (.c (.b true)):=by
 have hs : okSd l 0:=⟨by omega,by omega,hl⟩
 have hw:=wF_ok hs
 generalize hW : wF l 0 = W at *
 obtain ⟨os,k0⟩:=W
 obtain ⟨hs1,hwk,hlen⟩:=hw
 simp only at hs1 hwk hlen
 have h50 : 50 < os.length:=by have:=nxV_in l 0 (n:=8) (by omega); omega
 have hp:=hwk.pr
 have hK:=hwk.hk
 have ho:=hwk.h
 have hn:=hwk.n
 have hd:=dO_map hp
 (refine q_H Try.func7 (fun F=>?_); simp only [q_z,q_y,Try.ntmps7,Try.results7])
 refine seq_cut4 (ι:={ p : Int × Int // (0 ≤ p.1 ∧ p.1 < os.length) ∧ 0 ≤ p.2 ∧ p.2 < os.length }) (fun p=>⟨220,[(4,.bx 3 0),(6,.c (.i .i64 p.1.1)),(7,.c (.i .i64 p.1.2))],⟨[(3,[.c (.sl 10 (os.map obC))])],[],[]⟩,4⟩) (fun Y hY=>?_) ?_
 ·repeat' (first|with_reducible refine q_0 ?_|((with_reducible first|refine q_q ub20_ok fun K hK=>?_|refine q_r ub20_ok fun K hK=>?_);simp (maxSteps:=2000000) only [go_sem,↓reduceIte,reduceCtorEq,Nat.reduceLeDiff,Nat.reduceLT,Nat.reduceBEq,Nat.reduceAdd,hW,hd,List.length_map];(repeat1' with_reducible first|apply And.intro|(intro _;try exact q_v)|(refine hK _ ?_;clear hK K))<;>(try (clear hK K;exact q_u)))|(with_reducible refine q_s ?_;(first|apply q_J|apply q_K|apply q_L|apply q_M|apply q_N|apply q_O)<;>try (intro _;try exact q_v)))
  all_goals first | omega | contradiction | exact hs | exact hs1 | exact keep_of [3,3] ⟨rfl,rfl,trivial⟩ | skip
  rename_i v1 v2 v3 v4
  exact cut_fit hY ⟨((poF os l 50 4 k0).1,(poF os l 50 4 (poF os l 50 4 k0).2).1),⟨by have:=v1.1; simp only; omega,v1.2⟩,by have:=v3.1; simp only; omega,v3.2⟩ (by exact q_D)
 ·rintro ⟨⟨a,b⟩,ha,hb⟩
  simp only at ha hb ⊢
  have ata:=obC_at os ha
  have atb:=obC_at os hb
  have koa:=(hwk.o _ (ob_mem os ha)).ks
  have kob:=(hwk.o _ (ob_mem os hb)).ks
  have hbo : boF os a b = boF os a b:=rfl
  conv at hbo=>rhs; unfold boF
  generalize os.getD a.toNat ob0 = oa at *
  generalize os.getD b.toNat ob0 = ob at *
  have eU : unF os a b = unF os a b:=rfl
  conv at eU=>rhs; unfold unF
  have eM : meF os a b = meF os a b:=rfl
  conv at eM=>rhs; unfold meF
  have eI : miF os a b = miF os a b:=rfl
  conv at eI=>rhs; unfold miF
  have eE : eiF os a b = eiF os a b:=rfl
  conv at eE=>rhs; unfold eiF
  have eW : wiF os a b = wiF os a b:=rfl
  conv at eW=>rhs; unfold wiF
  have eS : saF os a b = saF os a b:=rfl
  conv at eS=>rhs; unfold saF
  obtain ⟨ak,anm,acl,arf,aod,araw,ait,x⟩:=oa
  obtain ⟨bk,bnm,bcl,brf,bod,braw,bit,y⟩:=ob
  simp only [obC] at ata atb
  generalize itC ⟨ak,anm,acl,arf,aod,araw,ait,x⟩ = ai at *
  generalize itC ⟨bk,bnm,bcl,brf,bod,braw,bit,y⟩ = bi at *
  simp only at koa kob hbo
  by_cases h1 : ak = 4
  ·rw [if_neg (fun hn=>hn h1)] at hbo
   subst h1
   by_cases h2 : bk = 4
   ·rw [if_neg (fun hn=>hn h2)] at hbo
    subst h2
    rw [hbo] at eU eM eI eE eW eS
    simp only [ne_eq,not_true_eq_false,if_false] at eU eM eI eE eW eS
    have kx : KL os.length x:=⟨by have:=koa.2.2; omega,fun v hv=>(koa.1 v hv).1⟩
    have ky : KL os.length y:=⟨by have:=kob.2.2; omega,fun v hv=>(kob.1 v hv).1⟩
    have lU:=liF_ls (n:=os.length) (l:=x ++ chF os y x false) fun v hv=>(List.mem_append.1 hv).elim (kx.2 v) ((chF_ok ky false).2 v)
    have lE:=liF_ls (n:=os.length) (l:=chF os x y false ++ chF os y x false) fun v hv=>(List.mem_append.1 hv).elim ((chF_ok kx false).2 v) ((chF_ok ky false).2 v)
    rw [← eU,List.map_append] at lU
    rw [← eE,List.map_append] at lE
    clear eU eE
    rw [all_ch] at eW
    rw [same_ch koa kob] at eS
    rw [show decide ((chF os x y false).length = 0) = decide (((chF os x y false).length : Int) = 0) by rw [decide_eq_decide]; omega] at eW
    rw [show decide ((chF os x y false).length + (chF os y x false).length = 0) = decide (((chF os x y false).length : Int) + ((chF os y x false).length : Int) = 0) by rw [decide_eq_decide]; omega] at eS
    have c1:=chF_ok (os:=os) (y:=y) kx false
    have c2:=chF_ok (os:=os) (y:=x) ky false
    have c3:=chF_ok (os:=os) (y:=y) kx true
    obtain ⟨c1a,c1b⟩:=c1
    obtain ⟨c2a,c2b⟩:=c2
    obtain ⟨c3a,c3b⟩:=c3
    have kxa:=kx.1
    have kya:=ky.1
    repeat' (first|with_reducible refine q_0 ?_|((with_reducible first|refine q_q ub20_ok fun K hK=>?_|refine q_r ub20_ok fun K hK=>?_);simp (maxSteps:=2000000) only [go_sem,↓reduceIte,reduceCtorEq,Nat.reduceLeDiff,Nat.reduceLT,Nat.reduceBEq,Nat.reduceAdd,hd,eM,eI,eW,eS,ata,atb,List.length_map,dV_map,bne_self_eq_false];(repeat1' with_reducible first|apply And.intro|(intro _;try exact q_v)|(refine hK _ ?_;clear hK K))<;>(try (clear hK K;exact q_u)))|(with_reducible refine q_s ?_;(first|apply q_J|apply q_K|apply q_L|apply q_M|apply q_N|apply q_O)<;>try (intro _;try exact q_v)))
    all_goals first | omega | contradiction | exact hK | exact hp _ (by assumption) | exact kx | exact ky | exact lU | exact lE | exact fwV (c3b _ (by assumption)) | exact fwV (c1b _ (by assumption)) | exact q_A rfl | rfl | skip
   ·rw [if_pos h2] at hbo
    rw [hbo] at eU eM eI eE eW eS
    rw [if_pos (show (13 : Int) ≠ 0 by decide)] at eU eI eE eW eS
    simp only [chF_nil] at eU eM eI eE eW eS
    repeat' (first|with_reducible refine q_0 ?_|((with_reducible first|refine q_q ub20_ok fun K hK=>?_|refine q_r ub20_ok fun K hK=>?_);simp (maxSteps:=2000000) only [go_sem,↓reduceIte,reduceCtorEq,Nat.reduceLeDiff,Nat.reduceLT,Nat.reduceBEq,Nat.reduceAdd,hd,eU,eM,eI,eE,eW,eS,ata,atb,List.length_map];(repeat1' with_reducible first|apply And.intro|(intro _;try exact q_v)|(refine hK _ ?_;clear hK K))<;>(try (clear hK K;exact q_u)))|(with_reducible refine q_s ?_;(first|apply q_J|apply q_K|apply q_L|apply q_M|apply q_N|apply q_O)<;>try (intro _;try exact q_v)))
    all_goals first | omega | contradiction | exact hK | exact q_A rfl | skip
  ·rw [if_pos h1] at hbo
   rw [hbo] at eU eM eI eE eW eS
   rw [if_pos (show (13 : Int) ≠ 0 by decide)] at eU eI eE eW eS
   simp only [chF_nil] at eU eM eI eE eW eS
   repeat' (first|with_reducible refine q_0 ?_|((with_reducible first|refine q_q ub20_ok fun K hK=>?_|refine q_r ub20_ok fun K hK=>?_);simp (maxSteps:=2000000) only [go_sem,↓reduceIte,reduceCtorEq,Nat.reduceLeDiff,Nat.reduceLT,Nat.reduceBEq,Nat.reduceAdd,hd,eU,eM,eI,eE,eW,eS,ata,atb,List.length_map];(repeat1' with_reducible first|apply And.intro|(intro _;try exact q_v)|(refine hK _ ?_;clear hK K))<;>(try (clear hK K;exact q_u)))|(with_reducible refine q_s ?_;(first|apply q_J|apply q_K|apply q_L|apply q_M|apply q_N|apply q_O)<;>try (intro _;try exact q_v)))
   all_goals first | omega | contradiction | exact hK | exact q_A rfl | skip
end Go.Proofs.Ytncededjmcmidaa

namespace Go.Proofs.Ytncededjmcmidaa
set_option linter.unusedSimpArgs false
set_option linter.unusedVariables false
open Go.Abs Go.Proofs.NatL Go.ChangeShapes Go.WideShapes Go.ChangeAt Go.RowKit

theorem own_knob : ownKnob Try.prog.godebug = none:=by kernel_rfl
theorem kids : Kids Try.prog (· < Try.prog.types.size):=kids_rows (by kernel_rfl) (by kernel_rfl)
theorem full : ∀ t e,t < Try.prog.types.size → Try.prog.underlying t = some (.slice e) → 0 < Try.prog.cellsOf e:=slices_full_of Try.prog (by kernel_rfl)
end Go.Proofs.Ytncededjmcmidaa

namespace Go.Proofs.Ytncededjmcmidaa
set_option linter.unusedSimpArgs false
set_option linter.unusedVariables false
open Go.Abs Go.Proofs.NatL Go.ChangeShapes Go.WideShapes Go.ChangeAt Go.RowKit
theorem cells_int : Try.prog.cellsOf 3 = 1:=by kernel_rfl
theorem bytes_int : Try.prog.bytesOf 3 = 8:=by kernel_rfl
set_option maxRecDepth 100000 in
theorem open_ints {H : Type} {enc : TypeId × Value → H} {W : World} {base : Nat} {v : Value} {d : DataW H} {p : List MemPlace} (hval : Value.okWide Try.prog W .any base 22 v) (h : DataW.Trod enc Try.prog W 0 (fun _=>true) true 22 v d p) (hs : Sized Try.prog 22 d) :
  ∃ xs : List Int,Rd W Top (.ints .i64 xs) v ∧ xs.length ≤ 140737488355328 ∧ ∀ x ∈ xs, -9223372036854775808 ≤ x ∧ x ≤ 9223372036854775807:=by
 obtain ⟨fuel,hf⟩:=h
 obtain ⟨xs,u,hu,ho,hrd,hm,hw,hd⟩:=rd_ints Try.underlying22 Try.underlying3 cells_int hf
 obtain rfl:=one_of Try.underlying22 rfl hval hu ho
 have hl:=szd_slice (n:=xs.length) Try.underlying22 hs (by
  rcases hd with ⟨h1,h2⟩ | h1
  ·exact .inl ⟨h1,by rw [h2]; rfl⟩
  ·exact .inr h1)
 rw [bytes_int] at hl
 exact ⟨xs,hrd,by simp only [reachBytes] at hl; omega,fun x hx=>bounds_i64 (hw x hx)⟩

end Go.Proofs.Ytncededjmcmidaa
