import Derived.Test.YtgkajjifbcmoeaaGreatDoorP16
namespace Go.Proofs.NatL
set_option linter.unusedSimpArgs false
set_option linter.unusedVariables false
theorem cmp3_is1 (m : Nat) : cmp3 m 1 = 0 ↔ m = 1:=by unfold cmp3; (repeat' split) <;> omega
end Go.Proofs.NatL
namespace Go.Proofs.YtgkajjifbcmoeaaGreatDoor
set_option linter.unusedSimpArgs false
set_option linter.unusedVariables false
open Go.Abs Go.Proofs.NatL

theorem gRz_neq {z : Int} (h : z ≠ 0) (b c : Bool) : gRz z b = gRz z c:=by simp only [gRz,sgz,if_neg h]
theorem iplus_flq (s t : Bool) (m n : Nat) (lm : (dg 65536 m).length ≤ 1048576) (ln : (dg 65536 n).length ≤ 1048576) :
  Ret Tryz.prog 189 false [.inr [.b s,.ints .i64 (dg 65536 m)],.inr [.b t,.ints .i64 (dg 65536 n)]] (.g (gRz (sg s m + sg t n) s)):=by
 by_cases hst : s = t
 ·subst hst
  rw [sg_eq_add,gRz_eq]
  (refine q_H Tryz.func189 (fun F=>?_); simp only [q_z,q_y,Tryz.ntmps189,Tryz.results189])
  repeat' (first|with_reducible refine q_0 ?_|((with_reducible first|refine q_q jb5_ok fun K hK=>?_|refine q_r jb5_ok fun K hK=>?_);simp (maxSteps:=2000000) only [go_sem,↓reduceIte,reduceCtorEq,Nat.reduceLeDiff,Nat.reduceLT,Nat.reduceBEq,Nat.reduceAdd];(repeat1' with_reducible first|apply And.intro|(intro _;try exact q_v)|(refine hK _ ?_;clear hK K))<;>(try (clear hK K;exact q_u)))|(with_reducible refine q_s ?_;(first|apply q_J|apply q_K|apply q_L|apply q_M|apply q_N|apply q_O)<;>try (intro _;try exact q_v)))
  all_goals first | omega | exact q_A rfl
 ·have hne : (s == t) = false:=by simpa using hst
  rcases Nat.lt_or_ge m n with h | h
  ·rw [gRz_neq (by cases s <;> cases t <;> simp [sg] at hst ⊢ <;> omega) s t,sg_eq_sub' hst (by omega),gRz_eq]
   have hc:=(cmp3_lt m n).2 h
   (refine q_H Tryz.func189 (fun F=>?_); simp only [q_z,q_y,Tryz.ntmps189,Tryz.results189])
   repeat' (first|with_reducible refine q_0 ?_|((with_reducible first|refine q_q jb5_ok fun K hK=>?_|refine q_r jb5_ok fun K hK=>?_);simp (maxSteps:=2000000) only [go_sem,↓reduceIte,reduceCtorEq,Nat.reduceLeDiff,Nat.reduceLT,Nat.reduceBEq,Nat.reduceAdd,hne];(repeat1' with_reducible first|apply And.intro|(intro _;try exact q_v)|(refine hK _ ?_;clear hK K))<;>(try (clear hK K;exact q_u)))|(with_reducible refine q_s ?_;(first|apply q_J|apply q_K|apply q_L|apply q_M|apply q_N|apply q_O)<;>try (intro _;try exact q_v)))
   all_goals first | omega | exact q_A rfl
  ·rw [sg_eq_sub hst h,gRz_eq]
   have hc : ¬ cmp3 m n < 0:=fun h2=>by have:=(cmp3_lt m n).1 h2; omega
   (refine q_H Tryz.func189 (fun F=>?_); simp only [q_z,q_y,Tryz.ntmps189,Tryz.results189])
   repeat' (first|with_reducible refine q_0 ?_|((with_reducible first|refine q_q jb5_ok fun K hK=>?_|refine q_r jb5_ok fun K hK=>?_);simp (maxSteps:=2000000) only [go_sem,↓reduceIte,reduceCtorEq,Nat.reduceLeDiff,Nat.reduceLT,Nat.reduceBEq,Nat.reduceAdd,hne];(repeat1' with_reducible first|apply And.intro|(intro _;try exact q_v)|(refine hK _ ?_;clear hK K))<;>(try (clear hK K;exact q_u)))|(with_reducible refine q_s ?_;(first|apply q_J|apply q_K|apply q_L|apply q_M|apply q_N|apply q_O)<;>try (intro _;try exact q_v)))
   all_goals first | omega | exact q_A rfl
def plusQCT : CT:=mkCT [nR,nR] false fun l K=>match l with
 | [.inr [.b s,.ints .i64 xs],.inr [.b t,.ints .i64 ys]]=>(InB 65536 xs ∧ Trd xs ∧ xs.length ≤ 1048576 ∧ InB 65536 ys ∧ Trd ys ∧ ys.length ≤ 1048576) ∧ K (.g (gRz (sv 65536 s xs + sv 65536 t ys) s))
 | _=>False
def rqa : Cfg:=addT 189 plusQCT cf0
theorem rqa_ok : TblOk Tryz.prog rqa:=q_I cf0_ok Tryz.func189 fun l K h=>by
 split at h
 ·rename_i s xs t ys
  obtain ⟨⟨h1,h2,h3,h4,h5,h6⟩,h⟩:=h
  obtain ⟨e1,e2⟩:=sv_ys (s:=s) h1 h2
  obtain ⟨e3,e4⟩:=sv_ys (s:=t) h4 h5
  rw [e2,e4] at h
  have this:=iplus_flq s t (V 65536 xs) (V 65536 ys) (by rw [← e1]; exact h3) (by rw [← e3]; exact h6)
  rw [← e1,← e3] at this
  exact ⟨_,this,h⟩
 ·exact h.elim
attribute [go_sem] plusQCT
abbrev nT : Option C ⊕ List (Option C):=.inr [none,some (.ints .i64 []),some (.ints .i64 [])]
abbrev gT (z : Int) (d : Nat) (c : Bool) : List C:=[.b (sgz z c),.ints .i64 (dg 65536 z.natAbs),.ints .i64 (dg 65536 d)]
def qr1 : Cfg:=listT [(104,ivalidCT),(106,ofCT),(134,intOfCT),(133,commonCT),(15,smallCT),(128,rcmpCT),(117,rdivCT),(135,(rI2CT 1048576 mulF)),(189,plusQCT),(139,iminusCT),(136,(rI2CT 4194304 ordF)),(190,fitsCT),(68,(rnumCT (fun _ _=>True) (· * ·))),(191,sameIntCT),(27,noIntCT)] [34]
theorem qr1_ok : TblOk Tryz.prog qr1:=listE_ok (by simp only [List.mem_singleton,forall_eq]; exact flt) ⟨⟨jt1,jt1_ok,rfl⟩,⟨db6,db6_ok,rfl⟩,⟨jt3,jt3_ok,rfl⟩,⟨rg3,rg3_ok,rfl⟩,⟨nt7,nt7_ok,rfl⟩,⟨db7,db7_ok,rfl⟩,⟨jt13,jt13_ok,rfl⟩,⟨jt11,jt11_ok,rfl⟩,⟨rqa,rqa_ok,rfl⟩,⟨jt9,jt9_ok,rfl⟩,⟨jt12,jt12_ok,rfl⟩,⟨jt8,jt8_ok,rfl⟩,⟨db9,db9_ok,rfl⟩,⟨jt4,jt4_ok,rfl⟩,⟨jt6,jt6_ok,rfl⟩,trivial⟩
attribute [go_sem] qr1
set_option maxHeartbeats 1600000 in
theorem ratioOk_ret (s t : Bool) (xs ys : List Int) (h1 : xs.length ≤ 140737488355328) (h2 : ys.length ≤ 140737488355328) (b1 : InB 4294967296 xs) (b2 : InB 4294967296 ys) :
  Ret Tryz.prog 50 false [.inr [.b s,.ints .u32 xs,.b t,.ints .u32 ys]] (.c (.b (okQ s xs t ys))):=by
 cases e1 : okZ s xs
 ·(refine q_H Tryz.func50 (fun F=>?_); simp only [q_z,q_y,Tryz.ntmps50,Tryz.results50])
  repeat' (first|with_reducible refine q_0 ?_|((with_reducible first|refine q_q qr1_ok fun K hK=>?_|refine q_r qr1_ok fun K hK=>?_);simp (maxSteps:=2000000) only [go_sem,↓reduceIte,reduceCtorEq,Nat.reduceLeDiff,Nat.reduceLT,Nat.reduceBEq,Nat.reduceAdd,e1];(repeat1' with_reducible first|apply And.intro|(intro _;try exact q_v)|(refine hK _ ?_;clear hK K))<;>(try (clear hK K;exact q_u)))|(with_reducible refine q_s ?_;(first|apply q_J|apply q_K|apply q_L|apply q_M|apply q_N|apply q_O)<;>try (intro _;try exact q_v)))
  all_goals exact q_A (by simp [resAV,q_y,okQ,e1])
 cases e2 : okZ t ys
 ·(refine q_H Tryz.func50 (fun F=>?_); simp only [q_z,q_y,Tryz.ntmps50,Tryz.results50])
  repeat' (first|with_reducible refine q_0 ?_|((with_reducible first|refine q_q qr1_ok fun K hK=>?_|refine q_r qr1_ok fun K hK=>?_);simp (maxSteps:=2000000) only [go_sem,↓reduceIte,reduceCtorEq,Nat.reduceLeDiff,Nat.reduceLT,Nat.reduceBEq,Nat.reduceAdd,e1,e2];(repeat1' with_reducible first|apply And.intro|(intro _;try exact q_v)|(refine hK _ ?_;clear hK K))<;>(try (clear hK K;exact q_u)))|(with_reducible refine q_s ?_;(first|apply q_J|apply q_K|apply q_L|apply q_M|apply q_N|apply q_O)<;>try (intro _;try exact q_v)))
  all_goals exact q_A (by simp [resAV,q_y,okQ,e1,e2])
 have l1:=okZ_len e1
 have l2:=okZ_len e2
 have t2:=okZ_trd e2
 cases t
 ·rcases Nat.eq_zero_or_pos ys.length with h0 | h0
  ·have e0 : ((ys.length : Int) = 0) = True:=eq_true (by omega)
   (refine q_H Tryz.func50 (fun F=>?_); simp only [q_z,q_y,Tryz.ntmps50,Tryz.results50])
   repeat' (first|with_reducible refine q_0 ?_|((with_reducible first|refine q_q qr1_ok fun K hK=>?_|refine q_r qr1_ok fun K hK=>?_);simp (maxSteps:=2000000) only [go_sem,↓reduceIte,reduceCtorEq,Nat.reduceLeDiff,Nat.reduceLT,Nat.reduceBEq,Nat.reduceAdd,e1,e2,e0];(repeat1' with_reducible first|apply And.intro|(intro _;try exact q_v)|(refine hK _ ?_;clear hK K))<;>(try (clear hK K;exact q_u)))|(with_reducible refine q_s ?_;(first|apply q_J|apply q_K|apply q_L|apply q_M|apply q_N|apply q_O)<;>try (intro _;try exact q_v)))
   all_goals exact q_A (by simp [resAV,q_y,okQ,h0])
  ·have e0 : ((ys.length : Int) = 0) = False:=eq_false (by omega)
   have vy : 0 < V 4294967296 ys:=by
    have h:=h0
    rw [← dg_V 4294967296 (by omega) ys b2 t2] at h
    exact (dg_len_pos _ _ (by omega)).1 h
   have lx : (dg 65536 (V 4294967296 xs)).length ≤ 256:=(dg_half' _ 128).2 (by rw [dg_V 4294967296 (by omega) xs b1 (okZ_trd e1)]; exact l1)
   have ly : (dg 65536 (V 4294967296 ys)).length ≤ 256:=(dg_half' _ 128).2 (by rw [dg_V 4294967296 (by omega) ys b2 t2]; exact l2)
   have hgl : (dg 65536 (Nat.gcd (V 4294967296 xs) (V 4294967296 ys))).length ≤ 256:=Nat.le_trans (dg_len_mono (by omega) (Nat.gcd_le_right _ vy)) ly
   have hok : okQ s xs false ys = decide (cmp3 (Nat.gcd (V 4294967296 xs) (V 4294967296 ys)) 1 = 0):=by
    have hc:=cmp3_is1 (Nat.gcd (V 4294967296 xs) (V 4294967296 ys))
    simp [okQ,e1,e2,h0,hc]
   rw [hok]
   generalize hg : Nat.gcd (V 4294967296 xs) (V 4294967296 ys) = g at *
   have d1 : (dg 65536 1).length ≤ 1:=by decide
   (refine q_H Tryz.func50 (fun F=>?_); simp only [q_z,q_y,Tryz.ntmps50,Tryz.results50])
   repeat' (first|with_reducible refine q_0 ?_|((with_reducible first|refine q_q qr1_ok fun K hK=>?_|refine q_r qr1_ok fun K hK=>?_);simp (maxSteps:=2000000) only [go_sem,↓reduceIte,reduceCtorEq,Nat.reduceLeDiff,Nat.reduceLT,Nat.reduceBEq,Nat.reduceAdd,e1,e2,e0,V65,hg];(repeat1' with_reducible first|apply And.intro|(intro _;try exact q_v)|(refine hK _ ?_;clear hK K))<;>(try (clear hK K;exact q_u)))|(with_reducible refine q_s ?_;(first|apply q_J|apply q_K|apply q_L|apply q_M|apply q_N|apply q_O)<;>try (intro _;try exact q_v)))
   all_goals first | omega | exact q_A rfl | exact Nat.le_trans d1 (by omega) | skip
 ·(refine q_H Tryz.func50 (fun F=>?_); simp only [q_z,q_y,Tryz.ntmps50,Tryz.results50])
  repeat' (first|with_reducible refine q_0 ?_|((with_reducible first|refine q_q qr1_ok fun K hK=>?_|refine q_r qr1_ok fun K hK=>?_);simp (maxSteps:=2000000) only [go_sem,↓reduceIte,reduceCtorEq,Nat.reduceLeDiff,Nat.reduceLT,Nat.reduceBEq,Nat.reduceAdd,e1,e2];(repeat1' with_reducible first|apply And.intro|(intro _;try exact q_v)|(refine hK _ ?_;clear hK K))<;>(try (clear hK K;exact q_u)))|(with_reducible refine q_s ?_;(first|apply q_J|apply q_K|apply q_L|apply q_M|apply q_N|apply q_O)<;>try (intro _;try exact q_v)))
  all_goals exact q_A (by simp [resAV,q_y,okQ])
def rq1 : Cfg:=addT 50 validQCT cf0
theorem rq1_ok : TblOk Tryz.prog rq1:=q_I cf0_ok Tryz.func50 fun l K h=>by
 split at h
 ·exact ⟨_,(ratioOk_ret _ _ _ _ h.1.1 h.1.2.1 h.1.2.2.1 h.1.2.2.2).plain rfl,h.2⟩
 ·exact h.elim
set_option maxHeartbeats 800000 in
theorem ratioOf_ret (s t : Bool) (xs ys : List Int) (h1 : xs.length ≤ 1048576) (h2 : ys.length ≤ 1048576) (b1 : InB 4294967296 xs) (b2 : InB 4294967296 ys) :
  Ret Tryz.prog 53 false [.inr [.b s,.ints .u32 xs,.b t,.ints .u32 ys]] (.g [.b s,.ints .i64 (dg 65536 (V 4294967296 xs)),.ints .i64 (dg 65536 (V 4294967296 ys))]):=by
 (refine q_H Tryz.func53 (fun F=>?_); simp only [q_z,q_y,Tryz.ntmps53,Tryz.results53])
 repeat' (first|with_reducible refine q_0 ?_|((with_reducible first|refine q_q qr1_ok fun K hK=>?_|refine q_r qr1_ok fun K hK=>?_);simp (maxSteps:=2000000) only [go_sem,↓reduceIte,reduceCtorEq,Nat.reduceLeDiff,Nat.reduceLT,Nat.reduceBEq,Nat.reduceAdd];(repeat1' with_reducible first|apply And.intro|(intro _;try exact q_v)|(refine hK _ ?_;clear hK K))<;>(try (clear hK K;exact q_u)))|(with_reducible refine q_s ?_;(first|apply q_J|apply q_K|apply q_L|apply q_M|apply q_N|apply q_O)<;>try (intro _;try exact q_v)))
 all_goals first | omega | exact q_A rfl | skip
def ratioOfCT : CT:=mkCT [nQ] false fun l K=>match l with
 | [.inr [.b s,.ints .u32 xs,.b t,.ints .u32 ys]]=>(xs.length ≤ 1048576 ∧ ys.length ≤ 1048576 ∧ InB 4294967296 xs ∧ InB 4294967296 ys) ∧ K (.g [.b s,.ints .i64 (dg 65536 (V 4294967296 xs)),.ints .i64 (dg 65536 (V 4294967296 ys))])
 | _=>False
def rq2 : Cfg:=addT 53 ratioOfCT cf0
theorem rq2_ok : TblOk Tryz.prog rq2:=q_I cf0_ok Tryz.func53 fun l K h=>by
 split at h
 ·exact ⟨_,ratioOf_ret _ _ _ _ h.1.1 h.1.2.1 h.1.2.2.1 h.1.2.2.2,h.2⟩
 ·exact h.elim

theorem gT_eq (s : Bool) (k d : Nat) : gT (sg s k) d s = [.b s,.ints .i64 (dg 65536 k),.ints .i64 (dg 65536 d)]:=by simp only [gT,sgz_sg,sg_abs]
set_option maxHeartbeats 1600000 in
theorem lowest_ret (s : Bool) (m d : Nat) (lm : (dg 65536 m).length ≤ 60000) (ld : (dg 65536 d).length ≤ 60000) (hd : 0 < d) :
  Ret Tryz.prog 69 false [.inr [.b s,.ints .i64 (dg 65536 m),.ints .i64 (dg 65536 d)]] (.g (gT (rdN (sg s m) d) (rdD (sg s m) d) s)):=by
 obtain ⟨e1,e2⟩:=rd_sg s m hd
 have hg : 0 < Nat.gcd m d:=Nat.gcd_pos_of_pos_right _ hd
 have hgl : (dg 65536 (Nat.gcd m d)).length ≤ 60000:=Nat.le_trans (dg_len_mono (by omega) (Nat.gcd_le_right _ hd)) ld
 rw [e1,e2,gT_eq]
 generalize hG : Nat.gcd m d = g at *
 (refine q_H Tryz.func69 (fun F=>?_); simp only [q_z,q_y,Tryz.ntmps69,Tryz.results69])
 repeat' (first|with_reducible refine q_0 ?_|((with_reducible first|refine q_q qr1_ok fun K hK=>?_|refine q_r qr1_ok fun K hK=>?_);simp (maxSteps:=2000000) only [go_sem,↓reduceIte,reduceCtorEq,Nat.reduceLeDiff,Nat.reduceLT,Nat.reduceBEq,Nat.reduceAdd,V65,hG];(repeat1' with_reducible first|apply And.intro|(intro _;try exact q_v)|(refine hK _ ?_;clear hK K))<;>(try (clear hK K;exact q_u)))|(with_reducible refine q_s ?_;(first|apply q_J|apply q_K|apply q_L|apply q_M|apply q_N|apply q_O)<;>try (intro _;try exact q_v)))
 all_goals first | omega | exact q_A rfl | skip
def qT (n : Nat) (p : Int → Nat → Prop) (f : Int → Nat → Bool → (AV → Prop) → Prop) : CT:=mkCT [nT] false fun l K=>match l with
 | [.inr [.b s,.ints .i64 xs,.ints .i64 zs]]=>(InB 65536 xs ∧ Trd xs ∧ xs.length ≤ n ∧ InB 65536 zs ∧ Trd zs ∧ zs.length ≤ n ∧ p (sv 65536 s xs) (V 65536 zs)) ∧ f (sv 65536 s xs) (V 65536 zs) s K
 | _=>False
theorem qT_tr {F : FuncId} {n : Nat} {p : Int → Nat → Prop} {f : Int → Nat → Bool → (AV → Prop) → Prop} (h : ∀ (s : Bool) (m d : Nat),(dg 65536 m).length ≤ n → (dg 65536 d).length ≤ n → p (sg s m) d → ∀ K,f (sg s m) d s K → ∃ r,Ret Tryz.prog F false [.inr [.b s,.ints .i64 (dg 65536 m),.ints .i64 (dg 65536 d)]] r ∧ K r)
  (l : List (C ⊕ List C)) (K : AV → Prop) (hk : match l with
   | [.inr [.b s,.ints .i64 xs,.ints .i64 zs]]=>(InB 65536 xs ∧ Trd xs ∧ xs.length ≤ n ∧ InB 65536 zs ∧ Trd zs ∧ zs.length ≤ n ∧ p (sv 65536 s xs) (V 65536 zs)) ∧ f (sv 65536 s xs) (V 65536 zs) s K
   | _=>False) : ∃ r,Ret Tryz.prog F false l r ∧ K r:=by
 split at hk
 ·rename_i s xs zs
  obtain ⟨⟨h1,h2,h3,h4,h5,h6,h7⟩,hk⟩:=hk
  obtain ⟨e1,e2⟩:=sv_ys (s:=s) h1 h2
  have e3:=dg_V 65536 (by omega) zs h4 h5
  rw [e2] at h7 hk
  have:=h s (V 65536 xs) (V 65536 zs) (by rw [← e1]; exact h3) (by rw [e3]; exact h6) h7 K hk
  rw [← e1,e3] at this
  exact this
 ·exact hk.elim
def dpos (_ : Int) (d : Nat) : Prop:=0 < d
theorem dpos_d (z : Int) (d : Nat) : dpos z d = (0 < d):=rfl
def lowF (z : Int) (d : Nat) (s : Bool) (K : AV → Prop) : Prop:=K (.g (gT (rdN z d) (rdD z d) s))
def rq3 : Cfg:=addT 69 (qT 60000 dpos lowF) cf0
theorem rq3_ok : TblOk Tryz.prog rq3:=q_I cf0_ok Tryz.func69 fun l K h =>
 qT_tr (p:=dpos) (f:=lowF) (fun s m d lm ld hd K h=>⟨_,lowest_ret s m d lm ld hd,h⟩) l K h
attribute [go_sem] ratioOfCT gT qT dpos_d lowF
def qT2 (n : Nat) (p : Int → Nat → Int → Nat → Prop) (f : Int → Nat → Int → Nat → (AV → Prop) → Prop) : CT:=mkCT [nT,nT] false fun l K=>match l with
 | [.inr [.b s,.ints .i64 xs,.ints .i64 zs],.inr [.b t,.ints .i64 ys,.ints .i64 ws]] =>
   (InB 65536 xs ∧ Trd xs ∧ xs.length ≤ n ∧ InB 65536 zs ∧ Trd zs ∧ zs.length ≤ n ∧ InB 65536 ys ∧ Trd ys ∧ ys.length ≤ n ∧ InB 65536 ws ∧ Trd ws ∧ ws.length ≤ n ∧ p (sv 65536 s xs) (V 65536 zs) (sv 65536 t ys) (V 65536 ws)) ∧ f (sv 65536 s xs) (V 65536 zs) (sv 65536 t ys) (V 65536 ws) K
 | _=>False
theorem qT2_tr {F : FuncId} {n : Nat} {p : Int → Nat → Int → Nat → Prop} {f : Int → Nat → Int → Nat → (AV → Prop) → Prop} (h : ∀ (s t : Bool) (m c k d : Nat),(dg 65536 m).length ≤ n → (dg 65536 c).length ≤ n → (dg 65536 k).length ≤ n → (dg 65536 d).length ≤ n → p (sg s m) c (sg t k) d → ∀ K,f (sg s m) c (sg t k) d K → ∃ r,Ret Tryz.prog F false [.inr [.b s,.ints .i64 (dg 65536 m),.ints .i64 (dg 65536 c)],.inr [.b t,.ints .i64 (dg 65536 k),.ints .i64 (dg 65536 d)]] r ∧ K r)
  (l : List (C ⊕ List C)) (K : AV → Prop) (hk : match l with
   | [.inr [.b s,.ints .i64 xs,.ints .i64 zs],.inr [.b t,.ints .i64 ys,.ints .i64 ws]] =>
    (InB 65536 xs ∧ Trd xs ∧ xs.length ≤ n ∧ InB 65536 zs ∧ Trd zs ∧ zs.length ≤ n ∧ InB 65536 ys ∧ Trd ys ∧ ys.length ≤ n ∧ InB 65536 ws ∧ Trd ws ∧ ws.length ≤ n ∧ p (sv 65536 s xs) (V 65536 zs) (sv 65536 t ys) (V 65536 ws)) ∧ f (sv 65536 s xs) (V 65536 zs) (sv 65536 t ys) (V 65536 ws) K
   | _=>False) : ∃ r,Ret Tryz.prog F false l r ∧ K r:=by
 split at hk
 ·rename_i s xs zs t ys ws
  obtain ⟨⟨h1,h2,h3,h4,h5,h6,h7,h8,h9,h10,h11,h12,h13⟩,hk⟩:=hk
  obtain ⟨e1,e2⟩:=sv_ys (s:=s) h1 h2
  obtain ⟨e4,e5⟩:=sv_ys (s:=t) h7 h8
  have e3:=dg_V 65536 (by omega) zs h4 h5
  have e6:=dg_V 65536 (by omega) ws h10 h11
  rw [e2,e5] at h13 hk
  have:=h s t (V 65536 xs) (V 65536 zs) (V 65536 ys) (V 65536 ws) (by rw [← e1]; exact h3) (by rw [e3]; exact h6) (by rw [← e4]; exact h9) (by rw [e6]; exact h12) h13 K hk
  rw [← e1,e3,← e4,e6] at this
  exact this
 ·exact hk.elim
def dpos2 (_ : Int) (c : Nat) (_ : Int) (d : Nat) : Prop:=0 < c ∧ 0 < d
def dany2 (_ : Int) (_ : Nat) (_ : Int) (_ : Nat) : Prop:=True
theorem dpos2_d (x : Int) (c : Nat) (y : Int) (d : Nat) : dpos2 x c y d = (0 < c ∧ 0 < d):=rfl
theorem dany2_d (x : Int) (c : Nat) (y : Int) (d : Nat) : dany2 x c y d = True:=rfl
def qr2 : Cfg:=listT [(69,(qT 60000 dpos lowF)),(135,(rI2CT 1048576 mulF)),(189,plusQCT),(139,iminusCT),(136,(rI2CT 4194304 ordF)),(68,(rnumCT (fun _ _=>True) (· * ·)))] [34]
theorem qr2_ok : TblOk Tryz.prog qr2:=listE_ok (by simp only [List.mem_singleton,forall_eq]; exact flt) ⟨⟨rq3,rq3_ok,rfl⟩,⟨jt11,jt11_ok,rfl⟩,⟨rqa,rqa_ok,rfl⟩,⟨jt9,jt9_ok,rfl⟩,⟨jt12,jt12_ok,rfl⟩,⟨db9,db9_ok,rfl⟩,trivial⟩
attribute [go_sem] qr2
set_option maxHeartbeats 1600000 in
theorem qplusT_ret (s t : Bool) (m c k d : Nat) (lm : (dg 65536 m).length ≤ 20000) (lc : (dg 65536 c).length ≤ 20000) (lk : (dg 65536 k).length ≤ 20000) (ld : (dg 65536 d).length ≤ 20000) (hc : 0 < c) (hd : 0 < d) :
  Ret Tryz.prog 138 false [.inr [.b s,.ints .i64 (dg 65536 m),.ints .i64 (dg 65536 c)],.inr [.b t,.ints .i64 (dg 65536 k),.ints .i64 (dg 65536 d)]] (.g (gT (rdN (sg s m * d + sg t k * c) (c * d)) (rdD (sg s m * d + sg t k * c) (c * d)) (sgz (sg s m * d + sg t k * c) (decide (sg s m * (d : Int) < 0))))):=by
 have e1 : sg s m * (d : Int) = sg s (m * d):=by have:=sg_mul s false m d; rw [sgf,Bool.bne_false] at this; exact this.symm
 have e2 : sg t k * (c : Int) = sg t (k * c):=by have:=sg_mul t false k c; rw [sgf,Bool.bne_false] at this; exact this.symm
 have l1 : (dg 65536 (sg s m * (d : Int)).natAbs).length ≤ 40000:=by rw [e1,sg_abs]; exact mul_len (by omega) lm ld
 have l2 : (dg 65536 (sg t k * (c : Int)).natAbs).length ≤ 40000:=by rw [e2,sg_abs]; exact mul_len (by omega) lk lc
 have l3:=zadd_len (by omega) l1 l2
 have l4:=mul_len (B:=65536) (by omega) lc ld
 have hcd:=Nat.mul_pos hc hd
 have f1:=sgf d
 have f2:=sgf c
 generalize hX : sg s m * (d : Int) = X at *
 generalize hY : sg t k * (c : Int) = Y at *
 generalize hD : c * d = D at *
 (refine q_H Tryz.func138 (fun F=>?_); simp only [q_z,q_y,Tryz.ntmps138,Tryz.results138])
 repeat' (first|with_reducible refine q_0 ?_|((with_reducible first|refine q_q qr2_ok fun K hK=>?_|refine q_r qr2_ok fun K hK=>?_);simp (maxSteps:=2000000) only [go_sem,↓reduceIte,reduceCtorEq,Nat.reduceLeDiff,Nat.reduceLT,Nat.reduceBEq,Nat.reduceAdd,V65,sv65d,svz65,f1,f2,hX,hY,hD,sg_self];(repeat1' with_reducible first|apply And.intro|(intro _;try exact q_v)|(refine hK _ ?_;clear hK K))<;>(try (clear hK K;exact q_u)))|(with_reducible refine q_s ?_;(first|apply q_J|apply q_K|apply q_L|apply q_M|apply q_N|apply q_O)<;>try (intro _;try exact q_v)))
 all_goals first | omega | exact q_A rfl | skip
def pluX (x : Int) (c : Nat) (y : Int) (d : Nat) (K : AV → Prop) : Prop:=K (.g (gT (rdN (x * d + y * c) (c * d)) (rdD (x * d + y * c) (c * d)) (sgz (x * d + y * c) (decide (x * (d : Int) < 0)))))
def rq5x : Cfg:=addT 138 (qT2 20000 dpos2 pluX) cf0
theorem rq5x_ok : TblOk Tryz.prog rq5x:=q_I cf0_ok Tryz.func138 fun l K h =>
 qT2_tr (p:=dpos2) (f:=pluX) (fun s t m c k d lm lc lk ld hp K h=>⟨_,qplusT_ret s t m c k d lm lc lk ld hp.1 hp.2,h⟩) l K h
attribute [go_sem] qT2 dpos2_d dany2_d pluX
end Go.Proofs.YtgkajjifbcmoeaaGreatDoor

namespace Go.Proofs.NatL
set_option linter.unusedSimpArgs false
set_option linter.unusedVariables false
theorem ds_65b {n : Nat} (h : ds n ≤ 20000) : (dg 65536 n).length ≤ 4200:=Nat.le_trans (len_ds65 h) (by omega)
theorem ten_65 {k : Nat} (h : k ≤ 12000) : (dg 65536 (10 ^ k)).length ≤ 4200:=ds_65b (by rw [ds_ten]; omega)
end Go.Proofs.NatL
namespace Go.Proofs.YtgkajjifbcmoeaaGreatDoor
set_option linter.unusedSimpArgs false
set_option linter.unusedVariables false
open Go.Abs Go.Proofs.NatL

def eb1 : Cfg:=listT [(15,smallCT),(68,(rnumCT (fun _ _=>True) (· * ·)))] [34]
theorem eb1_ok : TblOk Tryz.prog eb1:=listE_ok (by simp only [List.mem_singleton,forall_eq]; exact flt) ⟨⟨nt7,nt7_ok,rfl⟩,⟨db9,db9_ok,rfl⟩,trivial⟩
attribute [go_sem] eb1
set_option maxHeartbeats 1600000 in
theorem rten_ret (N : Nat) (h : N ≤ 12000) : Ret Tryz.prog 56 false [.inl (.i .i64 (N : Int))] (.c (.ints .i64 (dg 65536 (10 ^ N)))):=by
 obtain ⟨U4,hU4⟩ : ∃ x : Nat,x = 10000:=⟨_,rfl⟩
 obtain ⟨U1,hU1⟩ : ∃ x : Nat,x = 10:=⟨_,rfl⟩
 have t4 : (10000 : Int).toNat = U4:=by rw [hU4]; rfl
 have t1 : (10 : Int).toNat = U1:=by rw [hU1]; rfl
 have t0 : (1 : Int).toNat = 1:=rfl
 have l4 : (dg 65536 U4).length ≤ 4200:=ds_65b (by rw [hU4]; decide)
 have l1 : (dg 65536 U1).length ≤ 4200:=ds_65b (by rw [hU1]; decide)
 (refine q_H Tryz.func56 (fun F=>?_); simp only [q_z,q_y,Tryz.ntmps56,Tryz.results56])
 repeat' (first|with_reducible refine q_0 ?_|((with_reducible first|refine q_q eb1_ok fun K hK=>?_|refine q_r eb1_ok fun K hK=>?_);simp (maxSteps:=2000000) only [go_sem,↓reduceIte,reduceCtorEq,Nat.reduceLeDiff,Nat.reduceLT,Nat.reduceBEq,Nat.reduceAdd,t0];(repeat1' with_reducible first|apply And.intro|(intro _;try exact q_v)|(refine hK _ ?_;clear hK K))<;>(try (clear hK K;exact q_u)))|(with_reducible refine q_s ?_;(first|apply q_J|apply q_K|apply q_L|apply q_M|apply q_N|apply q_O)<;>try (intro _;try exact q_v)))
 all_goals first | omega | skip
 refine q_G (ι:={ q : Nat × Nat // q.1 + q.2 = N }) (fun q=>⟨20,[(0,.c (.i .i64 (q.1.2 : Nat))),(3,.c (.ints .i64 (dg 65536 (10 ^ q.1.1))))],⟨[],[],[]⟩,0⟩) (fun q=>q.1.2) ⟨(0,N),by simp⟩ ?_ ?_
 ·exact q_D
 rintro ⟨⟨a,n⟩,g⟩
 simp only at g ⊢
 have la:=ten_65 (k:=a) (by omega)
 by_cases h4 : 4 ≤ n
 ·repeat' (first|with_reducible refine q_0 ?_|((with_reducible first|refine q_q eb1_ok fun K hK=>?_|refine q_r eb1_ok fun K hK=>?_);simp (maxSteps:=2000000) only [go_sem,↓reduceIte,reduceCtorEq,Nat.reduceLeDiff,Nat.reduceLT,Nat.reduceBEq,Nat.reduceAdd,V65,t4];(repeat1' with_reducible first|apply And.intro|(intro _;try exact q_v)|(refine hK _ ?_;clear hK K))<;>(try (clear hK K;exact q_u)))|(with_reducible refine q_s ?_;(first|apply q_J|apply q_K|apply q_L|apply q_M|apply q_N|apply q_O)<;>try (intro _;try exact q_v)))
  all_goals first | omega | skip
  have m1 : 10 ^ a * U4 = 10 ^ (a + 4):=by rw [Nat.pow_add,hU4]
  refine q_F ⟨(a + 4,n - 4),by simp only; omega⟩ ?_ (by simp only; omega)
  have es : ((n - 4 : Nat) : Int) = (n : Int) - 4:=by omega
  simp only [m1,← es]
  exact q_D
 ·repeat' (first|with_reducible refine q_0 ?_|((with_reducible first|refine q_q eb1_ok fun K hK=>?_|refine q_r eb1_ok fun K hK=>?_);simp (maxSteps:=2000000) only [go_sem,↓reduceIte,reduceCtorEq,Nat.reduceLeDiff,Nat.reduceLT,Nat.reduceBEq,Nat.reduceAdd,V65];(repeat1' with_reducible first|apply And.intro|(intro _;try exact q_v)|(refine hK _ ?_;clear hK K))<;>(try (clear hK K;exact q_u)))|(with_reducible refine q_s ?_;(first|apply q_J|apply q_K|apply q_L|apply q_M|apply q_N|apply q_O)<;>try (intro _;try exact q_v)))
  all_goals first | omega | skip
  refine q_G (ι:={ q : Nat × Nat // q.1 + q.2 = N }) (fun q=>⟨20,[(0,.c (.i .i64 (q.1.2 : Nat))),(3,.c (.ints .i64 (dg 65536 (10 ^ q.1.1))))],⟨[],[],[]⟩,0⟩) (fun q=>q.1.2) ⟨(a,n),g⟩ ?_ ?_
  ·exact q_D
  clear la
  rintro ⟨⟨b,k⟩,g'⟩
  simp only at g' ⊢
  have la:=ten_65 (k:=b) (by omega)
  rcases Nat.eq_zero_or_pos k with h0 | h0
  ·subst h0
   rw [Nat.add_zero] at g'
   subst g'
   repeat' (first|with_reducible refine q_0 ?_|((with_reducible first|refine q_q eb1_ok fun K hK=>?_|refine q_r eb1_ok fun K hK=>?_);simp (maxSteps:=2000000) only [go_sem,↓reduceIte,reduceCtorEq,Nat.reduceLeDiff,Nat.reduceLT,Nat.reduceBEq,Nat.reduceAdd];(repeat1' with_reducible first|apply And.intro|(intro _;try exact q_v)|(refine hK _ ?_;clear hK K))<;>(try (clear hK K;exact q_u)))|(with_reducible refine q_s ?_;(first|apply q_J|apply q_K|apply q_L|apply q_M|apply q_N|apply q_O)<;>try (intro _;try exact q_v)))
   all_goals first | omega | exact q_A rfl | skip
  ·repeat' (first|with_reducible refine q_0 ?_|((with_reducible first|refine q_q eb1_ok fun K hK=>?_|refine q_r eb1_ok fun K hK=>?_);simp (maxSteps:=2000000) only [go_sem,↓reduceIte,reduceCtorEq,Nat.reduceLeDiff,Nat.reduceLT,Nat.reduceBEq,Nat.reduceAdd,V65,t1];(repeat1' with_reducible first|apply And.intro|(intro _;try exact q_v)|(refine hK _ ?_;clear hK K))<;>(try (clear hK K;exact q_u)))|(with_reducible refine q_s ?_;(first|apply q_J|apply q_K|apply q_L|apply q_M|apply q_N|apply q_O)<;>try (intro _;try exact q_v)))
   all_goals first | omega | skip
   have m1 : 10 ^ b * U1 = 10 ^ (b + 1):=by rw [hU1]; exact (Nat.pow_succ 10 b).symm
   refine q_F ⟨(b + 1,k - 1),by simp only; omega⟩ ?_ (by simp only; omega)
   have es : ((k - 1 : Nat) : Int) = (k : Int) - 1:=by omega
   simp only [m1,← es]
   exact q_D
def rtenCT : CT:=mkCT [] false fun l K=>match l with
 | [.inl (.i .i64 n)]=>(0 ≤ n ∧ n ≤ 12000) ∧ K (.c (.ints .i64 (dg 65536 (10 ^ n.toNat))))
 | _=>False
def er1 : Cfg:=addT 56 rtenCT cf0
theorem er1_ok : TblOk Tryz.prog er1:=q_I cf0_ok Tryz.func56 fun l K h=>by
 split at h
 ·rename_i n
  obtain ⟨⟨h1,h2⟩,h⟩:=h
  have:=rten_ret n.toNat (by omega)
  rw [show ((n.toNat : Nat) : Int) = n by omega] at this
  exact ⟨_,this,h⟩
 ·exact h.elim
attribute [go_sem] rtenCT
def ptP (num den : Nat) (e x : Int) : Prop:=ds num ≤ 8000 ∧ ds den ≤ 8000 ∧ -12000 ≤ e - x ∧ e - x ≤ 12000 ∧ -100000 ≤ e ∧ e ≤ 100000
theorem ptP_d (num den : Nat) (e x : Int) : ptP num den e x = (ds num ≤ 8000 ∧ ds den ≤ 8000 ∧ -12000 ≤ e - x ∧ e - x ≤ 12000 ∧ -100000 ≤ e ∧ e ≤ 100000):=rfl
attribute [go_sem] ptP_d
def fgP (num den : Nat) (e : Int) : Prop:=0 < num ∧ 0 < den ∧ ds num ≤ 5000 ∧ ds den ≤ 5000 ∧ -3000 ≤ e ∧ e ≤ 3000
theorem fgP_d (num den : Nat) (e : Int) : fgP num den e = (0 < num ∧ 0 < den ∧ ds num ≤ 5000 ∧ ds den ≤ 5000 ∧ -3000 ≤ e ∧ e ≤ 3000):=rfl
theorem fig_len (n : Nat) : (dg 10 n).reverse.length = ds n:=by rw [List.length_reverse]; rfl
attribute [go_sem] fgP_d
end Go.Proofs.YtgkajjifbcmoeaaGreatDoor

namespace Go.Proofs.NatL
set_option linter.unusedSimpArgs false
set_option linter.unusedVariables false
def okD (k : Int) (s t : Bool) (xs : List Int) (e : Int) : Bool :=
 if k = 0 then okZ t xs && !t && decide (-1200 ≤ e ∧ e ≤ 1200) && decide (V 4294967296 xs < 10 ^ 120)
 else if k = 1 then decide (xs = []) && !t && decide (e = 0)
 else if k = 2 then decide (xs = []) && !t && decide (e = 0) && !s
 else false
def OkD (D : Dc) : Prop:=(D.kind = 0 ∧ -1200 ≤ D.exp ∧ D.exp ≤ 1200 ∧ D.coef < 10 ^ 120) ∨ (D.kind = 1 ∧ D.coef = 0 ∧ D.exp = 0) ∨ (D.kind = 2 ∧ D.coef = 0 ∧ D.exp = 0 ∧ D.neg = false)
def dcOf (k : Int) (s : Bool) (xs : List Int) (e : Int) : Dc:=⟨k,s,V 4294967296 xs,e⟩
theorem lt120 {n : Nat} : n < 10 ^ 120 ↔ ds n ≤ 120:=⟨fun h=>ds_le h,fun h=>Nat.lt_of_lt_of_le (ds_lt n) (Nat.pow_le_pow_right (by omega) h)⟩
theorem okD_parts {k : Int} {s t : Bool} {xs : List Int} {e : Int} (h : okD k s t xs e = true) :
  (k = 0 ∧ okZ t xs = true ∧ t = false ∧ -1200 ≤ e ∧ e ≤ 1200 ∧ V 4294967296 xs < 10 ^ 120) ∨ (k = 1 ∧ xs = [] ∧ t = false ∧ e = 0) ∨ (k = 2 ∧ xs = [] ∧ t = false ∧ e = 0 ∧ s = false):=by
 unfold okD at h
 split at h
 ·rename_i hk
  simp only [Bool.and_eq_true,Bool.not_eq_true',decide_eq_true_eq] at h
  obtain ⟨⟨⟨h1,h2⟩,h3,h4⟩,h5⟩:=h
  exact .inl ⟨hk,h1,h2,h3,h4,h5⟩
 ·split at h
  ·rename_i hk
   simp only [Bool.and_eq_true,Bool.not_eq_true',decide_eq_true_eq] at h
   exact .inr (.inl ⟨hk,h.1.1,h.1.2,h.2⟩)
  ·split at h
   ·rename_i hk
    simp only [Bool.and_eq_true,Bool.not_eq_true',decide_eq_true_eq] at h
    exact .inr (.inr ⟨hk,h.1.1.1,h.1.1.2,h.1.2,h.2⟩)
   ·cases h
theorem okD_eq {k : Int} {s t : Bool} {xs : List Int} {e : Int} (h : okD k s t xs e = true) (b : InB 4294967296 xs) :
  t = false ∧ xs = dg 4294967296 (dcOf k s xs e).coef ∧ OkD (dcOf k s xs e):=by
 rcases okD_parts h with ⟨h1,h2,h3,h4,h5,h6⟩ | ⟨h1,h2,h3,h4⟩ | ⟨h1,h2,h3,h4,h5⟩
 ·exact ⟨h3,(dg_V 4294967296 (by omega) xs b (okZ_trd h2)).symm,.inl ⟨h1,h4,h5,h6⟩⟩
 ·subst h2; exact ⟨h3,rfl,.inr (.inl ⟨h1,rfl,h4⟩)⟩
 ·subst h2; exact ⟨h3,rfl,.inr (.inr ⟨h1,rfl,h4,h5⟩)⟩
theorem coef_len {n : Nat} (h : ds n ≤ 120) : (dg 4294967296 n).length ≤ 13:=Nat.le_trans (len_ds h) (by omega)
theorem okZ_n' {n : Nat} (h : (dg 4294967296 n).length ≤ 128) : okZ false (dg 4294967296 n) = true:=by
 unfold okZ
 refine decide_eq_true ⟨h,?_⟩
 rcases Nat.eq_zero_or_pos n with rfl | h0
 ·exact .inl ⟨rfl,rfl⟩
 ·refine .inr ⟨fun e=>?_,dg_trd _ (by omega) _⟩
  have:=(dg_len_pos 4294967296 n (by omega)).2 h0
  rw [e] at this; exact absurd this (by simp)
theorem okD_g {D : Dc} (h : OkD D) : okD D.kind D.neg false (dg 4294967296 D.coef) D.exp = true:=by
 rcases h with ⟨h1,h2,h3,h4⟩ | ⟨h1,h2,h3⟩ | ⟨h1,h2,h3,h4⟩
 ·unfold okD
  rw [if_pos h1,V_dg _ (by omega),decide_eq_true h4,decide_eq_true ⟨h2,h3⟩,okZ_n' (Nat.le_trans (coef_len (lt120.1 h4)) (by omega))]
  rfl
 ·unfold okD
  rw [if_neg (by omega),if_pos h1,h2,h3]; rfl
 ·unfold okD
  rw [if_neg (by omega),if_neg (by omega),if_pos h1,h2,h3,h4]; rfl
abbrev D5:=Int × Bool × Bool × List Int × Int
abbrev d0 : D5:=(0,false,false,[],0)
def okD5 (p : D5) : Bool:=okD p.1 p.2.1 p.2.2.1 p.2.2.2.1 p.2.2.2.2
def dbC : List D5 → Int
 | []=>0
 | p :: l=>if okD5 p then dbC l else 6
def dbX : Int → List D5 → Int
 | _,[]=>0
 | i,p :: l=>if okD5 p then dbX (i + 1) l else -1 - i
def allD (n : Nat) : List D5 → Prop
 | []=>True
 | p :: l=>(p.2.2.2.1.length ≤ n ∧ InB 4294967296 p.2.2.2.1) ∧ allD n l
theorem allD_get {n : Nat} : ∀ {l : List D5} {i : Nat},allD n l → (l.getD i d0).2.2.2.1.length ≤ n ∧ InB 4294967296 (l.getD i d0).2.2.2.1
 | [],i,_=>by simp [InB_nil]
 | p :: l,0,h=>h.1
 | p :: l,i + 1,h=>by simpa using allD_get (i:=i) h.2
theorem drop_getD5 (l : List D5) (i : Nat) (h : i < l.length) : l.drop i = l.getD i d0 :: l.drop (i + 1):=by
 rw [List.drop_eq_getElem_cons h,List.getD_eq_getElem?_getD,List.getElem?_eq_getElem h]; rfl
end Go.Proofs.NatL
namespace Go.Proofs.YtgkajjifbcmoeaaGreatDoor
set_option linter.unusedSimpArgs false
set_option linter.unusedVariables false
open Go.Abs Go.Proofs.NatL

def rowD (p : D5) : List C:=[.i .i64 p.1,.b p.2.1,.b p.2.2.1,.ints .u32 p.2.2.2.1,.i .i64 p.2.2.2.2]
def unD : List (List C) → Option (List D5)
 | []=>some []
 | [.i .i64 k,.b s,.b t,.ints .u32 xs,.i .i64 e] :: r=>(unD r).map ((k,s,t,xs,e) :: ·)
 | _ :: _=>none
theorem unD_some : ∀ {rows : List (List C)} {l : List D5},unD rows = some l → rows = l.map rowD
 | [],l,h=>by simp [unD] at h; subst h; rfl
 | r :: rows,l,h=>by
  unfold unD at h
  split at h
  ·rename_i h0; cases h0
  ·rename_i k s t xs e r' h0
   cases h0
   obtain ⟨l',h1,rfl⟩:=Option.map_eq_some_iff.1 h
   rw [unD_some h1]; rfl
  ·cases h
theorem rowD_get (l : List D5) (i : Nat) (h : i < l.length) : (l.map rowD).getD i [] = [.i .i64 (l.getD i d0).1,.b (l.getD i d0).2.1,.b (l.getD i d0).2.2.1,.ints .u32 (l.getD i d0).2.2.2.1,.i .i64 (l.getD i d0).2.2.2.2]:=by
 simp [List.getD_eq_getElem?_getD,List.getElem?_eq_getElem h,rowD]
def db7d : Cfg:=listT [(83,powerCT),(124,lessCT),(143,ivalidCT)] [34]
theorem db7d_ok : TblOk Tryz.prog db7d:=listE_ok (by simp only [List.mem_singleton,forall_eq]; exact flt) ⟨⟨dc3,dc3_ok,rfl⟩,⟨dc2,dc2_ok,rfl⟩,⟨it2,it2_ok,rfl⟩,trivial⟩
attribute [go_sem] db7d
set_option maxRecDepth 100000 in
set_option maxHeartbeats 1600000 in
theorem validD_ret (k : Int) (s t : Bool) (xs : List Int) (e : Int) (h1 : xs.length ≤ 140737488355328) (b1 : InB 4294967296 xs) :
  Ret Tryz.prog 62 false [.inr [.i .i64 k,.b s,.b t,.ints .u32 xs,.i .i64 e]] (.c (.b (okD k s t xs e))):=by
 obtain ⟨U,hU⟩ : ∃ x : Nat,x = 10 ^ 120:=⟨_,rfl⟩
 have t120 : 10 ^ (120 : Int).toNat = U:=by rw [hU]; rfl
 have l120 : (dg 4294967296 U).length ≤ 600:=by rw [hU]; exact ten_600 (k:=120) (by omega)
 have e0 : okD 0 s t xs e = (okZ t xs && !t && decide (-1200 ≤ e ∧ e ≤ 1200) && decide (V 4294967296 xs < U)):=by rw [hU]; rfl
 clear hU
 have hx : decide (xs = []) = decide ((xs.length : Int) = 0):=by congr 1; exact propext ⟨fun h=>by rw [h]; rfl,fun h=>List.eq_nil_of_length_eq_zero (by omega)⟩
 by_cases k0 : k = 0
 ·subst k0
  rw [e0]
  clear e0 hx
  cases hz : okZ t xs
  ·(refine q_H Tryz.func62 (fun F=>?_); simp only [q_z,q_y,Tryz.ntmps62,Tryz.results62])
   repeat' (first|with_reducible refine q_0 ?_|((with_reducible first|refine q_q db7d_ok fun K hK=>?_|refine q_r db7d_ok fun K hK=>?_);simp (maxSteps:=2000000) only [go_sem,↓reduceIte,reduceCtorEq,Nat.reduceLeDiff,Nat.reduceLT,Nat.reduceBEq,Nat.reduceAdd,hz,t120];(repeat1' with_reducible first|apply And.intro|(intro _;try exact q_v)|(refine hK _ ?_;clear hK K))<;>(try (clear hK K;exact q_u)))|(with_reducible refine q_s ?_;(first|apply q_J|apply q_K|apply q_L|apply q_M|apply q_N|apply q_O)<;>try (intro _;try exact q_v)))
   all_goals first | omega | (refine q_A ?_; simp [resAV,q_y]; done) | skip
  ·have lz:=okZ_len hz
   have tz:=okZ_trd hz
   cases t
   all_goals
    (refine q_H Tryz.func62 (fun F=>?_); simp only [q_z,q_y,Tryz.ntmps62,Tryz.results62])
    repeat' (first|with_reducible refine q_0 ?_|((with_reducible first|refine q_q db7d_ok fun K hK=>?_|refine q_r db7d_ok fun K hK=>?_);simp (maxSteps:=2000000) only [go_sem,↓reduceIte,reduceCtorEq,Nat.reduceLeDiff,Nat.reduceLT,Nat.reduceBEq,Nat.reduceAdd,hz,t120,V32];(repeat1' with_reducible first|apply And.intro|(intro _;try exact q_v)|(refine hK _ ?_;clear hK K))<;>(try (clear hK K;exact q_u)))|(with_reducible refine q_s ?_;(first|apply q_J|apply q_K|apply q_L|apply q_M|apply q_N|apply q_O)<;>try (intro _;try exact q_v)))
    all_goals first | omega | (refine q_A ?_; simp [resAV,q_y, *]; done) | (refine q_A ?_; simp [resAV,q_y]; omega) | (refine q_A ?_; simp [resAV,q_y, *]; omega) | skip
 ·clear e0 l120 t120
  obtain ⟨nx,hnx⟩ : ∃ z : Int,(xs.length : Int) = z:=⟨_,rfl⟩
  rw [hnx] at hx
  by_cases k1 : k = 1
  ·subst k1
   have e0 : okD 1 s t xs e = (decide (xs = []) && !t && decide (e = 0)):=rfl
   rw [e0,hx]
   cases t
   all_goals
    (refine q_H Tryz.func62 (fun F=>?_); simp only [q_z,q_y,Tryz.ntmps62,Tryz.results62])
    repeat' (first|with_reducible refine q_0 ?_|((with_reducible first|refine q_q db7d_ok fun K hK=>?_|refine q_r db7d_ok fun K hK=>?_);simp (maxSteps:=2000000) only [go_sem,↓reduceIte,reduceCtorEq,Nat.reduceLeDiff,Nat.reduceLT,Nat.reduceBEq,Nat.reduceAdd,hnx];(repeat1' with_reducible first|apply And.intro|(intro _;try exact q_v)|(refine hK _ ?_;clear hK K))<;>(try (clear hK K;exact q_u)))|(with_reducible refine q_s ?_;(first|apply q_J|apply q_K|apply q_L|apply q_M|apply q_N|apply q_O)<;>try (intro _;try exact q_v)))
    all_goals first | omega | (refine q_A ?_; simp [resAV,q_y, *]; done) | (refine q_A ?_; simp [resAV,q_y]; omega) | (refine q_A ?_; simp [resAV,q_y, *]; omega) | skip
  ·by_cases k2 : k = 2
   ·subst k2
    have e0 : okD 2 s t xs e = (decide (xs = []) && !t && decide (e = 0) && !s):=rfl
    rw [e0,hx]
    cases t <;> cases s
    all_goals
     (refine q_H Tryz.func62 (fun F=>?_); simp only [q_z,q_y,Tryz.ntmps62,Tryz.results62])
     repeat' (first|with_reducible refine q_0 ?_|((with_reducible first|refine q_q db7d_ok fun K hK=>?_|refine q_r db7d_ok fun K hK=>?_);simp (maxSteps:=2000000) only [go_sem,↓reduceIte,reduceCtorEq,Nat.reduceLeDiff,Nat.reduceLT,Nat.reduceBEq,Nat.reduceAdd,hnx];(repeat1' with_reducible first|apply And.intro|(intro _;try exact q_v)|(refine hK _ ?_;clear hK K))<;>(try (clear hK K;exact q_u)))|(with_reducible refine q_s ?_;(first|apply q_J|apply q_K|apply q_L|apply q_M|apply q_N|apply q_O)<;>try (intro _;try exact q_v)))
     all_goals first | omega | (refine q_A ?_; simp [resAV,q_y, *]; done) | (refine q_A ?_; simp [resAV,q_y]; omega) | (refine q_A ?_; simp [resAV,q_y, *]; omega) | skip
   ·have e0 : okD k s t xs e = false:=by unfold okD; rw [if_neg k0,if_neg k1,if_neg k2]
    rw [e0]
    cases t
    all_goals
     (refine q_H Tryz.func62 (fun F=>?_); simp only [q_z,q_y,Tryz.ntmps62,Tryz.results62])
     repeat' (first|with_reducible refine q_0 ?_|((with_reducible first|refine q_q db7d_ok fun K hK=>?_|refine q_r db7d_ok fun K hK=>?_);simp (maxSteps:=2000000) only [go_sem,↓reduceIte,reduceCtorEq,Nat.reduceLeDiff,Nat.reduceLT,Nat.reduceBEq,Nat.reduceAdd,hnx];(repeat1' with_reducible first|apply And.intro|(intro _;try exact q_v)|(refine hK _ ?_;clear hK K))<;>(try (clear hK K;exact q_u)))|(with_reducible refine q_s ?_;(first|apply q_J|apply q_K|apply q_L|apply q_M|apply q_N|apply q_O)<;>try (intro _;try exact q_v)))
     all_goals first | omega | (refine q_A ?_; simp [resAV,q_y, *]; done) | (refine q_A ?_; simp [resAV,q_y]; omega) | (refine q_A ?_; simp [resAV,q_y, *]; omega) | skip
def validDCT : CT:=mkCT [nDc] true fun l K=>match l with
 | [.inr [.i .i64 k,.b s,.b t,.ints .u32 xs,.i .i64 e]]=>(xs.length ≤ 140737488355328 ∧ InB 4294967296 xs) ∧ K (.c (.b (okD k s t xs e)))
 | _=>False
def de4 : Cfg:=addT 62 validDCT cf0
theorem de4_ok : TblOk Tryz.prog de4:=q_I cf0_ok Tryz.func62 fun l K h=>by
 split at h
 ·exact ⟨_,(validD_ret _ _ _ _ _ h.1.1 h.1.2).plain rfl,h.2⟩
 ·exact h.elim
set_option maxRecDepth 100000 in
set_option maxHeartbeats 1600000 in
theorem checkC_ret (p r mn mx : Int) : Ret Tryz.prog 63 false [.inr [.i .i64 p,.i .i64 r,.i .i64 mn,.i .i64 mx]] (.c (.b (okCx p r mn mx))):=by
 (refine q_H Tryz.func63 (fun F=>?_); simp only [q_z,q_y,Tryz.ntmps63,Tryz.results63])
 repeat' (first|with_reducible refine q_0 ?_|((with_reducible first|refine q_q db7d_ok fun K hK=>?_|refine q_r db7d_ok fun K hK=>?_);simp (maxSteps:=2000000) only [go_sem,↓reduceIte,reduceCtorEq,Nat.reduceLeDiff,Nat.reduceLT,Nat.reduceBEq,Nat.reduceAdd];(repeat1' with_reducible first|apply And.intro|(intro _;try exact q_v)|(refine hK _ ?_;clear hK K))<;>(try (clear hK K;exact q_u)))|(with_reducible refine q_s ?_;(first|apply q_J|apply q_K|apply q_L|apply q_M|apply q_N|apply q_O)<;>try (intro _;try exact q_v)))
 all_goals first | (refine q_A ?_; simp [resAV,q_y,okCx, *]; done) | (refine q_A ?_; simp [resAV,q_y,okCx]; omega) | (refine q_A ?_; simp [resAV,q_y,okCx, *]; omega) | skip
def checkCCT : CT:=mkCT [.inr [none,none,none,none]] true fun l K=>match l with
 | [.inr [.i .i64 p,.i .i64 r,.i .i64 mn,.i .i64 mx]]=>K (.c (.b (okCx p r mn mx)))
 | _=>False
def de5 : Cfg:=addT 63 checkCCT cf0
theorem de5_ok : TblOk Tryz.prog de5:=q_I cf0_ok Tryz.func63 fun l K h=>by
 split at h
 ·exact ⟨_,(checkC_ret _ _ _ _).plain rfl,h⟩
 ·exact h.elim
def de6 : Cfg:=addT 78 atCT cf0
theorem de6_ok : TblOk Tryz.prog de6:=q_I cf0_ok Tryz.func78 fun l K h=>by
 split at h
 ·refine ⟨_,Ret.plain ?_ rfl,h⟩
  (refine q_H Tryz.func78 (fun F=>?_); simp only [q_z,q_y,Tryz.ntmps78,Tryz.results78])
  repeat' (first|with_reducible refine q_0 ?_|((with_reducible first|refine q_q db7d_ok fun K hK=>?_|refine q_r db7d_ok fun K hK=>?_);simp (maxSteps:=2000000) only [go_sem,↓reduceIte,reduceCtorEq,Nat.reduceLeDiff,Nat.reduceLT,Nat.reduceBEq,Nat.reduceAdd];(repeat1' with_reducible first|apply And.intro|(intro _;try exact q_v)|(refine hK _ ?_;clear hK K))<;>(try (clear hK K;exact q_u)))|(with_reducible refine q_s ?_;(first|apply q_J|apply q_K|apply q_L|apply q_M|apply q_N|apply q_O)<;>try (intro _;try exact q_v)))
  exact q_A rfl
 ·exact h.elim
attribute [go_sem] validDCT checkCCT
def db8d : Cfg:=listT [(62,validDCT),(63,checkCCT),(78,atCT)] [34]
theorem db8d_ok : TblOk Tryz.prog db8d:=listE_ok (by simp only [List.mem_singleton,forall_eq]; exact flt) ⟨⟨de4,de4_ok,rfl⟩,⟨de5,de5_ok,rfl⟩,⟨de6,de6_ok,rfl⟩,trivial⟩
attribute [go_sem] db8d
def dcC (p r mn mx : Int) (l : List D5) : Int:=if okCx p r mn mx then dbC l else 4
def dcX (p r mn mx : Int) (l : List D5) : Int:=if okCx p r mn mx then dbX 0 l else -9
set_option maxRecDepth 100000 in
set_option maxHeartbeats 1600000 in
theorem dcheck_ret (p r mn mx : Int) (l : List D5) (hn : l.length ≤ 1000) (hl : allD 140737488355328 l) :
  Ret Tryz.prog 71 false [.inr [.i .i64 p,.i .i64 r,.i .i64 mn,.i .i64 mx],.inl (.sl 5 (l.map rowD))] (.g [.i .i64 (dcC p r mn mx l),.i .i64 (dcX p r mn mx l)]):=by
 unfold dcC dcX
 cases hc : okCx p r mn mx
 ·simp only [Bool.false_eq_true,if_false]
  (refine q_H Tryz.func71 (fun F=>?_); simp only [q_z,q_y,Tryz.ntmps71,Tryz.results71])
  repeat' (first|with_reducible refine q_0 ?_|((with_reducible first|refine q_q db8d_ok fun K hK=>?_|refine q_r db8d_ok fun K hK=>?_);simp (maxSteps:=2000000) only [go_sem,↓reduceIte,reduceCtorEq,Nat.reduceLeDiff,Nat.reduceLT,Nat.reduceBEq,Nat.reduceAdd,hc,List.length_map];(repeat1' with_reducible first|apply And.intro|(intro _;try exact q_v)|(refine hK _ ?_;clear hK K))<;>(try (clear hK K;exact q_u)))|(with_reducible refine q_s ?_;(first|apply q_J|apply q_K|apply q_L|apply q_M|apply q_N|apply q_O)<;>try (intro _;try exact q_v)))
  all_goals first | omega | exact q_A rfl | skip
 simp only [if_true]
 (refine q_H Tryz.func71 (fun F=>?_); simp only [q_z,q_y,Tryz.ntmps71,Tryz.results71])
 repeat' (first|with_reducible refine q_0 ?_|((with_reducible first|refine q_q db8d_ok fun K hK=>?_|refine q_r db8d_ok fun K hK=>?_);simp (maxSteps:=2000000) only [go_sem,↓reduceIte,reduceCtorEq,Nat.reduceLeDiff,Nat.reduceLT,Nat.reduceBEq,Nat.reduceAdd,hc,List.length_map];(repeat1' with_reducible first|apply And.intro|(intro _;try exact q_v)|(refine hK _ ?_;clear hK K))<;>(try (clear hK K;exact q_u)))|(with_reducible refine q_s ?_;(first|apply q_J|apply q_K|apply q_L|apply q_M|apply q_N|apply q_O)<;>try (intro _;try exact q_v)))
 all_goals first | omega | skip
 refine q_G (ι:={ i : Nat // i ≤ l.length ∧ dbC (l.drop i) = dbC l ∧ dbX i (l.drop i) = dbX 0 l }) (fun i=>⟨26,[(4,.bx 1 0),(11,.c (.sl 5 (l.map rowD))),(12,.c (.i .i64 l.length)),(13,.c (.i .i64 (i.1 : Nat)))],⟨[(1,[.c (.i .i64 0),.c (.i .i64 0)])],[],[]⟩,2⟩) (fun i=>l.length - i.1) ⟨0,by simp,rfl,rfl⟩ ?_ ?_
 ·exact q_D
 rintro ⟨i,g1,g2,g3⟩
 simp only at g1 g2 g3 ⊢
 obtain ⟨n1,n2⟩:=allD_get (i:=i) hl
 rcases Nat.lt_or_ge i l.length with hi | hi
 ·have hr:=rowD_get l i hi
  rw [drop_getD5 l i hi,dbC] at g2
  rw [drop_getD5 l i hi,dbX] at g3
  unfold okD5 at g2 g3
  cases ho : okD (l.getD i d0).1 (l.getD i d0).2.1 (l.getD i d0).2.2.1 (l.getD i d0).2.2.2.1 (l.getD i d0).2.2.2.2
  ·simp only [ho,Bool.false_eq_true,if_false] at g2 g3
   repeat' (first|with_reducible refine q_0 ?_|((with_reducible first|refine q_q db8d_ok fun K hK=>?_|refine q_r db8d_ok fun K hK=>?_);simp (maxSteps:=2000000) only [go_sem,↓reduceIte,reduceCtorEq,Nat.reduceLeDiff,Nat.reduceLT,Nat.reduceBEq,Nat.reduceAdd,hr,ho,List.length_map];(repeat1' with_reducible first|apply And.intro|(intro _;try exact q_v)|(refine hK _ ?_;clear hK K))<;>(try (clear hK K;exact q_u)))|(with_reducible refine q_s ?_;(first|apply q_J|apply q_K|apply q_L|apply q_M|apply q_N|apply q_O)<;>try (intro _;try exact q_v)))
   all_goals first | omega | assumption | exact q_A (by rw [← g2,← g3]; rfl) | skip
  ·simp only [ho,if_true] at g2 g3
   repeat' (first|with_reducible refine q_0 ?_|((with_reducible first|refine q_q db8d_ok fun K hK=>?_|refine q_r db8d_ok fun K hK=>?_);simp (maxSteps:=2000000) only [go_sem,↓reduceIte,reduceCtorEq,Nat.reduceLeDiff,Nat.reduceLT,Nat.reduceBEq,Nat.reduceAdd,hr,ho,List.length_map];(repeat1' with_reducible first|apply And.intro|(intro _;try exact q_v)|(refine hK _ ?_;clear hK K))<;>(try (clear hK K;exact q_u)))|(with_reducible refine q_s ?_;(first|apply q_J|apply q_K|apply q_L|apply q_M|apply q_N|apply q_O)<;>try (intro _;try exact q_v)))
   all_goals first | omega | assumption | skip
   refine q_F ⟨i + 1,hi,g2,by push_cast; exact g3⟩ ?_ (by simp only; omega)
   exact q_D
 ·have hi' : i = l.length:=by omega
  subst hi'
  rw [List.drop_length] at g2 g3
  repeat' (first|with_reducible refine q_0 ?_|((with_reducible first|refine q_q db8d_ok fun K hK=>?_|refine q_r db8d_ok fun K hK=>?_);simp (maxSteps:=2000000) only [go_sem,↓reduceIte,reduceCtorEq,Nat.reduceLeDiff,Nat.reduceLT,Nat.reduceBEq,Nat.reduceAdd,List.length_map];(repeat1' with_reducible first|apply And.intro|(intro _;try exact q_v)|(refine hK _ ?_;clear hK K))<;>(try (clear hK K;exact q_u)))|(with_reducible refine q_s ?_;(first|apply q_J|apply q_K|apply q_L|apply q_M|apply q_N|apply q_O)<;>try (intro _;try exact q_v)))
  all_goals first | omega | exact q_A (by rw [← g2,← g3]; rfl) | skip
def dcheckCT : CT:=mkCT [.inr [none,none,none,none]] true fun l K=>match l with
 | [.inr [.i .i64 p,.i .i64 r,.i .i64 mn,.i .i64 mx],.inl (.sl 5 rows)]=>match unD rows with
  | some l=>(l.length ≤ 1000 ∧ allD 140737488355328 l) ∧ K (.g [.i .i64 (dcC p r mn mx l),.i .i64 (dcX p r mn mx l)])
  | none=>False
 | _=>False
def de7 : Cfg:=addT 71 dcheckCT cf0
theorem de7_ok : TblOk Tryz.prog de7:=q_I cf0_ok Tryz.func71 fun l K h=>by
 split at h
 ·split at h
  ·rename_i l hl
   rw [unD_some hl]
   exact ⟨_,(dcheck_ret _ _ _ _ l h.1.1 h.1.2).plain rfl,h.2⟩
  ·exact h.elim
 ·exact h.elim
attribute [go_sem] dcheckCT unD dcC dcX dbC dbX allD okD5
def eb5 : Cfg:=listT [(104,ivalidCT),(27,noIntCT),(106,ofCT),(105,figCT)] [34]
theorem eb5_ok : TblOk Tryz.prog eb5:=listE_ok (by simp only [List.mem_singleton,forall_eq]; exact flt) ⟨⟨jt1,jt1_ok,rfl⟩,⟨jt6,jt6_ok,rfl⟩,⟨db6,db6_ok,rfl⟩,⟨nt11,nt11_ok,rfl⟩,trivial⟩
attribute [go_sem] eb5
def noI (t : Bool) (xs : List Int) : Bool:=decide (xs = []) && !t
set_option maxHeartbeats 800000 in
theorem noIntA_ret (t : Bool) (xs : List Int) (hx : xs.length ≤ 140737488355328) : Ret Tryz.prog 27 false [.inr [.b t,.ints .u32 xs]] (.c (.b (noI t xs))):=by
 have hx' : decide (xs = []) = decide ((xs.length : Int) = 0):=by congr 1; exact propext ⟨fun h=>by rw [h]; rfl,fun h=>List.eq_nil_of_length_eq_zero (by omega)⟩
 unfold noI
 rw [hx']
 cases t
 all_goals
  (refine q_H Tryz.func27 (fun F=>?_); simp only [q_z,q_y,Tryz.ntmps27,Tryz.results27])
  repeat' (first|with_reducible refine q_0 ?_|((with_reducible first|refine q_q eb5_ok fun K hK=>?_|refine q_r eb5_ok fun K hK=>?_);simp (maxSteps:=2000000) only [go_sem,↓reduceIte,reduceCtorEq,Nat.reduceLeDiff,Nat.reduceLT,Nat.reduceBEq,Nat.reduceAdd];(repeat1' with_reducible first|apply And.intro|(intro _;try exact q_v)|(refine hK _ ?_;clear hK K))<;>(try (clear hK K;exact q_u)))|(with_reducible refine q_s ?_;(first|apply q_J|apply q_K|apply q_L|apply q_M|apply q_N|apply q_O)<;>try (intro _;try exact q_v)))
  all_goals first | omega | exact q_A (by simp [resAV,q_y]) | skip
def noIntACT : CT:=mkCT [nP] true fun l K=>match l with
 | [.inr [.b t,.ints .u32 xs]]=>xs.length ≤ 140737488355328 ∧ K (.c (.b (noI t xs)))
 | _=>False
def er6 : Cfg:=addT 27 noIntACT cf0
theorem er6_ok : TblOk Tryz.prog er6:=q_I cf0_ok Tryz.func27 fun l K h=>by
 split at h
 ·exact ⟨_,(noIntA_ret _ _ h.1).plain rfl,h.2⟩
 ·exact h.elim
attribute [go_sem] noIntACT
def eb6 : Cfg:=listT [(104,ivalidCT),(27,noIntACT),(106,ofCT),(105,figCT)] [34]
theorem eb6_ok : TblOk Tryz.prog eb6:=listE_ok (by simp only [List.mem_singleton,forall_eq]; exact flt) ⟨⟨jt1,jt1_ok,rfl⟩,⟨er6,er6_ok,rfl⟩,⟨db6,db6_ok,rfl⟩,⟨nt11,nt11_ok,rfl⟩,trivial⟩
attribute [go_sem] eb6
set_option maxRecDepth 100000 in
set_option maxHeartbeats 1600000 in
theorem decimalOk_ret (k : Int) (s t : Bool) (xs : List Int) (e : Int) (h1 : xs.length ≤ 140737488355328) (b1 : InB 4294967296 xs) :
  Ret Tryz.prog 32 false [.inr [.i .i64 k,.b s,.b t,.ints .u32 xs,.i .i64 e]] (.c (.b (okD k s t xs e))):=by
 have ten : (10 : Int).toNat = 10:=rfl
 by_cases k0 : k = 0
 ·subst k0
  have e0 : okD 0 s t xs e = (okZ t xs && !t && decide (-1200 ≤ e ∧ e ≤ 1200) && decide (V 4294967296 xs < 10 ^ 120)):=rfl
  have hv : decide (V 4294967296 xs < 10 ^ 120) = decide ((ds (V 4294967296 xs) : Int) ≤ 120):=by congr 1; exact propext ⟨fun h=>by have:=lt120.1 h; omega,fun h=>lt120.2 (by omega)⟩
  rw [e0,hv]
  cases hz : okZ t xs
  ·(refine q_H Tryz.func32 (fun F=>?_); simp only [q_z,q_y,Tryz.ntmps32,Tryz.results32])
   repeat' (first|with_reducible refine q_0 ?_|((with_reducible first|refine q_q eb6_ok fun K hK=>?_|refine q_r eb6_ok fun K hK=>?_);simp (maxSteps:=2000000) only [go_sem,↓reduceIte,reduceCtorEq,Nat.reduceLeDiff,Nat.reduceLT,Nat.reduceBEq,Nat.reduceAdd,hz];(repeat1' with_reducible first|apply And.intro|(intro _;try exact q_v)|(refine hK _ ?_;clear hK K))<;>(try (clear hK K;exact q_u)))|(with_reducible refine q_s ?_;(first|apply q_J|apply q_K|apply q_L|apply q_M|apply q_N|apply q_O)<;>try (intro _;try exact q_v)))
   all_goals first | omega | exact q_A (by simp [resAV,q_y]) | skip
  ·have lz:=okZ_len hz
   have l2 : (dg 65536 (V 4294967296 xs)).length ≤ 256:=(dg_half' _ 128).2 (by rw [dg_V 4294967296 (by omega) xs b1 (okZ_trd hz)]; exact lz)
   cases t
   all_goals
    (refine q_H Tryz.func32 (fun F=>?_); simp only [q_z,q_y,Tryz.ntmps32,Tryz.results32])
    repeat' (first|with_reducible refine q_0 ?_|((with_reducible first|refine q_q eb6_ok fun K hK=>?_|refine q_r eb6_ok fun K hK=>?_);simp (maxSteps:=2000000) only [go_sem,↓reduceIte,reduceCtorEq,Nat.reduceLeDiff,Nat.reduceLT,Nat.reduceBEq,Nat.reduceAdd,hz,V65,ten,fig_len];(repeat1' with_reducible first|apply And.intro|(intro _;try exact q_v)|(refine hK _ ?_;clear hK K))<;>(try (clear hK K;exact q_u)))|(with_reducible refine q_s ?_;(first|apply q_J|apply q_K|apply q_L|apply q_M|apply q_N|apply q_O)<;>try (intro _;try exact q_v)))
    all_goals first | omega | (refine q_A ?_; simp [resAV,q_y, *]; done) | (refine q_A ?_; simp [resAV,q_y]; omega) | (refine q_A ?_; simp [resAV,q_y, *]; omega) | skip
 ·by_cases k1 : k = 1
  ·subst k1
   have e0 : okD 1 s t xs e = (noI t xs && decide (e = 0)):=rfl
   rw [e0]
   cases hi : noI t xs
   all_goals
    (refine q_H Tryz.func32 (fun F=>?_); simp only [q_z,q_y,Tryz.ntmps32,Tryz.results32])
    repeat' (first|with_reducible refine q_0 ?_|((with_reducible first|refine q_q eb6_ok fun K hK=>?_|refine q_r eb6_ok fun K hK=>?_);simp (maxSteps:=2000000) only [go_sem,↓reduceIte,reduceCtorEq,Nat.reduceLeDiff,Nat.reduceLT,Nat.reduceBEq,Nat.reduceAdd,hi];(repeat1' with_reducible first|apply And.intro|(intro _;try exact q_v)|(refine hK _ ?_;clear hK K))<;>(try (clear hK K;exact q_u)))|(with_reducible refine q_s ?_;(first|apply q_J|apply q_K|apply q_L|apply q_M|apply q_N|apply q_O)<;>try (intro _;try exact q_v)))
    all_goals first | omega | (refine q_A ?_; simp [resAV,q_y, *]; done) | (refine q_A ?_; simp [resAV,q_y]; omega) | (refine q_A ?_; simp [resAV,q_y, *]; omega) | skip
  ·by_cases k2 : k = 2
   ·subst k2
    have e0 : okD 2 s t xs e = (noI t xs && decide (e = 0) && !s):=rfl
    rw [e0]
    cases hi : noI t xs <;> cases s
    all_goals
     (refine q_H Tryz.func32 (fun F=>?_); simp only [q_z,q_y,Tryz.ntmps32,Tryz.results32])
     repeat' (first|with_reducible refine q_0 ?_|((with_reducible first|refine q_q eb6_ok fun K hK=>?_|refine q_r eb6_ok fun K hK=>?_);simp (maxSteps:=2000000) only [go_sem,↓reduceIte,reduceCtorEq,Nat.reduceLeDiff,Nat.reduceLT,Nat.reduceBEq,Nat.reduceAdd,hi];(repeat1' with_reducible first|apply And.intro|(intro _;try exact q_v)|(refine hK _ ?_;clear hK K))<;>(try (clear hK K;exact q_u)))|(with_reducible refine q_s ?_;(first|apply q_J|apply q_K|apply q_L|apply q_M|apply q_N|apply q_O)<;>try (intro _;try exact q_v)))
     all_goals first | omega | (refine q_A ?_; simp [resAV,q_y, *]; done) | (refine q_A ?_; simp [resAV,q_y]; omega) | (refine q_A ?_; simp [resAV,q_y, *]; omega) | skip
   ·have e0 : okD k s t xs e = false:=by unfold okD; rw [if_neg k0,if_neg k1,if_neg k2]
    rw [e0]
    (refine q_H Tryz.func32 (fun F=>?_); simp only [q_z,q_y,Tryz.ntmps32,Tryz.results32])
    repeat' (first|with_reducible refine q_0 ?_|((with_reducible first|refine q_q eb6_ok fun K hK=>?_|refine q_r eb6_ok fun K hK=>?_);simp (maxSteps:=2000000) only [go_sem,↓reduceIte,reduceCtorEq,Nat.reduceLeDiff,Nat.reduceLT,Nat.reduceBEq,Nat.reduceAdd];(repeat1' with_reducible first|apply And.intro|(intro _;try exact q_v)|(refine hK _ ?_;clear hK K))<;>(try (clear hK K;exact q_u)))|(with_reducible refine q_s ?_;(first|apply q_J|apply q_K|apply q_L|apply q_M|apply q_N|apply q_O)<;>try (intro _;try exact q_v)))
    all_goals first | omega | (refine q_A ?_; simp [resAV,q_y, *]; done) | (refine q_A ?_; simp [resAV,q_y]; omega) | (refine q_A ?_; simp [resAV,q_y, *]; omega) | skip
def er7 : Cfg:=addT 32 validDCT cf0
theorem er7_ok : TblOk Tryz.prog er7:=q_I cf0_ok Tryz.func32 fun l K h=>by
 split at h
 ·exact ⟨_,(decimalOk_ret _ _ _ _ _ h.1.1 h.1.2).plain rfl,h.2⟩
 ·exact h.elim
set_option maxRecDepth 100000 in
set_option maxHeartbeats 1600000 in
theorem contextOk_ret (p r mn mx : Int) : Ret Tryz.prog 51 false [.inr [.i .i64 p,.i .i64 r,.i .i64 mn,.i .i64 mx]] (.c (.b (okCx p r mn mx))):=by
 (refine q_H Tryz.func51 (fun F=>?_); simp only [q_z,q_y,Tryz.ntmps51,Tryz.results51])
 repeat' (first|with_reducible refine q_0 ?_|((with_reducible first|refine q_q eb6_ok fun K hK=>?_|refine q_r eb6_ok fun K hK=>?_);simp (maxSteps:=2000000) only [go_sem,↓reduceIte,reduceCtorEq,Nat.reduceLeDiff,Nat.reduceLT,Nat.reduceBEq,Nat.reduceAdd];(repeat1' with_reducible first|apply And.intro|(intro _;try exact q_v)|(refine hK _ ?_;clear hK K))<;>(try (clear hK K;exact q_u)))|(with_reducible refine q_s ?_;(first|apply q_J|apply q_K|apply q_L|apply q_M|apply q_N|apply q_O)<;>try (intro _;try exact q_v)))
 all_goals first | (refine q_A ?_; simp [resAV,q_y,okCx, *]; done) | (refine q_A ?_; simp [resAV,q_y,okCx]; omega) | (refine q_A ?_; simp [resAV,q_y,okCx, *]; omega) | skip
def er8 : Cfg:=addT 51 checkCCT cf0
theorem er8_ok : TblOk Tryz.prog er8:=q_I cf0_ok Tryz.func51 fun l K h=>by
 split at h
 ·exact ⟨_,(contextOk_ret _ _ _ _).plain rfl,h⟩
 ·exact h.elim
end Go.Proofs.YtgkajjifbcmoeaaGreatDoor

namespace Go.Proofs.NatL
set_option linter.unusedSimpArgs false
set_option linter.unusedVariables false
def dv (b : Nat) (c : Int) : Int:=if 48 ≤ c ∧ c ≤ 57 ∧ c - 48 < b then c - 48 else if 97 ≤ c ∧ c ≤ 122 ∧ c - 87 < b then c - 87 else -1
theorem dv_cases (b : Nat) (c : Int) (hb : b ≤ 36) : dv b c = -1 ∨ 0 ≤ dv b c ∧ dv b c < b ∧ dv b c < 36:=by unfold dv; (repeat' split) <;> omega
theorem dv_zero (c : Int) : dv 0 c = -1:=by unfold dv; (repeat' split) <;> omega
def pzR (b : Nat) (neg : Bool) (r : List Int) : Option Int :=
 if r = [] ∨ (r.getD 0 0 = 48 ∧ (1 < r.length ∨ neg = true)) then none else if ∀ c ∈ r,0 ≤ dv b c then some (sg neg (rdv b (r.map (dv b)))) else none
def pz (b : Nat) (l : List Int) : Option Int:=if 0 < l.length ∧ l.getD 0 0 = 45 then pzR b true (l.drop 1) else pzR b false l
theorem rdv_cons (b : Nat) (d : Int) (ds : List Int) : rdv b (d :: ds) = d.toNat * b ^ ds.length + rdv b ds:=by
 have key : ∀ (ds : List Int) (a : Nat),ds.foldl (fun n d=>n * b + d.toNat) a = a * b ^ ds.length + ds.foldl (fun n d=>n * b + d.toNat) 0:=by
  intro ds
  induction ds with
  | nil=>intro a; simp
  | cons x ds ih =>
   intro a
   simp only [List.foldl_cons,List.length_cons]
   rw [ih (a * b + x.toNat),ih (0 * b + x.toNat),Nat.add_mul,Nat.add_mul,Nat.zero_mul,Nat.zero_mul,Nat.mul_assoc,Nat.zero_add,← Nat.pow_succ',Nat.add_assoc]
 show (d :: ds).foldl _ 0 = _
 rw [List.foldl_cons,key]
 simp [rdv]
end Go.Proofs.NatL
namespace Go.Proofs.YtgkajjifbcmoeaaGreatDoor
set_option linter.unusedSimpArgs false
set_option linter.unusedVariables false
open Go.Abs Go.Proofs.NatL
theorem chr_eq : ∀ d : Nat,d < 36 → chr d = if d < 10 then (d : Int) + 48 else (d : Int) + 87:=by decide
theorem dv_chr {b d : Nat} (hb : b ≤ 36) (h : d < b) : dv b (chr d) = d:=by
 rw [chr_eq d (by omega)]
 unfold dv
 split
 ·rw [if_pos (by omega)]; omega
 ·rw [if_neg (by omega),if_pos (by omega)]; omega
theorem dv_succ (k : Nat) (hk : k < 36) (c : Int) : dv (k + 1) c = if chr k = c then (k : Int) else dv k c:=by
 rw [chr_eq k hk]
 unfold dv
 (repeat' split) <;> omega
theorem rdv_pos {b : Nat} (hb : 2 ≤ b) {r : List Int} (h0 : r ≠ []) (h1 : r.getD 0 0 ≠ 48) (h2 : ∀ c ∈ r,0 ≤ dv b c) : 0 < rdv b (r.map (dv b)):=by
 cases r with
 | nil=>exact absurd rfl h0
 | cons c r =>
  rw [List.map_cons,rdv_cons]
  have h:=h2 c (List.mem_cons_self ..)
  have h1 : c ≠ 48:=h1
  have : 0 < (dv b c).toNat:=by
   unfold dv at h ⊢
   (repeat' split) <;> omega
  have:=Nat.mul_pos this (Nat.pow_pos (n:=(r.map (dv b)).length) (show 0 < b by omega))
  omega
theorem pzR_canon {b : Nat} (hb : 2 ≤ b) {neg : Bool} {r : List Int} {z : Int} (h : pzR b neg r = some z) :
  z = sg neg (rdv b (r.map (dv b))) ∧ (neg = true → 0 < rdv b (r.map (dv b))) ∧ r ≠ [] ∧ (∀ c ∈ r,0 ≤ dv b c) ∧ ¬ (r.getD 0 0 = 48 ∧ (1 < r.length ∨ neg = true)):=by
 unfold pzR at h
 split at h
 ·cases h
 ·rename_i g
  split at h
  ·rename_i g2
   cases h
   have g0 : r ≠ []:=fun e=>g (.inl e)
   refine ⟨rfl,fun hn=>rdv_pos hb g0 (fun e=>g (.inr ⟨e,.inr hn⟩)) g2,g0,g2,fun e=>g (.inr e)⟩
  ·cases h
theorem strOf_snoc (xs : List Int) (x : Int) : strOf (xs ++ [x]) = (strOf xs).push (UInt8.ofNat x.toNat):=by simp [strOf,List.foldl_append]
theorem bytesOf_strOf (xs : List Int) (h : InB 256 xs) : bytesOf (strOf xs) = xs:=by
 have key : ∀ n,∀ xs : List Int,xs.length = n → InB 256 xs → bytesOf (strOf xs) = xs:=by
  intro n
  induction n with
  | zero=>intro xs h _; obtain rfl:=List.eq_nil_of_length_eq_zero h; rfl
  | succ n ih =>
   intro xs hl hb
   have e:=split_last xs (by omega)
   have hin:=InB_getD (B:=256) (by omega) hb (xs.length - 1)
   generalize xs.getD (xs.length - 1) 0 = x at *
   have hb1:=InB_take hb (xs.length - 1)
   have hl1 : (xs.take (xs.length - 1)).length = n:=by rw [List.length_take]; omega
   generalize xs.take (xs.length - 1) = ys at *
   subst e
   have:=ih ys hl1 hb1
   rw [strOf_snoc]
   unfold bytesOf at this ⊢
   rw [ByteArray.data_push,Array.toList_push,List.map_append,this]
   congr 1
   simp only [List.map_cons,List.map_nil,List.cons.injEq,and_true]
   rw [UInt8.toNat_ofNat']
   omega
 exact key _ xs rfl h
theorem str_size (s : ByteArray) : s.size = (bytesOf s).length:=by simp only [bytesOf,List.length_map,Array.length_toList]; rfl
theorem str_at (s : ByteArray) (n : Nat) : (((s.data.toList.getD n 0).toNat : Nat) : Int) = (bytesOf s).getD n 0:=by
 unfold bytesOf
 rw [List.getD_eq_getElem?_getD,List.getD_eq_getElem?_getD,List.getElem?_map]
 cases s.data.toList[n]? <;> rfl
theorem str_sub (s : ByteArray) (a b : Nat) : bytesOf (s.extract a b) = ((bytesOf s).take b).drop a:=by
 unfold bytesOf
 rw [ByteArray.data_extract,Array.toList_extract]
 simp [List.extract_eq_take_drop,List.map_take,List.map_drop,List.drop_take]
theorem bytes_inB (s : ByteArray) : InB 256 (bytesOf s):=by
 intro x hx
 obtain ⟨b,_,rfl⟩:=List.mem_map.1 hx
 have:=b.toNat_lt
 omega
theorem bytes_inj {s t : ByteArray} (h : bytesOf s = bytesOf t) : s = t:=by
 have : s.data.toList = t.data.toList:=by
  have h2:=congrArg (List.map fun x : Int=>UInt8.ofNat x.toNat) h
  have key : ∀ l : List UInt8,(l.map fun b=>(b.toNat : Int)).map (fun x : Int=>UInt8.ofNat x.toNat) = l:=fun l=>by
   induction l with
   | nil=>rfl
   | cons x l ih=>simp only [List.map_cons,ih,Int.toNat_natCast,UInt8.ofNat_toNat]
  simp only [bytesOf,key] at h2
  exact h2
 exact ByteArray.ext (Array.toList_inj.1 this)
theorem str_eq (s t : ByteArray) : (s.toList == t.toList) = decide (bytesOf s = bytesOf t):=by
 rw [ByteArray.toList_eq,ByteArray.toList_eq]
 by_cases h : s = t
 ·subst h; simp
 ·rw [decide_eq_false (fun e=>h (bytes_inj e))]
  exact beq_eq_false_iff_ne.2 fun e=>h (ByteArray.ext (Array.toList_inj.1 e))
def digB (b : Nat) : List Int:=(List.range b).map fun d : Nat=>chr (d : Int)
theorem lit_full : bytesOf { data:=#[48,49,50,51,52,53,54,55,56,57,97,98,99,100,101,102,103,104,105,106,107,108,109,110,111,112,113,114,115,116,117,118,119,120,121,122] } = digB 36:=by decide +kernel
theorem lit_take (b : Nat) (hb : b ≤ 36) : (digB 36).take b = digB b:=by
 unfold digB
 rw [← List.map_take,List.take_range,Nat.min_eq_left hb]
theorem digB_len (b : Nat) : (digB b).length = b:=by simp [digB]
theorem digB_at (b d : Nat) (h : d < b) : (digB b).getD d 0 = chr (d : Int):=by simp [digB,List.getD_eq_getElem?_getD,h]
theorem toNat_one : Int.toNat 1 = 1:=rfl
theorem lit_zero : bytesOf { data:=#[48] } = [48]:=rfl
theorem lit_none : bytesOf { data:=#[] } = []:=rfl
end Go.Proofs.YtgkajjifbcmoeaaGreatDoor
