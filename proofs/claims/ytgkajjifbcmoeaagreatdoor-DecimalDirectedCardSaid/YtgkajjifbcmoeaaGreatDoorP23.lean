import Derived.Test.YtgkajjifbcmoeaaGreatDoorP20
namespace Go.Proofs.NatL
set_option linter.unusedSimpArgs false
set_option linter.unusedVariables false
def sumZ (s : Bool) (m : Nat) (e : Int) (t : Bool) (n : Nat) (f : Int) : Int:=sg s (m * 10 ^ (e - min e f).toNat) + sg t (n * 10 ^ (f - min e f).toNat)
def sumB (s : Bool) (m : Nat) (e : Int) (t : Bool) (n : Nat) (f : Int) (fl : Bool) : Bool:=if sumZ s m e t n f = 0 then (if s = t then s else fl) else decide (sumZ s m e t n f < 0)
theorem sum_same {s : Bool} {m : Nat} {e : Int} {n : Nat} {f : Int} (fl : Bool) {M N : Nat} (hM : m * 10 ^ (e - min e f).toNat = M) (hN : n * 10 ^ (f - min e f).toNat = N) :
  sumB s m e s n f fl = s ∧ (sumZ s m e s n f).natAbs = M + N:=by
 unfold sumB sumZ
 rw [hM,hN]
 cases s
 ·simp only [sgf,if_true]
  refine ⟨?_,by omega⟩
  split
  ·rfl
  ·exact decide_eq_false (by omega)
 ·simp only [sgt,if_true]
  refine ⟨?_,by omega⟩
  split
  ·rfl
  ·exact decide_eq_true (by omega)
theorem sum_gt {s t : Bool} (hst : s ≠ t) {m : Nat} {e : Int} {n : Nat} {f : Int} (fl : Bool) {M N : Nat} (hM : m * 10 ^ (e - min e f).toNat = M) (hN : n * 10 ^ (f - min e f).toNat = N) (h : N < M) :
  sumB s m e t n f fl = s ∧ (sumZ s m e t n f).natAbs = M - N:=by
 unfold sumB sumZ
 rw [hM,hN]
 cases s <;> cases t <;> first | exact absurd rfl hst | skip
 ·simp only [sgf,sgt]
  refine ⟨?_,by omega⟩
  split
  ·omega
  ·first | exact decide_eq_false (by omega) | exact (decide_eq_false (by omega)).trans rfl
 ·simp only [sgf,sgt]
  refine ⟨?_,by omega⟩
  split
  ·omega
  ·first | exact decide_eq_true (by omega) | exact (decide_eq_true (by omega)).trans rfl
theorem sum_lt {s t : Bool} (hst : s ≠ t) {m : Nat} {e : Int} {n : Nat} {f : Int} (fl : Bool) {M N : Nat} (hM : m * 10 ^ (e - min e f).toNat = M) (hN : n * 10 ^ (f - min e f).toNat = N) (h : M < N) :
  sumB s m e t n f fl = t ∧ (sumZ s m e t n f).natAbs = N - M:=by
 unfold sumB sumZ
 rw [hM,hN]
 cases s <;> cases t <;> first | exact absurd rfl hst | skip
 ·simp only [sgf,sgt]
  refine ⟨?_,by omega⟩
  split
  ·omega
  ·first | exact decide_eq_true (by omega) | exact (decide_eq_true (by omega)).trans rfl
 ·simp only [sgf,sgt]
  refine ⟨?_,by omega⟩
  split
  ·omega
  ·first | exact decide_eq_false (by omega) | exact (decide_eq_false (by omega)).trans rfl
theorem sum_eq {s t : Bool} (hst : s ≠ t) {m : Nat} {e : Int} {n : Nat} {f : Int} (fl : Bool) {M N : Nat} (hM : m * 10 ^ (e - min e f).toNat = M) (hN : n * 10 ^ (f - min e f).toNat = N) (h : M = N) :
  sumB s m e t n f fl = fl ∧ (sumZ s m e t n f).natAbs = 0:=by
 unfold sumB sumZ
 rw [hM,hN,if_neg hst]
 cases s <;> cases t <;> first | exact absurd rfl hst | skip
 ·simp only [sgf,sgt]
  have e0 : (M : Int) + -(N : Int) = 0:=by omega
  exact ⟨if_pos e0,by omega⟩
 ·simp only [sgf,sgt]
  have e0 : -(M : Int) + (N : Int) = 0:=by omega
  exact ⟨if_pos e0,by omega⟩
def smP (m : Nat) (e : Int) (n : Nat) (f : Int) : Prop:=ds m ≤ 240 ∧ ds n ≤ 240 ∧ -2500 ≤ e ∧ e ≤ 2500 ∧ -2500 ≤ f ∧ f ≤ 2500 ∧ e - f ≤ 3700 ∧ f - e ≤ 3700
theorem smP_len {m n : Nat} {e f : Int} (h : smP m e n f) : ds (m * 10 ^ (e - min e f).toNat) ≤ 3940 ∧ ds (n * 10 ^ (f - min e f).toNat) ≤ 3940:=by
 obtain ⟨h1,h2,h3,h4,h5,h6,h7,h8⟩:=h
 exact ⟨ds_mul10 (by omega),ds_mul10 (by omega)⟩
theorem sumZ_len {s t : Bool} {m n : Nat} {e f : Int} (h : smP m e n f) : ds (sumZ s m e t n f).natAbs ≤ 3941:=by
 obtain ⟨h1,h2⟩:=smP_len h
 unfold sumZ
 generalize m * 10 ^ (e - min e f).toNat = M at *
 generalize n * 10 ^ (f - min e f).toNat = N at *
 refine ds_le_of_le (b:=M + N) ?_ (ds_add h1 h2)
 cases s <;> cases t <;> simp only [sgf,sgt] <;> omega
def dNone : Dc:=⟨2,false,0,0⟩
def dInf (s : Bool) : Dc:=⟨1,s,0,0⟩
def flr (c : Cx) : Bool:=decide (c.r = 2)
def addD (A B : Dc) (c : Cx) : Dc :=
 if A.kind = 2 ∨ B.kind = 2 then dNone
 else if A.kind = 1 ∧ B.kind = 1 ∧ A.neg ≠ B.neg then dNone
 else if A.kind = 1 then dInf A.neg
 else if B.kind = 1 then dInf B.neg
 else fitD (sumB A.neg A.coef A.exp B.neg B.coef B.exp (flr c)) (sumZ A.neg A.coef A.exp B.neg B.coef B.exp).natAbs 1 (min A.exp B.exp) (min A.exp B.exp) c.p c.r c.mn c.mx
def addS (A B : Dc) (c : Cx) : Int :=
 if A.kind = 2 ∨ B.kind = 2 then 0
 else if A.kind = 1 ∧ B.kind = 1 ∧ A.neg ≠ B.neg then 32
 else if A.kind = 1 then 0
 else if B.kind = 1 then 0
 else fitS (sumB A.neg A.coef A.exp B.neg B.coef B.exp (flr c)) (sumZ A.neg A.coef A.exp B.neg B.coef B.exp).natAbs 1 (min A.exp B.exp) (min A.exp B.exp) c.p c.r c.mn c.mx
theorem one_ds : ds 1 = 1:=by decide
theorem PF_sum {s t : Bool} {m n : Nat} {e f : Int} (h : smP m e n f) : PF (sumZ s m e t n f).natAbs 1 (min e f):=by
 have:=sumZ_len (s:=s) (t:=t) h
 obtain ⟨h1,h2,h3,h4,h5,h6,h7,h8⟩:=h
 have:=one_ds
 refine ⟨by omega,by omega,by omega,by omega,by omega⟩
end Go.Proofs.NatL
namespace Go.Proofs.YtgkajjifbcmoeaaGreatDoor
set_option linter.unusedSimpArgs false
set_option linter.unusedVariables false
open Go.Abs Go.Proofs.NatL

def db9d : Cfg:=listT [(82,timesTCT),(124,lessCT),(125,(nat6CT pAdd rAddN)),(165,(nat6CT le2 rSubN)),(88,(nat6CT pMul rMulN))] [34]
theorem db9d_ok : TblOk Tryz.prog db9d:=listE_ok (by simp only [List.mem_singleton,forall_eq]; exact flt) ⟨⟨dc4,dc4_ok,rfl⟩,⟨dc2,dc2_ok,rfl⟩,⟨dn1,dn1_ok,rfl⟩,⟨dn3,dn3_ok,rfl⟩,⟨dn2,dn2_ok,rfl⟩,trivial⟩
attribute [go_sem] db9d
def ofDCT : CT:=mkCT [nDc] false fun l K=>match l with
 | [.inr [.i .i64 k,.b s,.b t,.ints .u32 xs,.i .i64 e]]=>K (.g [.b s,.ints .u32 xs,.ints .u32 (dg 4294967296 1),.i .i64 e])
 | _=>False
def df1 : Cfg:=addT 93 ofDCT cf0
theorem df1_ok : TblOk Tryz.prog df1:=q_I cf0_ok Tryz.func93 fun l K h=>by
 split at h
 ·rename_i k s t xs e
  refine ⟨_,?_,h⟩
  have e1 : ([1] : List Int) = dg 4294967296 1:=rfl
  (refine q_H Tryz.func93 (fun F=>?_); simp only [q_z,q_y,Tryz.ntmps93,Tryz.results93])
  repeat' (first|with_reducible refine q_0 ?_|((with_reducible first|refine q_q db9d_ok fun K hK=>?_|refine q_r db9d_ok fun K hK=>?_);simp (maxSteps:=2000000) only [go_sem,↓reduceIte,reduceCtorEq,Nat.reduceLeDiff,Nat.reduceLT,Nat.reduceBEq,Nat.reduceAdd,e1];(repeat1' with_reducible first|apply And.intro|(intro _;try exact q_v)|(refine hK _ ?_;clear hK K))<;>(try (clear hK K;exact q_u)))|(with_reducible refine q_s ?_;(first|apply q_J|apply q_K|apply q_L|apply q_M|apply q_N|apply q_O)<;>try (intro _;try exact q_v)))
  all_goals first | omega | exact q_A rfl | skip
 ·exact h.elim
set_option maxHeartbeats 3200000 in
theorem plus_ret' (s t : Bool) (m n : Nat) (e f : Int) (p r mn mx : Int) (h : smP m e n f) :
  Ret Tryz.prog 92 false [.inr (gX s m 1 e),.inr (gX t n 1 f),.inr [.i .i64 p,.i .i64 r,.i .i64 mn,.i .i64 mx]]
   (.g (gX (sumB s m e t n f (decide (r = 2))) (sumZ s m e t n f).natAbs 1 (min e f))):=by
 obtain ⟨k1,k2⟩:=smP_len h
 obtain ⟨h1,h2,h3,h4,h5,h6,h7,h8⟩:=h
 have e1 : ([1] : List Int) = dg 4294967296 1:=rfl
 have l1:=ds_600 (n:=m) (by omega)
 have l2:=ds_600 (n:=n) (by omega)
 have same:=fun hst : s = t=>sum_same (s:=s) (m:=m) (e:=e) (n:=n) (f:=f) (decide (r = 2)) rfl rfl
 have gt:=fun hst : s ≠ t=>sum_gt hst (m:=m) (e:=e) (n:=n) (f:=f) (decide (r = 2)) rfl rfl
 have lt:=fun hst : s ≠ t=>sum_lt hst (m:=m) (e:=e) (n:=n) (f:=f) (decide (r = 2)) rfl rfl
 have eq:=fun hst : s ≠ t=>sum_eq hst (m:=m) (e:=e) (n:=n) (f:=f) (decide (r = 2)) rfl rfl
 have j1 : 0 ≤ e - min e f ∧ e - min e f < 4096:=by omega
 have j2 : 0 ≤ f - min e f ∧ f - min e f < 4096:=by omega
 obtain ⟨j1,j3⟩:=j1
 obtain ⟨j2,j4⟩:=j2
 have l3:=ds_600 (n:=m * 10 ^ (e - min e f).toNat) (by omega)
 have l4:=ds_600 (n:=n * 10 ^ (f - min e f).toNat) (by omega)
 have l5:=ds_600 (n:=m * 10 ^ (e - min e f).toNat + n * 10 ^ (f - min e f).toNat) (by have:=ds_add k1 k2; omega)
 have b1 : -9223372036854775808 ≤ e - min e f ∧ e - min e f ≤ 9223372036854775807:=by omega
 have b2 : -9223372036854775808 ≤ f - min e f ∧ f - min e f ≤ 9223372036854775807:=by omega
 generalize hM : m * 10 ^ (e - min e f).toNat = M at *
 generalize hN : n * 10 ^ (f - min e f).toNat = N at *
 generalize hx : e - min e f = X at *
 generalize hy : f - min e f = Y at *
 by_cases hst : s = t
 ·subst hst
  obtain ⟨q1,q2⟩:=same rfl
  rw [q1,q2]
  clear same gt lt eq
  (refine q_H Tryz.func92 (fun F=>?_); simp only [q_z,q_y,Tryz.ntmps92,Tryz.results92])
  repeat' (first|with_reducible refine q_0 ?_|((with_reducible first|refine q_q db9d_ok fun K hK=>?_|refine q_r db9d_ok fun K hK=>?_);simp (maxSteps:=2000000) only [go_sem,↓reduceIte,reduceCtorEq,Nat.reduceLeDiff,Nat.reduceLT,Nat.reduceBEq,Nat.reduceAdd,V32,e1,hx,hy,hM,hN];(repeat1' with_reducible first|apply And.intro|(intro _;try exact q_v)|(refine hK _ ?_;clear hK K))<;>(try (clear hK K;exact q_u)))|(with_reducible refine q_s ?_;(first|apply q_J|apply q_K|apply q_L|apply q_M|apply q_N|apply q_O)<;>try (intro _;try exact q_v)))
  all_goals first | omega | exact q_A rfl | skip
 ·have hne : (s == t) = false:=by simpa using hst
  rcases Nat.lt_trichotomy M N with hc | hc | hc
  ·obtain ⟨q1,q2⟩:=lt hst hc
   rw [q1,q2]
   clear same gt lt eq
   have l6:=Nat.le_trans (dg_len_mono (B:=4294967296) (by omega) (Nat.sub_le N M)) l4
   have hz:=dg_len_pos 4294967296 (N - M) (by omega)
   (refine q_H Tryz.func92 (fun F=>?_); simp only [q_z,q_y,Tryz.ntmps92,Tryz.results92])
   repeat' (first|with_reducible refine q_0 ?_|((with_reducible first|refine q_q db9d_ok fun K hK=>?_|refine q_r db9d_ok fun K hK=>?_);simp (maxSteps:=2000000) only [go_sem,↓reduceIte,reduceCtorEq,Nat.reduceLeDiff,Nat.reduceLT,Nat.reduceBEq,Nat.reduceAdd,V32,e1,hx,hy,hM,hN,hne];(repeat1' with_reducible first|apply And.intro|(intro _;try exact q_v)|(refine hK _ ?_;clear hK K))<;>(try (clear hK K;exact q_u)))|(with_reducible refine q_s ?_;(first|apply q_J|apply q_K|apply q_L|apply q_M|apply q_N|apply q_O)<;>try (intro _;try exact q_v)))
   all_goals first | omega | exact q_A rfl | skip
  ·obtain ⟨q1,q2⟩:=eq hst hc
   rw [q1,q2]
   clear same gt lt eq
   subst hc
   have hz : M - M = 0:=by omega
   have hz2 : (dg 4294967296 0).length = 0:=rfl
   (refine q_H Tryz.func92 (fun F=>?_); simp only [q_z,q_y,Tryz.ntmps92,Tryz.results92])
   repeat' (first|with_reducible refine q_0 ?_|((with_reducible first|refine q_q db9d_ok fun K hK=>?_|refine q_r db9d_ok fun K hK=>?_);simp (maxSteps:=2000000) only [go_sem,↓reduceIte,reduceCtorEq,Nat.reduceLeDiff,Nat.reduceLT,Nat.reduceBEq,Nat.reduceAdd,V32,e1,hx,hy,hM,hN,hne,hz,hz2];(repeat1' with_reducible first|apply And.intro|(intro _;try exact q_v)|(refine hK _ ?_;clear hK K))<;>(try (clear hK K;exact q_u)))|(with_reducible refine q_s ?_;(first|apply q_J|apply q_K|apply q_L|apply q_M|apply q_N|apply q_O)<;>try (intro _;try exact q_v)))
   all_goals first | omega | exact q_A rfl | skip
  ·obtain ⟨q1,q2⟩:=gt hst hc
   rw [q1,q2]
   clear same gt lt eq
   have l6:=Nat.le_trans (dg_len_mono (B:=4294967296) (by omega) (Nat.sub_le M N)) l3
   have hz:=dg_len_pos 4294967296 (M - N) (by omega)
   (refine q_H Tryz.func92 (fun F=>?_); simp only [q_z,q_y,Tryz.ntmps92,Tryz.results92])
   repeat' (first|with_reducible refine q_0 ?_|((with_reducible first|refine q_q db9d_ok fun K hK=>?_|refine q_r db9d_ok fun K hK=>?_);simp (maxSteps:=2000000) only [go_sem,↓reduceIte,reduceCtorEq,Nat.reduceLeDiff,Nat.reduceLT,Nat.reduceBEq,Nat.reduceAdd,V32,e1,hx,hy,hM,hN,hne];(repeat1' with_reducible first|apply And.intro|(intro _;try exact q_v)|(refine hK _ ?_;clear hK K))<;>(try (clear hK K;exact q_u)))|(with_reducible refine q_s ?_;(first|apply q_J|apply q_K|apply q_L|apply q_M|apply q_N|apply q_O)<;>try (intro _;try exact q_v)))
   all_goals first | omega | exact q_A rfl | skip
def plusXCT : CT:=mkCT [nX,nX,.inr [none,none,none,none]] false fun l K=>match l with
 | [.inr [.b s,.ints .u32 xs,.ints .u32 ua,.i .i64 e],.inr [.b t,.ints .u32 ys,.ints .u32 ub,.i .i64 f],.inr [.i .i64 p,.i .i64 r,.i .i64 mn,.i .i64 mx]] =>
   (InB 4294967296 xs ∧ Trd xs ∧ InB 4294967296 ys ∧ Trd ys ∧ ua = dg 4294967296 1 ∧ ub = dg 4294967296 1 ∧ smP (V 4294967296 xs) e (V 4294967296 ys) f) ∧
   K (.g (gX (sumB s (V 4294967296 xs) e t (V 4294967296 ys) f (decide (r = 2))) (sumZ s (V 4294967296 xs) e t (V 4294967296 ys) f).natAbs 1 (min e f)))
 | _=>False
def df2 : Cfg:=addT 92 plusXCT cf0
theorem df2_ok : TblOk Tryz.prog df2:=q_I cf0_ok Tryz.func92 fun l K h=>by
 split at h
 ·rename_i s xs ua e t ys ub f p r mn mx
  obtain ⟨⟨h1,h2,h3,h4,rfl,rfl,h5⟩,h⟩:=h
  have e1:=dg_V 4294967296 (by omega) xs h1 h2
  have e2:=dg_V 4294967296 (by omega) ys h3 h4
  have:=plus_ret' s t _ _ e f p r mn mx h5
  rw [gX,gX,e1,e2] at this
  exact ⟨_,this,h⟩
 ·exact h.elim
attribute [go_sem] ofDCT plusXCT
end Go.Proofs.YtgkajjifbcmoeaaGreatDoor
namespace Go.Proofs.NatL
set_option linter.unusedSimpArgs false
set_option linter.unusedVariables false
def spD (A B : Dc) : Dc:=if A.kind = 2 ∨ B.kind = 2 then dNone else if A.kind = 1 ∧ B.kind = 1 ∧ A.neg ≠ B.neg then dNone else if A.kind = 1 then dInf A.neg else dInf B.neg
def spS (A B : Dc) : Int:=if A.kind = 2 ∨ B.kind = 2 then 0 else if A.kind = 1 ∧ B.kind = 1 ∧ A.neg ≠ B.neg then 32 else 0
def enD (A B : Dc) : Dc:=if A.kind = 2 ∨ B.kind = 2 then dNone else if (A.kind = 0 ∧ A.coef = 0) ∨ (B.kind = 0 ∧ B.coef = 0) then dNone else dInf (A.neg != B.neg)
def enS (A B : Dc) : Int:=if A.kind = 2 ∨ B.kind = 2 then 0 else if (A.kind = 0 ∧ A.coef = 0) ∨ (B.kind = 0 ∧ B.coef = 0) then 32 else 0
theorem OkD_kind {A : Dc} (h : OkD A) : A.kind = 0 ∨ A.kind = 1 ∨ A.kind = 2:=by rcases h with ⟨h,_⟩ | ⟨h,_⟩ | ⟨h,_⟩ <;> omega
theorem add_sp {A B : Dc} (c : Cx) (hA : OkD A) (hB : OkD B) (h : A.kind ≠ 0 ∨ B.kind ≠ 0) : addD A B c = spD A B ∧ addS A B c = spS A B:=by
 have ka:=OkD_kind hA
 have kb:=OkD_kind hB
 unfold addD addS spD spS
 by_cases h1 : A.kind = 2 ∨ B.kind = 2
 ·simp only [if_pos h1,and_self]
 ·by_cases h2 : A.kind = 1 ∧ B.kind = 1 ∧ A.neg ≠ B.neg
  ·simp only [if_neg h1,if_pos h2,and_self]
  ·by_cases h3 : A.kind = 1
   ·simp only [if_neg h1,if_neg h2,if_pos h3,and_self]
   ·have h4 : B.kind = 1:=by omega
    simp only [if_neg h1,if_neg h2,if_neg h3,if_pos h4,and_self]
theorem add_ff {s t : Bool} {m n : Nat} {e f : Int} (c : Cx) : addD ⟨0,s,m,e⟩ ⟨0,t,n,f⟩ c = fitD (sumB s m e t n f (flr c)) (sumZ s m e t n f).natAbs 1 (min e f) (min e f) c.p c.r c.mn c.mx ∧ addS ⟨0,s,m,e⟩ ⟨0,t,n,f⟩ c = fitS (sumB s m e t n f (flr c)) (sumZ s m e t n f).natAbs 1 (min e f) (min e f) c.p c.r c.mn c.mx:=⟨rfl,rfl⟩
end Go.Proofs.NatL
namespace Go.Proofs.YtgkajjifbcmoeaaGreatDoor
set_option linter.unusedSimpArgs false
set_option linter.unusedVariables false
open Go.Abs Go.Proofs.NatL
def noneDCT : CT:=mkCT [] false fun l K=>match l with
 | []=>K (.g [.i .i64 2,.b false,.b false,.ints .u32 [],.i .i64 0])
 | _=>False
def df3 : Cfg:=addT 72 noneDCT cf0
theorem df3_ok : TblOk Tryz.prog df3:=q_I cf0_ok Tryz.func72 fun l K h=>by
 split at h
 ·refine ⟨_,?_,h⟩
  (refine q_H Tryz.func72 (fun F=>?_); simp only [q_z,q_y,Tryz.ntmps72,Tryz.results72])
  repeat' (first|with_reducible refine q_0 ?_|((with_reducible first|refine q_q db9d_ok fun K hK=>?_|refine q_r db9d_ok fun K hK=>?_);simp (maxSteps:=2000000) only [go_sem,↓reduceIte,reduceCtorEq,Nat.reduceLeDiff,Nat.reduceLT,Nat.reduceBEq,Nat.reduceAdd];(repeat1' with_reducible first|apply And.intro|(intro _;try exact q_v)|(refine hK _ ?_;clear hK K))<;>(try (clear hK K;exact q_u)))|(with_reducible refine q_s ?_;(first|apply q_J|apply q_K|apply q_L|apply q_M|apply q_N|apply q_O)<;>try (intro _;try exact q_v)))
  all_goals first | omega | exact q_B [nDc] rfl rfl | exact q_A rfl | skip
 ·exact h.elim
attribute [go_sem] noneDCT
set_option maxHeartbeats 800000 in
theorem isZero_ret (k : Int) (s t : Bool) (xs : List Int) (e : Int) : Ret Tryz.prog 73 false [.inr [.i .i64 k,.b s,.b t,.ints .u32 xs,.i .i64 e]] (.c (.b (decide (k = 0 ∧ (xs.length : Int) = 0)))):=by
 by_cases h : k = 0
 ·(refine q_H Tryz.func73 (fun F=>?_); simp only [q_z,q_y,Tryz.ntmps73,Tryz.results73])
  repeat' (first|with_reducible refine q_0 ?_|((with_reducible first|refine q_q db9d_ok fun K hK=>?_|refine q_r db9d_ok fun K hK=>?_);simp (maxSteps:=2000000) only [go_sem,↓reduceIte,reduceCtorEq,Nat.reduceLeDiff,Nat.reduceLT,Nat.reduceBEq,Nat.reduceAdd];(repeat1' with_reducible first|apply And.intro|(intro _;try exact q_v)|(refine hK _ ?_;clear hK K))<;>(try (clear hK K;exact q_u)))|(with_reducible refine q_s ?_;(first|apply q_J|apply q_K|apply q_L|apply q_M|apply q_N|apply q_O)<;>try (intro _;try exact q_v)))
  all_goals first | omega | exact q_A (by simp [resAV,q_y,h]) | skip
 ·(refine q_H Tryz.func73 (fun F=>?_); simp only [q_z,q_y,Tryz.ntmps73,Tryz.results73])
  repeat' (first|with_reducible refine q_0 ?_|((with_reducible first|refine q_q db9d_ok fun K hK=>?_|refine q_r db9d_ok fun K hK=>?_);simp (maxSteps:=2000000) only [go_sem,↓reduceIte,reduceCtorEq,Nat.reduceLeDiff,Nat.reduceLT,Nat.reduceBEq,Nat.reduceAdd];(repeat1' with_reducible first|apply And.intro|(intro _;try exact q_v)|(refine hK _ ?_;clear hK K))<;>(try (clear hK K;exact q_u)))|(with_reducible refine q_s ?_;(first|apply q_J|apply q_K|apply q_L|apply q_M|apply q_N|apply q_O)<;>try (intro _;try exact q_v)))
  all_goals first | omega | exact q_A (by simp [resAV,q_y,h]) | skip
def isZeroCT : CT:=mkCT [nDc] true fun l K=>match l with
 | [.inr [.i .i64 k,.b s,.b t,.ints .u32 xs,.i .i64 e]]=>K (.c (.b (decide (k = 0 ∧ (xs.length : Int) = 0))))
 | _=>False
def df4 : Cfg:=addT 73 isZeroCT cf0
theorem df4_ok : TblOk Tryz.prog df4:=q_I cf0_ok Tryz.func73 fun l K h=>by
 split at h
 ·exact ⟨_,(isZero_ret _ _ _ _ _).plain rfl,h⟩
 ·exact h.elim
attribute [go_sem] isZeroCT
def db10d : Cfg:=listT [(72,noneDCT),(74,infiniteCT),(73,isZeroCT)] [34]
theorem db10d_ok : TblOk Tryz.prog db10d:=listE_ok (by simp only [List.mem_singleton,forall_eq]; exact flt) ⟨⟨df3,df3_ok,rfl⟩,⟨de2,de2_ok,rfl⟩,⟨df4,df4_ok,rfl⟩,trivial⟩
attribute [go_sem] db10d
def dd2CT (f : Dc → Dc → Dc) (g : Dc → Dc → Int) : CT:=mkCT [nDc,nDc] false fun l K=>match l with
 | [.inr [.i .i64 k,.b s,.b p,.ints .u32 xs,.i .i64 e],.inr [.i .i64 l,.b t,.b q,.ints .u32 ys,.i .i64 f']]=>(InB 4294967296 xs ∧ Trd xs ∧ InB 4294967296 ys ∧ Trd ys ∧ p = false ∧ q = false) ∧
   K (.t [.inr (gDc (f ⟨k,s,V 4294967296 xs,e⟩ ⟨l,t,V 4294967296 ys,f'⟩)),.inl (.i .i64 (g ⟨k,s,V 4294967296 xs,e⟩ ⟨l,t,V 4294967296 ys,f'⟩))])
 | _=>False
theorem dd2_tr {F : FuncId} {f : Dc → Dc → Dc} {g : Dc → Dc → Int} (hc : ∀ A B : Dc,Ret Tryz.prog F false [.inr (gDc A),.inr (gDc B)] (.t [.inr (gDc (f A B)),.inl (.i .i64 (g A B))])) (l : List (C ⊕ List C)) (K : AV → Prop) (hk : match l with
   | [.inr [.i .i64 k,.b s,.b p,.ints .u32 xs,.i .i64 e],.inr [.i .i64 l,.b t,.b q,.ints .u32 ys,.i .i64 f']]=>(InB 4294967296 xs ∧ Trd xs ∧ InB 4294967296 ys ∧ Trd ys ∧ p = false ∧ q = false) ∧
    K (.t [.inr (gDc (f ⟨k,s,V 4294967296 xs,e⟩ ⟨l,t,V 4294967296 ys,f'⟩)),.inl (.i .i64 (g ⟨k,s,V 4294967296 xs,e⟩ ⟨l,t,V 4294967296 ys,f'⟩))])
   | _=>False) : ∃ r,Ret Tryz.prog F false l r ∧ K r:=by
 split at hk
 ·rename_i k s p xs e l t q ys f'
  obtain ⟨⟨h1,h2,h3,h4,rfl,rfl⟩,hk⟩:=hk
  have e1:=dg_V 4294967296 (by omega) xs h1 h2
  have e2:=dg_V 4294967296 (by omega) ys h3 h4
  have:=hc ⟨k,s,V 4294967296 xs,e⟩ ⟨l,t,V 4294967296 ys,f'⟩
  rw [gDc,gDc] at this
  simp only [e1,e2] at this
  exact ⟨_,this,hk⟩
 ·exact hk.elim
set_option maxHeartbeats 1600000 in
theorem special_ret (A B : Dc) : Ret Tryz.prog 91 false [.inr (gDc A),.inr (gDc B)] (.t [.inr (gDc (spD A B)),.inl (.i .i64 (spS A B))]):=by
 obtain ⟨k,s,m,e⟩:=A
 obtain ⟨l,t,n,f⟩:=B
 unfold spD spS
 simp only
 by_cases h1 : k = 2 ∨ l = 2
 ·rw [if_pos h1,if_pos h1]
  (refine q_H Tryz.func91 (fun F=>?_); simp only [q_z,q_y,Tryz.ntmps91,Tryz.results91])
  repeat' (first|with_reducible refine q_0 ?_|((with_reducible first|refine q_q db10d_ok fun K hK=>?_|refine q_r db10d_ok fun K hK=>?_);simp (maxSteps:=2000000) only [go_sem,↓reduceIte,reduceCtorEq,Nat.reduceLeDiff,Nat.reduceLT,Nat.reduceBEq,Nat.reduceAdd];(repeat1' with_reducible first|apply And.intro|(intro _;try exact q_v)|(refine hK _ ?_;clear hK K))<;>(try (clear hK K;exact q_u)))|(with_reducible refine q_s ?_;(first|apply q_J|apply q_K|apply q_L|apply q_M|apply q_N|apply q_O)<;>try (intro _;try exact q_v)))
  all_goals first | omega | exact q_A rfl | skip
 rw [if_neg h1,if_neg h1]
 have h1a : k ≠ 2:=by omega
 have h1b : l ≠ 2:=by omega
 clear h1
 by_cases h2 : k = 1
 ·subst h2
  by_cases h3 : l = 1
  ·subst h3
   by_cases h4 : s = t
   ·subst h4
    have hb : (s != s) = false:=bne_self_eq_false _
    simp only [ne_eq,not_true_eq_false,and_false,if_false,if_true]
    (refine q_H Tryz.func91 (fun F=>?_); simp only [q_z,q_y,Tryz.ntmps91,Tryz.results91])
    repeat' (first|with_reducible refine q_0 ?_|((with_reducible first|refine q_q db10d_ok fun K hK=>?_|refine q_r db10d_ok fun K hK=>?_);simp (maxSteps:=2000000) only [go_sem,↓reduceIte,reduceCtorEq,Nat.reduceLeDiff,Nat.reduceLT,Nat.reduceBEq,Nat.reduceAdd,hb];(repeat1' with_reducible first|apply And.intro|(intro _;try exact q_v)|(refine hK _ ?_;clear hK K))<;>(try (clear hK K;exact q_u)))|(with_reducible refine q_s ?_;(first|apply q_J|apply q_K|apply q_L|apply q_M|apply q_N|apply q_O)<;>try (intro _;try exact q_v)))
    all_goals first | omega | exact q_A rfl | skip
   ·have hb : (s != t) = true:=by simpa using h4
    rw [if_pos ⟨rfl,rfl,h4⟩,if_pos ⟨rfl,rfl,h4⟩]
    (refine q_H Tryz.func91 (fun F=>?_); simp only [q_z,q_y,Tryz.ntmps91,Tryz.results91])
    repeat' (first|with_reducible refine q_0 ?_|((with_reducible first|refine q_q db10d_ok fun K hK=>?_|refine q_r db10d_ok fun K hK=>?_);simp (maxSteps:=2000000) only [go_sem,↓reduceIte,reduceCtorEq,Nat.reduceLeDiff,Nat.reduceLT,Nat.reduceBEq,Nat.reduceAdd,hb];(repeat1' with_reducible first|apply And.intro|(intro _;try exact q_v)|(refine hK _ ?_;clear hK K))<;>(try (clear hK K;exact q_u)))|(with_reducible refine q_s ?_;(first|apply q_J|apply q_K|apply q_L|apply q_M|apply q_N|apply q_O)<;>try (intro _;try exact q_v)))
    all_goals first | omega | exact q_A rfl | skip
  ·have h5 : ¬ ((1 : Int) = 1 ∧ l = 1 ∧ s ≠ t):=fun h=>h3 h.2.1
   rw [if_neg h5,if_neg h5,if_pos rfl]
   (refine q_H Tryz.func91 (fun F=>?_); simp only [q_z,q_y,Tryz.ntmps91,Tryz.results91])
   repeat' (first|with_reducible refine q_0 ?_|((with_reducible first|refine q_q db10d_ok fun K hK=>?_|refine q_r db10d_ok fun K hK=>?_);simp (maxSteps:=2000000) only [go_sem,↓reduceIte,reduceCtorEq,Nat.reduceLeDiff,Nat.reduceLT,Nat.reduceBEq,Nat.reduceAdd];(repeat1' with_reducible first|apply And.intro|(intro _;try exact q_v)|(refine hK _ ?_;clear hK K))<;>(try (clear hK K;exact q_u)))|(with_reducible refine q_s ?_;(first|apply q_J|apply q_K|apply q_L|apply q_M|apply q_N|apply q_O)<;>try (intro _;try exact q_v)))
   all_goals first | omega | exact q_A rfl | skip
 ·have h5 : ¬ (k = 1 ∧ l = 1 ∧ s ≠ t):=fun h=>h2 h.1
  rw [if_neg h5,if_neg h5,if_neg h2]
  (refine q_H Tryz.func91 (fun F=>?_); simp only [q_z,q_y,Tryz.ntmps91,Tryz.results91])
  repeat' (first|with_reducible refine q_0 ?_|((with_reducible first|refine q_q db10d_ok fun K hK=>?_|refine q_r db10d_ok fun K hK=>?_);simp (maxSteps:=2000000) only [go_sem,↓reduceIte,reduceCtorEq,Nat.reduceLeDiff,Nat.reduceLT,Nat.reduceBEq,Nat.reduceAdd];(repeat1' with_reducible first|apply And.intro|(intro _;try exact q_v)|(refine hK _ ?_;clear hK K))<;>(try (clear hK K;exact q_u)))|(with_reducible refine q_s ?_;(first|apply q_J|apply q_K|apply q_L|apply q_M|apply q_N|apply q_O)<;>try (intro _;try exact q_v)))
  all_goals first | omega | exact q_A rfl | skip
def df5 : Cfg:=addT 91 (dd2CT spD spS) cf0
theorem df5_ok : TblOk Tryz.prog df5:=q_I cf0_ok Tryz.func91 fun l K h =>
 dd2_tr (f:=spD) (g:=spS) (fun A B=>special_ret A B) l K h
set_option maxHeartbeats 1600000 in
theorem endless_ret (A B : Dc) : Ret Tryz.prog 94 false [.inr (gDc A),.inr (gDc B)] (.t [.inr (gDc (enD A B)),.inl (.i .i64 (enS A B))]):=by
 obtain ⟨k,s,m,e⟩:=A
 obtain ⟨l,t,n,f⟩:=B
 have z1:=dg_nil_iff m
 have z2:=dg_nil_iff n
 unfold enD enS
 simp only
 by_cases h1 : k = 2 ∨ l = 2
 ·rw [if_pos h1,if_pos h1]
  (refine q_H Tryz.func94 (fun F=>?_); simp only [q_z,q_y,Tryz.ntmps94,Tryz.results94])
  repeat' (first|with_reducible refine q_0 ?_|((with_reducible first|refine q_q db10d_ok fun K hK=>?_|refine q_r db10d_ok fun K hK=>?_);simp (maxSteps:=2000000) only [go_sem,↓reduceIte,reduceCtorEq,Nat.reduceLeDiff,Nat.reduceLT,Nat.reduceBEq,Nat.reduceAdd];(repeat1' with_reducible first|apply And.intro|(intro _;try exact q_v)|(refine hK _ ?_;clear hK K))<;>(try (clear hK K;exact q_u)))|(with_reducible refine q_s ?_;(first|apply q_J|apply q_K|apply q_L|apply q_M|apply q_N|apply q_O)<;>try (intro _;try exact q_v)))
  all_goals first | omega | exact q_A rfl | skip
 rw [if_neg h1,if_neg h1]
 by_cases h2 : (k = 0 ∧ m = 0) ∨ (l = 0 ∧ n = 0)
 ·rw [if_pos h2,if_pos h2]
  (refine q_H Tryz.func94 (fun F=>?_); simp only [q_z,q_y,Tryz.ntmps94,Tryz.results94])
  repeat' (first|with_reducible refine q_0 ?_|((with_reducible first|refine q_q db10d_ok fun K hK=>?_|refine q_r db10d_ok fun K hK=>?_);simp (maxSteps:=2000000) only [go_sem,↓reduceIte,reduceCtorEq,Nat.reduceLeDiff,Nat.reduceLT,Nat.reduceBEq,Nat.reduceAdd];(repeat1' with_reducible first|apply And.intro|(intro _;try exact q_v)|(refine hK _ ?_;clear hK K))<;>(try (clear hK K;exact q_u)))|(with_reducible refine q_s ?_;(first|apply q_J|apply q_K|apply q_L|apply q_M|apply q_N|apply q_O)<;>try (intro _;try exact q_v)))
  all_goals first | omega | exact q_A rfl | skip
 ·rw [if_neg h2,if_neg h2]
  (refine q_H Tryz.func94 (fun F=>?_); simp only [q_z,q_y,Tryz.ntmps94,Tryz.results94])
  repeat' (first|with_reducible refine q_0 ?_|((with_reducible first|refine q_q db10d_ok fun K hK=>?_|refine q_r db10d_ok fun K hK=>?_);simp (maxSteps:=2000000) only [go_sem,↓reduceIte,reduceCtorEq,Nat.reduceLeDiff,Nat.reduceLT,Nat.reduceBEq,Nat.reduceAdd];(repeat1' with_reducible first|apply And.intro|(intro _;try exact q_v)|(refine hK _ ?_;clear hK K))<;>(try (clear hK K;exact q_u)))|(with_reducible refine q_s ?_;(first|apply q_J|apply q_K|apply q_L|apply q_M|apply q_N|apply q_O)<;>try (intro _;try exact q_v)))
  all_goals first | omega | exact q_A rfl | skip
def df6 : Cfg:=addT 94 (dd2CT enD enS) cf0
theorem df6_ok : TblOk Tryz.prog df6:=q_I cf0_ok Tryz.func94 fun l K h =>
 dd2_tr (f:=enD) (g:=enS) (fun A B=>endless_ret A B) l K h
set_option maxHeartbeats 800000 in
theorem product_ret (A B : Dc) (h1 : ds A.coef ≤ 120) (h2 : ds B.coef ≤ 120) (he : -1200 ≤ A.exp ∧ A.exp ≤ 1200) (hf : -1200 ≤ B.exp ∧ B.exp ≤ 1200) : Ret Tryz.prog 95 false [.inr (gDc A),.inr (gDc B)] (.g (gX (A.neg != B.neg) (A.coef * B.coef) 1 (A.exp + B.exp))):=by
 obtain ⟨k,s,m,e⟩:=A
 obtain ⟨l,t,n,f⟩:=B
 simp only at h1 h2 he hf ⊢
 have e1 : ([1] : List Int) = dg 4294967296 1:=rfl
 have l1:=coef_len h1
 have l2:=coef_len h2
 have l3:=mul_len (B:=4294967296) (by omega) l1 l2
 generalize hM : m * n = M at *
 (refine q_H Tryz.func95 (fun F=>?_); simp only [q_z,q_y,Tryz.ntmps95,Tryz.results95])
 repeat' (first|with_reducible refine q_0 ?_|((with_reducible first|refine q_q db9d_ok fun K hK=>?_|refine q_r db9d_ok fun K hK=>?_);simp (maxSteps:=2000000) only [go_sem,↓reduceIte,reduceCtorEq,Nat.reduceLeDiff,Nat.reduceLT,Nat.reduceBEq,Nat.reduceAdd,V32,e1,hM];(repeat1' with_reducible first|apply And.intro|(intro _;try exact q_v)|(refine hK _ ?_;clear hK K))<;>(try (clear hK K;exact q_u)))|(with_reducible refine q_s ?_;(first|apply q_J|apply q_K|apply q_L|apply q_M|apply q_N|apply q_O)<;>try (intro _;try exact q_v)))
 all_goals first | omega | exact q_A rfl | skip
def productCT : CT:=mkCT [nDc,nDc] false fun l K=>match l with
 | [.inr [.i .i64 k,.b s,.b p,.ints .u32 xs,.i .i64 e],.inr [.i .i64 l,.b t,.b q,.ints .u32 ys,.i .i64 f]]=>(InB 4294967296 xs ∧ Trd xs ∧ InB 4294967296 ys ∧ Trd ys ∧ p = false ∧ q = false ∧ ds (V 4294967296 xs) ≤ 120 ∧ ds (V 4294967296 ys) ≤ 120 ∧ (-1200 ≤ e ∧ e ≤ 1200) ∧ (-1200 ≤ f ∧ f ≤ 1200)) ∧
   K (.g (gX (s != t) (V 4294967296 xs * V 4294967296 ys) 1 (e + f)))
 | _=>False
def df7 : Cfg:=addT 95 productCT cf0
theorem df7_ok : TblOk Tryz.prog df7:=q_I cf0_ok Tryz.func95 fun l K h=>by
 split at h
 ·rename_i k s p xs e l t q ys f
  obtain ⟨⟨h1,h2,h3,h4,rfl,rfl,h5,h6,h7,h8⟩,h⟩:=h
  have e1:=dg_V 4294967296 (by omega) xs h1 h2
  have e2:=dg_V 4294967296 (by omega) ys h3 h4
  have:=product_ret ⟨k,s,V 4294967296 xs,e⟩ ⟨l,t,V 4294967296 ys,f⟩ h5 h6 h7 h8
  rw [gDc,gDc] at this
  simp only [e1,e2] at this
  exact ⟨_,this,h⟩
 ·exact h.elim
attribute [go_sem] dd2CT productCT
end Go.Proofs.YtgkajjifbcmoeaaGreatDoor

namespace Go.Proofs.NatL
set_option linter.unusedSimpArgs false
set_option linter.unusedVariables false
theorem okd_exp {A : Dc} (h : OkD A) : ds A.coef ≤ 120 ∧ -1200 ≤ A.exp ∧ A.exp ≤ 1200:=by
 rcases h with ⟨_,h2,h3,h4⟩ | ⟨h1,h2,h3⟩ | ⟨h1,h2,h3,_⟩
 ·exact ⟨lt120.1 h4,h2,h3⟩
 ·rw [h2,h3]; exact ⟨by decide,by omega,by omega⟩
 ·rw [h2,h3]; exact ⟨by decide,by omega,by omega⟩
theorem smP_ok {A B : Dc} (hA : OkD A) (hB : OkD B) : smP A.coef A.exp B.coef B.exp:=by
 obtain ⟨a1,a2,a3⟩:=okd_exp hA
 obtain ⟨b1,b2,b3⟩:=okd_exp hB
 exact ⟨by omega,by omega,by omega,by omega,by omega,by omega,by omega,by omega⟩
theorem okCx_c {c : Cx} (h : OkC c) : okCx c.p c.r c.mn c.mx = true:=decide_eq_true h
theorem OkC_b {p r mn mx : Int} (h : okCx p r mn mx = true) : OkC ⟨p,r,mn,mx⟩:=okCx_p h
end Go.Proofs.NatL
namespace Go.Proofs.YtgkajjifbcmoeaaGreatDoor
set_option linter.unusedSimpArgs false
set_option linter.unusedVariables false
open Go.Abs Go.Proofs.NatL

abbrev zD : C ⊕ List C:=.inr [.i .i64 0,.b false,.b false,.ints .u32 [],.i .i64 0]
abbrev nC : Option C ⊕ List (Option C):=.inr [none,none,none,none]
def rDS (D : Dc) (n : Int) : AV:=.t [.inr (gDc D),.inl (.i .i64 n),fltQ 0 0]
def rBad (c i : Int) : AV:=.t [zD,.inl (.i .i64 0),fltQ c i]
def op2CT (f : Dc → Dc → Cx → Dc) (g : Dc → Dc → Cx → Int) : CT:=mkCT [nDc,nDc,nC] false fun l K=>match l with
 | [.inr [.i .i64 k,.b s,.b a,.ints .u32 xs,.i .i64 e],.inr [.i .i64 l,.b t,.b b,.ints .u32 ys,.i .i64 e'],.inr [.i .i64 p,.i .i64 r,.i .i64 mn,.i .i64 mx]] =>
   (xs.length ≤ 140737488355328 ∧ ys.length ≤ 140737488355328 ∧ InB 4294967296 xs ∧ InB 4294967296 ys) ∧
   (if okCx p r mn mx = true then (if okD k s a xs e = true then (if okD l t b ys e' = true then K (rDS (f ⟨k,s,V 4294967296 xs,e⟩ ⟨l,t,V 4294967296 ys,e'⟩ ⟨p,r,mn,mx⟩) (g ⟨k,s,V 4294967296 xs,e⟩ ⟨l,t,V 4294967296 ys,e'⟩ ⟨p,r,mn,mx⟩)) else K (rBad 6 (-2))) else K (rBad 6 (-1))) else K (rBad 4 (-9)))
 | _=>False
theorem gDc_of {k : Int} {s a : Bool} {xs : List Int} {e : Int} (h : okD k s a xs e = true) (b : InB 4294967296 xs) : [.i .i64 k,.b s,.b a,.ints .u32 xs,.i .i64 e] = gDc ⟨k,s,V 4294967296 xs,e⟩ ∧ OkD ⟨k,s,V 4294967296 xs,e⟩:=by
 obtain ⟨h1,h2,h3⟩:=okD_eq h b
 refine ⟨?_,h3⟩
 rw [gDc,h1]
 exact congrArg (fun z=>[C.i .i64 k,.b s,.b false,.ints .u32 z,.i .i64 e]) h2
theorem op2_tr {F : FuncId} {f : Dc → Dc → Cx → Dc} {g : Dc → Dc → Cx → Int}
  (hg : ∀ (A B : Dc) (c : Cx),OkD A → OkD B → OkC c → Ret Tryz.prog F false [.inr (gDc A),.inr (gDc B),.inr (gCx c)] (rDS (f A B c) (g A B c)))
  (hb : ∀ (k l : Int) (s t a b : Bool) (xs ys : List Int) (e e' p r mn mx : Int),xs.length ≤ 140737488355328 → ys.length ≤ 140737488355328 → InB 4294967296 xs → InB 4294967296 ys →
   (okCx p r mn mx = false → Ret Tryz.prog F false [.inr [.i .i64 k,.b s,.b a,.ints .u32 xs,.i .i64 e],.inr [.i .i64 l,.b t,.b b,.ints .u32 ys,.i .i64 e'],.inr [.i .i64 p,.i .i64 r,.i .i64 mn,.i .i64 mx]] (rBad 4 (-9))) ∧
   (okCx p r mn mx = true → okD k s a xs e = false → Ret Tryz.prog F false [.inr [.i .i64 k,.b s,.b a,.ints .u32 xs,.i .i64 e],.inr [.i .i64 l,.b t,.b b,.ints .u32 ys,.i .i64 e'],.inr [.i .i64 p,.i .i64 r,.i .i64 mn,.i .i64 mx]] (rBad 6 (-1))) ∧
   (okCx p r mn mx = true → okD k s a xs e = true → okD l t b ys e' = false → Ret Tryz.prog F false [.inr [.i .i64 k,.b s,.b a,.ints .u32 xs,.i .i64 e],.inr [.i .i64 l,.b t,.b b,.ints .u32 ys,.i .i64 e'],.inr [.i .i64 p,.i .i64 r,.i .i64 mn,.i .i64 mx]] (rBad 6 (-2))))
  (l : List (C ⊕ List C)) (K : AV → Prop) (hk : match l with
   | [.inr [.i .i64 k,.b s,.b a,.ints .u32 xs,.i .i64 e],.inr [.i .i64 l,.b t,.b b,.ints .u32 ys,.i .i64 e'],.inr [.i .i64 p,.i .i64 r,.i .i64 mn,.i .i64 mx]] =>
    (xs.length ≤ 140737488355328 ∧ ys.length ≤ 140737488355328 ∧ InB 4294967296 xs ∧ InB 4294967296 ys) ∧
    (if okCx p r mn mx = true then (if okD k s a xs e = true then (if okD l t b ys e' = true then K (rDS (f ⟨k,s,V 4294967296 xs,e⟩ ⟨l,t,V 4294967296 ys,e'⟩ ⟨p,r,mn,mx⟩) (g ⟨k,s,V 4294967296 xs,e⟩ ⟨l,t,V 4294967296 ys,e'⟩ ⟨p,r,mn,mx⟩)) else K (rBad 6 (-2))) else K (rBad 6 (-1))) else K (rBad 4 (-9)))
   | _=>False) : ∃ r,Ret Tryz.prog F false l r ∧ K r:=by
 split at hk
 ·rename_i k s a xs e l t b ys e' p r mn mx
  obtain ⟨⟨h1,h2,h3,h4⟩,h⟩:=hk
  obtain ⟨q1,q2,q3⟩:=hb k l s t a b xs ys e e' p r mn mx h1 h2 h3 h4
  split at h
  ·rename_i o0
   split at h
   ·rename_i o1
    split at h
    ·rename_i o2
     obtain ⟨e1,r1⟩:=gDc_of o1 h3
     obtain ⟨e2,r2⟩:=gDc_of o2 h4
     rw [e1,e2]
     exact ⟨_,hg _ _ ⟨p,r,mn,mx⟩ r1 r2 (OkC_b o0),h⟩
    ·rename_i o2; exact ⟨_,q3 o0 o1 (by simpa using o2),h⟩
   ·rename_i o1; exact ⟨_,q2 o0 (by simpa using o1),h⟩
  ·rename_i o0; exact ⟨_,q1 (by simpa using o0),h⟩
 ·exact hk.elim
def dba : Cfg:=listT [(71,dcheckCT),(72,noneDCT),(74,infiniteCT),(75,finiteCT),(76,tinyCT),(73,isZeroCT),(91,(dd2CT spD spS)),(94,(dd2CT enD enS)),(95,productCT),(92,plusXCT),(93,ofDCT),(77,fitXCT),(82,timesTCT),(85,(nat6CT pos2 rDivN))] [34]
theorem dba_ok : TblOk Tryz.prog dba:=listE_ok (by simp only [List.mem_singleton,forall_eq]; exact flt) ⟨⟨de7,de7_ok,rfl⟩,⟨df3,df3_ok,rfl⟩,⟨de2,de2_ok,rfl⟩,⟨de1,de1_ok,rfl⟩,⟨de3,de3_ok,rfl⟩,⟨df4,df4_ok,rfl⟩,⟨df5,df5_ok,rfl⟩,⟨df6,df6_ok,rfl⟩,⟨df7,df7_ok,rfl⟩,⟨df2,df2_ok,rfl⟩,⟨df1,df1_ok,rfl⟩,⟨de3d,de3d_ok,rfl⟩,⟨dc4,dc4_ok,rfl⟩,⟨dn6,dn6_ok,rfl⟩,trivial⟩
attribute [go_sem] dba
set_option maxHeartbeats 3200000 in
theorem dAdd_bad (k l : Int) (s t a b : Bool) (xs ys : List Int) (e e' p r mn mx : Int) (h1 : xs.length ≤ 140737488355328) (h2 : ys.length ≤ 140737488355328) (h3 : InB 4294967296 xs) (h4 : InB 4294967296 ys) :
   (okCx p r mn mx = false → Ret Tryz.prog 24 false [.inr [.i .i64 k,.b s,.b a,.ints .u32 xs,.i .i64 e],.inr [.i .i64 l,.b t,.b b,.ints .u32 ys,.i .i64 e'],.inr [.i .i64 p,.i .i64 r,.i .i64 mn,.i .i64 mx]] (rBad 4 (-9))) ∧
   (okCx p r mn mx = true → okD k s a xs e = false → Ret Tryz.prog 24 false [.inr [.i .i64 k,.b s,.b a,.ints .u32 xs,.i .i64 e],.inr [.i .i64 l,.b t,.b b,.ints .u32 ys,.i .i64 e'],.inr [.i .i64 p,.i .i64 r,.i .i64 mn,.i .i64 mx]] (rBad 6 (-1))) ∧
   (okCx p r mn mx = true → okD k s a xs e = true → okD l t b ys e' = false → Ret Tryz.prog 24 false [.inr [.i .i64 k,.b s,.b a,.ints .u32 xs,.i .i64 e],.inr [.i .i64 l,.b t,.b b,.ints .u32 ys,.i .i64 e'],.inr [.i .i64 p,.i .i64 r,.i .i64 mn,.i .i64 mx]] (rBad 6 (-2))):=by
 refine ⟨fun o0=>?_,fun o0 o1=>?_,fun o0 o1 o2=>?_⟩
 ·(refine q_H Tryz.func24 (fun F=>?_); simp only [q_z,q_y,Tryz.ntmps24,Tryz.results24])
  repeat' (first|with_reducible refine q_0 ?_|((with_reducible first|refine q_q dba_ok fun K hK=>?_|refine q_r dba_ok fun K hK=>?_);simp (maxSteps:=2000000) only [go_sem,↓reduceIte,reduceCtorEq,Nat.reduceLeDiff,Nat.reduceLT,Nat.reduceBEq,Nat.reduceAdd,o0];(repeat1' with_reducible first|apply And.intro|(intro _;try exact q_v)|(refine hK _ ?_;clear hK K))<;>(try (clear hK K;exact q_u)))|(with_reducible refine q_s ?_;(first|apply q_J|apply q_K|apply q_L|apply q_M|apply q_N|apply q_O)<;>try (intro _;try exact q_v)))
  all_goals first | omega | assumption | exact q_B [nDc] rfl rfl | exact q_A rfl | skip
 ·(refine q_H Tryz.func24 (fun F=>?_); simp only [q_z,q_y,Tryz.ntmps24,Tryz.results24])
  repeat' (first|with_reducible refine q_0 ?_|((with_reducible first|refine q_q dba_ok fun K hK=>?_|refine q_r dba_ok fun K hK=>?_);simp (maxSteps:=2000000) only [go_sem,↓reduceIte,reduceCtorEq,Nat.reduceLeDiff,Nat.reduceLT,Nat.reduceBEq,Nat.reduceAdd,o0,o1];(repeat1' with_reducible first|apply And.intro|(intro _;try exact q_v)|(refine hK _ ?_;clear hK K))<;>(try (clear hK K;exact q_u)))|(with_reducible refine q_s ?_;(first|apply q_J|apply q_K|apply q_L|apply q_M|apply q_N|apply q_O)<;>try (intro _;try exact q_v)))
  all_goals first | omega | assumption | exact q_B [nDc] rfl rfl | exact q_A rfl | skip
 ·(refine q_H Tryz.func24 (fun F=>?_); simp only [q_z,q_y,Tryz.ntmps24,Tryz.results24])
  repeat' (first|with_reducible refine q_0 ?_|((with_reducible first|refine q_q dba_ok fun K hK=>?_|refine q_r dba_ok fun K hK=>?_);simp (maxSteps:=2000000) only [go_sem,↓reduceIte,reduceCtorEq,Nat.reduceLeDiff,Nat.reduceLT,Nat.reduceBEq,Nat.reduceAdd,o0,o1,o2];(repeat1' with_reducible first|apply And.intro|(intro _;try exact q_v)|(refine hK _ ?_;clear hK K))<;>(try (clear hK K;exact q_u)))|(with_reducible refine q_s ?_;(first|apply q_J|apply q_K|apply q_L|apply q_M|apply q_N|apply q_O)<;>try (intro _;try exact q_v)))
  all_goals first | omega | assumption | exact q_B [nDc] rfl rfl | exact q_A rfl | skip
set_option maxHeartbeats 3200000 in
theorem dAdd_ok (A B : Dc) (c : Cx) (hA : OkD A) (hB : OkD B) (hc : OkC c) : Ret Tryz.prog 24 false [.inr (gDc A),.inr (gDc B),.inr (gCx c)] (rDS (addD A B c) (addS A B c)):=by
 have o0:=okCx_c hc
 have o1:=okD_g hA
 have o2:=okD_g hB
 obtain ⟨a1,a2,a3⟩:=okd_exp hA
 obtain ⟨b1,b2,b3⟩:=okd_exp hB
 have l1:=coef_len a1
 have l2:=coef_len b1
 have hs:=smP_ok hA hB
 have hP:=PF_sum (s:=A.neg) (t:=B.neg) hs
 have hsp:=add_sp c hA hB
 obtain ⟨k,s,m,e⟩:=A
 obtain ⟨l,t,n,f⟩:=B
 obtain ⟨p,r,mn,mx⟩:=c
 simp only at o0 o1 o2 a1 a2 a3 b1 b2 b3 l1 l2 hs hP hsp
 clear hA hB hc
 by_cases h : k = 0 ∧ l = 0
 ·obtain ⟨rfl,rfl⟩:=h
  clear hsp
  have e1 : flr ⟨p,r,mn,mx⟩ = decide (r = 2):=rfl
  obtain ⟨q1,q2⟩:=add_ff (s:=s) (t:=t) (m:=m) (n:=n) (e:=e) (f:=f) ⟨p,r,mn,mx⟩
  rw [q1,q2,e1]
  (refine q_H Tryz.func24 (fun F=>?_); simp only [q_z,q_y,Tryz.ntmps24,Tryz.results24])
  repeat' (first|with_reducible refine q_0 ?_|((with_reducible first|refine q_q dba_ok fun K hK=>?_|refine q_r dba_ok fun K hK=>?_);simp (maxSteps:=2000000) only [go_sem,↓reduceIte,reduceCtorEq,Nat.reduceLeDiff,Nat.reduceLT,Nat.reduceBEq,Nat.reduceAdd,o0,o1,o2,V32];(repeat1' with_reducible first|apply And.intro|(intro _;try exact q_v)|(refine hK _ ?_;clear hK K))<;>(try (clear hK K;exact q_u)))|(with_reducible refine q_s ?_;(first|apply q_J|apply q_K|apply q_L|apply q_M|apply q_N|apply q_O)<;>try (intro _;try exact q_v)))
  all_goals first | omega | assumption | exact q_A rfl | skip
 ·obtain ⟨q1,q2⟩:=hsp (by omega)
  rw [q1,q2]
  clear hs hP
  (refine q_H Tryz.func24 (fun F=>?_); simp only [q_z,q_y,Tryz.ntmps24,Tryz.results24])
  repeat' (first|with_reducible refine q_0 ?_|((with_reducible first|refine q_q dba_ok fun K hK=>?_|refine q_r dba_ok fun K hK=>?_);simp (maxSteps:=2000000) only [go_sem,↓reduceIte,reduceCtorEq,Nat.reduceLeDiff,Nat.reduceLT,Nat.reduceBEq,Nat.reduceAdd,o0,o1,o2,V32];(repeat1' with_reducible first|apply And.intro|(intro _;try exact q_v)|(refine hK _ ?_;clear hK K))<;>(try (clear hK K;exact q_u)))|(with_reducible refine q_s ?_;(first|apply q_J|apply q_K|apply q_L|apply q_M|apply q_N|apply q_O)<;>try (intro _;try exact q_v)))
  all_goals first | omega | assumption | exact q_A rfl | skip
def dg1x : Cfg:=addT 24 (op2CT addD addS) cf0
theorem dg1x_ok : TblOk Tryz.prog dg1x:=q_I cf0_ok Tryz.func24 fun l K h =>
 op2_tr (f:=addD) (g:=addS) (fun A B c hA hB hc=>dAdd_ok A B c hA hB hc) (fun k l s t a b xs ys e e' p r mn mx h1 h2 h3 h4=>dAdd_bad k l s t a b xs ys e e' p r mn mx h1 h2 h3 h4) l K h
attribute [go_sem] op2CT rDS rBad
end Go.Proofs.YtgkajjifbcmoeaaGreatDoor

namespace Go.Proofs.YtgkajjifbcmoeaaGreatDoor
set_option linter.unusedSimpArgs false
set_option linter.unusedVariables false
open Go.Abs Go.Proofs.NatL

abbrev aD (k : Int) (s a : Bool) (xs : List Int) (e : Int) : List AV:=[.c (.i .i64 k),.c (.b s),.c (.b a),.c (.ints .u32 xs),.c (.i .i64 e)]
attribute [go_sem] aD
end Go.Proofs.YtgkajjifbcmoeaaGreatDoor

namespace Go.Proofs.NatL
set_option linter.unusedSimpArgs false
set_option linter.unusedVariables false
def qtBad (R : Nat) (e : Int) (c : Cx) : Prop:=c.p < (ds R : Int) ∨ (0 < (ds R : Int) ∧ c.mx < (ds R : Int) - 1 + e)
instance decQtBad (R : Nat) (e : Int) (c : Cx) : Decidable (qtBad R e c):=by unfold qtBad; infer_instance
end Go.Proofs.NatL
namespace Go.Proofs.YtgkajjifbcmoeaaGreatDoor
set_option linter.unusedSimpArgs false
set_option linter.unusedVariables false
open Go.Abs Go.Proofs.NatL

end Go.Proofs.YtgkajjifbcmoeaaGreatDoor

namespace Go.Proofs.NatL
set_option linter.unusedSimpArgs false
set_option linter.unusedVariables false
theorem pt_down {num den : Nat} (exp : Int) {f : Int} (h : ptD den exp f ≤ ptN num exp f) : ∀ k : Nat,ptD den exp (f - k) ≤ ptN num exp (f - k)
 | 0=>by simpa using h
 | k + 1=>by
  have ih:=pt_down exp h k
  have s:=pt_step num den exp (f - ((k + 1 : Nat) : Int))
  rw [show f - ((k + 1 : Nat) : Int) + 1 = f - (k : Int) by omega] at s
  have:=s.1 ih
  omega
theorem q_pos {num den : Nat} (hn : 0 < num) (hd : 0 < den) {exp x : Int} (h : x ≤ firstE num den exp) : 0 < qE num den exp x:=by
 have h1:=pt_down exp (first_is hn hd exp).1 (firstE num den exp - x).toNat
 rw [show firstE num den exp - ((firstE num den exp - x).toNat : Int) = x by omega] at h1
 exact Nat.div_pos h1 (ptD_pos hd _ _)
theorem rdE_ge (neg : Bool) (num den : Nat) (exp e r : Int) : qE num den exp e ≤ rdE neg num den exp e r:=by
 unfold rdE; (repeat' split) <;> omega
theorem ce_low {neg : Bool} {num den : Nat} {exp ideal p r mn : Int} : tinyE p mn ≤ (fitCE neg num den exp ideal p r mn).2:=by
 have hx : tinyE p mn ≤ fitEx num den exp p mn:=by unfold fitEx; omega
 by_cases hs : sE num den exp (fitEx num den exp p mn) = 0
 ·rw [ce_exact hs]
  have:=(twd_le (ideal - fitEx num den exp p mn).toNat (rdE neg num den exp (fitEx num den exp p mn) r) (fitEx num den exp p mn)).2
  omega
 ·by_cases hl : p < (ds (rdE neg num den exp (fitEx num den exp p mn) r) : Int)
  ·rw [ce_long hs hl]; simp only; omega
  ·rw [ce_short hs hl]; exact hx
theorem ce_len {neg : Bool} {num den : Nat} {exp ideal p r mn : Int} (hn : 0 < num) (hd : 0 < den) (hp : 1 ≤ p) : ds (fitCE neg num den exp ideal p r mn).1 ≤ p.toNat:=by
 by_cases hs : sE num den exp (fitEx num den exp p mn) = 0
 ·rw [ce_exact hs]
  exact fit_exact_len hn hd hp hs _
 ·have hle:=fit_round_le (neg:=neg) (r:=r) (mn:=mn) hn hd (exp:=exp) hp
  by_cases hl : p < (ds (rdE neg num den exp (fitEx num den exp p mn) r) : Int)
  ·rw [ce_long hs hl]
   simp only
   rw [ds_div10]
   have:=ds_le_of_le hle (k:=p.toNat + 1) (by rw [ds_ten]; omega)
   omega
  ·rw [ce_short hs hl]; simp only; omega
theorem okd_len {A : Dc} (h : OkD A) : (dg 4294967296 A.coef).length ≤ 13:=coef_len (okd_exp h).1
end Go.Proofs.NatL

namespace Go.Proofs.NatL
set_option linter.unusedSimpArgs false
set_option linter.unusedVariables false
def stCE (n : Nat) (exp : Int) (inex : Bool) (ideal p : Int) : Nat × Int :=
 let q:=if inex then (n,exp) else twd (ideal - exp).toNat n exp
 if p < (ds q.1 : Int) then (q.1 / 10,q.2 + 1) else q
def stO (n : Nat) (exp : Int) (inex : Bool) (ideal p mx : Int) : Prop:=0 < (stCE n exp inex ideal p).1 ∧ mx < (ds (stCE n exp inex ideal p).1 : Int) - 1 + (stCE n exp inex ideal p).2
instance decStO (n : Nat) (exp : Int) (inex : Bool) (ideal p mx : Int) : Decidable (stO n exp inex ideal p mx):=by unfold stO; infer_instance
end Go.Proofs.NatL
namespace Go.Proofs.YtgkajjifbcmoeaaGreatDoor
set_option linter.unusedSimpArgs false
set_option linter.unusedVariables false
open Go.Abs Go.Proofs.NatL

end Go.Proofs.YtgkajjifbcmoeaaGreatDoor

namespace Go.Abs
set_option linter.unusedSimpArgs false
set_option linter.unusedVariables false
end Go.Abs
namespace Go.Proofs.YtgkajjifbcmoeaaGreatDoor
set_option linter.unusedSimpArgs false
set_option linter.unusedVariables false
open Go.Abs Go.Proofs.NatL

abbrev z5 : List AV:=[.c (.i .i64 0),.c (.b false),.c (.b false),.c .nil,.c (.i .i64 0)]
attribute [go_sem] z5
end Go.Proofs.YtgkajjifbcmoeaaGreatDoor

namespace Go.Proofs.NatL
set_option linter.unusedSimpArgs false
set_option linter.unusedVariables false
end Go.Proofs.NatL
namespace Go.Proofs.YtgkajjifbcmoeaaGreatDoor
set_option linter.unusedSimpArgs false
set_option linter.unusedVariables false
open Go.Abs Go.Proofs.NatL

def qr3 : Cfg:=listT [(138,(qT2 20000 dpos2 pluX)),(139,iminusCT),(190,fitsCT),(15,smallCT),(191,sameIntCT),(27,noIntCT)] [34]
theorem qr3_ok : TblOk Tryz.prog qr3:=listE_ok (by simp only [List.mem_singleton,forall_eq]; exact flt) ⟨⟨rq5x,rq5x_ok,rfl⟩,⟨jt9,jt9_ok,rfl⟩,⟨jt8,jt8_ok,rfl⟩,⟨nt7,nt7_ok,rfl⟩,⟨jt4,jt4_ok,rfl⟩,⟨jt6,jt6_ok,rfl⟩,trivial⟩
attribute [go_sem] qr3
end Go.Proofs.YtgkajjifbcmoeaaGreatDoor

namespace Go.Proofs.NatL
set_option linter.unusedSimpArgs false
set_option linter.unusedVariables false
theorem two_ten (j : Nat) : 2 ^ (93 * j) ≤ 10 ^ (28 * j):=by
 rw [Nat.pow_mul,Nat.pow_mul]
 exact Nat.pow_le_pow_left (by decide) _
theorem lim_ds {n k j : Nat} (h : (dg 4294967296 n).length ≤ k) (hj : 32 * k ≤ 93 * j) : ds n ≤ 28 * j:=by
 have h1 : n < 4294967296 ^ k:=lt_of_len (by omega) h
 have h2 : (4294967296 : Nat) = 2 ^ 32:=by decide
 rw [h2,← Nat.pow_mul] at h1
 exact ds_le (Nat.lt_of_lt_of_le h1 (Nat.le_trans (Nat.pow_le_pow_right (by omega) hj) (two_ten j)))
theorem lim128 {n : Nat} (h : (dg 4294967296 n).length ≤ 128) : ds n ≤ 1260:=lim_ds (j:=45) h (by omega)
theorem PF_of {m d : Nat} (hd : 0 < d) (h1 : (dg 4294967296 m).length ≤ 128) (h2 : (dg 4294967296 d).length ≤ 128) : PF m d 0:=by
 have:=lim128 h1
 have:=lim128 h2
 exact ⟨hd,by omega,by omega,by omega,by omega⟩
def ofD (s : Bool) (m d : Nat) (c : Cx) : Dc:=fitD s m d 0 0 c.p c.r c.mn c.mx
def ofS (s : Bool) (m d : Nat) (c : Cx) : Int:=fitS s m d 0 0 c.p c.r c.mn c.mx
def drN (A : Dc) : Nat:=A.coef * 10 ^ A.exp.toNat
def drD (A : Dc) : Nat:=10 ^ (-A.exp).toNat
theorem drD_pos (A : Dc) : 0 < drD A:=Nat.pow_pos (by omega)
theorem dr_len {A : Dc} (h : OkD A) : ds (drN A) ≤ 1320 ∧ ds (drD A) ≤ 1201:=by
 obtain ⟨h1,h2,h3⟩:=okd_exp h
 refine ⟨ds_mul10 (by omega),?_⟩
 unfold drD; rw [ds_ten]; omega
end Go.Proofs.NatL
namespace Go.Proofs.YtgkajjifbcmoeaaGreatDoor
set_option linter.unusedSimpArgs false
set_option linter.unusedVariables false
open Go.Abs Go.Proofs.NatL

def dbi : Cfg:=listT [(63,checkCCT),(62,validDCT),(78,atCT),(96,validQCT),(77,fitXCT),(82,timesTCT),(83,powerCT),(84,(nat6CT tr2 rGcdN)),(85,(nat6CT pos2 rDivN))] [34]
theorem dbi_ok : TblOk Tryz.prog dbi:=listE_ok (by simp only [List.mem_singleton,forall_eq]; exact flt) ⟨⟨de5,de5_ok,rfl⟩,⟨de4,de4_ok,rfl⟩,⟨de6,de6_ok,rfl⟩,⟨qt1,qt1_ok,rfl⟩,⟨de3d,de3d_ok,rfl⟩,⟨dc4,dc4_ok,rfl⟩,⟨dc3,dc3_ok,rfl⟩,⟨dn5,dn5_ok,rfl⟩,⟨dn6,dn6_ok,rfl⟩,trivial⟩
attribute [go_sem] dbi
def ofQCT : CT:=mkCT [nQ,nC] false fun l K=>match l with
 | [.inr [.b s,.ints .u32 xs,.b t,.ints .u32 ys],.inr [.i .i64 p,.i .i64 r,.i .i64 mn,.i .i64 mx]] =>
   (xs.length ≤ 140737488355328 ∧ ys.length ≤ 140737488355328 ∧ InB 4294967296 xs ∧ InB 4294967296 ys) ∧
   (if okCx p r mn mx = true then (if okQ s xs t ys = true then K (rDS (ofD s (V 4294967296 xs) (V 4294967296 ys) ⟨p,r,mn,mx⟩) (ofS s (V 4294967296 xs) (V 4294967296 ys) ⟨p,r,mn,mx⟩)) else K (rBad 6 (-1))) else K (rBad 4 (-9)))
 | _=>False
set_option maxHeartbeats 3200000 in
theorem ofQ_bad (s t : Bool) (xs ys : List Int) (p r mn mx : Int) (h1 : xs.length ≤ 140737488355328) (h2 : ys.length ≤ 140737488355328) (b1 : InB 4294967296 xs) (b2 : InB 4294967296 ys) :
  (okCx p r mn mx = false → Ret Tryz.prog 28 false [.inr [.b s,.ints .u32 xs,.b t,.ints .u32 ys],.inr [.i .i64 p,.i .i64 r,.i .i64 mn,.i .i64 mx]] (rBad 4 (-9))) ∧
  (okCx p r mn mx = true → okQ s xs t ys = false → Ret Tryz.prog 28 false [.inr [.b s,.ints .u32 xs,.b t,.ints .u32 ys],.inr [.i .i64 p,.i .i64 r,.i .i64 mn,.i .i64 mx]] (rBad 6 (-1))):=by
 refine ⟨fun o0=>?_,fun o0 o1=>?_⟩
 ·(refine q_H Tryz.func28 (fun F=>?_); simp only [q_z,q_y,Tryz.ntmps28,Tryz.results28])
  repeat' (first|with_reducible refine q_0 ?_|((with_reducible first|refine q_q dbi_ok fun K hK=>?_|refine q_r dbi_ok fun K hK=>?_);simp (maxSteps:=2000000) only [go_sem,↓reduceIte,reduceCtorEq,Nat.reduceLeDiff,Nat.reduceLT,Nat.reduceBEq,Nat.reduceAdd,o0];(repeat1' with_reducible first|apply And.intro|(intro _;try exact q_v)|(refine hK _ ?_;clear hK K))<;>(try (clear hK K;exact q_u)))|(with_reducible refine q_s ?_;(first|apply q_J|apply q_K|apply q_L|apply q_M|apply q_N|apply q_O)<;>try (intro _;try exact q_v)))
  all_goals first | omega | assumption | exact q_B [nDc] rfl rfl | exact q_A rfl | skip
 ·(refine q_H Tryz.func28 (fun F=>?_); simp only [q_z,q_y,Tryz.ntmps28,Tryz.results28])
  repeat' (first|with_reducible refine q_0 ?_|((with_reducible first|refine q_q dbi_ok fun K hK=>?_|refine q_r dbi_ok fun K hK=>?_);simp (maxSteps:=2000000) only [go_sem,↓reduceIte,reduceCtorEq,Nat.reduceLeDiff,Nat.reduceLT,Nat.reduceBEq,Nat.reduceAdd,o0,o1];(repeat1' with_reducible first|apply And.intro|(intro _;try exact q_v)|(refine hK _ ?_;clear hK K))<;>(try (clear hK K;exact q_u)))|(with_reducible refine q_s ?_;(first|apply q_J|apply q_K|apply q_L|apply q_M|apply q_N|apply q_O)<;>try (intro _;try exact q_v)))
  all_goals first | omega | assumption | exact q_B [nDc] rfl rfl | exact q_A rfl | skip
set_option maxHeartbeats 3200000 in
theorem ofQ_good (s : Bool) (m d : Nat) (p r mn mx : Int) (o0 : okCx p r mn mx = true) (o1 : okQ s (dg 4294967296 m) false (dg 4294967296 d) = true) (hd : 0 < d) (l1 : (dg 4294967296 m).length ≤ 128) (l2 : (dg 4294967296 d).length ≤ 128) :
  Ret Tryz.prog 28 false [.inr [.b s,.ints .u32 (dg 4294967296 m),.b false,.ints .u32 (dg 4294967296 d)],.inr [.i .i64 p,.i .i64 r,.i .i64 mn,.i .i64 mx]] (rDS (ofD s m d ⟨p,r,mn,mx⟩) (ofS s m d ⟨p,r,mn,mx⟩)):=by
 have hP:=PF_of hd l1 l2
 unfold ofD ofS
 (refine q_H Tryz.func28 (fun F=>?_); simp only [q_z,q_y,Tryz.ntmps28,Tryz.results28])
 repeat' (first|with_reducible refine q_0 ?_|((with_reducible first|refine q_q dbi_ok fun K hK=>?_|refine q_r dbi_ok fun K hK=>?_);simp (maxSteps:=2000000) only [go_sem,↓reduceIte,reduceCtorEq,Nat.reduceLeDiff,Nat.reduceLT,Nat.reduceBEq,Nat.reduceAdd,o0,o1,V32];(repeat1' with_reducible first|apply And.intro|(intro _;try exact q_v)|(refine hK _ ?_;clear hK K))<;>(try (clear hK K;exact q_u)))|(with_reducible refine q_s ?_;(first|apply q_J|apply q_K|apply q_L|apply q_M|apply q_N|apply q_O)<;>try (intro _;try exact q_v)))
 all_goals first | omega | assumption | exact q_A rfl | skip
def di1 : Cfg:=addT 28 ofQCT cf0
theorem di1_ok : TblOk Tryz.prog di1:=q_I cf0_ok Tryz.func28 fun l K hk=>by
 split at hk
 ·rename_i s xs t ys p r mn mx
  obtain ⟨⟨h1,h2,b1,b2⟩,h⟩:=hk
  obtain ⟨q1,q2⟩:=ofQ_bad s t xs ys p r mn mx h1 h2 b1 b2
  split at h
  ·rename_i o0
   split at h
   ·rename_i o1
    obtain ⟨k1,k2,rfl,k4,k5⟩:=okQ_z o1
    have e1:=dg_V 4294967296 (by omega) xs b1 (okZ_trd k1)
    have e2:=dg_V 4294967296 (by omega) ys b2 (okZ_trd k2)
    have k6:=okZ_len k1
    have k7:=okZ_len k2
    have hd : 0 < V 4294967296 ys:=by rw [← e2] at k4; exact (dg_len_pos _ _ (by omega)).1 k4
    have:=ofQ_good s (V 4294967296 xs) (V 4294967296 ys) p r mn mx o0 (by rw [e1,e2]; exact o1) hd (by rw [e1]; exact k6) (by rw [e2]; exact k7)
    rw [e1,e2] at this
    exact ⟨_,this,h⟩
   ·rename_i o1; exact ⟨_,q2 o0 (by simpa using o1),h⟩
  ·rename_i o0; exact ⟨_,q1 (by simpa using o0),h⟩
 ·exact hk.elim

def ratD (A : Dc) : AV:=rQ (sg A.neg (drN A)) (drD A)
set_option maxHeartbeats 3200000 in
theorem ratio_ok (s : Bool) (m : Nat) (e : Int) (h : OkD ⟨0,s,m,e⟩) : Ret Tryz.prog 19 false [.inr (gDc ⟨0,s,m,e⟩)] (ratD ⟨0,s,m,e⟩):=by
 have o1:=okD_g h
 obtain ⟨g1,g2⟩:=dr_len h
 obtain ⟨a1,a2,a3⟩:=okd_exp h
 have hdp:=drD_pos ⟨0,s,m,e⟩
 have l1:=coef_len a1
 unfold ratD rQ
 simp only at o1 a1 a2 a3 l1 ⊢
 obtain ⟨e1,e2⟩:=rd_sg s (drN ⟨0,s,m,e⟩) hdp
 rw [e1,e2]
 clear e1 e2
 have u1 : drN ⟨0,s,m,e⟩ = m * 10 ^ e.toNat:=rfl
 have u2 : drD ⟨0,s,m,e⟩ = 10 ^ (-e).toNat:=rfl
 have one1 : ([1] : List Int) = dg 4294967296 1:=rfl
 generalize hN : drN ⟨0,s,m,e⟩ = N at *
 generalize hD : drD ⟨0,s,m,e⟩ = D at *
 have hg : 0 < Nat.gcd N D:=Nat.gcd_pos_of_pos_right _ hdp
 have n1:=ds_600 (n:=N) (by omega)
 have n2:=ds_600 (n:=D) (by omega)
 have hgl : (dg 4294967296 (Nat.gcd N D)).length ≤ 600:=Nat.le_trans (dg_len_mono (by omega) (Nat.gcd_le_right _ hdp)) n2
 generalize hG : Nat.gcd N D = g at *
 have q1 : (dg 4294967296 (N / g)).length ≤ 600:=Nat.le_trans (dg_len_mono (by omega) (Nat.div_le_self _ _)) n1
 have q2 : (dg 4294967296 (D / g)).length ≤ 600:=Nat.le_trans (dg_len_mono (by omega) (Nat.div_le_self _ _)) n2
 have hp:=dg_len_pos 4294967296 (N / g) (by omega)
 have w1:=sg_abs s (N / g)
 have w2:=sg_negd s (N / g)
 have w3 : decide (0 < N / g) = decide (0 < ((dg 4294967296 (N / g)).length : Int)):=by congr 1; exact propext ⟨fun h=>by omega,fun h=>by omega⟩
 rw [w3] at w2
 clear h hN hD
 by_cases hf : (dg 4294967296 (N / g)).length ≤ 128 ∧ (dg 4294967296 (D / g)).length ≤ 128
 ·obtain ⟨f1,f2,f3,f4⟩:=f_fit (z:=sg s (N / g)) (d:=D / g) (by unfold fQ; rw [w1]; exact hf)
  obtain ⟨y1,y2⟩:=hf
  unfold rF
  rw [f1,f2,f3,f4,gQ,w1,w2]
  clear w1 w2 w3 f1 f2 f3 f4
  by_cases he : 0 ≤ e
  ·have u3 : (-e).toNat = 0:=by omega
   rw [u3,Nat.pow_zero] at u2
   subst u2
   have u1:=u1.symm
   cases s
   all_goals
    (refine q_H Tryz.func19 (fun F=>?_); simp only [q_z,q_y,Tryz.ntmps19,Tryz.results19])
    repeat' (first|with_reducible refine q_0 ?_|((with_reducible first|refine q_q dbi_ok fun K hK=>?_|refine q_r dbi_ok fun K hK=>?_);simp (maxSteps:=2000000) only [go_sem,↓reduceIte,reduceCtorEq,Nat.reduceLeDiff,Nat.reduceLT,Nat.reduceBEq,Nat.reduceAdd,o1,V32,one1,u1,hG];(repeat1' with_reducible first|apply And.intro|(intro _;try exact q_v)|(refine hK _ ?_;clear hK K))<;>(try (clear hK K;exact q_u)))|(with_reducible refine q_s ?_;(first|apply q_J|apply q_K|apply q_L|apply q_M|apply q_N|apply q_O)<;>try (intro _;try exact q_v)))
    all_goals first | omega | assumption | exact q_A rfl | skip
  ·have u3 : e.toNat = 0:=by omega
   rw [u3,Nat.pow_zero,Nat.mul_one] at u1
   subst u1
   have u2 : 10 ^ (0 - e).toNat = D:=by rw [u2,Int.zero_sub]
   cases s
   all_goals
    (refine q_H Tryz.func19 (fun F=>?_); simp only [q_z,q_y,Tryz.ntmps19,Tryz.results19])
    repeat' (first|with_reducible refine q_0 ?_|((with_reducible first|refine q_q dbi_ok fun K hK=>?_|refine q_r dbi_ok fun K hK=>?_);simp (maxSteps:=2000000) only [go_sem,↓reduceIte,reduceCtorEq,Nat.reduceLeDiff,Nat.reduceLT,Nat.reduceBEq,Nat.reduceAdd,o1,V32,one1,u2,hG];(repeat1' with_reducible first|apply And.intro|(intro _;try exact q_v)|(refine hK _ ?_;clear hK K))<;>(try (clear hK K;exact q_u)))|(with_reducible refine q_s ?_;(first|apply q_J|apply q_K|apply q_L|apply q_M|apply q_N|apply q_O)<;>try (intro _;try exact q_v)))
    all_goals first | omega | assumption | exact q_A rfl | skip
 ·obtain ⟨f1,f2,f3,f4⟩:=f_big (z:=sg s (N / g)) (d:=D / g) (by unfold fQ; rw [w1]; exact hf)
  unfold rF
  rw [f1,f2,f3,f4]
  clear w1 w2 w3 f1 f2 f3 f4
  have hf' : ¬ (dg 4294967296 (N / g)).length ≤ 128 ∨ ¬ (dg 4294967296 (D / g)).length ≤ 128:=by omega
  by_cases he : 0 ≤ e
  ·have u3 : (-e).toNat = 0:=by omega
   rw [u3,Nat.pow_zero] at u2
   subst u2
   have u1:=u1.symm
   (refine q_H Tryz.func19 (fun F=>?_); simp only [q_z,q_y,Tryz.ntmps19,Tryz.results19])
   repeat' (first|with_reducible refine q_0 ?_|((with_reducible first|refine q_q dbi_ok fun K hK=>?_|refine q_r dbi_ok fun K hK=>?_);simp (maxSteps:=2000000) only [go_sem,↓reduceIte,reduceCtorEq,Nat.reduceLeDiff,Nat.reduceLT,Nat.reduceBEq,Nat.reduceAdd,o1,V32,one1,u1,hG];(repeat1' with_reducible first|apply And.intro|(intro _;try exact q_v)|(refine hK _ ?_;clear hK K))<;>(try (clear hK K;exact q_u)))|(with_reducible refine q_s ?_;(first|apply q_J|apply q_K|apply q_L|apply q_M|apply q_N|apply q_O)<;>try (intro _;try exact q_v)))
   all_goals first | omega | assumption | exact q_B [nQ] rfl rfl | skip
  ·have u3 : e.toNat = 0:=by omega
   rw [u3,Nat.pow_zero,Nat.mul_one] at u1
   subst u1
   have u2 : 10 ^ (0 - e).toNat = D:=by rw [u2,Int.zero_sub]
   (refine q_H Tryz.func19 (fun F=>?_); simp only [q_z,q_y,Tryz.ntmps19,Tryz.results19])
   repeat' (first|with_reducible refine q_0 ?_|((with_reducible first|refine q_q dbi_ok fun K hK=>?_|refine q_r dbi_ok fun K hK=>?_);simp (maxSteps:=2000000) only [go_sem,↓reduceIte,reduceCtorEq,Nat.reduceLeDiff,Nat.reduceLT,Nat.reduceBEq,Nat.reduceAdd,o1,V32,one1,u2,hG];(repeat1' with_reducible first|apply And.intro|(intro _;try exact q_v)|(refine hK _ ?_;clear hK K))<;>(try (clear hK K;exact q_u)))|(with_reducible refine q_s ?_;(first|apply q_J|apply q_K|apply q_L|apply q_M|apply q_N|apply q_O)<;>try (intro _;try exact q_v)))
   all_goals first | omega | assumption | exact q_B [nQ] rfl rfl | skip
set_option maxHeartbeats 3200000 in
theorem ratio_bad (k : Int) (s a : Bool) (xs : List Int) (e : Int) (h1 : xs.length ≤ 140737488355328) (b1 : InB 4294967296 xs) :
  (okD k s a xs e = false → Ret Tryz.prog 19 false [.inr [.i .i64 k,.b s,.b a,.ints .u32 xs,.i .i64 e]] (.t [zQ,fltQ 6 (-1)])) ∧
  (okD k s a xs e = true → k ≠ 0 → Ret Tryz.prog 19 false [.inr [.i .i64 k,.b s,.b a,.ints .u32 xs,.i .i64 e]] (.t [zQ,fltQ 13 (-1)])):=by
 refine ⟨fun o0=>?_,fun o0 o1=>?_⟩
 ·(refine q_H Tryz.func19 (fun F=>?_); simp only [q_z,q_y,Tryz.ntmps19,Tryz.results19])
  repeat' (first|with_reducible refine q_0 ?_|((with_reducible first|refine q_q dbi_ok fun K hK=>?_|refine q_r dbi_ok fun K hK=>?_);simp (maxSteps:=2000000) only [go_sem,↓reduceIte,reduceCtorEq,Nat.reduceLeDiff,Nat.reduceLT,Nat.reduceBEq,Nat.reduceAdd,o0];(repeat1' with_reducible first|apply And.intro|(intro _;try exact q_v)|(refine hK _ ?_;clear hK K))<;>(try (clear hK K;exact q_u)))|(with_reducible refine q_s ?_;(first|apply q_J|apply q_K|apply q_L|apply q_M|apply q_N|apply q_O)<;>try (intro _;try exact q_v)))
  all_goals first | omega | assumption | exact q_B [nQ] rfl rfl | exact q_A rfl | skip
 ·(refine q_H Tryz.func19 (fun F=>?_); simp only [q_z,q_y,Tryz.ntmps19,Tryz.results19])
  repeat' (first|with_reducible refine q_0 ?_|((with_reducible first|refine q_q dbi_ok fun K hK=>?_|refine q_r dbi_ok fun K hK=>?_);simp (maxSteps:=2000000) only [go_sem,↓reduceIte,reduceCtorEq,Nat.reduceLeDiff,Nat.reduceLT,Nat.reduceBEq,Nat.reduceAdd,o0];(repeat1' with_reducible first|apply And.intro|(intro _;try exact q_v)|(refine hK _ ?_;clear hK K))<;>(try (clear hK K;exact q_u)))|(with_reducible refine q_s ?_;(first|apply q_J|apply q_K|apply q_L|apply q_M|apply q_N|apply q_O)<;>try (intro _;try exact q_v)))
  all_goals first | omega | assumption | exact q_B [nQ] rfl rfl | exact q_A rfl | skip
def ratDCT : CT:=mkCT [nDc] false fun l K=>match l with
 | [.inr [.i .i64 k,.b s,.b a,.ints .u32 xs,.i .i64 e]] =>
   (xs.length ≤ 140737488355328 ∧ InB 4294967296 xs) ∧
   (okD k s a xs e = false → K (.t [zQ,fltQ 6 (-1)])) ∧ (okD k s a xs e = true ∧ k ≠ 0 → K (.t [zQ,fltQ 13 (-1)])) ∧ (okD k s a xs e = true ∧ k = 0 → K (ratD ⟨k,s,V 4294967296 xs,e⟩))
 | _=>False
def di2 : Cfg:=addT 19 ratDCT cf0
theorem di2_ok : TblOk Tryz.prog di2:=q_I cf0_ok Tryz.func19 fun l K hk=>by
 split at hk
 ·rename_i k s a xs e
  obtain ⟨⟨h1,b1⟩,k1,k2,k3⟩:=hk
  obtain ⟨q1,q2⟩:=ratio_bad k s a xs e h1 b1
  cases o : okD k s a xs e
  ·exact ⟨_,q1 o,k1 o⟩
  ·by_cases h0 : k = 0
   ·have h:=k3 ⟨o,h0⟩
    subst h0
    obtain ⟨e1,r1⟩:=gDc_of o b1
    rw [e1]
    exact ⟨_,ratio_ok _ _ _ r1,h⟩
   ·exact ⟨_,q2 o h0,k2 ⟨o,h0⟩⟩
 ·exact hk.elim
attribute [go_sem] ofQCT ratD ratDCT
end Go.Proofs.YtgkajjifbcmoeaaGreatDoor

namespace Go.Proofs.YtgkajjifbcmoeaaGreatDoor
set_option linter.unusedSimpArgs false
set_option linter.unusedVariables false
open Go.Abs Go.Proofs.NatL

def ebd : Cfg:=listT [(179,sameCT)] [34]
theorem ebd_ok : TblOk Tryz.prog ebd:=listE_ok (by simp only [List.mem_singleton,forall_eq]; exact flt) ⟨⟨ch2,ch2_ok,rfl⟩,trivial⟩
attribute [go_sem] ebd
set_option maxHeartbeats 800000 in
theorem sameIntsA_ret (s t : Bool) (xs ys : List Int) (hx : xs.length ≤ 16777216) (hy : ys.length ≤ 16777216) : Ret Tryz.prog 109 false [.inr [.b s,.ints .u32 xs],.inr [.b t,.ints .u32 ys]] (.c (.b (decide (s = t ∧ xs = ys)))):=by
 cases s <;> cases t
 all_goals
  (refine q_H Tryz.func109 (fun F=>?_); simp only [q_z,q_y,Tryz.ntmps109,Tryz.results109])
  repeat' (first|with_reducible refine q_0 ?_|((with_reducible first|refine q_q ebd_ok fun K hK=>?_|refine q_r ebd_ok fun K hK=>?_);simp (maxSteps:=2000000) only [go_sem,↓reduceIte,reduceCtorEq,Nat.reduceLeDiff,Nat.reduceLT,Nat.reduceBEq,Nat.reduceAdd];(repeat1' with_reducible first|apply And.intro|(intro _;try exact q_v)|(refine hK _ ?_;clear hK K))<;>(try (clear hK K;exact q_u)))|(with_reducible refine q_s ?_;(first|apply q_J|apply q_K|apply q_L|apply q_M|apply q_N|apply q_O)<;>try (intro _;try exact q_v)))
  all_goals first | omega | (refine q_A ?_; simp [resAV,q_y]; done) | skip
def sameIntsACT : CT:=mkCT [nP,nP] true fun l K=>match l with
 | [.inr [.b s,.ints .u32 xs],.inr [.b t,.ints .u32 ys]]=>(xs.length ≤ 16777216 ∧ ys.length ≤ 16777216) ∧ K (.c (.b (decide (s = t ∧ xs = ys))))
 | _=>False
def eu1 : Cfg:=addT 109 sameIntsACT cf0
theorem eu1_ok : TblOk Tryz.prog eu1:=q_I cf0_ok Tryz.func109 fun l K h=>by
 split at h
 ·exact ⟨_,(sameIntsA_ret _ _ _ _ h.1.1 h.1.2).plain rfl,h.2⟩
 ·exact h.elim
attribute [go_sem] sameIntsACT
def ebe : Cfg:=listT [(109,sameIntsACT)] [34]
theorem ebe_ok : TblOk Tryz.prog ebe:=listE_ok (by simp only [List.mem_singleton,forall_eq]; exact flt) ⟨⟨eu1,eu1_ok,rfl⟩,trivial⟩
attribute [go_sem] ebe
set_option maxHeartbeats 1600000 in
theorem sameDec_ret (k l : Int) (s t a b : Bool) (xs ys : List Int) (e f : Int) (hx : xs.length ≤ 16777216) (hy : ys.length ≤ 16777216) :
  Ret Tryz.prog 35 false [.inr [.i .i64 k,.b s,.b a,.ints .u32 xs,.i .i64 e],.inr [.i .i64 l,.b t,.b b,.ints .u32 ys,.i .i64 f]] (.c (.b (decide (k = l ∧ s = t ∧ (a = b ∧ xs = ys) ∧ e = f)))):=by
 by_cases h1 : k = l
 ·by_cases h2 : a = b ∧ xs = ys
  ·have d2:=decide_eq_true h2
   cases s <;> cases t
   all_goals
    (refine q_H Tryz.func35 (fun F=>?_); simp only [q_z,q_y,Tryz.ntmps35,Tryz.results35])
    repeat' (first|with_reducible refine q_0 ?_|((with_reducible first|refine q_q ebe_ok fun K hK=>?_|refine q_r ebe_ok fun K hK=>?_);simp (maxSteps:=2000000) only [go_sem,↓reduceIte,reduceCtorEq,Nat.reduceLeDiff,Nat.reduceLT,Nat.reduceBEq,Nat.reduceAdd,d2];(repeat1' with_reducible first|apply And.intro|(intro _;try exact q_v)|(refine hK _ ?_;clear hK K))<;>(try (clear hK K;exact q_u)))|(with_reducible refine q_s ?_;(first|apply q_J|apply q_K|apply q_L|apply q_M|apply q_N|apply q_O)<;>try (intro _;try exact q_v)))
    all_goals first | omega | (refine q_A ?_; simp [resAV,q_y,h1,h2]; done) | skip
  ·have d2:=decide_eq_false h2
   cases s <;> cases t
   all_goals
    (refine q_H Tryz.func35 (fun F=>?_); simp only [q_z,q_y,Tryz.ntmps35,Tryz.results35])
    repeat' (first|with_reducible refine q_0 ?_|((with_reducible first|refine q_q ebe_ok fun K hK=>?_|refine q_r ebe_ok fun K hK=>?_);simp (maxSteps:=2000000) only [go_sem,↓reduceIte,reduceCtorEq,Nat.reduceLeDiff,Nat.reduceLT,Nat.reduceBEq,Nat.reduceAdd,d2];(repeat1' with_reducible first|apply And.intro|(intro _;try exact q_v)|(refine hK _ ?_;clear hK K))<;>(try (clear hK K;exact q_u)))|(with_reducible refine q_s ?_;(first|apply q_J|apply q_K|apply q_L|apply q_M|apply q_N|apply q_O)<;>try (intro _;try exact q_v)))
    all_goals first | omega | (refine q_A ?_; simp only [resAV,q_y]; congr 2; symm; exact decide_eq_false (fun h=>h2 h.2.2.1)) | (refine q_A ?_; simp [resAV,q_y]; done) | skip
 ·(refine q_H Tryz.func35 (fun F=>?_); simp only [q_z,q_y,Tryz.ntmps35,Tryz.results35])
  repeat' (first|with_reducible refine q_0 ?_|((with_reducible first|refine q_q ebe_ok fun K hK=>?_|refine q_r ebe_ok fun K hK=>?_);simp (maxSteps:=2000000) only [go_sem,↓reduceIte,reduceCtorEq,Nat.reduceLeDiff,Nat.reduceLT,Nat.reduceBEq,Nat.reduceAdd];(repeat1' with_reducible first|apply And.intro|(intro _;try exact q_v)|(refine hK _ ?_;clear hK K))<;>(try (clear hK K;exact q_u)))|(with_reducible refine q_s ?_;(first|apply q_J|apply q_K|apply q_L|apply q_M|apply q_N|apply q_O)<;>try (intro _;try exact q_v)))
  all_goals first | omega | (refine q_A ?_; simp [resAV,q_y,h1]; done) | skip
def sameDecCT : CT:=mkCT [nDc,nDc] true fun l K=>match l with
 | [.inr [.i .i64 k,.b s,.b a,.ints .u32 xs,.i .i64 e],.inr [.i .i64 l,.b t,.b b,.ints .u32 ys,.i .i64 f]]=>(xs.length ≤ 16777216 ∧ ys.length ≤ 16777216) ∧ K (.c (.b (decide (k = l ∧ s = t ∧ (a = b ∧ xs = ys) ∧ e = f))))
 | _=>False
def eu2 : Cfg:=addT 35 sameDecCT cf0
theorem eu2_ok : TblOk Tryz.prog eu2:=q_I cf0_ok Tryz.func35 fun l K h=>by
 split at h
 ·exact ⟨_,(sameDec_ret _ _ _ _ _ _ _ _ _ _ h.1.1 h.1.2).plain rfl,h.2⟩
 ·exact h.elim
attribute [go_sem] sameDecCT
end Go.Proofs.YtgkajjifbcmoeaaGreatDoor

namespace Go.Proofs.NatL
set_option linter.unusedSimpArgs false
set_option linter.unusedVariables false
theorem Int.lt_or_ge' (a b : Int) : a < b ∨ b ≤ a:=by omega
def dl (X : Int) (D : Nat) (s : Int) (t : Nat) : Nat:=(X * t - s * D).natAbs
end Go.Proofs.NatL

namespace Go.Abs
set_option linter.unusedSimpArgs false
set_option linter.unusedVariables false
open Go.RowKit
variable {P : Program}

section
variable {f : Nat → Nat} {F : Fr} {H : Hp} {m : Mp} {w : World}
end
theorem fz_makeFunc {cf : Cfg} {st : St} {fn : Fn} {a b : Array Operand} : fzFor cf st (.makeFunc fn a b) = st:=rfl
attribute [go_sem] fz_makeFunc id
end Go.Abs

namespace Go.Proofs.NatL
set_option linter.unusedSimpArgs false
set_option linter.unusedVariables false
def clP (X : Int) (D : Nat) (s : Int) (t : Nat) (s' : Int) (t' : Nat) : Prop:=dl X D s t * t' < dl X D s' t' * t ∨ (dl X D s t * t' = dl X D s' t' * t ∧ (t < t' ∨ (t = t' ∧ s * t' < s' * t)))
end Go.Proofs.NatL
namespace Go.Proofs.YtgkajjifbcmoeaaGreatDoor
set_option linter.unusedSimpArgs false
set_option linter.unusedVariables false
open Go.Abs Go.Proofs.NatL

end Go.Proofs.YtgkajjifbcmoeaaGreatDoor

namespace Go.Proofs.NatL
set_option linter.unusedSimpArgs false
set_option linter.unusedVariables false
instance decClP (X : Int) (D : Nat) (s : Int) (t : Nat) (s' : Int) (t' : Nat) : Decidable (clP X D s t s' t'):=by unfold clP; infer_instance
end Go.Proofs.NatL
namespace Go.Proofs.YtgkajjifbcmoeaaGreatDoor
set_option linter.unusedSimpArgs false
set_option linter.unusedVariables false
open Go.Abs Go.Proofs.NatL

end Go.Proofs.YtgkajjifbcmoeaaGreatDoor

namespace Go.Proofs.NatL
set_option linter.unusedSimpArgs false
set_option linter.unusedVariables false
structure Nr (X : Int) (D m : Nat) where
 a : Int
 b : Int
 p : Int
 q : Int
 u : Int
 v : Int
 hX : X = p * u + a * v
 hD : (D : Int) = q * u + b * v
 det : p * b - a * q = 1 ∨ p * b - a * q = -1
 v0 : 0 < v
 vD : v ≤ D
 uX : u = X ∨ (0 < u ∧ u ≤ D)
 b0 : 0 ≤ b ∧ b ≤ m
 q0 : 0 ≤ q ∧ q ≤ m
 aX : a.natAbs ≤ X.natAbs
 pX : p.natAbs ≤ X.natAbs
 one : (q = 0 ∧ b = 1 ∧ p = 1 ∧ u = X ∧ v = D) ∨ (1 ≤ q ∧ v < u ∧ u ≤ D)
theorem Nr.x0 {X : Int} {D m : Nat} (hm : 0 < m) (hD : m < D) (hg : Nat.gcd X.natAbs D = 1) : 1 ≤ X.natAbs:=by
 rcases Nat.eq_zero_or_pos X.natAbs with h | h
 ·rw [h,Nat.gcd_zero_left] at hg; omega
 ·exact h
def Nr.start {X : Int} {D m : Nat} (hm : 0 < m) (hD : m < D) (hg : Nat.gcd X.natAbs D = 1) : Nr X D m :=
 ⟨0,1,1,0,X,D,by omega,by omega,.inl (by omega),by omega,by omega,.inl rfl,by omega,by omega,by simp,by simpa using Nr.x0 hm hD hg,.inl ⟨rfl,rfl,rfl,rfl,rfl⟩⟩
section
variable {X : Int} {D m : Nat}
theorem Nr.quo (e : Nr X D m) : e.u = e.u.fdiv e.v * e.v + e.u.fmod e.v ∧ 0 ≤ e.u.fmod e.v ∧ e.u.fmod e.v < e.v:=by
 have h0:=e.v0
 refine ⟨?_,?_,?_⟩
 ·have:=Int.mul_fdiv_add_fmod e.u e.v
  rw [Int.mul_comm]; omega
 ·exact Int.fmod_nonneg_of_pos _ h0
 ·exact Int.fmod_lt_of_pos _ h0
theorem Nr.cross (e : Nr X D m) (k : Int) : X * (e.b + e.q * k) - (e.a + e.p * k) * D = (e.u - k * e.v) * (e.p * e.b - e.a * e.q):=by
 have h1:=e.hX
 have h2:=e.hD
 obtain ⟨a,b,p,q,u,v,_,_,_,_,_,_,_,_,_,_,_⟩:=e
 simp only at h1 h2 ⊢
 rw [h1,h2]
 simp only [Int.mul_add,Int.add_mul,Int.sub_mul,Int.mul_sub]
 have r1 : p * u * b = u * (p * b):=by ac_rfl
 have r2 : p * u * (q * k) = p * k * (q * u):=by ac_rfl
 have r3 : a * v * (q * k) = k * v * (a * q):=by ac_rfl
 have r4 : p * k * (b * v) = k * v * (p * b):=by ac_rfl
 have r5 : a * v * b = a * (b * v):=by ac_rfl
 have r6 : a * (q * u) = u * (a * q):=by ac_rfl
 rw [r1,r2,r3,r4,r5,r6]
 omega
theorem Nr.cross0 (e : Nr X D m) : X * e.q - e.p * D = -(e.v * (e.p * e.b - e.a * e.q)):=by
 have h1:=e.cross 0
 have h2:=e.cross 1
 simp only [Int.mul_zero,Int.add_zero,Int.zero_mul,Int.sub_zero,Int.mul_one,Int.one_mul] at h1 h2
 rw [Int.mul_add,Int.add_mul,Int.sub_mul] at h2
 omega
theorem abs_one {s w : Int} (h : s = 1 ∨ s = -1) : (w * s).natAbs = w.natAbs:=by
 rcases h with rfl | rfl <;> simp
theorem Nr.bound {P Q w : Int} (hm : m < D) (hx : 1 ≤ X.natAbs) (hQ : 0 ≤ Q) (hQm : Q ≤ m) (h : (X * Q - P * D).natAbs = w.natAbs) (hw : w.natAbs ≤ D) : P.natAbs ≤ X.natAbs:=by
 have h1 : (P * D).natAbs ≤ (X * Q).natAbs + D:=by omega
 rw [Int.natAbs_mul,Int.natAbs_mul,Int.natAbs_natCast] at h1
 have h2 : X.natAbs * Q.natAbs ≤ X.natAbs * (D - 1):=Nat.mul_le_mul_left _ (by omega)
 have h3 : X.natAbs * (D - 1) + X.natAbs = X.natAbs * D:=by
  rw [← Nat.mul_succ]; congr 1; omega
 have h4 : P.natAbs * D < (X.natAbs + 1) * D:=by rw [Nat.add_mul,Nat.one_mul]; omega
 have:=Nat.lt_of_mul_lt_mul_right h4
 omega
theorem mul_le_two {a b c : Int} (h : a ≤ b) (hc : 0 ≤ c) : a * c ≤ b * c:=Int.mul_le_mul_of_nonneg_right h hc
theorem Nr.fits (e : Nr X D m) (hm : m < D) (hx : 1 ≤ X.natAbs) {k : Int} (hk : (e.q = 0 ∧ k = e.u.fdiv e.v) ∨ (0 ≤ k ∧ k ≤ e.u.fdiv e.v)) (hQ : e.b + e.q * k ≤ m) :
  0 ≤ e.b + e.q * k ∧ (e.a + e.p * k).natAbs ≤ X.natAbs ∧ (e.p * k).natAbs ≤ X.natAbs:=by
 obtain ⟨d1,d2,d3⟩:=e.quo
 have hv:=e.v0
 rcases e.one with ⟨z1,z2,z3,z4,z5⟩ | ⟨z1,z2,z3⟩
 ·-- the first step
  have hk : k = e.u.fdiv e.v ∨ (0 ≤ k ∧ k ≤ e.u.fdiv e.v):=by omega
  have ha : e.a = 0:=by
   have:=e.hX
   rw [z3,z4,z5,Int.one_mul] at this
   have h2 : e.a * (D : Int) = 0:=by omega
   rcases Int.mul_eq_zero.1 h2 with h | h
   ·exact h
   ·omega
  have hq : (e.u.fdiv e.v).natAbs ≤ X.natAbs:=by
   rw [z4] at d1 d2 d3 ⊢
   generalize X.fdiv e.v = f at *
   rcases Int.lt_or_ge' f 0 with hf | hf
   ·have h1 : f * e.v ≤ f * 1:=by
     have:=Int.mul_le_mul_of_nonpos_left (a:=f) (b:=e.v) (c:=1) (by omega) (by omega)
     exact this
    rcases Int.lt_or_ge' (f + 1) 0 with h2 | h2
    ·have h3 : (f + 1) * e.v ≤ (f + 1) * 1:=Int.mul_le_mul_of_nonpos_left (a:=f + 1) (b:=e.v) (c:=1) (by omega) (by omega)
     rw [Int.add_mul,Int.one_mul] at h3
     omega
    ·omega
   ·have h1 : f * 1 ≤ f * e.v:=Int.mul_le_mul_of_nonneg_left (by omega) hf
    omega
  have hkk : k.natAbs ≤ X.natAbs:=by omega
  rw [z1,z2,z3,ha,Int.zero_mul,Int.one_mul]
  omega
 ·have hk : 0 ≤ k ∧ k ≤ e.u.fdiv e.v:=by omega
  obtain ⟨k0,k1⟩:=hk
  have hb:=e.b0
  have hkv : k * e.v ≤ e.u:=by
   have:=mul_le_two k1 (show 0 ≤ e.v by omega)
   omega
  have hkv0 : 0 ≤ k * e.v:=Int.mul_nonneg k0 (by omega)
  have hqk : 0 ≤ e.q * k:=Int.mul_nonneg (by omega) k0
  have c:=e.cross k
  have c0:=e.cross0
  refine ⟨by omega,?_,?_⟩
  ·refine Nr.bound (w:=e.u - k * e.v) hm hx (by omega) hQ ?_ (by omega)
   rw [c,abs_one e.det]
  ·have e1 : X * (e.q * k) - e.p * k * D = -(k * e.v) * (e.p * e.b - e.a * e.q):=by
    have : X * (e.q * k) - e.p * k * D = (X * e.q - e.p * D) * k:=by
     rw [Int.sub_mul]
     have r1 : X * (e.q * k) = X * e.q * k:=by ac_rfl
     have r2 : e.p * k * (D : Int) = e.p * D * k:=by ac_rfl
     rw [r1,r2]
    rw [this,c0,Int.neg_mul,Int.neg_mul]
    congr 1
    ac_rfl
   refine Nr.bound (Q:=e.q * k) (w := -(k * e.v)) hm hx hqk (by omega) ?_ (by omega)
   rw [e1,abs_one e.det]
theorem Nr.next (e : Nr X D m) (h0 : 0 < m) (hm : m < D) (hg : Nat.gcd X.natAbs D = 1) (hQ : e.b + e.q * e.u.fdiv e.v ≤ m) :
  ∃ e' : Nr X D m,e'.a = e.p ∧ e'.b = e.q ∧ e'.p = e.a + e.p * e.u.fdiv e.v ∧ e'.q = e.b + e.q * e.u.fdiv e.v ∧ e'.u = e.v ∧ e'.v = e.u.fmod e.v ∧ e'.v < e.v:=by
 have hx:=Nr.x0 h0 hm hg
 obtain ⟨d1,d2,d3⟩:=e.quo
 have hv:=e.v0
 have hk : (e.q = 0 ∧ e.u.fdiv e.v = e.u.fdiv e.v) ∨ (0 ≤ e.u.fdiv e.v ∧ e.u.fdiv e.v ≤ e.u.fdiv e.v):=by
  rcases e.one with ⟨z1,_⟩ | ⟨z1,z2,z3⟩
  ·exact .inl ⟨z1,rfl⟩
  ·refine .inr ⟨?_,Int.le_refl _⟩
   exact Int.fdiv_nonneg (by omega) (by omega)
 obtain ⟨f1,f2,f3⟩:=e.fits hm hx hk hQ
 have hq1 : 1 ≤ e.b + e.q * e.u.fdiv e.v:=by
  rcases e.one with ⟨z1,z2,_⟩ | ⟨z1,z2,z3⟩
  ·rw [z1,z2,Int.zero_mul]; omega
  ·have : 1 ≤ e.u.fdiv e.v:=by
    rcases Int.lt_or_ge' (e.u.fdiv e.v) 1 with h | h
    ·have:=mul_le_two (show e.u.fdiv e.v ≤ 0 by omega) (show 0 ≤ e.v by omega)
     omega
    ·exact h
   have h2 : 1 * 1 ≤ e.q * e.u.fdiv e.v:=Int.mul_le_mul z1 this (by omega) (by omega)
   have:=e.b0
   omega
 generalize hf : e.u.fdiv e.v = f at *
 generalize hr : e.u.fmod e.v = r at *
 have hX : X = (e.a + e.p * f) * e.v + e.p * r:=by
  have:=e.hX
  rw [d1] at this
  refine this.trans ?_
  rw [Int.add_mul,Int.mul_add]
  have r1 : e.p * (f * e.v) = e.p * f * e.v:=by ac_rfl
  rw [r1]; omega
 have hD : (D : Int) = (e.b + e.q * f) * e.v + e.q * r:=by
  have:=e.hD
  rw [d1] at this
  refine this.trans ?_
  rw [Int.add_mul,Int.mul_add]
  have r1 : e.q * (f * e.v) = e.q * f * e.v:=by ac_rfl
  rw [r1]; omega
 have r0 : 0 < r:=by
  rcases Int.lt_or_ge' 0 r with h | h
  ·exact h
  ·exfalso
   have hr0 : r = 0:=by omega
   rw [hr0,Int.mul_zero,Int.add_zero] at hX hD
   have v1 : e.v.natAbs ∣ X.natAbs:=⟨(e.a + e.p * f).natAbs,by
    have:=congrArg Int.natAbs hX
    rw [Int.natAbs_mul] at this
    exact this.trans (Nat.mul_comm ..)⟩
   have v2 : e.v.natAbs ∣ D:=⟨(e.b + e.q * f).natAbs,by
    have:=congrArg Int.natAbs hD
    rw [Int.natAbs_natCast,Int.natAbs_mul] at this
    exact this.trans (Nat.mul_comm ..)⟩
   have:=Nat.dvd_gcd v1 v2
   rw [hg,Nat.dvd_one] at this
   have hv1 : e.v = 1:=by omega
   rw [hv1,Int.mul_one] at hD
   omega
 refine ⟨⟨e.p,e.q,e.a + e.p * f,e.b + e.q * f,e.v,r,hX,hD,?_,r0,by have:=e.vD; omega,.inr ⟨hv,e.vD⟩,e.q0,⟨f1,hQ⟩,e.pX,f2,.inr ⟨hq1,d3,e.vD⟩⟩,rfl,rfl,rfl,rfl,rfl,rfl,d3⟩
 have h1 : (e.a + e.p * f) * e.q - e.p * (e.b + e.q * f) = -(e.p * e.b - e.a * e.q):=by
  rw [Int.add_mul,Int.mul_add]
  have r1 : e.p * f * e.q = e.p * (e.q * f):=by ac_rfl
  rw [r1]; omega
 rw [h1]
 rcases e.det with h | h <;> rw [h] <;> simp
end
end Go.Proofs.NatL

namespace Go.Proofs.NatL
set_option linter.unusedSimpArgs false
set_option linter.unusedVariables false
section
variable {X : Int} {D m : Nat}
theorem Nr.full (e : Nr X D m) : 0 ≤ e.b + e.q * e.u.fdiv e.v ∧ (e.q * e.u.fdiv e.v).natAbs ≤ D ∧ e.b + e.q * e.u.fdiv e.v ≤ D:=by
 obtain ⟨d1,d2,d3⟩:=e.quo
 have hv:=e.v0
 have hb:=e.b0
 rcases e.one with ⟨z1,z2,z3,z4,z5⟩ | ⟨z1,z2,z3⟩
 ·rw [z1,Int.zero_mul,Int.add_zero,z2]
  exact ⟨by omega,by simp,by omega⟩
 ·have f0 : 0 ≤ e.u.fdiv e.v:=Int.fdiv_nonneg (by omega) (by omega)
  have h1 : 0 ≤ e.q * e.u.fdiv e.v:=Int.mul_nonneg (by omega) f0
  have hD:=e.hD
  have h2 : e.q * e.u.fdiv e.v ≤ e.q * e.u.fdiv e.v * e.v:=by
   have:=Int.mul_le_mul_of_nonneg_left (show 1 ≤ e.v by omega) h1
   omega
  have h3 : e.q * e.u.fdiv e.v * e.v ≤ e.q * e.u:=by
   have h4 : e.u.fdiv e.v * e.v ≤ e.u:=by omega
   have:=Int.mul_le_mul_of_nonneg_left h4 (show 0 ≤ e.q by omega)
   rw [Int.mul_assoc]; exact this
  have h4 : e.b ≤ e.b * e.v:=by
   have:=Int.mul_le_mul_of_nonneg_left (show 1 ≤ e.v by omega) hb.1
   omega
  exact ⟨by omega,by omega,by omega⟩
end
end Go.Proofs.NatL
namespace Go.Proofs.YtgkajjifbcmoeaaGreatDoor
set_option linter.unusedSimpArgs false
set_option linter.unusedVariables false
open Go.Abs Go.Proofs.NatL

end Go.Proofs.YtgkajjifbcmoeaaGreatDoor
