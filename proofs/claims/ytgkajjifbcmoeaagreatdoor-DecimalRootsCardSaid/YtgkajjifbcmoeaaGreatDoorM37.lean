import Derived.Test.YtgkajjifbcmoeaaGreatDoorM31
namespace Go.Proofs.NatL
set_option linter.unusedSimpArgs false
set_option linter.unusedVariables false
def sumZ (s : Bool) (m : Nat) (e : Int) (t : Bool) (n : Nat) (f : Int) : Int:=sg s (m * 10 ^ (e - min e f).toNat) + sg t (n * 10 ^ (f - min e f).toNat)
def sumB (s : Bool) (m : Nat) (e : Int) (t : Bool) (n : Nat) (f : Int) (fl : Bool) : Bool:=if sumZ s m e t n f = 0 then (if s = t then s else fl) else decide (sumZ s m e t n f < 0)
theorem sum_same {s : Bool} {m : Nat} {e : Int} {n : Nat} {f : Int} (fl : Bool) {M N : Nat} (hM : m * 10 ^ (e - min e f).toNat = M) (hN : n * 10 ^ (f - min e f).toNat = N) :
  sumB s m e s n f fl = s ∧ (sumZ s m e s n f).natAbs = M + N:=by
 unfold sumB sumZ
 rw [hM,hN]
 cases s
 ·simp only [sgf,if_true]
  refine ⟨?_,by omega⟩
  split
  ·rfl
  ·exact decide_eq_false (by omega)
 ·simp only [sgt,if_true]
  refine ⟨?_,by omega⟩
  split
  ·rfl
  ·exact decide_eq_true (by omega)
theorem sum_gt {s t : Bool} (hst : s ≠ t) {m : Nat} {e : Int} {n : Nat} {f : Int} (fl : Bool) {M N : Nat} (hM : m * 10 ^ (e - min e f).toNat = M) (hN : n * 10 ^ (f - min e f).toNat = N) (h : N < M) :
  sumB s m e t n f fl = s ∧ (sumZ s m e t n f).natAbs = M - N:=by
 unfold sumB sumZ
 rw [hM,hN]
 cases s <;> cases t <;> first | exact absurd rfl hst | skip
 ·simp only [sgf,sgt]
  refine ⟨?_,by omega⟩
  split
  ·omega
  ·first | exact decide_eq_false (by omega) | exact (decide_eq_false (by omega)).trans rfl
 ·simp only [sgf,sgt]
  refine ⟨?_,by omega⟩
  split
  ·omega
  ·first | exact decide_eq_true (by omega) | exact (decide_eq_true (by omega)).trans rfl
theorem sum_lt {s t : Bool} (hst : s ≠ t) {m : Nat} {e : Int} {n : Nat} {f : Int} (fl : Bool) {M N : Nat} (hM : m * 10 ^ (e - min e f).toNat = M) (hN : n * 10 ^ (f - min e f).toNat = N) (h : M < N) :
  sumB s m e t n f fl = t ∧ (sumZ s m e t n f).natAbs = N - M:=by
 unfold sumB sumZ
 rw [hM,hN]
 cases s <;> cases t <;> first | exact absurd rfl hst | skip
 ·simp only [sgf,sgt]
  refine ⟨?_,by omega⟩
  split
  ·omega
  ·first | exact decide_eq_true (by omega) | exact (decide_eq_true (by omega)).trans rfl
 ·simp only [sgf,sgt]
  refine ⟨?_,by omega⟩
  split
  ·omega
  ·first | exact decide_eq_false (by omega) | exact (decide_eq_false (by omega)).trans rfl
theorem sum_eq {s t : Bool} (hst : s ≠ t) {m : Nat} {e : Int} {n : Nat} {f : Int} (fl : Bool) {M N : Nat} (hM : m * 10 ^ (e - min e f).toNat = M) (hN : n * 10 ^ (f - min e f).toNat = N) (h : M = N) :
  sumB s m e t n f fl = fl ∧ (sumZ s m e t n f).natAbs = 0:=by
 unfold sumB sumZ
 rw [hM,hN,if_neg hst]
 cases s <;> cases t <;> first | exact absurd rfl hst | skip
 ·simp only [sgf,sgt]
  have e0 : (M : Int) + -(N : Int) = 0:=by omega
  exact ⟨if_pos e0,by omega⟩
 ·simp only [sgf,sgt]
  have e0 : -(M : Int) + (N : Int) = 0:=by omega
  exact ⟨if_pos e0,by omega⟩
def smP (m : Nat) (e : Int) (n : Nat) (f : Int) : Prop:=ds m ≤ 240 ∧ ds n ≤ 240 ∧ -2500 ≤ e ∧ e ≤ 2500 ∧ -2500 ≤ f ∧ f ≤ 2500 ∧ e - f ≤ 3700 ∧ f - e ≤ 3700
theorem smP_len {m n : Nat} {e f : Int} (h : smP m e n f) : ds (m * 10 ^ (e - min e f).toNat) ≤ 3940 ∧ ds (n * 10 ^ (f - min e f).toNat) ≤ 3940:=by
 obtain ⟨h1,h2,h3,h4,h5,h6,h7,h8⟩:=h
 exact ⟨ds_mul10 (by omega),ds_mul10 (by omega)⟩
theorem sumZ_len {s t : Bool} {m n : Nat} {e f : Int} (h : smP m e n f) : ds (sumZ s m e t n f).natAbs ≤ 3941:=by
 obtain ⟨h1,h2⟩:=smP_len h
 unfold sumZ
 generalize m * 10 ^ (e - min e f).toNat = M at *
 generalize n * 10 ^ (f - min e f).toNat = N at *
 refine ds_le_of_le (b:=M + N) ?_ (ds_add h1 h2)
 cases s <;> cases t <;> simp only [sgf,sgt] <;> omega
def dNone : Dc:=⟨2,false,0,0⟩
def dInf (s : Bool) : Dc:=⟨1,s,0,0⟩
def flr (c : Cx) : Bool:=decide (c.r = 2)
def addD (A B : Dc) (c : Cx) : Dc :=
 if A.kind = 2 ∨ B.kind = 2 then dNone
 else if A.kind = 1 ∧ B.kind = 1 ∧ A.neg ≠ B.neg then dNone
 else if A.kind = 1 then dInf A.neg
 else if B.kind = 1 then dInf B.neg
 else fitD (sumB A.neg A.coef A.exp B.neg B.coef B.exp (flr c)) (sumZ A.neg A.coef A.exp B.neg B.coef B.exp).natAbs 1 (min A.exp B.exp) (min A.exp B.exp) c.p c.r c.mn c.mx
def addS (A B : Dc) (c : Cx) : Int :=
 if A.kind = 2 ∨ B.kind = 2 then 0
 else if A.kind = 1 ∧ B.kind = 1 ∧ A.neg ≠ B.neg then 32
 else if A.kind = 1 then 0
 else if B.kind = 1 then 0
 else fitS (sumB A.neg A.coef A.exp B.neg B.coef B.exp (flr c)) (sumZ A.neg A.coef A.exp B.neg B.coef B.exp).natAbs 1 (min A.exp B.exp) (min A.exp B.exp) c.p c.r c.mn c.mx
theorem one_ds : ds 1 = 1:=by decide
theorem PF_sum {s t : Bool} {m n : Nat} {e f : Int} (h : smP m e n f) : PF (sumZ s m e t n f).natAbs 1 (min e f):=by
 have:=sumZ_len (s:=s) (t:=t) h
 obtain ⟨h1,h2,h3,h4,h5,h6,h7,h8⟩:=h
 have:=one_ds
 refine ⟨by omega,by omega,by omega,by omega,by omega⟩
end Go.Proofs.NatL
namespace Go.Proofs.YtgkajjifbcmoeaaGreatDoor
set_option linter.unusedSimpArgs false
set_option linter.unusedVariables false
open Go.Abs Go.Proofs.NatL

def db9d : Cfg:=listT [(82,timesTCT),(124,lessCT),(125,(nat6CT pAdd rAddN)),(165,(nat6CT le2 rSubN)),(88,(nat6CT pMul rMulN))] [34]
theorem db9d_ok : TblOk Tryz.prog db9d:=listE_ok (by simp only [List.mem_singleton,forall_eq]; exact flt) ⟨⟨dc4,dc4_ok,rfl⟩,⟨dc2,dc2_ok,rfl⟩,⟨dn1,dn1_ok,rfl⟩,⟨dn3,dn3_ok,rfl⟩,⟨dn2,dn2_ok,rfl⟩,trivial⟩
attribute [go_sem] db9d
def ofDCT : CT:=mkCT [nDc] false fun l K=>match l with
 | [.inr [.i .i64 k,.b s,.b t,.ints .u32 xs,.i .i64 e]]=>K (.g [.b s,.ints .u32 xs,.ints .u32 (dg 4294967296 1),.i .i64 e])
 | _=>False
def df1 : Cfg:=addT 93 ofDCT cf0
theorem df1_ok : TblOk Tryz.prog df1:=q_I cf0_ok Tryz.func93 fun l K h=>by
 split at h
 ·rename_i k s t xs e
  refine ⟨_,?_,h⟩
  have e1 : ([1] : List Int) = dg 4294967296 1:=rfl
  (refine q_H Tryz.func93 (fun F=>?_); simp only [q_z,q_y,Tryz.ntmps93,Tryz.results93])
  repeat' (first|(with_reducible first|apply q_a|apply q_b|apply q_c|apply q_d|apply q_e|apply q_f|apply q_g|apply q_h|apply q_i|apply q_j|apply q_k|apply q_m|apply q_n|apply q_o|apply q_p|refine q_l ?_)|((with_reducible first|refine q_q db9d_ok fun K hK=>?_|refine q_r db9d_ok fun K hK=>?_);simp (maxSteps:=2000000) only [go_sem,↓reduceIte,reduceCtorEq,Nat.reduceLeDiff,Nat.reduceLT,Nat.reduceBEq,Nat.reduceAdd,e1];(repeat1' with_reducible first|apply And.intro|(intro _;try exact q_v)|(refine hK _ ?_;clear hK K))<;>(try (clear hK K;exact q_u)))|(with_reducible refine q_s ?_;(first|apply q_J|apply q_K|apply q_L|apply q_M|apply q_N|apply q_O)<;>try (intro _;try exact q_v))|with_reducible refine q_t ?_)
  all_goals first | omega | exact q_A rfl | skip
 ·exact h.elim
set_option maxHeartbeats 3200000 in
theorem plus_ret' (s t : Bool) (m n : Nat) (e f : Int) (p r mn mx : Int) (h : smP m e n f) :
  Ret Tryz.prog 92 false [.inr (gX s m 1 e),.inr (gX t n 1 f),.inr [.i .i64 p,.i .i64 r,.i .i64 mn,.i .i64 mx]]
   (.g (gX (sumB s m e t n f (decide (r = 2))) (sumZ s m e t n f).natAbs 1 (min e f))):=by
 obtain ⟨k1,k2⟩:=smP_len h
 obtain ⟨h1,h2,h3,h4,h5,h6,h7,h8⟩:=h
 have e1 : ([1] : List Int) = dg 4294967296 1:=rfl
 have l1:=ds_600 (n:=m) (by omega)
 have l2:=ds_600 (n:=n) (by omega)
 have same:=fun hst : s = t=>sum_same (s:=s) (m:=m) (e:=e) (n:=n) (f:=f) (decide (r = 2)) rfl rfl
 have gt:=fun hst : s ≠ t=>sum_gt hst (m:=m) (e:=e) (n:=n) (f:=f) (decide (r = 2)) rfl rfl
 have lt:=fun hst : s ≠ t=>sum_lt hst (m:=m) (e:=e) (n:=n) (f:=f) (decide (r = 2)) rfl rfl
 have eq:=fun hst : s ≠ t=>sum_eq hst (m:=m) (e:=e) (n:=n) (f:=f) (decide (r = 2)) rfl rfl
 have j1 : 0 ≤ e - min e f ∧ e - min e f < 4096:=by omega
 have j2 : 0 ≤ f - min e f ∧ f - min e f < 4096:=by omega
 obtain ⟨j1,j3⟩:=j1
 obtain ⟨j2,j4⟩:=j2
 have l3:=ds_600 (n:=m * 10 ^ (e - min e f).toNat) (by omega)
 have l4:=ds_600 (n:=n * 10 ^ (f - min e f).toNat) (by omega)
 have l5:=ds_600 (n:=m * 10 ^ (e - min e f).toNat + n * 10 ^ (f - min e f).toNat) (by have:=ds_add k1 k2; omega)
 have b1 : -9223372036854775808 ≤ e - min e f ∧ e - min e f ≤ 9223372036854775807:=by omega
 have b2 : -9223372036854775808 ≤ f - min e f ∧ f - min e f ≤ 9223372036854775807:=by omega
 generalize hM : m * 10 ^ (e - min e f).toNat = M at *
 generalize hN : n * 10 ^ (f - min e f).toNat = N at *
 generalize hx : e - min e f = X at *
 generalize hy : f - min e f = Y at *
 by_cases hst : s = t
 ·subst hst
  obtain ⟨q1,q2⟩:=same rfl
  rw [q1,q2]
  clear same gt lt eq
  (refine q_H Tryz.func92 (fun F=>?_); simp only [q_z,q_y,Tryz.ntmps92,Tryz.results92])
  repeat' (first|(with_reducible first|apply q_a|apply q_b|apply q_c|apply q_d|apply q_e|apply q_f|apply q_g|apply q_h|apply q_i|apply q_j|apply q_k|apply q_m|apply q_n|apply q_o|apply q_p|refine q_l ?_)|((with_reducible first|refine q_q db9d_ok fun K hK=>?_|refine q_r db9d_ok fun K hK=>?_);simp (maxSteps:=2000000) only [go_sem,↓reduceIte,reduceCtorEq,Nat.reduceLeDiff,Nat.reduceLT,Nat.reduceBEq,Nat.reduceAdd,V32,e1,hx,hy,hM,hN];(repeat1' with_reducible first|apply And.intro|(intro _;try exact q_v)|(refine hK _ ?_;clear hK K))<;>(try (clear hK K;exact q_u)))|(with_reducible refine q_s ?_;(first|apply q_J|apply q_K|apply q_L|apply q_M|apply q_N|apply q_O)<;>try (intro _;try exact q_v))|with_reducible refine q_t ?_)
  all_goals first | omega | exact q_A rfl | skip
 ·have hne : (s == t) = false:=by simpa using hst
  rcases Nat.lt_trichotomy M N with hc | hc | hc
  ·obtain ⟨q1,q2⟩:=lt hst hc
   rw [q1,q2]
   clear same gt lt eq
   have l6:=Nat.le_trans (dg_len_mono (B:=4294967296) (by omega) (Nat.sub_le N M)) l4
   have hz:=dg_len_pos 4294967296 (N - M) (by omega)
   (refine q_H Tryz.func92 (fun F=>?_); simp only [q_z,q_y,Tryz.ntmps92,Tryz.results92])
   repeat' (first|(with_reducible first|apply q_a|apply q_b|apply q_c|apply q_d|apply q_e|apply q_f|apply q_g|apply q_h|apply q_i|apply q_j|apply q_k|apply q_m|apply q_n|apply q_o|apply q_p|refine q_l ?_)|((with_reducible first|refine q_q db9d_ok fun K hK=>?_|refine q_r db9d_ok fun K hK=>?_);simp (maxSteps:=2000000) only [go_sem,↓reduceIte,reduceCtorEq,Nat.reduceLeDiff,Nat.reduceLT,Nat.reduceBEq,Nat.reduceAdd,V32,e1,hx,hy,hM,hN,hne];(repeat1' with_reducible first|apply And.intro|(intro _;try exact q_v)|(refine hK _ ?_;clear hK K))<;>(try (clear hK K;exact q_u)))|(with_reducible refine q_s ?_;(first|apply q_J|apply q_K|apply q_L|apply q_M|apply q_N|apply q_O)<;>try (intro _;try exact q_v))|with_reducible refine q_t ?_)
   all_goals first | omega | exact q_A rfl | skip
  ·obtain ⟨q1,q2⟩:=eq hst hc
   rw [q1,q2]
   clear same gt lt eq
   subst hc
   have hz : M - M = 0:=by omega
   have hz2 : (dg 4294967296 0).length = 0:=rfl
   (refine q_H Tryz.func92 (fun F=>?_); simp only [q_z,q_y,Tryz.ntmps92,Tryz.results92])
   repeat' (first|(with_reducible first|apply q_a|apply q_b|apply q_c|apply q_d|apply q_e|apply q_f|apply q_g|apply q_h|apply q_i|apply q_j|apply q_k|apply q_m|apply q_n|apply q_o|apply q_p|refine q_l ?_)|((with_reducible first|refine q_q db9d_ok fun K hK=>?_|refine q_r db9d_ok fun K hK=>?_);simp (maxSteps:=2000000) only [go_sem,↓reduceIte,reduceCtorEq,Nat.reduceLeDiff,Nat.reduceLT,Nat.reduceBEq,Nat.reduceAdd,V32,e1,hx,hy,hM,hN,hne,hz,hz2];(repeat1' with_reducible first|apply And.intro|(intro _;try exact q_v)|(refine hK _ ?_;clear hK K))<;>(try (clear hK K;exact q_u)))|(with_reducible refine q_s ?_;(first|apply q_J|apply q_K|apply q_L|apply q_M|apply q_N|apply q_O)<;>try (intro _;try exact q_v))|with_reducible refine q_t ?_)
   all_goals first | omega | exact q_A rfl | skip
  ·obtain ⟨q1,q2⟩:=gt hst hc
   rw [q1,q2]
   clear same gt lt eq
   have l6:=Nat.le_trans (dg_len_mono (B:=4294967296) (by omega) (Nat.sub_le M N)) l3
   have hz:=dg_len_pos 4294967296 (M - N) (by omega)
   (refine q_H Tryz.func92 (fun F=>?_); simp only [q_z,q_y,Tryz.ntmps92,Tryz.results92])
   repeat' (first|(with_reducible first|apply q_a|apply q_b|apply q_c|apply q_d|apply q_e|apply q_f|apply q_g|apply q_h|apply q_i|apply q_j|apply q_k|apply q_m|apply q_n|apply q_o|apply q_p|refine q_l ?_)|((with_reducible first|refine q_q db9d_ok fun K hK=>?_|refine q_r db9d_ok fun K hK=>?_);simp (maxSteps:=2000000) only [go_sem,↓reduceIte,reduceCtorEq,Nat.reduceLeDiff,Nat.reduceLT,Nat.reduceBEq,Nat.reduceAdd,V32,e1,hx,hy,hM,hN,hne];(repeat1' with_reducible first|apply And.intro|(intro _;try exact q_v)|(refine hK _ ?_;clear hK K))<;>(try (clear hK K;exact q_u)))|(with_reducible refine q_s ?_;(first|apply q_J|apply q_K|apply q_L|apply q_M|apply q_N|apply q_O)<;>try (intro _;try exact q_v))|with_reducible refine q_t ?_)
   all_goals first | omega | exact q_A rfl | skip
def plusXCT : CT:=mkCT [nX,nX,.inr [none,none,none,none]] false fun l K=>match l with
 | [.inr [.b s,.ints .u32 xs,.ints .u32 ua,.i .i64 e],.inr [.b t,.ints .u32 ys,.ints .u32 ub,.i .i64 f],.inr [.i .i64 p,.i .i64 r,.i .i64 mn,.i .i64 mx]] =>
   (InB 4294967296 xs ∧ Trd xs ∧ InB 4294967296 ys ∧ Trd ys ∧ ua = dg 4294967296 1 ∧ ub = dg 4294967296 1 ∧ smP (V 4294967296 xs) e (V 4294967296 ys) f) ∧
   K (.g (gX (sumB s (V 4294967296 xs) e t (V 4294967296 ys) f (decide (r = 2))) (sumZ s (V 4294967296 xs) e t (V 4294967296 ys) f).natAbs 1 (min e f)))
 | _=>False
def df2 : Cfg:=addT 92 plusXCT cf0
theorem df2_ok : TblOk Tryz.prog df2:=q_I cf0_ok Tryz.func92 fun l K h=>by
 split at h
 ·rename_i s xs ua e t ys ub f p r mn mx
  obtain ⟨⟨h1,h2,h3,h4,rfl,rfl,h5⟩,h⟩:=h
  have e1:=dg_V 4294967296 (by omega) xs h1 h2
  have e2:=dg_V 4294967296 (by omega) ys h3 h4
  have:=plus_ret' s t _ _ e f p r mn mx h5
  rw [gX,gX,e1,e2] at this
  exact ⟨_,this,h⟩
 ·exact h.elim
attribute [go_sem] ofDCT plusXCT
end Go.Proofs.YtgkajjifbcmoeaaGreatDoor
namespace Go.Proofs.NatL
set_option linter.unusedSimpArgs false
set_option linter.unusedVariables false
def spD (A B : Dc) : Dc:=if A.kind = 2 ∨ B.kind = 2 then dNone else if A.kind = 1 ∧ B.kind = 1 ∧ A.neg ≠ B.neg then dNone else if A.kind = 1 then dInf A.neg else dInf B.neg
def spS (A B : Dc) : Int:=if A.kind = 2 ∨ B.kind = 2 then 0 else if A.kind = 1 ∧ B.kind = 1 ∧ A.neg ≠ B.neg then 32 else 0
def enD (A B : Dc) : Dc:=if A.kind = 2 ∨ B.kind = 2 then dNone else if (A.kind = 0 ∧ A.coef = 0) ∨ (B.kind = 0 ∧ B.coef = 0) then dNone else dInf (A.neg != B.neg)
def enS (A B : Dc) : Int:=if A.kind = 2 ∨ B.kind = 2 then 0 else if (A.kind = 0 ∧ A.coef = 0) ∨ (B.kind = 0 ∧ B.coef = 0) then 32 else 0
theorem OkD_kind {A : Dc} (h : OkD A) : A.kind = 0 ∨ A.kind = 1 ∨ A.kind = 2:=by rcases h with ⟨h,_⟩ | ⟨h,_⟩ | ⟨h,_⟩ <;> omega
theorem add_sp {A B : Dc} (c : Cx) (hA : OkD A) (hB : OkD B) (h : A.kind ≠ 0 ∨ B.kind ≠ 0) : addD A B c = spD A B ∧ addS A B c = spS A B:=by
 have ka:=OkD_kind hA
 have kb:=OkD_kind hB
 unfold addD addS spD spS
 by_cases h1 : A.kind = 2 ∨ B.kind = 2
 ·simp only [if_pos h1,and_self]
 ·by_cases h2 : A.kind = 1 ∧ B.kind = 1 ∧ A.neg ≠ B.neg
  ·simp only [if_neg h1,if_pos h2,and_self]
  ·by_cases h3 : A.kind = 1
   ·simp only [if_neg h1,if_neg h2,if_pos h3,and_self]
   ·have h4 : B.kind = 1:=by omega
    simp only [if_neg h1,if_neg h2,if_neg h3,if_pos h4,and_self]
theorem add_ff {s t : Bool} {m n : Nat} {e f : Int} (c : Cx) : addD ⟨0,s,m,e⟩ ⟨0,t,n,f⟩ c = fitD (sumB s m e t n f (flr c)) (sumZ s m e t n f).natAbs 1 (min e f) (min e f) c.p c.r c.mn c.mx ∧ addS ⟨0,s,m,e⟩ ⟨0,t,n,f⟩ c = fitS (sumB s m e t n f (flr c)) (sumZ s m e t n f).natAbs 1 (min e f) (min e f) c.p c.r c.mn c.mx:=⟨rfl,rfl⟩
end Go.Proofs.NatL
namespace Go.Proofs.YtgkajjifbcmoeaaGreatDoor
set_option linter.unusedSimpArgs false
set_option linter.unusedVariables false
open Go.Abs Go.Proofs.NatL
def noneDCT : CT:=mkCT [] false fun l K=>match l with
 | []=>K (.g [.i .i64 2,.b false,.b false,.ints .u32 [],.i .i64 0])
 | _=>False
def df3 : Cfg:=addT 72 noneDCT cf0
theorem df3_ok : TblOk Tryz.prog df3:=q_I cf0_ok Tryz.func72 fun l K h=>by
 split at h
 ·refine ⟨_,?_,h⟩
  (refine q_H Tryz.func72 (fun F=>?_); simp only [q_z,q_y,Tryz.ntmps72,Tryz.results72])
  repeat' (first|(with_reducible first|apply q_a|apply q_b|apply q_c|apply q_d|apply q_e|apply q_f|apply q_g|apply q_h|apply q_i|apply q_j|apply q_k|apply q_m|apply q_n|apply q_o|apply q_p|refine q_l ?_)|((with_reducible first|refine q_q db9d_ok fun K hK=>?_|refine q_r db9d_ok fun K hK=>?_);simp (maxSteps:=2000000) only [go_sem,↓reduceIte,reduceCtorEq,Nat.reduceLeDiff,Nat.reduceLT,Nat.reduceBEq,Nat.reduceAdd];(repeat1' with_reducible first|apply And.intro|(intro _;try exact q_v)|(refine hK _ ?_;clear hK K))<;>(try (clear hK K;exact q_u)))|(with_reducible refine q_s ?_;(first|apply q_J|apply q_K|apply q_L|apply q_M|apply q_N|apply q_O)<;>try (intro _;try exact q_v))|with_reducible refine q_t ?_)
  all_goals first | omega | exact q_B [nDc] rfl rfl | exact q_A rfl | skip
 ·exact h.elim
attribute [go_sem] noneDCT
set_option maxHeartbeats 800000 in
theorem isZero_ret (k : Int) (s t : Bool) (xs : List Int) (e : Int) : Ret Tryz.prog 73 false [.inr [.i .i64 k,.b s,.b t,.ints .u32 xs,.i .i64 e]] (.c (.b (decide (k = 0 ∧ (xs.length : Int) = 0)))):=by
 by_cases h : k = 0
 ·(refine q_H Tryz.func73 (fun F=>?_); simp only [q_z,q_y,Tryz.ntmps73,Tryz.results73])
  repeat' (first|(with_reducible first|apply q_a|apply q_b|apply q_c|apply q_d|apply q_e|apply q_f|apply q_g|apply q_h|apply q_i|apply q_j|apply q_k|apply q_m|apply q_n|apply q_o|apply q_p|refine q_l ?_)|((with_reducible first|refine q_q db9d_ok fun K hK=>?_|refine q_r db9d_ok fun K hK=>?_);simp (maxSteps:=2000000) only [go_sem,↓reduceIte,reduceCtorEq,Nat.reduceLeDiff,Nat.reduceLT,Nat.reduceBEq,Nat.reduceAdd];(repeat1' with_reducible first|apply And.intro|(intro _;try exact q_v)|(refine hK _ ?_;clear hK K))<;>(try (clear hK K;exact q_u)))|(with_reducible refine q_s ?_;(first|apply q_J|apply q_K|apply q_L|apply q_M|apply q_N|apply q_O)<;>try (intro _;try exact q_v))|with_reducible refine q_t ?_)
  all_goals first | omega | exact q_A (by simp [resAV,q_y,h]) | skip
 ·(refine q_H Tryz.func73 (fun F=>?_); simp only [q_z,q_y,Tryz.ntmps73,Tryz.results73])
  repeat' (first|(with_reducible first|apply q_a|apply q_b|apply q_c|apply q_d|apply q_e|apply q_f|apply q_g|apply q_h|apply q_i|apply q_j|apply q_k|apply q_m|apply q_n|apply q_o|apply q_p|refine q_l ?_)|((with_reducible first|refine q_q db9d_ok fun K hK=>?_|refine q_r db9d_ok fun K hK=>?_);simp (maxSteps:=2000000) only [go_sem,↓reduceIte,reduceCtorEq,Nat.reduceLeDiff,Nat.reduceLT,Nat.reduceBEq,Nat.reduceAdd];(repeat1' with_reducible first|apply And.intro|(intro _;try exact q_v)|(refine hK _ ?_;clear hK K))<;>(try (clear hK K;exact q_u)))|(with_reducible refine q_s ?_;(first|apply q_J|apply q_K|apply q_L|apply q_M|apply q_N|apply q_O)<;>try (intro _;try exact q_v))|with_reducible refine q_t ?_)
  all_goals first | omega | exact q_A (by simp [resAV,q_y,h]) | skip
def isZeroCT : CT:=mkCT [nDc] true fun l K=>match l with
 | [.inr [.i .i64 k,.b s,.b t,.ints .u32 xs,.i .i64 e]]=>K (.c (.b (decide (k = 0 ∧ (xs.length : Int) = 0))))
 | _=>False
def df4 : Cfg:=addT 73 isZeroCT cf0
theorem df4_ok : TblOk Tryz.prog df4:=q_I cf0_ok Tryz.func73 fun l K h=>by
 split at h
 ·exact ⟨_,(isZero_ret _ _ _ _ _).plain rfl,h⟩
 ·exact h.elim
attribute [go_sem] isZeroCT
def db10d : Cfg:=listT [(72,noneDCT),(74,infiniteCT),(73,isZeroCT)] [34]
theorem db10d_ok : TblOk Tryz.prog db10d:=listE_ok (by simp only [List.mem_singleton,forall_eq]; exact flt) ⟨⟨df3,df3_ok,rfl⟩,⟨de2,de2_ok,rfl⟩,⟨df4,df4_ok,rfl⟩,trivial⟩
attribute [go_sem] db10d
def dd2CT (f : Dc → Dc → Dc) (g : Dc → Dc → Int) : CT:=mkCT [nDc,nDc] false fun l K=>match l with
 | [.inr [.i .i64 k,.b s,.b p,.ints .u32 xs,.i .i64 e],.inr [.i .i64 l,.b t,.b q,.ints .u32 ys,.i .i64 f']]=>(InB 4294967296 xs ∧ Trd xs ∧ InB 4294967296 ys ∧ Trd ys ∧ p = false ∧ q = false) ∧
   K (.t [.inr (gDc (f ⟨k,s,V 4294967296 xs,e⟩ ⟨l,t,V 4294967296 ys,f'⟩)),.inl (.i .i64 (g ⟨k,s,V 4294967296 xs,e⟩ ⟨l,t,V 4294967296 ys,f'⟩))])
 | _=>False
theorem dd2_tr {F : FuncId} {f : Dc → Dc → Dc} {g : Dc → Dc → Int} (hc : ∀ A B : Dc,Ret Tryz.prog F false [.inr (gDc A),.inr (gDc B)] (.t [.inr (gDc (f A B)),.inl (.i .i64 (g A B))])) (l : List (C ⊕ List C)) (K : AV → Prop) (hk : match l with
   | [.inr [.i .i64 k,.b s,.b p,.ints .u32 xs,.i .i64 e],.inr [.i .i64 l,.b t,.b q,.ints .u32 ys,.i .i64 f']]=>(InB 4294967296 xs ∧ Trd xs ∧ InB 4294967296 ys ∧ Trd ys ∧ p = false ∧ q = false) ∧
    K (.t [.inr (gDc (f ⟨k,s,V 4294967296 xs,e⟩ ⟨l,t,V 4294967296 ys,f'⟩)),.inl (.i .i64 (g ⟨k,s,V 4294967296 xs,e⟩ ⟨l,t,V 4294967296 ys,f'⟩))])
   | _=>False) : ∃ r,Ret Tryz.prog F false l r ∧ K r:=by
 split at hk
 ·rename_i k s p xs e l t q ys f'
  obtain ⟨⟨h1,h2,h3,h4,rfl,rfl⟩,hk⟩:=hk
  have e1:=dg_V 4294967296 (by omega) xs h1 h2
  have e2:=dg_V 4294967296 (by omega) ys h3 h4
  have:=hc ⟨k,s,V 4294967296 xs,e⟩ ⟨l,t,V 4294967296 ys,f'⟩
  rw [gDc,gDc] at this
  simp only [e1,e2] at this
  exact ⟨_,this,hk⟩
 ·exact hk.elim
set_option maxHeartbeats 1600000 in
theorem special_ret (A B : Dc) : Ret Tryz.prog 91 false [.inr (gDc A),.inr (gDc B)] (.t [.inr (gDc (spD A B)),.inl (.i .i64 (spS A B))]):=by
 obtain ⟨k,s,m,e⟩:=A
 obtain ⟨l,t,n,f⟩:=B
 unfold spD spS
 simp only
 by_cases h1 : k = 2 ∨ l = 2
 ·rw [if_pos h1,if_pos h1]
  (refine q_H Tryz.func91 (fun F=>?_); simp only [q_z,q_y,Tryz.ntmps91,Tryz.results91])
  repeat' (first|(with_reducible first|apply q_a|apply q_b|apply q_c|apply q_d|apply q_e|apply q_f|apply q_g|apply q_h|apply q_i|apply q_j|apply q_k|apply q_m|apply q_n|apply q_o|apply q_p|refine q_l ?_)|((with_reducible first|refine q_q db10d_ok fun K hK=>?_|refine q_r db10d_ok fun K hK=>?_);simp (maxSteps:=2000000) only [go_sem,↓reduceIte,reduceCtorEq,Nat.reduceLeDiff,Nat.reduceLT,Nat.reduceBEq,Nat.reduceAdd];(repeat1' with_reducible first|apply And.intro|(intro _;try exact q_v)|(refine hK _ ?_;clear hK K))<;>(try (clear hK K;exact q_u)))|(with_reducible refine q_s ?_;(first|apply q_J|apply q_K|apply q_L|apply q_M|apply q_N|apply q_O)<;>try (intro _;try exact q_v))|with_reducible refine q_t ?_)
  all_goals first | omega | exact q_A rfl | skip
 rw [if_neg h1,if_neg h1]
 have h1a : k ≠ 2:=by omega
 have h1b : l ≠ 2:=by omega
 clear h1
 by_cases h2 : k = 1
 ·subst h2
  by_cases h3 : l = 1
  ·subst h3
   by_cases h4 : s = t
   ·subst h4
    have hb : (s != s) = false:=bne_self_eq_false _
    simp only [ne_eq,not_true_eq_false,and_false,if_false,if_true]
    (refine q_H Tryz.func91 (fun F=>?_); simp only [q_z,q_y,Tryz.ntmps91,Tryz.results91])
    repeat' (first|(with_reducible first|apply q_a|apply q_b|apply q_c|apply q_d|apply q_e|apply q_f|apply q_g|apply q_h|apply q_i|apply q_j|apply q_k|apply q_m|apply q_n|apply q_o|apply q_p|refine q_l ?_)|((with_reducible first|refine q_q db10d_ok fun K hK=>?_|refine q_r db10d_ok fun K hK=>?_);simp (maxSteps:=2000000) only [go_sem,↓reduceIte,reduceCtorEq,Nat.reduceLeDiff,Nat.reduceLT,Nat.reduceBEq,Nat.reduceAdd,hb];(repeat1' with_reducible first|apply And.intro|(intro _;try exact q_v)|(refine hK _ ?_;clear hK K))<;>(try (clear hK K;exact q_u)))|(with_reducible refine q_s ?_;(first|apply q_J|apply q_K|apply q_L|apply q_M|apply q_N|apply q_O)<;>try (intro _;try exact q_v))|with_reducible refine q_t ?_)
    all_goals first | omega | exact q_A rfl | skip
   ·have hb : (s != t) = true:=by simpa using h4
    rw [if_pos ⟨rfl,rfl,h4⟩,if_pos ⟨rfl,rfl,h4⟩]
    (refine q_H Tryz.func91 (fun F=>?_); simp only [q_z,q_y,Tryz.ntmps91,Tryz.results91])
    repeat' (first|(with_reducible first|apply q_a|apply q_b|apply q_c|apply q_d|apply q_e|apply q_f|apply q_g|apply q_h|apply q_i|apply q_j|apply q_k|apply q_m|apply q_n|apply q_o|apply q_p|refine q_l ?_)|((with_reducible first|refine q_q db10d_ok fun K hK=>?_|refine q_r db10d_ok fun K hK=>?_);simp (maxSteps:=2000000) only [go_sem,↓reduceIte,reduceCtorEq,Nat.reduceLeDiff,Nat.reduceLT,Nat.reduceBEq,Nat.reduceAdd,hb];(repeat1' with_reducible first|apply And.intro|(intro _;try exact q_v)|(refine hK _ ?_;clear hK K))<;>(try (clear hK K;exact q_u)))|(with_reducible refine q_s ?_;(first|apply q_J|apply q_K|apply q_L|apply q_M|apply q_N|apply q_O)<;>try (intro _;try exact q_v))|with_reducible refine q_t ?_)
    all_goals first | omega | exact q_A rfl | skip
  ·have h5 : ¬ ((1 : Int) = 1 ∧ l = 1 ∧ s ≠ t):=fun h=>h3 h.2.1
   rw [if_neg h5,if_neg h5,if_pos rfl]
   (refine q_H Tryz.func91 (fun F=>?_); simp only [q_z,q_y,Tryz.ntmps91,Tryz.results91])
   repeat' (first|(with_reducible first|apply q_a|apply q_b|apply q_c|apply q_d|apply q_e|apply q_f|apply q_g|apply q_h|apply q_i|apply q_j|apply q_k|apply q_m|apply q_n|apply q_o|apply q_p|refine q_l ?_)|((with_reducible first|refine q_q db10d_ok fun K hK=>?_|refine q_r db10d_ok fun K hK=>?_);simp (maxSteps:=2000000) only [go_sem,↓reduceIte,reduceCtorEq,Nat.reduceLeDiff,Nat.reduceLT,Nat.reduceBEq,Nat.reduceAdd];(repeat1' with_reducible first|apply And.intro|(intro _;try exact q_v)|(refine hK _ ?_;clear hK K))<;>(try (clear hK K;exact q_u)))|(with_reducible refine q_s ?_;(first|apply q_J|apply q_K|apply q_L|apply q_M|apply q_N|apply q_O)<;>try (intro _;try exact q_v))|with_reducible refine q_t ?_)
   all_goals first | omega | exact q_A rfl | skip
 ·have h5 : ¬ (k = 1 ∧ l = 1 ∧ s ≠ t):=fun h=>h2 h.1
  rw [if_neg h5,if_neg h5,if_neg h2]
  (refine q_H Tryz.func91 (fun F=>?_); simp only [q_z,q_y,Tryz.ntmps91,Tryz.results91])
  repeat' (first|(with_reducible first|apply q_a|apply q_b|apply q_c|apply q_d|apply q_e|apply q_f|apply q_g|apply q_h|apply q_i|apply q_j|apply q_k|apply q_m|apply q_n|apply q_o|apply q_p|refine q_l ?_)|((with_reducible first|refine q_q db10d_ok fun K hK=>?_|refine q_r db10d_ok fun K hK=>?_);simp (maxSteps:=2000000) only [go_sem,↓reduceIte,reduceCtorEq,Nat.reduceLeDiff,Nat.reduceLT,Nat.reduceBEq,Nat.reduceAdd];(repeat1' with_reducible first|apply And.intro|(intro _;try exact q_v)|(refine hK _ ?_;clear hK K))<;>(try (clear hK K;exact q_u)))|(with_reducible refine q_s ?_;(first|apply q_J|apply q_K|apply q_L|apply q_M|apply q_N|apply q_O)<;>try (intro _;try exact q_v))|with_reducible refine q_t ?_)
  all_goals first | omega | exact q_A rfl | skip
def df5 : Cfg:=addT 91 (dd2CT spD spS) cf0
theorem df5_ok : TblOk Tryz.prog df5:=q_I cf0_ok Tryz.func91 fun l K h =>
 dd2_tr (f:=spD) (g:=spS) (fun A B=>special_ret A B) l K h
set_option maxHeartbeats 1600000 in
theorem endless_ret (A B : Dc) : Ret Tryz.prog 94 false [.inr (gDc A),.inr (gDc B)] (.t [.inr (gDc (enD A B)),.inl (.i .i64 (enS A B))]):=by
 obtain ⟨k,s,m,e⟩:=A
 obtain ⟨l,t,n,f⟩:=B
 have z1:=dg_nil_iff m
 have z2:=dg_nil_iff n
 unfold enD enS
 simp only
 by_cases h1 : k = 2 ∨ l = 2
 ·rw [if_pos h1,if_pos h1]
  (refine q_H Tryz.func94 (fun F=>?_); simp only [q_z,q_y,Tryz.ntmps94,Tryz.results94])
  repeat' (first|(with_reducible first|apply q_a|apply q_b|apply q_c|apply q_d|apply q_e|apply q_f|apply q_g|apply q_h|apply q_i|apply q_j|apply q_k|apply q_m|apply q_n|apply q_o|apply q_p|refine q_l ?_)|((with_reducible first|refine q_q db10d_ok fun K hK=>?_|refine q_r db10d_ok fun K hK=>?_);simp (maxSteps:=2000000) only [go_sem,↓reduceIte,reduceCtorEq,Nat.reduceLeDiff,Nat.reduceLT,Nat.reduceBEq,Nat.reduceAdd];(repeat1' with_reducible first|apply And.intro|(intro _;try exact q_v)|(refine hK _ ?_;clear hK K))<;>(try (clear hK K;exact q_u)))|(with_reducible refine q_s ?_;(first|apply q_J|apply q_K|apply q_L|apply q_M|apply q_N|apply q_O)<;>try (intro _;try exact q_v))|with_reducible refine q_t ?_)
  all_goals first | omega | exact q_A rfl | skip
 rw [if_neg h1,if_neg h1]
 by_cases h2 : (k = 0 ∧ m = 0) ∨ (l = 0 ∧ n = 0)
 ·rw [if_pos h2,if_pos h2]
  (refine q_H Tryz.func94 (fun F=>?_); simp only [q_z,q_y,Tryz.ntmps94,Tryz.results94])
  repeat' (first|(with_reducible first|apply q_a|apply q_b|apply q_c|apply q_d|apply q_e|apply q_f|apply q_g|apply q_h|apply q_i|apply q_j|apply q_k|apply q_m|apply q_n|apply q_o|apply q_p|refine q_l ?_)|((with_reducible first|refine q_q db10d_ok fun K hK=>?_|refine q_r db10d_ok fun K hK=>?_);simp (maxSteps:=2000000) only [go_sem,↓reduceIte,reduceCtorEq,Nat.reduceLeDiff,Nat.reduceLT,Nat.reduceBEq,Nat.reduceAdd];(repeat1' with_reducible first|apply And.intro|(intro _;try exact q_v)|(refine hK _ ?_;clear hK K))<;>(try (clear hK K;exact q_u)))|(with_reducible refine q_s ?_;(first|apply q_J|apply q_K|apply q_L|apply q_M|apply q_N|apply q_O)<;>try (intro _;try exact q_v))|with_reducible refine q_t ?_)
  all_goals first | omega | exact q_A rfl | skip
 ·rw [if_neg h2,if_neg h2]
  (refine q_H Tryz.func94 (fun F=>?_); simp only [q_z,q_y,Tryz.ntmps94,Tryz.results94])
  repeat' (first|(with_reducible first|apply q_a|apply q_b|apply q_c|apply q_d|apply q_e|apply q_f|apply q_g|apply q_h|apply q_i|apply q_j|apply q_k|apply q_m|apply q_n|apply q_o|apply q_p|refine q_l ?_)|((with_reducible first|refine q_q db10d_ok fun K hK=>?_|refine q_r db10d_ok fun K hK=>?_);simp (maxSteps:=2000000) only [go_sem,↓reduceIte,reduceCtorEq,Nat.reduceLeDiff,Nat.reduceLT,Nat.reduceBEq,Nat.reduceAdd];(repeat1' with_reducible first|apply And.intro|(intro _;try exact q_v)|(refine hK _ ?_;clear hK K))<;>(try (clear hK K;exact q_u)))|(with_reducible refine q_s ?_;(first|apply q_J|apply q_K|apply q_L|apply q_M|apply q_N|apply q_O)<;>try (intro _;try exact q_v))|with_reducible refine q_t ?_)
  all_goals first | omega | exact q_A rfl | skip
def df6 : Cfg:=addT 94 (dd2CT enD enS) cf0
theorem df6_ok : TblOk Tryz.prog df6:=q_I cf0_ok Tryz.func94 fun l K h =>
 dd2_tr (f:=enD) (g:=enS) (fun A B=>endless_ret A B) l K h
set_option maxHeartbeats 800000 in
theorem product_ret (A B : Dc) (h1 : ds A.coef ≤ 120) (h2 : ds B.coef ≤ 120) (he : -1200 ≤ A.exp ∧ A.exp ≤ 1200) (hf : -1200 ≤ B.exp ∧ B.exp ≤ 1200) : Ret Tryz.prog 95 false [.inr (gDc A),.inr (gDc B)] (.g (gX (A.neg != B.neg) (A.coef * B.coef) 1 (A.exp + B.exp))):=by
 obtain ⟨k,s,m,e⟩:=A
 obtain ⟨l,t,n,f⟩:=B
 simp only at h1 h2 he hf ⊢
 have e1 : ([1] : List Int) = dg 4294967296 1:=rfl
 have l1:=coef_len h1
 have l2:=coef_len h2
 have l3:=mul_len (B:=4294967296) (by omega) l1 l2
 generalize hM : m * n = M at *
 (refine q_H Tryz.func95 (fun F=>?_); simp only [q_z,q_y,Tryz.ntmps95,Tryz.results95])
 repeat' (first|(with_reducible first|apply q_a|apply q_b|apply q_c|apply q_d|apply q_e|apply q_f|apply q_g|apply q_h|apply q_i|apply q_j|apply q_k|apply q_m|apply q_n|apply q_o|apply q_p|refine q_l ?_)|((with_reducible first|refine q_q db9d_ok fun K hK=>?_|refine q_r db9d_ok fun K hK=>?_);simp (maxSteps:=2000000) only [go_sem,↓reduceIte,reduceCtorEq,Nat.reduceLeDiff,Nat.reduceLT,Nat.reduceBEq,Nat.reduceAdd,V32,e1,hM];(repeat1' with_reducible first|apply And.intro|(intro _;try exact q_v)|(refine hK _ ?_;clear hK K))<;>(try (clear hK K;exact q_u)))|(with_reducible refine q_s ?_;(first|apply q_J|apply q_K|apply q_L|apply q_M|apply q_N|apply q_O)<;>try (intro _;try exact q_v))|with_reducible refine q_t ?_)
 all_goals first | omega | exact q_A rfl | skip
def productCT : CT:=mkCT [nDc,nDc] false fun l K=>match l with
 | [.inr [.i .i64 k,.b s,.b p,.ints .u32 xs,.i .i64 e],.inr [.i .i64 l,.b t,.b q,.ints .u32 ys,.i .i64 f]]=>(InB 4294967296 xs ∧ Trd xs ∧ InB 4294967296 ys ∧ Trd ys ∧ p = false ∧ q = false ∧ ds (V 4294967296 xs) ≤ 120 ∧ ds (V 4294967296 ys) ≤ 120 ∧ (-1200 ≤ e ∧ e ≤ 1200) ∧ (-1200 ≤ f ∧ f ≤ 1200)) ∧
   K (.g (gX (s != t) (V 4294967296 xs * V 4294967296 ys) 1 (e + f)))
 | _=>False
def df7 : Cfg:=addT 95 productCT cf0
theorem df7_ok : TblOk Tryz.prog df7:=q_I cf0_ok Tryz.func95 fun l K h=>by
 split at h
 ·rename_i k s p xs e l t q ys f
  obtain ⟨⟨h1,h2,h3,h4,rfl,rfl,h5,h6,h7,h8⟩,h⟩:=h
  have e1:=dg_V 4294967296 (by omega) xs h1 h2
  have e2:=dg_V 4294967296 (by omega) ys h3 h4
  have:=product_ret ⟨k,s,V 4294967296 xs,e⟩ ⟨l,t,V 4294967296 ys,f⟩ h5 h6 h7 h8
  rw [gDc,gDc] at this
  simp only [e1,e2] at this
  exact ⟨_,this,h⟩
 ·exact h.elim
attribute [go_sem] dd2CT productCT
end Go.Proofs.YtgkajjifbcmoeaaGreatDoor

namespace Go.Proofs.NatL
set_option linter.unusedSimpArgs false
set_option linter.unusedVariables false
theorem okd_exp {A : Dc} (h : OkD A) : ds A.coef ≤ 120 ∧ -1200 ≤ A.exp ∧ A.exp ≤ 1200:=by
 rcases h with ⟨_,h2,h3,h4⟩ | ⟨h1,h2,h3⟩ | ⟨h1,h2,h3,_⟩
 ·exact ⟨lt120.1 h4,h2,h3⟩
 ·rw [h2,h3]; exact ⟨by decide,by omega,by omega⟩
 ·rw [h2,h3]; exact ⟨by decide,by omega,by omega⟩
theorem smP_ok {A B : Dc} (hA : OkD A) (hB : OkD B) : smP A.coef A.exp B.coef B.exp:=by
 obtain ⟨a1,a2,a3⟩:=okd_exp hA
 obtain ⟨b1,b2,b3⟩:=okd_exp hB
 exact ⟨by omega,by omega,by omega,by omega,by omega,by omega,by omega,by omega⟩
theorem okCx_c {c : Cx} (h : OkC c) : okCx c.p c.r c.mn c.mx = true:=decide_eq_true h
theorem OkC_b {p r mn mx : Int} (h : okCx p r mn mx = true) : OkC ⟨p,r,mn,mx⟩:=okCx_p h
end Go.Proofs.NatL
namespace Go.Proofs.YtgkajjifbcmoeaaGreatDoor
set_option linter.unusedSimpArgs false
set_option linter.unusedVariables false
open Go.Abs Go.Proofs.NatL

abbrev zD : C ⊕ List C:=.inr [.i .i64 0,.b false,.b false,.ints .u32 [],.i .i64 0]
abbrev nC : Option C ⊕ List (Option C):=.inr [none,none,none,none]
def rDS (D : Dc) (n : Int) : AV:=.t [.inr (gDc D),.inl (.i .i64 n),fltQ 0 0]
def rBad (c i : Int) : AV:=.t [zD,.inl (.i .i64 0),fltQ c i]
def op2CT (f : Dc → Dc → Cx → Dc) (g : Dc → Dc → Cx → Int) : CT:=mkCT [nDc,nDc,nC] false fun l K=>match l with
 | [.inr [.i .i64 k,.b s,.b a,.ints .u32 xs,.i .i64 e],.inr [.i .i64 l,.b t,.b b,.ints .u32 ys,.i .i64 e'],.inr [.i .i64 p,.i .i64 r,.i .i64 mn,.i .i64 mx]] =>
   (xs.length ≤ 140737488355328 ∧ ys.length ≤ 140737488355328 ∧ InB 4294967296 xs ∧ InB 4294967296 ys) ∧
   (if okCx p r mn mx = true then (if okD k s a xs e = true then (if okD l t b ys e' = true then K (rDS (f ⟨k,s,V 4294967296 xs,e⟩ ⟨l,t,V 4294967296 ys,e'⟩ ⟨p,r,mn,mx⟩) (g ⟨k,s,V 4294967296 xs,e⟩ ⟨l,t,V 4294967296 ys,e'⟩ ⟨p,r,mn,mx⟩)) else K (rBad 6 (-2))) else K (rBad 6 (-1))) else K (rBad 4 (-9)))
 | _=>False
theorem gDc_of {k : Int} {s a : Bool} {xs : List Int} {e : Int} (h : okD k s a xs e = true) (b : InB 4294967296 xs) : [.i .i64 k,.b s,.b a,.ints .u32 xs,.i .i64 e] = gDc ⟨k,s,V 4294967296 xs,e⟩ ∧ OkD ⟨k,s,V 4294967296 xs,e⟩:=by
 obtain ⟨h1,h2,h3⟩:=okD_eq h b
 refine ⟨?_,h3⟩
 rw [gDc,h1]
 exact congrArg (fun z=>[C.i .i64 k,.b s,.b false,.ints .u32 z,.i .i64 e]) h2
theorem op2_tr {F : FuncId} {f : Dc → Dc → Cx → Dc} {g : Dc → Dc → Cx → Int}
  (hg : ∀ (A B : Dc) (c : Cx),OkD A → OkD B → OkC c → Ret Tryz.prog F false [.inr (gDc A),.inr (gDc B),.inr (gCx c)] (rDS (f A B c) (g A B c)))
  (hb : ∀ (k l : Int) (s t a b : Bool) (xs ys : List Int) (e e' p r mn mx : Int),xs.length ≤ 140737488355328 → ys.length ≤ 140737488355328 → InB 4294967296 xs → InB 4294967296 ys →
   (okCx p r mn mx = false → Ret Tryz.prog F false [.inr [.i .i64 k,.b s,.b a,.ints .u32 xs,.i .i64 e],.inr [.i .i64 l,.b t,.b b,.ints .u32 ys,.i .i64 e'],.inr [.i .i64 p,.i .i64 r,.i .i64 mn,.i .i64 mx]] (rBad 4 (-9))) ∧
   (okCx p r mn mx = true → okD k s a xs e = false → Ret Tryz.prog F false [.inr [.i .i64 k,.b s,.b a,.ints .u32 xs,.i .i64 e],.inr [.i .i64 l,.b t,.b b,.ints .u32 ys,.i .i64 e'],.inr [.i .i64 p,.i .i64 r,.i .i64 mn,.i .i64 mx]] (rBad 6 (-1))) ∧
   (okCx p r mn mx = true → okD k s a xs e = true → okD l t b ys e' = false → Ret Tryz.prog F false [.inr [.i .i64 k,.b s,.b a,.ints .u32 xs,.i .i64 e],.inr [.i .i64 l,.b t,.b b,.ints .u32 ys,.i .i64 e'],.inr [.i .i64 p,.i .i64 r,.i .i64 mn,.i .i64 mx]] (rBad 6 (-2))))
  (l : List (C ⊕ List C)) (K : AV → Prop) (hk : match l with
   | [.inr [.i .i64 k,.b s,.b a,.ints .u32 xs,.i .i64 e],.inr [.i .i64 l,.b t,.b b,.ints .u32 ys,.i .i64 e'],.inr [.i .i64 p,.i .i64 r,.i .i64 mn,.i .i64 mx]] =>
    (xs.length ≤ 140737488355328 ∧ ys.length ≤ 140737488355328 ∧ InB 4294967296 xs ∧ InB 4294967296 ys) ∧
    (if okCx p r mn mx = true then (if okD k s a xs e = true then (if okD l t b ys e' = true then K (rDS (f ⟨k,s,V 4294967296 xs,e⟩ ⟨l,t,V 4294967296 ys,e'⟩ ⟨p,r,mn,mx⟩) (g ⟨k,s,V 4294967296 xs,e⟩ ⟨l,t,V 4294967296 ys,e'⟩ ⟨p,r,mn,mx⟩)) else K (rBad 6 (-2))) else K (rBad 6 (-1))) else K (rBad 4 (-9)))
   | _=>False) : ∃ r,Ret Tryz.prog F false l r ∧ K r:=by
 split at hk
 ·rename_i k s a xs e l t b ys e' p r mn mx
  obtain ⟨⟨h1,h2,h3,h4⟩,h⟩:=hk
  obtain ⟨q1,q2,q3⟩:=hb k l s t a b xs ys e e' p r mn mx h1 h2 h3 h4
  split at h
  ·rename_i o0
   split at h
   ·rename_i o1
    split at h
    ·rename_i o2
     obtain ⟨e1,r1⟩:=gDc_of o1 h3
     obtain ⟨e2,r2⟩:=gDc_of o2 h4
     rw [e1,e2]
     exact ⟨_,hg _ _ ⟨p,r,mn,mx⟩ r1 r2 (OkC_b o0),h⟩
    ·rename_i o2; exact ⟨_,q3 o0 o1 (by simpa using o2),h⟩
   ·rename_i o1; exact ⟨_,q2 o0 (by simpa using o1),h⟩
  ·rename_i o0; exact ⟨_,q1 (by simpa using o0),h⟩
 ·exact hk.elim
def dba : Cfg:=listT [(71,dcheckCT),(72,noneDCT),(74,infiniteCT),(75,finiteCT),(76,tinyCT),(73,isZeroCT),(91,(dd2CT spD spS)),(94,(dd2CT enD enS)),(95,productCT),(92,plusXCT),(93,ofDCT),(77,fitXCT),(82,timesTCT),(85,(nat6CT pos2 rDivN))] [34]
theorem dba_ok : TblOk Tryz.prog dba:=listE_ok (by simp only [List.mem_singleton,forall_eq]; exact flt) ⟨⟨de7,de7_ok,rfl⟩,⟨df3,df3_ok,rfl⟩,⟨de2,de2_ok,rfl⟩,⟨de1,de1_ok,rfl⟩,⟨de3,de3_ok,rfl⟩,⟨df4,df4_ok,rfl⟩,⟨df5,df5_ok,rfl⟩,⟨df6,df6_ok,rfl⟩,⟨df7,df7_ok,rfl⟩,⟨df2,df2_ok,rfl⟩,⟨df1,df1_ok,rfl⟩,⟨de3d,de3d_ok,rfl⟩,⟨dc4,dc4_ok,rfl⟩,⟨dn6,dn6_ok,rfl⟩,trivial⟩
attribute [go_sem] dba
set_option maxHeartbeats 3200000 in
theorem dAdd_bad (k l : Int) (s t a b : Bool) (xs ys : List Int) (e e' p r mn mx : Int) (h1 : xs.length ≤ 140737488355328) (h2 : ys.length ≤ 140737488355328) (h3 : InB 4294967296 xs) (h4 : InB 4294967296 ys) :
   (okCx p r mn mx = false → Ret Tryz.prog 24 false [.inr [.i .i64 k,.b s,.b a,.ints .u32 xs,.i .i64 e],.inr [.i .i64 l,.b t,.b b,.ints .u32 ys,.i .i64 e'],.inr [.i .i64 p,.i .i64 r,.i .i64 mn,.i .i64 mx]] (rBad 4 (-9))) ∧
   (okCx p r mn mx = true → okD k s a xs e = false → Ret Tryz.prog 24 false [.inr [.i .i64 k,.b s,.b a,.ints .u32 xs,.i .i64 e],.inr [.i .i64 l,.b t,.b b,.ints .u32 ys,.i .i64 e'],.inr [.i .i64 p,.i .i64 r,.i .i64 mn,.i .i64 mx]] (rBad 6 (-1))) ∧
   (okCx p r mn mx = true → okD k s a xs e = true → okD l t b ys e' = false → Ret Tryz.prog 24 false [.inr [.i .i64 k,.b s,.b a,.ints .u32 xs,.i .i64 e],.inr [.i .i64 l,.b t,.b b,.ints .u32 ys,.i .i64 e'],.inr [.i .i64 p,.i .i64 r,.i .i64 mn,.i .i64 mx]] (rBad 6 (-2))):=by
 refine ⟨fun o0=>?_,fun o0 o1=>?_,fun o0 o1 o2=>?_⟩
 ·(refine q_H Tryz.func24 (fun F=>?_); simp only [q_z,q_y,Tryz.ntmps24,Tryz.results24])
  repeat' (first|(with_reducible first|apply q_a|apply q_b|apply q_c|apply q_d|apply q_e|apply q_f|apply q_g|apply q_h|apply q_i|apply q_j|apply q_k|apply q_m|apply q_n|apply q_o|apply q_p|refine q_l ?_)|((with_reducible first|refine q_q dba_ok fun K hK=>?_|refine q_r dba_ok fun K hK=>?_);simp (maxSteps:=2000000) only [go_sem,↓reduceIte,reduceCtorEq,Nat.reduceLeDiff,Nat.reduceLT,Nat.reduceBEq,Nat.reduceAdd,o0];(repeat1' with_reducible first|apply And.intro|(intro _;try exact q_v)|(refine hK _ ?_;clear hK K))<;>(try (clear hK K;exact q_u)))|(with_reducible refine q_s ?_;(first|apply q_J|apply q_K|apply q_L|apply q_M|apply q_N|apply q_O)<;>try (intro _;try exact q_v))|with_reducible refine q_t ?_)
  all_goals first | omega | assumption | exact q_B [nDc] rfl rfl | exact q_A rfl | skip
 ·(refine q_H Tryz.func24 (fun F=>?_); simp only [q_z,q_y,Tryz.ntmps24,Tryz.results24])
  repeat' (first|(with_reducible first|apply q_a|apply q_b|apply q_c|apply q_d|apply q_e|apply q_f|apply q_g|apply q_h|apply q_i|apply q_j|apply q_k|apply q_m|apply q_n|apply q_o|apply q_p|refine q_l ?_)|((with_reducible first|refine q_q dba_ok fun K hK=>?_|refine q_r dba_ok fun K hK=>?_);simp (maxSteps:=2000000) only [go_sem,↓reduceIte,reduceCtorEq,Nat.reduceLeDiff,Nat.reduceLT,Nat.reduceBEq,Nat.reduceAdd,o0,o1];(repeat1' with_reducible first|apply And.intro|(intro _;try exact q_v)|(refine hK _ ?_;clear hK K))<;>(try (clear hK K;exact q_u)))|(with_reducible refine q_s ?_;(first|apply q_J|apply q_K|apply q_L|apply q_M|apply q_N|apply q_O)<;>try (intro _;try exact q_v))|with_reducible refine q_t ?_)
  all_goals first | omega | assumption | exact q_B [nDc] rfl rfl | exact q_A rfl | skip
 ·(refine q_H Tryz.func24 (fun F=>?_); simp only [q_z,q_y,Tryz.ntmps24,Tryz.results24])
  repeat' (first|(with_reducible first|apply q_a|apply q_b|apply q_c|apply q_d|apply q_e|apply q_f|apply q_g|apply q_h|apply q_i|apply q_j|apply q_k|apply q_m|apply q_n|apply q_o|apply q_p|refine q_l ?_)|((with_reducible first|refine q_q dba_ok fun K hK=>?_|refine q_r dba_ok fun K hK=>?_);simp (maxSteps:=2000000) only [go_sem,↓reduceIte,reduceCtorEq,Nat.reduceLeDiff,Nat.reduceLT,Nat.reduceBEq,Nat.reduceAdd,o0,o1,o2];(repeat1' with_reducible first|apply And.intro|(intro _;try exact q_v)|(refine hK _ ?_;clear hK K))<;>(try (clear hK K;exact q_u)))|(with_reducible refine q_s ?_;(first|apply q_J|apply q_K|apply q_L|apply q_M|apply q_N|apply q_O)<;>try (intro _;try exact q_v))|with_reducible refine q_t ?_)
  all_goals first | omega | assumption | exact q_B [nDc] rfl rfl | exact q_A rfl | skip
set_option maxHeartbeats 3200000 in
theorem dAdd_ok (A B : Dc) (c : Cx) (hA : OkD A) (hB : OkD B) (hc : OkC c) : Ret Tryz.prog 24 false [.inr (gDc A),.inr (gDc B),.inr (gCx c)] (rDS (addD A B c) (addS A B c)):=by
 have o0:=okCx_c hc
 have o1:=okD_g hA
 have o2:=okD_g hB
 obtain ⟨a1,a2,a3⟩:=okd_exp hA
 obtain ⟨b1,b2,b3⟩:=okd_exp hB
 have l1:=coef_len a1
 have l2:=coef_len b1
 have hs:=smP_ok hA hB
 have hP:=PF_sum (s:=A.neg) (t:=B.neg) hs
 have hsp:=add_sp c hA hB
 obtain ⟨k,s,m,e⟩:=A
 obtain ⟨l,t,n,f⟩:=B
 obtain ⟨p,r,mn,mx⟩:=c
 simp only at o0 o1 o2 a1 a2 a3 b1 b2 b3 l1 l2 hs hP hsp
 clear hA hB hc
 by_cases h : k = 0 ∧ l = 0
 ·obtain ⟨rfl,rfl⟩:=h
  clear hsp
  have e1 : flr ⟨p,r,mn,mx⟩ = decide (r = 2):=rfl
  obtain ⟨q1,q2⟩:=add_ff (s:=s) (t:=t) (m:=m) (n:=n) (e:=e) (f:=f) ⟨p,r,mn,mx⟩
  rw [q1,q2,e1]
  (refine q_H Tryz.func24 (fun F=>?_); simp only [q_z,q_y,Tryz.ntmps24,Tryz.results24])
  repeat' (first|(with_reducible first|apply q_a|apply q_b|apply q_c|apply q_d|apply q_e|apply q_f|apply q_g|apply q_h|apply q_i|apply q_j|apply q_k|apply q_m|apply q_n|apply q_o|apply q_p|refine q_l ?_)|((with_reducible first|refine q_q dba_ok fun K hK=>?_|refine q_r dba_ok fun K hK=>?_);simp (maxSteps:=2000000) only [go_sem,↓reduceIte,reduceCtorEq,Nat.reduceLeDiff,Nat.reduceLT,Nat.reduceBEq,Nat.reduceAdd,o0,o1,o2,V32];(repeat1' with_reducible first|apply And.intro|(intro _;try exact q_v)|(refine hK _ ?_;clear hK K))<;>(try (clear hK K;exact q_u)))|(with_reducible refine q_s ?_;(first|apply q_J|apply q_K|apply q_L|apply q_M|apply q_N|apply q_O)<;>try (intro _;try exact q_v))|with_reducible refine q_t ?_)
  all_goals first | omega | assumption | exact q_A rfl | skip
 ·obtain ⟨q1,q2⟩:=hsp (by omega)
  rw [q1,q2]
  clear hs hP
  (refine q_H Tryz.func24 (fun F=>?_); simp only [q_z,q_y,Tryz.ntmps24,Tryz.results24])
  repeat' (first|(with_reducible first|apply q_a|apply q_b|apply q_c|apply q_d|apply q_e|apply q_f|apply q_g|apply q_h|apply q_i|apply q_j|apply q_k|apply q_m|apply q_n|apply q_o|apply q_p|refine q_l ?_)|((with_reducible first|refine q_q dba_ok fun K hK=>?_|refine q_r dba_ok fun K hK=>?_);simp (maxSteps:=2000000) only [go_sem,↓reduceIte,reduceCtorEq,Nat.reduceLeDiff,Nat.reduceLT,Nat.reduceBEq,Nat.reduceAdd,o0,o1,o2,V32];(repeat1' with_reducible first|apply And.intro|(intro _;try exact q_v)|(refine hK _ ?_;clear hK K))<;>(try (clear hK K;exact q_u)))|(with_reducible refine q_s ?_;(first|apply q_J|apply q_K|apply q_L|apply q_M|apply q_N|apply q_O)<;>try (intro _;try exact q_v))|with_reducible refine q_t ?_)
  all_goals first | omega | assumption | exact q_A rfl | skip
def dg1x : Cfg:=addT 24 (op2CT addD addS) cf0
theorem dg1x_ok : TblOk Tryz.prog dg1x:=q_I cf0_ok Tryz.func24 fun l K h =>
 op2_tr (f:=addD) (g:=addS) (fun A B c hA hB hc=>dAdd_ok A B c hA hB hc) (fun k l s t a b xs ys e e' p r mn mx h1 h2 h3 h4=>dAdd_bad k l s t a b xs ys e e' p r mn mx h1 h2 h3 h4) l K h
attribute [go_sem] op2CT rDS rBad
end Go.Proofs.YtgkajjifbcmoeaaGreatDoor

namespace Go.Proofs.NatL
set_option linter.unusedSimpArgs false
set_option linter.unusedVariables false
theorem pt_down {num den : Nat} (exp : Int) {f : Int} (h : ptD den exp f ≤ ptN num exp f) : ∀ k : Nat,ptD den exp (f - k) ≤ ptN num exp (f - k)
 | 0=>by simpa using h
 | k + 1=>by
  have ih:=pt_down exp h k
  have s:=pt_step num den exp (f - ((k + 1 : Nat) : Int))
  rw [show f - ((k + 1 : Nat) : Int) + 1 = f - (k : Int) by omega] at s
  have:=s.1 ih
  omega
theorem q_pos {num den : Nat} (hn : 0 < num) (hd : 0 < den) {exp x : Int} (h : x ≤ firstE num den exp) : 0 < qE num den exp x:=by
 have h1:=pt_down exp (first_is hn hd exp).1 (firstE num den exp - x).toNat
 rw [show firstE num den exp - ((firstE num den exp - x).toNat : Int) = x by omega] at h1
 exact Nat.div_pos h1 (ptD_pos hd _ _)
theorem rdE_ge (neg : Bool) (num den : Nat) (exp e r : Int) : qE num den exp e ≤ rdE neg num den exp e r:=by
 unfold rdE; (repeat' split) <;> omega
theorem ce_zero {neg : Bool} {num den : Nat} {exp ideal p r mn : Int} (hn : 0 < num) (hd : 0 < den) (hp : 1 ≤ p) (h : (fitCE neg num den exp ideal p r mn).1 = 0) : (fitCE neg num den exp ideal p r mn).2 ≤ tinyE p mn + 1:=by
 have key : fitEx num den exp p mn = tinyE p mn ∨ 0 < qE num den exp (fitEx num den exp p mn):=by
  by_cases hx : firstE num den exp - p + 1 ≤ tinyE p mn
  ·left; unfold fitEx; omega
  ·right
   refine q_pos hn hd ?_
   unfold fitEx; omega
 have hge:=rdE_ge neg num den exp (fitEx num den exp p mn) r
 have hnum : 0 < ptN num exp (fitEx num den exp p mn):=Nat.lt_of_lt_of_le hn (ptN_ge _ _ _)
 by_cases hs : sE num den exp (fitEx num den exp p mn) = 0
 ·-- exact: the coefficient is not none
  exfalso
  have hq : 0 < qE num den exp (fitEx num den exp p mn):=by
   unfold qE sE at *
   have:=Nat.div_add_mod (ptN num exp (fitEx num den exp p mn)) (ptD den exp (fitEx num den exp p mn))
   rw [hs] at this
   rcases Nat.eq_zero_or_pos (ptN num exp (fitEx num den exp p mn) / ptD den exp (fitEx num den exp p mn)) with h0 | h0
   ·rw [h0] at this; omega
   ·exact h0
  rw [ce_exact hs] at h
  have tpos : ∀ (k c : Nat) (e : Int),0 < c → 0 < (twd k c e).1:=by
   intro k
   induction k with
   | zero=>intro c e hc; exact hc
   | succ k ih =>
    intro c e hc
    unfold twd; split
    ·exact ih _ _ (by omega)
    ·exact hc
  have:=tpos (ideal - fitEx num den exp p mn).toNat _ (fitEx num den exp p mn) (show 0 < rdE neg num den exp (fitEx num den exp p mn) r by omega)
  omega
 ·by_cases hl : p < (ds (rdE neg num den exp (fitEx num den exp p mn) r) : Int)
  ·rw [ce_long hs hl] at h ⊢
   simp only at h ⊢
   rcases key with k | k
   ·omega
   ·have h1 : rdE neg num den exp (fitEx num den exp p mn) r < 10:=by omega
    have h2:=ds_le (n:=rdE neg num den exp (fitEx num den exp p mn) r) (k:=1) (by omega)
    omega
  ·rw [ce_short hs hl] at h ⊢
   simp only at h ⊢
   rcases key with k | k <;> omega
theorem ce_low {neg : Bool} {num den : Nat} {exp ideal p r mn : Int} : tinyE p mn ≤ (fitCE neg num den exp ideal p r mn).2:=by
 have hx : tinyE p mn ≤ fitEx num den exp p mn:=by unfold fitEx; omega
 by_cases hs : sE num den exp (fitEx num den exp p mn) = 0
 ·rw [ce_exact hs]
  have:=(twd_le (ideal - fitEx num den exp p mn).toNat (rdE neg num den exp (fitEx num den exp p mn) r) (fitEx num den exp p mn)).2
  omega
 ·by_cases hl : p < (ds (rdE neg num den exp (fitEx num den exp p mn) r) : Int)
  ·rw [ce_long hs hl]; simp only; omega
  ·rw [ce_short hs hl]; exact hx
theorem ce_len {neg : Bool} {num den : Nat} {exp ideal p r mn : Int} (hn : 0 < num) (hd : 0 < den) (hp : 1 ≤ p) : ds (fitCE neg num den exp ideal p r mn).1 ≤ p.toNat:=by
 by_cases hs : sE num den exp (fitEx num den exp p mn) = 0
 ·rw [ce_exact hs]
  exact fit_exact_len hn hd hp hs _
 ·have hle:=fit_round_le (neg:=neg) (r:=r) (mn:=mn) hn hd (exp:=exp) hp
  by_cases hl : p < (ds (rdE neg num den exp (fitEx num den exp p mn) r) : Int)
  ·rw [ce_long hs hl]
   simp only
   rw [ds_div10]
   have:=ds_le_of_le hle (k:=p.toNat + 1) (by rw [ds_ten]; omega)
   omega
  ·rw [ce_short hs hl]; simp only; omega
theorem fit_ok {neg : Bool} {num den : Nat} {exp ideal : Int} {c : Cx} (hd : 0 < den) (hc : OkC c) : OkD (fitD neg num den exp ideal c.p c.r c.mn c.mx):=by
 obtain ⟨c1,c2,c3,c4,c5,c6,c7,c8⟩:=hc
 have ht : tinyE c.p c.mn = c.mn - c.p + 1:=rfl
 by_cases h0 : num = 0
 ·rw [(fit_zero neg den exp ideal c.p c.r c.mn c.mx h0).1]
  exact .inl ⟨rfl,by simp only; omega,by simp only; omega,by simp⟩
 ·have hn : 0 < num:=by omega
  have hz:=ce_zero (neg:=neg) (num:=num) (den:=den) (exp:=exp) (ideal:=ideal) (p:=c.p) (r:=c.r) (mn:=c.mn) hn hd c1
  have hw:=ce_low (neg:=neg) (num:=num) (den:=den) (exp:=exp) (ideal:=ideal) (p:=c.p) (r:=c.r) (mn:=c.mn)
  have hl:=ce_len (neg:=neg) (num:=num) (den:=den) (exp:=exp) (ideal:=ideal) (p:=c.p) (r:=c.r) (mn:=c.mn) hn hd c1
  generalize hCE : fitCE neg num den exp ideal c.p c.r c.mn = CE at *
  obtain ⟨x,y⟩:=CE
  simp only at hz hw hl
  by_cases ho : 0 < x ∧ c.mx < (ds x : Int) - 1 + y
  ·rw [(fit_over hn hCE ho).1]
   unfold ovf
   split
   ·exact .inr (.inl ⟨rfl,rfl,rfl⟩)
   ·refine .inl ⟨rfl,by simp only; omega,by simp only; omega,?_⟩
    have : 10 ^ c.p.toNat ≤ 10 ^ 60:=Nat.pow_le_pow_right (by omega) (by omega)
    have h2 : (10 : Nat) ^ 60 < 10 ^ 120:=Nat.pow_lt_pow_right (by omega) (by omega)
    simp only; omega
  ·rw [(fit_fine hn hCE ho).1]
   refine .inl ⟨rfl,by simp only; omega,?_,lt120.2 (by simp only; omega)⟩
   simp only
   rcases Nat.eq_zero_or_pos x with h | h
   ·have:=hz h; omega
   ·have:=ds_pos.2 h
    have h2 : ¬ c.mx < (ds x : Int) - 1 + y:=fun h3=>ho ⟨h,h3⟩
    omega
theorem okd_len {A : Dc} (h : OkD A) : (dg 4294967296 A.coef).length ≤ 13:=coef_len (okd_exp h).1
end Go.Proofs.NatL

namespace Go.Proofs.NatL
set_option linter.unusedSimpArgs false
set_option linter.unusedVariables false
def qtBad (R : Nat) (e : Int) (c : Cx) : Prop:=c.p < (ds R : Int) ∨ (0 < (ds R : Int) ∧ c.mx < (ds R : Int) - 1 + e)
instance decQtBad (R : Nat) (e : Int) (c : Cx) : Decidable (qtBad R e c):=by unfold qtBad; infer_instance
end Go.Proofs.NatL
namespace Go.Proofs.YtgkajjifbcmoeaaGreatDoor
set_option linter.unusedSimpArgs false
set_option linter.unusedVariables false
open Go.Abs Go.Proofs.NatL

end Go.Proofs.YtgkajjifbcmoeaaGreatDoor

namespace Go.Proofs.NatL
set_option linter.unusedSimpArgs false
set_option linter.unusedVariables false
def stCE (n : Nat) (exp : Int) (inex : Bool) (ideal p : Int) : Nat × Int :=
 let q:=if inex then (n,exp) else twd (ideal - exp).toNat n exp
 if p < (ds q.1 : Int) then (q.1 / 10,q.2 + 1) else q
def stO (n : Nat) (exp : Int) (inex : Bool) (ideal p mx : Int) : Prop:=0 < (stCE n exp inex ideal p).1 ∧ mx < (ds (stCE n exp inex ideal p).1 : Int) - 1 + (stCE n exp inex ideal p).2
instance decStO (n : Nat) (exp : Int) (inex : Bool) (ideal p mx : Int) : Decidable (stO n exp inex ideal p mx):=by unfold stO; infer_instance
end Go.Proofs.NatL
namespace Go.Proofs.YtgkajjifbcmoeaaGreatDoor
set_option linter.unusedSimpArgs false
set_option linter.unusedVariables false
open Go.Abs Go.Proofs.NatL

end Go.Proofs.YtgkajjifbcmoeaaGreatDoor

namespace Go.Proofs.NatL
set_option linter.unusedSimpArgs false
set_option linter.unusedVariables false
def dv (b : Nat) (c : Int) : Int:=if 48 ≤ c ∧ c ≤ 57 ∧ c - 48 < b then c - 48 else if 97 ≤ c ∧ c ≤ 122 ∧ c - 87 < b then c - 87 else -1
theorem dv_cases (b : Nat) (c : Int) (hb : b ≤ 36) : dv b c = -1 ∨ 0 ≤ dv b c ∧ dv b c < b ∧ dv b c < 36:=by unfold dv; (repeat' split) <;> omega
theorem dv_zero (c : Int) : dv 0 c = -1:=by unfold dv; (repeat' split) <;> omega
def pzR (b : Nat) (neg : Bool) (r : List Int) : Option Int :=
 if r = [] ∨ (r.getD 0 0 = 48 ∧ (1 < r.length ∨ neg = true)) then none else if ∀ c ∈ r,0 ≤ dv b c then some (sg neg (rdv b (r.map (dv b)))) else none
def pz (b : Nat) (l : List Int) : Option Int:=if 0 < l.length ∧ l.getD 0 0 = 45 then pzR b true (l.drop 1) else pzR b false l
theorem rdv_cons (b : Nat) (d : Int) (ds : List Int) : rdv b (d :: ds) = d.toNat * b ^ ds.length + rdv b ds:=by
 have key : ∀ (ds : List Int) (a : Nat),ds.foldl (fun n d=>n * b + d.toNat) a = a * b ^ ds.length + ds.foldl (fun n d=>n * b + d.toNat) 0:=by
  intro ds
  induction ds with
  | nil=>intro a; simp
  | cons x ds ih =>
   intro a
   simp only [List.foldl_cons,List.length_cons]
   rw [ih (a * b + x.toNat),ih (0 * b + x.toNat),Nat.add_mul,Nat.add_mul,Nat.zero_mul,Nat.zero_mul,Nat.mul_assoc,Nat.zero_add,← Nat.pow_succ',Nat.add_assoc]
 show (d :: ds).foldl _ 0 = _
 rw [List.foldl_cons,key]
 simp [rdv]
end Go.Proofs.NatL
namespace Go.Proofs.YtgkajjifbcmoeaaGreatDoor
set_option linter.unusedSimpArgs false
set_option linter.unusedVariables false
open Go.Abs Go.Proofs.NatL
theorem chr_eq : ∀ d : Nat,d < 36 → chr d = if d < 10 then (d : Int) + 48 else (d : Int) + 87:=by decide
theorem dv_chr {b d : Nat} (hb : b ≤ 36) (h : d < b) : dv b (chr d) = d:=by
 rw [chr_eq d (by omega)]
 unfold dv
 split
 ·rw [if_pos (by omega)]; omega
 ·rw [if_neg (by omega),if_pos (by omega)]; omega
theorem dv_succ (k : Nat) (hk : k < 36) (c : Int) : dv (k + 1) c = if chr k = c then (k : Int) else dv k c:=by
 rw [chr_eq k hk]
 unfold dv
 (repeat' split) <;> omega
theorem rdv_pos {b : Nat} (hb : 2 ≤ b) {r : List Int} (h0 : r ≠ []) (h1 : r.getD 0 0 ≠ 48) (h2 : ∀ c ∈ r,0 ≤ dv b c) : 0 < rdv b (r.map (dv b)):=by
 cases r with
 | nil=>exact absurd rfl h0
 | cons c r =>
  rw [List.map_cons,rdv_cons]
  have h:=h2 c (List.mem_cons_self ..)
  have h1 : c ≠ 48:=h1
  have : 0 < (dv b c).toNat:=by
   unfold dv at h ⊢
   (repeat' split) <;> omega
  have:=Nat.mul_pos this (Nat.pow_pos (n:=(r.map (dv b)).length) (show 0 < b by omega))
  omega
theorem pzR_canon {b : Nat} (hb : 2 ≤ b) {neg : Bool} {r : List Int} {z : Int} (h : pzR b neg r = some z) :
  z = sg neg (rdv b (r.map (dv b))) ∧ (neg = true → 0 < rdv b (r.map (dv b))) ∧ r ≠ [] ∧ (∀ c ∈ r,0 ≤ dv b c) ∧ ¬ (r.getD 0 0 = 48 ∧ (1 < r.length ∨ neg = true)):=by
 unfold pzR at h
 split at h
 ·cases h
 ·rename_i g
  split at h
  ·rename_i g2
   cases h
   have g0 : r ≠ []:=fun e=>g (.inl e)
   refine ⟨rfl,fun hn=>rdv_pos hb g0 (fun e=>g (.inr ⟨e,.inr hn⟩)) g2,g0,g2,fun e=>g (.inr e)⟩
  ·cases h
theorem strOf_snoc (xs : List Int) (x : Int) : strOf (xs ++ [x]) = (strOf xs).push (UInt8.ofNat x.toNat):=by simp [strOf,List.foldl_append]
theorem bytesOf_strOf (xs : List Int) (h : InB 256 xs) : bytesOf (strOf xs) = xs:=by
 have key : ∀ n,∀ xs : List Int,xs.length = n → InB 256 xs → bytesOf (strOf xs) = xs:=by
  intro n
  induction n with
  | zero=>intro xs h _; obtain rfl:=List.eq_nil_of_length_eq_zero h; rfl
  | succ n ih =>
   intro xs hl hb
   have e:=split_last xs (by omega)
   have hin:=InB_getD (B:=256) (by omega) hb (xs.length - 1)
   generalize xs.getD (xs.length - 1) 0 = x at *
   have hb1:=InB_take hb (xs.length - 1)
   have hl1 : (xs.take (xs.length - 1)).length = n:=by rw [List.length_take]; omega
   generalize xs.take (xs.length - 1) = ys at *
   subst e
   have:=ih ys hl1 hb1
   rw [strOf_snoc]
   unfold bytesOf at this ⊢
   rw [ByteArray.data_push,Array.toList_push,List.map_append,this]
   congr 1
   simp only [List.map_cons,List.map_nil,List.cons.injEq,and_true]
   rw [UInt8.toNat_ofNat']
   omega
 exact key _ xs rfl h
theorem str_size (s : ByteArray) : s.size = (bytesOf s).length:=by simp only [bytesOf,List.length_map,Array.length_toList]; rfl
theorem str_at (s : ByteArray) (n : Nat) : (((s.data.toList.getD n 0).toNat : Nat) : Int) = (bytesOf s).getD n 0:=by
 unfold bytesOf
 rw [List.getD_eq_getElem?_getD,List.getD_eq_getElem?_getD,List.getElem?_map]
 cases s.data.toList[n]? <;> rfl
theorem str_sub (s : ByteArray) (a b : Nat) : bytesOf (s.extract a b) = ((bytesOf s).take b).drop a:=by
 unfold bytesOf
 rw [ByteArray.data_extract,Array.toList_extract]
 simp [List.extract_eq_take_drop,List.map_take,List.map_drop,List.drop_take]
theorem bytes_inB (s : ByteArray) : InB 256 (bytesOf s):=by
 intro x hx
 obtain ⟨b,_,rfl⟩:=List.mem_map.1 hx
 have:=b.toNat_lt
 omega
theorem bytes_inj {s t : ByteArray} (h : bytesOf s = bytesOf t) : s = t:=by
 have : s.data.toList = t.data.toList:=by
  have h2:=congrArg (List.map fun x : Int=>UInt8.ofNat x.toNat) h
  have key : ∀ l : List UInt8,(l.map fun b=>(b.toNat : Int)).map (fun x : Int=>UInt8.ofNat x.toNat) = l:=fun l=>by
   induction l with
   | nil=>rfl
   | cons x l ih=>simp only [List.map_cons,ih,Int.toNat_natCast,UInt8.ofNat_toNat]
  simp only [bytesOf,key] at h2
  exact h2
 exact ByteArray.ext (Array.toList_inj.1 this)
theorem str_eq (s t : ByteArray) : (s.toList == t.toList) = decide (bytesOf s = bytesOf t):=by
 rw [ByteArray.toList_eq,ByteArray.toList_eq]
 by_cases h : s = t
 ·subst h; simp
 ·rw [decide_eq_false (fun e=>h (bytes_inj e))]
  exact beq_eq_false_iff_ne.2 fun e=>h (ByteArray.ext (Array.toList_inj.1 e))
def digB (b : Nat) : List Int:=(List.range b).map fun d : Nat=>chr (d : Int)
theorem lit_full : bytesOf { data:=#[48,49,50,51,52,53,54,55,56,57,97,98,99,100,101,102,103,104,105,106,107,108,109,110,111,112,113,114,115,116,117,118,119,120,121,122] } = digB 36:=by decide +kernel
theorem lit_take (b : Nat) (hb : b ≤ 36) : (digB 36).take b = digB b:=by
 unfold digB
 rw [← List.map_take,List.take_range,Nat.min_eq_left hb]
theorem digB_len (b : Nat) : (digB b).length = b:=by simp [digB]
theorem digB_at (b d : Nat) (h : d < b) : (digB b).getD d 0 = chr (d : Int):=by simp [digB,List.getD_eq_getElem?_getD,h]
theorem toNat_one : Int.toNat 1 = 1:=rfl
theorem lit_zero : bytesOf { data:=#[48] } = [48]:=rfl
theorem lit_none : bytesOf { data:=#[] } = []:=rfl
end Go.Proofs.YtgkajjifbcmoeaaGreatDoor
