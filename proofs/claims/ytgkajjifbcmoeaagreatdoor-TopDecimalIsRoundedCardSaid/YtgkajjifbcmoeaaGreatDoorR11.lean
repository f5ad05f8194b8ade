import Derived.Test.YtgkajjifbcmoeaaGreatDoorR10
namespace Go.Proofs.NatL
set_option linter.unusedSimpArgs false
set_option linter.unusedVariables false
theorem int_lt_ge (a b : Int) : a < b ∨ b ≤ a:=by omega
theorem ds_600 {n : Nat} (h : ds n ≤ 5700) : (dg 4294967296 n).length ≤ 600:=Nat.le_trans (len_ds h) (by omega)
theorem ds_mul10 {a n k : Nat} (h : ds a + n ≤ k) : ds (a * 10 ^ n) ≤ k:=by
 refine ds_le ?_
 rw [show k = (k - n) + n by omega,Nat.pow_add]
 exact Nat.mul_lt_mul_of_pos_right (Nat.lt_of_lt_of_le (ds_lt a) (Nat.pow_le_pow_right (by omega) (by omega))) (Nat.pow_pos (by omega))
theorem pw_odd (P n : Nat) (h : n % 2 = 1) (a N : Nat) (e : a + P * n = N) : a + P + P * 2 * (n / 2) = N:=by
 have h1 : n = 2 * (n / 2) + 1:=by omega
 generalize n / 2 = m at *
 subst h1
 rw [← e,Nat.mul_add,Nat.mul_one,← Nat.mul_assoc]; omega
theorem pw_even (P n : Nat) (h : n % 2 = 0) (a N : Nat) (e : a + P * n = N) : a + P * 2 * (n / 2) = N:=by
 have h1 : n = 2 * (n / 2):=by omega
 generalize n / 2 = m at *
 subst h1
 rw [← e,← Nat.mul_assoc]
theorem pw_fits {i n a N : Nat} (hN : N < 4096) (h0 : 0 < n) (e : a + 2 ^ i * n = N) : 2 ^ i ≤ N ∧ a + 2 ^ i ≤ N ∧ 2 ^ i * 2 ≤ 4096:=by
 have h1 : 2 ^ i ≤ 2 ^ i * n:=Nat.le_mul_of_pos_right _ h0
 have h2 : 2 ^ i < 2 ^ 12:=by omega
 have h3 : i < 12:=(Nat.pow_lt_pow_iff_right (by omega)).1 h2
 have h4 : 2 ^ (i + 1) ≤ 2 ^ 12:=Nat.pow_le_pow_right (by omega) (by omega)
 rw [Nat.pow_succ] at h4
 exact ⟨by omega,by omega,h4⟩
theorem dg_ten (k : Nat) (h : k < 4294967296) (h0 : 0 < k) : dg 4294967296 k = [(k : Int)]:=by
 rw [dg_pos _ _ (by omega) h0,Nat.mod_eq_of_lt h,Nat.div_eq_of_lt h]; rfl
theorem ten_600 {k : Nat} (h : k ≤ 5699) : (dg 4294967296 (10 ^ k)).length ≤ 600:=ds_600 (by rw [ds_ten]; omega)
end Go.Proofs.NatL
namespace Go.Proofs.YtgkajjifbcmoeaaGreatDoor
set_option linter.unusedSimpArgs false
set_option linter.unusedVariables false
open Go.Abs Go.Proofs.NatL

def nat6CT (p : Nat → Nat → Prop) (f : Nat → Nat → AV) : CT:=mkCT [nU,nU] false fun l K=>match l with
 | [.inl (.ints .u32 xs),.inl (.ints .u32 ys)]=>(InB 4294967296 xs ∧ Trd xs ∧ xs.length ≤ 600 ∧ InB 4294967296 ys ∧ Trd ys ∧ ys.length ≤ 600 ∧ p (V 4294967296 xs) (V 4294967296 ys)) ∧ K (f (V 4294967296 xs) (V 4294967296 ys))
 | _=>False
theorem nat6_tr {F : FuncId} {p : Nat → Nat → Prop} {f : Nat → Nat → AV} (hc : ∀ (m n : Nat),(dg 4294967296 m).length ≤ 600 → (dg 4294967296 n).length ≤ 600 → p m n → Ret Tryz.prog F false [.inl (.ints .u32 (dg 4294967296 m)),.inl (.ints .u32 (dg 4294967296 n))] (f m n))
  (l : List (C ⊕ List C)) (K : AV → Prop) (hk : match l with
   | [.inl (.ints .u32 xs),.inl (.ints .u32 ys)]=>(InB 4294967296 xs ∧ Trd xs ∧ xs.length ≤ 600 ∧ InB 4294967296 ys ∧ Trd ys ∧ ys.length ≤ 600 ∧ p (V 4294967296 xs) (V 4294967296 ys)) ∧ K (f (V 4294967296 xs) (V 4294967296 ys))
   | _=>False) : ∃ r,Ret Tryz.prog F false l r ∧ K r:=by
 split at hk
 ·rename_i xs ys
  obtain ⟨⟨h1,h2,h3,h4,h5,h6,h7⟩,hk⟩:=hk
  have e1:=dg_V 4294967296 (by omega) xs h1 h2
  have e2:=dg_V 4294967296 (by omega) ys h4 h5
  have:=hc (V 4294967296 xs) (V 4294967296 ys) (by rw [e1]; exact h3) (by rw [e2]; exact h6) h7
  rw [e1,e2] at this
  exact ⟨_,this,hk⟩
 ·exact hk.elim
def pAdd (m n : Nat) : Prop:=(dg 4294967296 (m + n)).length ≤ 600
theorem pAdd_d (m n : Nat) : pAdd m n = ((dg 4294967296 (m + n)).length ≤ 600):=rfl
theorem mAdd_ret (m n : Nat) (lm : (dg 4294967296 m).length ≤ 600) (ln : (dg 4294967296 n).length ≤ 600) (h : pAdd m n) :
  Ret Tryz.prog 125 false [.inl (.ints .u32 (dg 4294967296 m)),.inl (.ints .u32 (dg 4294967296 n))] (rAddN m n):=by
 have h1:=okN_dg' (n:=m) (by omega)
 have h2:=okN_dg' (n:=n) (by omega)
 have:=Add_ret _ _ (okN_LB h1) (okN_LB h2) (InB_dg _ (by omega) m) (InB_dg _ (by omega) n)
 obtain ⟨f1,f2,f3⟩:=fit_small h
 rw [oneF_good h1 h2,addNd',f1,f2,f3] at this
 exact this
def pMul (m n : Nat) : Prop:=(dg 4294967296 (m * n)).length ≤ 600
theorem pMul_d (m n : Nat) : pMul m n = ((dg 4294967296 (m * n)).length ≤ 600):=rfl
theorem mMul_ret (m n : Nat) (lm : (dg 4294967296 m).length ≤ 600) (ln : (dg 4294967296 n).length ≤ 600) (h : pMul m n) :
  Ret Tryz.prog 88 false [.inl (.ints .u32 (dg 4294967296 m)),.inl (.ints .u32 (dg 4294967296 n))] (rMulN m n):=by
 have h1:=okN_dg' (n:=m) (by omega)
 have h2:=okN_dg' (n:=n) (by omega)
 have:=Mul_ret _ _ (okN_LB h1) (okN_LB h2) (InB_dg _ (by omega) m) (InB_dg _ (by omega) n)
 obtain ⟨f1,f2,f3⟩:=fit_small h
 rw [oneF_good h1 h2,mulNd',f1,f2,f3] at this
 exact this
theorem mSub_ret (m n : Nat) (lm : (dg 4294967296 m).length ≤ 600) (ln : (dg 4294967296 n).length ≤ 600) (h : n ≤ m) :
  Ret Tryz.prog 165 false [.inl (.ints .u32 (dg 4294967296 m)),.inl (.ints .u32 (dg 4294967296 n))] (rSubN m n):=by
 have h1:=okN_dg' (n:=m) (by omega)
 have h2:=okN_dg' (n:=n) (by omega)
 have:=Sub_ret _ _ (okN_LB h1) (okN_LB h2) (InB_dg _ (by omega) m) (InB_dg _ (by omega) n)
 obtain ⟨f1,f2,f3⟩:=subO_le h
 rw [oneF_good h1 h2] at this
 have h3 : (if V 4294967296 (dg 4294967296 m) < V 4294967296 (dg 4294967296 n) then [] else subN (dg 4294967296 m) (dg 4294967296 n)) = dg 4294967296 (m - n):=f1
 first
  | (rw [f1,f2,f3] at this; exact this)
  | (simp only [subO,subC,subI] at f1 f2 f3; rw [f1,f2,f3] at this; exact this)
theorem mCmp_ret (m n : Nat) (lm : (dg 4294967296 m).length ≤ 600) (ln : (dg 4294967296 n).length ≤ 600) :
  Ret Tryz.prog 164 false [.inl (.ints .u32 (dg 4294967296 m)),.inl (.ints .u32 (dg 4294967296 n))] (rCmpN m n):=by
 have h1:=okN_dg' (n:=m) (by omega)
 have h2:=okN_dg' (n:=n) (by omega)
 have:=Cmp_ret _ _ (okN_LB h1) (okN_LB h2) (InB_dg _ (by omega) m) (InB_dg _ (by omega) n)
 rw [(chkC_zero h1 h2).1,(chkC_zero h1 h2).2,if_neg (by simp),V32,V32] at this
 exact this
theorem mGcd_ret (m n : Nat) (lm : (dg 4294967296 m).length ≤ 600) (ln : (dg 4294967296 n).length ≤ 600) :
  Ret Tryz.prog 84 false [.inl (.ints .u32 (dg 4294967296 m)),.inl (.ints .u32 (dg 4294967296 n))] (rGcdN m n):=by
 have h1:=okN_dg' (n:=m) (by omega)
 have h2:=okN_dg' (n:=n) (by omega)
 have:=Gcd_ret _ _ (okN_LB h1) (okN_LB h2) (InB_dg _ (by omega) m) (InB_dg _ (by omega) n)
 simp only [gcO,(chkC_zero h1 h2).1,(chkC_zero h1 h2).2,if_true,V32] at this
 exact this
theorem mDiv_ret (m n : Nat) (lm : (dg 4294967296 m).length ≤ 600) (ln : (dg 4294967296 n).length ≤ 600) (h : 0 < n) :
  Ret Tryz.prog 85 false [.inl (.ints .u32 (dg 4294967296 m)),.inl (.ints .u32 (dg 4294967296 n))] (rDivN m n):=by
 have h1:=okN_dg' (n:=m) (by omega)
 have h2:=okN_dg' (n:=n) (by omega)
 have:=dvGood_ok _ _ h1 h2 (InB_dg _ (by omega) m) (InB_dg _ (by omega) n) (by rw [V32]; exact h)
 rw [V32,V32] at this
 exact this
def dn1 : Cfg:=addT 125 (nat6CT pAdd rAddN) cf0
theorem dn1_ok : TblOk Tryz.prog dn1:=q_I cf0_ok Tryz.func125 fun l K h =>
 nat6_tr (p:=pAdd) (f:=rAddN) (fun m n a b h=>mAdd_ret m n a b h) l K h
def dn2 : Cfg:=addT 88 (nat6CT pMul rMulN) cf0
theorem dn2_ok : TblOk Tryz.prog dn2:=q_I cf0_ok Tryz.func88 fun l K h =>
 nat6_tr (p:=pMul) (f:=rMulN) (fun m n a b h=>mMul_ret m n a b h) l K h
def dn3 : Cfg:=addT 165 (nat6CT le2 rSubN) cf0
theorem dn3_ok : TblOk Tryz.prog dn3:=q_I cf0_ok Tryz.func165 fun l K h =>
 nat6_tr (p:=le2) (f:=rSubN) (fun m n a b h=>mSub_ret m n a b h) l K h
def dn4 : Cfg:=addT 164 (nat6CT tr2 rCmpN) cf0
theorem dn4_ok : TblOk Tryz.prog dn4:=q_I cf0_ok Tryz.func164 fun l K h =>
 nat6_tr (p:=tr2) (f:=rCmpN) (fun m n a b _=>mCmp_ret m n a b) l K h
def dn5 : Cfg:=addT 84 (nat6CT tr2 rGcdN) cf0
theorem dn5_ok : TblOk Tryz.prog dn5:=q_I cf0_ok Tryz.func84 fun l K h =>
 nat6_tr (p:=tr2) (f:=rGcdN) (fun m n a b _=>mGcd_ret m n a b) l K h
def dn6 : Cfg:=addT 85 (nat6CT pos2 rDivN) cf0
theorem dn6_ok : TblOk Tryz.prog dn6:=q_I cf0_ok Tryz.func85 fun l K h =>
 nat6_tr (p:=pos2) (f:=rDivN) (fun m n a b h=>mDiv_ret m n a b h) l K h
attribute [go_sem] nat6CT pAdd_d pMul_d
def db1d : Cfg:=listT [(152,digG),(88,(nat6CT pMul rMulN)),(164,(nat6CT tr2 rCmpN))] [34]
theorem db1d_ok : TblOk Tryz.prog db1d:=listE_ok (by simp only [List.mem_singleton,forall_eq]; exact flt) ⟨⟨nt5,nt5_ok,rfl⟩,⟨dn2,dn2_ok,rfl⟩,⟨dn4,dn4_ok,rfl⟩,trivial⟩
attribute [go_sem] db1d
set_option maxHeartbeats 800000 in
theorem size_ret (n : Nat) (h : (dg 4294967296 n).length ≤ 600) : Ret Tryz.prog 120 false [.inl (.ints .u32 (dg 4294967296 n))] (.c (.i .i64 (ds n))):=by
 have o1:=okN_dg' h
 have ten : (10 : Int).toNat = 10:=rfl
 have hl : (dg 10 n).reverse.length = ds n:=by rw [List.length_reverse]; rfl
 (refine q_H Tryz.func120 (fun F=>?_); simp only [q_z,q_y,Tryz.ntmps120,Tryz.results120])
 repeat' (first|with_reducible refine q_0 ?_|((with_reducible first|refine q_q db1d_ok fun K hK=>?_|refine q_r db1d_ok fun K hK=>?_);simp (maxSteps:=2000000) only [go_sem,↓reduceIte,reduceCtorEq,Nat.reduceLeDiff,Nat.reduceLT,Nat.reduceBEq,Nat.reduceAdd,o1,V32,ten,hl];(repeat1' with_reducible first|apply And.intro|(intro _;try exact q_v)|(refine hK _ ?_;clear hK K))<;>(try (clear hK K;exact q_u)))|(with_reducible refine q_s ?_;(first|apply q_J|apply q_K|apply q_L|apply q_M|apply q_N|apply q_O)<;>try (intro _;try exact q_v)))
 all_goals first | omega | exact q_A rfl | skip
def sizeCT : CT:=mkCT [nU] true fun l K=>match l with
 | [.inl (.ints .u32 xs)]=>(InB 4294967296 xs ∧ Trd xs ∧ xs.length ≤ 600) ∧ K (.c (.i .i64 (ds (V 4294967296 xs))))
 | _=>False
def dc1 : Cfg:=addT 120 sizeCT cf0
theorem dc1_ok : TblOk Tryz.prog dc1:=q_I cf0_ok Tryz.func120 fun l K h=>by
 split at h
 ·rename_i xs
  obtain ⟨⟨h1,h2,h3⟩,h⟩:=h
  have e1:=dg_V 4294967296 (by omega) xs h1 h2
  have:=size_ret (V 4294967296 xs) (by rw [e1]; exact h3)
  rw [e1] at this
  exact ⟨_,this.plain rfl,h⟩
 ·exact h.elim
set_option maxHeartbeats 800000 in
theorem less_ret (m n : Nat) (lm : (dg 4294967296 m).length ≤ 600) (ln : (dg 4294967296 n).length ≤ 600) : Ret Tryz.prog 124 false [.inl (.ints .u32 (dg 4294967296 m)),.inl (.ints .u32 (dg 4294967296 n))] (.c (.b (decide (m < n)))):=by
 have hc : decide (cmp3 m n < 0) = decide (m < n):=by congr 1; exact propext (cmp3_lt m n)
 (refine q_H Tryz.func124 (fun F=>?_); simp only [q_z,q_y,Tryz.ntmps124,Tryz.results124])
 repeat' (first|with_reducible refine q_0 ?_|((with_reducible first|refine q_q db1d_ok fun K hK=>?_|refine q_r db1d_ok fun K hK=>?_);simp (maxSteps:=2000000) only [go_sem,↓reduceIte,reduceCtorEq,Nat.reduceLeDiff,Nat.reduceLT,Nat.reduceBEq,Nat.reduceAdd,V32,hc];(repeat1' with_reducible first|apply And.intro|(intro _;try exact q_v)|(refine hK _ ?_;clear hK K))<;>(try (clear hK K;exact q_u)))|(with_reducible refine q_s ?_;(first|apply q_J|apply q_K|apply q_L|apply q_M|apply q_N|apply q_O)<;>try (intro _;try exact q_v)))
 all_goals first | omega | exact q_A rfl | skip
def lessCT : CT:=mkCT [nU,nU] true fun l K=>match l with
 | [.inl (.ints .u32 xs),.inl (.ints .u32 ys)]=>(InB 4294967296 xs ∧ Trd xs ∧ xs.length ≤ 600 ∧ InB 4294967296 ys ∧ Trd ys ∧ ys.length ≤ 600) ∧ K (.c (.b (decide (V 4294967296 xs < V 4294967296 ys))))
 | _=>False
def dc2 : Cfg:=addT 124 lessCT cf0
theorem dc2_ok : TblOk Tryz.prog dc2:=q_I cf0_ok Tryz.func124 fun l K h=>by
 split at h
 ·rename_i xs ys
  obtain ⟨⟨h1,h2,h3,h4,h5,h6⟩,h⟩:=h
  have e1:=dg_V 4294967296 (by omega) xs h1 h2
  have e2:=dg_V 4294967296 (by omega) ys h4 h5
  have:=less_ret (V 4294967296 xs) (V 4294967296 ys) (by rw [e1]; exact h3) (by rw [e2]; exact h6)
  rw [e1,e2] at this
  exact ⟨_,this.plain rfl,h⟩
 ·exact h.elim
set_option maxHeartbeats 1600000 in
theorem power_ret (N : Nat) (h : N < 4096) : Ret Tryz.prog 83 false [.inl (.i .i64 (N : Int))] (.c (.ints .u32 (dg 4294967296 (10 ^ N)))):=by
 have e1 : ([1] : List Int) = dg 4294967296 1:=rfl
 have e10 : ([10] : List Int) = dg 4294967296 10:=(dg_ten 10 (by omega) (by omega)).symm
 (refine q_H Tryz.func83 (fun F=>?_); simp only [q_z,q_y,Tryz.ntmps83,Tryz.results83])
 repeat' (first|with_reducible refine q_0 ?_|((with_reducible first|refine q_q db1d_ok fun K hK=>?_|refine q_r db1d_ok fun K hK=>?_);simp (maxSteps:=2000000) only [go_sem,↓reduceIte,reduceCtorEq,Nat.reduceLeDiff,Nat.reduceLT,Nat.reduceBEq,Nat.reduceAdd,e1,e10];(repeat1' with_reducible first|apply And.intro|(intro _;try exact q_v)|(refine hK _ ?_;clear hK K))<;>(try (clear hK K;exact q_u)))|(with_reducible refine q_s ?_;(first|apply q_J|apply q_K|apply q_L|apply q_M|apply q_N|apply q_O)<;>try (intro _;try exact q_v)))
 all_goals first | omega | skip
 refine q_G (ι:={ q : Nat × Nat × Nat // q.2.1 + 2 ^ q.1 * q.2.2 = N }) (fun q=>⟨27,[(0,.c (.i .i64 (q.1.2.2 : Nat))),(3,.c (.ints .u32 (dg 4294967296 (10 ^ q.1.2.1)))),(4,.c (.ints .u32 (dg 4294967296 (10 ^ 2 ^ q.1.1))))],⟨[],[],[]⟩,0⟩) (fun q=>q.1.2.2) ⟨(0,0,N),by simp⟩ ?_ ?_
 ·exact q_D
 rintro ⟨⟨i,a,n⟩,g⟩
 simp only at g ⊢
 rcases Nat.eq_zero_or_pos n with h0 | h0
 ·subst h0
  rw [Nat.mul_zero,Nat.add_zero] at g
  subst g
  repeat' (first|with_reducible refine q_0 ?_|((with_reducible first|refine q_q db1d_ok fun K hK=>?_|refine q_r db1d_ok fun K hK=>?_);simp (maxSteps:=2000000) only [go_sem,↓reduceIte,reduceCtorEq,Nat.reduceLeDiff,Nat.reduceLT,Nat.reduceBEq,Nat.reduceAdd];(repeat1' with_reducible first|apply And.intro|(intro _;try exact q_v)|(refine hK _ ?_;clear hK K))<;>(try (clear hK K;exact q_u)))|(with_reducible refine q_s ?_;(first|apply q_J|apply q_K|apply q_L|apply q_M|apply q_N|apply q_O)<;>try (intro _;try exact q_v)))
  all_goals first | omega | exact q_A rfl | skip
 ·obtain ⟨p1,p2,p3⟩:=pw_fits h h0 g
  have m1 : 10 ^ a * 10 ^ 2 ^ i = 10 ^ (a + 2 ^ i):=(Nat.pow_add 10 a (2 ^ i)).symm
  have m2 : 10 ^ 2 ^ i * 10 ^ 2 ^ i = 10 ^ 2 ^ (i + 1):=by rw [← Nat.pow_add,Nat.pow_succ]; congr 1; omega
  have l1:=ten_600 (k:=a) (by omega)
  have l2:=ten_600 (k:=2 ^ i) (by omega)
  have l3:=ten_600 (k:=a + 2 ^ i) (by omega)
  have l4:=ten_600 (k:=2 ^ (i + 1)) (by rw [Nat.pow_succ]; omega)
  have hnN : n ≤ N:=by have:=Nat.le_mul_of_pos_left n (Nat.pow_pos (n:=i) (show 0 < 2 by omega)); omega
  have t2 : Int.tdiv (n : Int) 2 = ((n / 2 : Nat) : Int):=by rw [Int.tdiv_eq_ediv_of_nonneg (by omega)]; omega
  have dp:=Nat.div_lt_self h0 (show 1 < 2 by omega)
  rw [← m1] at l3
  rw [← m2] at l4
  rcases Nat.mod_two_eq_zero_or_one n with ho | ho
  ·have t1 : Int.tmod (n : Int) 2 = 0:=by rw [tmod2,ho]; rfl
   have gg:=pw_even _ _ ho _ _ g
   rw [← Nat.pow_succ] at gg
   repeat' (first|with_reducible refine q_0 ?_|((with_reducible first|refine q_q db1d_ok fun K hK=>?_|refine q_r db1d_ok fun K hK=>?_);simp (maxSteps:=2000000) only [go_sem,↓reduceIte,reduceCtorEq,Nat.reduceLeDiff,Nat.reduceLT,Nat.reduceBEq,Nat.reduceAdd,V32,t1,t2];(repeat1' with_reducible first|apply And.intro|(intro _;try exact q_v)|(refine hK _ ?_;clear hK K))<;>(try (clear hK K;exact q_u)))|(with_reducible refine q_s ?_;(first|apply q_J|apply q_K|apply q_L|apply q_M|apply q_N|apply q_O)<;>try (intro _;try exact q_v)))
   all_goals first | omega | skip
   refine q_F ⟨(i + 1,a,n / 2),gg⟩ ?_ (by simp only; omega)
   simp only [← m2]
   exact q_D
  ·have t1 : Int.tmod (n : Int) 2 = 1:=by rw [tmod2,ho]; rfl
   have gg:=pw_odd _ _ ho _ _ g
   rw [← Nat.pow_succ] at gg
   repeat' (first|with_reducible refine q_0 ?_|((with_reducible first|refine q_q db1d_ok fun K hK=>?_|refine q_r db1d_ok fun K hK=>?_);simp (maxSteps:=2000000) only [go_sem,↓reduceIte,reduceCtorEq,Nat.reduceLeDiff,Nat.reduceLT,Nat.reduceBEq,Nat.reduceAdd,V32,t1,t2];(repeat1' with_reducible first|apply And.intro|(intro _;try exact q_v)|(refine hK _ ?_;clear hK K))<;>(try (clear hK K;exact q_u)))|(with_reducible refine q_s ?_;(first|apply q_J|apply q_K|apply q_L|apply q_M|apply q_N|apply q_O)<;>try (intro _;try exact q_v)))
   all_goals first | omega | skip
   refine q_F ⟨(i + 1,a + 2 ^ i,n / 2),gg⟩ ?_ (by simp only; omega)
   simp only [← m2,← m1]
   exact q_D
def powerCT : CT:=mkCT [] false fun l K=>match l with
 | [.inl (.i .i64 n)]=>(0 ≤ n ∧ n < 4096) ∧ K (.c (.ints .u32 (dg 4294967296 (10 ^ n.toNat))))
 | _=>False
def dc3 : Cfg:=addT 83 powerCT cf0
theorem dc3_ok : TblOk Tryz.prog dc3:=q_I cf0_ok Tryz.func83 fun l K h=>by
 split at h
 ·rename_i n
  obtain ⟨⟨h1,h2⟩,h⟩:=h
  have:=power_ret n.toNat (by omega)
  rw [show ((n.toNat : Nat) : Int) = n by omega] at this
  exact ⟨_,this,h⟩
 ·exact h.elim
attribute [go_sem] sizeCT lessCT powerCT
def db2d : Cfg:=listT [(83,powerCT),(88,(nat6CT pMul rMulN))] [34]
theorem db2d_ok : TblOk Tryz.prog db2d:=listE_ok (by simp only [List.mem_singleton,forall_eq]; exact flt) ⟨⟨dc3,dc3_ok,rfl⟩,⟨dn2,dn2_ok,rfl⟩,trivial⟩
attribute [go_sem] db2d
set_option maxHeartbeats 800000 in
theorem times_ret' (m N : Nat) (h : N < 4096) (hm : (dg 4294967296 m).length ≤ 600) (hp : (dg 4294967296 (m * 10 ^ N)).length ≤ 600) : Ret Tryz.prog 82 false [.inl (.ints .u32 (dg 4294967296 m)),.inl (.i .i64 (N : Int))] (.c (.ints .u32 (dg 4294967296 (m * 10 ^ N)))):=by
 have h1:=ten_600 (k:=N) (by omega)
 generalize hP : 10 ^ N = P at *
 (refine q_H Tryz.func82 (fun F=>?_); simp only [q_z,q_y,Tryz.ntmps82,Tryz.results82])
 repeat' (first|with_reducible refine q_0 ?_|((with_reducible first|refine q_q db2d_ok fun K hK=>?_|refine q_r db2d_ok fun K hK=>?_);simp (maxSteps:=2000000) only [go_sem,↓reduceIte,reduceCtorEq,Nat.reduceLeDiff,Nat.reduceLT,Nat.reduceBEq,Nat.reduceAdd,V32,Int.toNat_natCast,hP];(repeat1' with_reducible first|apply And.intro|(intro _;try exact q_v)|(refine hK _ ?_;clear hK K))<;>(try (clear hK K;exact q_u)))|(with_reducible refine q_s ?_;(first|apply q_J|apply q_K|apply q_L|apply q_M|apply q_N|apply q_O)<;>try (intro _;try exact q_v)))
 all_goals first | omega | exact q_A rfl | skip
def timesTCT : CT:=mkCT [nU] false fun l K=>match l with
 | [.inl (.ints .u32 xs),.inl (.i .i64 n)]=>(InB 4294967296 xs ∧ Trd xs ∧ xs.length ≤ 600 ∧ 0 ≤ n ∧ n < 4096 ∧ (dg 4294967296 (V 4294967296 xs * 10 ^ n.toNat)).length ≤ 600) ∧ K (.c (.ints .u32 (dg 4294967296 (V 4294967296 xs * 10 ^ n.toNat))))
 | _=>False
def dc4 : Cfg:=addT 82 timesTCT cf0
theorem dc4_ok : TblOk Tryz.prog dc4:=q_I cf0_ok Tryz.func82 fun l K h=>by
 split at h
 ·rename_i xs n
  obtain ⟨⟨h1,h2,h3,h4,h5,h6⟩,h⟩:=h
  have e1:=dg_V 4294967296 (by omega) xs h1 h2
  have:=times_ret' (V 4294967296 xs) n.toNat (by omega) (by rw [e1]; exact h3) h6
  rw [e1,show ((n.toNat : Nat) : Int) = n by omega] at this
  exact ⟨_,this,h⟩
 ·exact h.elim
attribute [go_sem] timesTCT
end Go.Proofs.YtgkajjifbcmoeaaGreatDoor

namespace Go.Proofs.NatL
set_option linter.unusedSimpArgs false
set_option linter.unusedVariables false
theorem first_ge {num den : Nat} {e n : Int} (hn : (ds num : Int) - ds den = n) (h : 0 ≤ n) : firstE num den e = (if num < den * 10 ^ n.toNat then n - 1 else n) + e:=by
 unfold firstE
 have hg : guessE num den e = n + e:=by unfold guessE; omega
 have h1 : ptN num e (n + e) = num:=by
  unfold ptN
  split
  ·rw [show (e - (n + e)).toNat = 0 by omega,Nat.pow_zero,Nat.mul_one]
  ·rfl
 have h2 : ptD den e (n + e) = den * 10 ^ n.toNat:=by
  unfold ptD
  split
  ·rw [show n.toNat = 0 by omega,Nat.pow_zero,Nat.mul_one]
  ·rw [show (n + e - e).toNat = n.toNat by omega]
 rw [hg,h1,h2]
 split <;> omega
theorem first_lt {num den : Nat} {e n : Int} (hn : (ds num : Int) - ds den = n) (h : n < 0) : firstE num den e = (if num * 10 ^ (-n).toNat < den then n - 1 else n) + e:=by
 unfold firstE
 have hg : guessE num den e = n + e:=by unfold guessE; omega
 have h1 : ptN num e (n + e) = num * 10 ^ (-n).toNat:=by
  unfold ptN
  rw [if_pos (by omega),show (e - (n + e)).toNat = (-n).toNat by omega]
 have h2 : ptD den e (n + e) = den:=by
  unfold ptD
  rw [if_pos (by omega)]
 rw [hg,h1,h2]
 split <;> omega
theorem pt_ge {num den : Nat} {e x : Int} (h : 0 ≤ e - x) : ptN num e x = num * 10 ^ (e - x).toNat ∧ ptD den e x = den:=by
 unfold ptN ptD; rw [if_pos (by omega),if_pos (by omega)]; exact ⟨rfl,rfl⟩
theorem pt_lt {num den : Nat} {e x : Int} (h : e - x < 0) : ptN num e x = num ∧ ptD den e x = den * 10 ^ (-(e - x)).toNat:=by
 unfold ptN ptD; rw [if_neg (by omega),if_neg (by omega)]
 exact ⟨rfl,by congr 2; omega⟩
theorem ds_le_of_le {a b k : Nat} (h : a ≤ b) (hb : ds b ≤ k) : ds a ≤ k:=Nat.le_trans (ds_mono h) hb
theorem ptN_ge (num : Nat) (e x : Int) : num ≤ ptN num e x:=by
 unfold ptN; split
 ·exact Nat.le_mul_of_pos_right _ (Nat.pow_pos (by omega))
 ·exact Nat.le_refl _
theorem ptD_ge (den : Nat) (e x : Int) : den ≤ ptD den e x:=by
 unfold ptD; split
 ·exact Nat.le_refl _
 ·exact Nat.le_mul_of_pos_right _ (Nat.pow_pos (by omega))
def atP (num den : Nat) (e x : Int) : Prop:=0 < den ∧ ds (ptN num e x) ≤ 5600 ∧ ds (ptD den e x) ≤ 5600 ∧ -4096 < e - x ∧ e - x < 4096
theorem atP_d (num den : Nat) (e x : Int) : atP num den e x = (0 < den ∧ ds (ptN num e x) ≤ 5600 ∧ ds (ptD den e x) ≤ 5600 ∧ -4096 < e - x ∧ e - x < 4096):=rfl
theorem odd32 (n : Nat) : decide ((dg 4294967296 n).getD 0 0 % 2 = 1) = decide (n % 2 = 1):=by
 rcases Nat.eq_zero_or_pos n with rfl | h
 ·rfl
 ·rw [dg_pos _ _ (by omega) h]
  congr 1
  simp only [List.getD_cons_zero]
  exact propext ⟨fun h=>by omega,fun h=>by omega⟩
theorem dg_nil_iff (n : Nat) : ((dg 4294967296 n).length : Int) = 0 ↔ n = 0:=by
 have:=dg_len_pos 4294967296 n (by omega)
 omega
end Go.Proofs.NatL
namespace Go.Proofs.YtgkajjifbcmoeaaGreatDoor
set_option linter.unusedSimpArgs false
set_option linter.unusedVariables false
open Go.Abs Go.Proofs.NatL

abbrev gX (s : Bool) (num den : Nat) (e : Int) : List C:=[.b s,.ints .u32 (dg 4294967296 num),.ints .u32 (dg 4294967296 den),.i .i64 e]
abbrev nX : Option C ⊕ List (Option C):=.inr [none,some (.ints .u32 []),some (.ints .u32 []),none]
def db3d : Cfg:=listT [(82,timesTCT),(120,sizeCT),(124,lessCT),(85,(nat6CT pos2 rDivN))] [34]
theorem db3d_ok : TblOk Tryz.prog db3d:=listE_ok (by simp only [List.mem_singleton,forall_eq]; exact flt) ⟨⟨dc4,dc4_ok,rfl⟩,⟨dc1,dc1_ok,rfl⟩,⟨dc2,dc2_ok,rfl⟩,⟨dn6,dn6_ok,rfl⟩,trivial⟩
attribute [go_sem] db3d
set_option maxHeartbeats 1600000 in
theorem first_ret (s : Bool) (num den : Nat) (e : Int) (hn : ds num ≤ 4000) (hd : ds den ≤ 4000) (he : -100000 ≤ e ∧ e ≤ 100000) : Ret Tryz.prog 149 false [.inr (gX s num den e)] (.c (.i .i64 (firstE num den e))):=by
 have l1:=ds_600 (n:=num) (by omega)
 have l2:=ds_600 (n:=den) (by omega)
 obtain ⟨e1,e2⟩:=he
 generalize hN : (ds num : Int) - ds den = n
 rcases int_lt_ge n 0 with h0 | h0
 ·rw [first_lt hN h0]
  have l3:=ds_600 (n:=num * 10 ^ (-n).toNat) (ds_mul10 (by omega))
  have hN' : (0 : Int) - n = -n:=by omega
  generalize hM : num * 10 ^ (-n).toNat = M at *
  by_cases hl : M < den
  ·rw [if_pos hl]
   (refine q_H Tryz.func149 (fun F=>?_); simp only [q_z,q_y,Tryz.ntmps149,Tryz.results149])
   repeat' (first|with_reducible refine q_0 ?_|((with_reducible first|refine q_q db3d_ok fun K hK=>?_|refine q_r db3d_ok fun K hK=>?_);simp (maxSteps:=2000000) only [go_sem,↓reduceIte,reduceCtorEq,Nat.reduceLeDiff,Nat.reduceLT,Nat.reduceBEq,Nat.reduceAdd,V32,hN,hN',hM];(repeat1' with_reducible first|apply And.intro|(intro _;try exact q_v)|(refine hK _ ?_;clear hK K))<;>(try (clear hK K;exact q_u)))|(with_reducible refine q_s ?_;(first|apply q_J|apply q_K|apply q_L|apply q_M|apply q_N|apply q_O)<;>try (intro _;try exact q_v)))
   all_goals first | omega | exact q_A rfl | skip
  ·rw [if_neg hl]
   (refine q_H Tryz.func149 (fun F=>?_); simp only [q_z,q_y,Tryz.ntmps149,Tryz.results149])
   repeat' (first|with_reducible refine q_0 ?_|((with_reducible first|refine q_q db3d_ok fun K hK=>?_|refine q_r db3d_ok fun K hK=>?_);simp (maxSteps:=2000000) only [go_sem,↓reduceIte,reduceCtorEq,Nat.reduceLeDiff,Nat.reduceLT,Nat.reduceBEq,Nat.reduceAdd,V32,hN,hN',hM];(repeat1' with_reducible first|apply And.intro|(intro _;try exact q_v)|(refine hK _ ?_;clear hK K))<;>(try (clear hK K;exact q_u)))|(with_reducible refine q_s ?_;(first|apply q_J|apply q_K|apply q_L|apply q_M|apply q_N|apply q_O)<;>try (intro _;try exact q_v)))
   all_goals first | omega | exact q_A rfl | skip
 ·rw [first_ge hN h0]
  have l3:=ds_600 (n:=den * 10 ^ n.toNat) (ds_mul10 (by omega))
  generalize hM : den * 10 ^ n.toNat = M at *
  by_cases hl : num < M
  ·rw [if_pos hl]
   (refine q_H Tryz.func149 (fun F=>?_); simp only [q_z,q_y,Tryz.ntmps149,Tryz.results149])
   repeat' (first|with_reducible refine q_0 ?_|((with_reducible first|refine q_q db3d_ok fun K hK=>?_|refine q_r db3d_ok fun K hK=>?_);simp (maxSteps:=2000000) only [go_sem,↓reduceIte,reduceCtorEq,Nat.reduceLeDiff,Nat.reduceLT,Nat.reduceBEq,Nat.reduceAdd,V32,hN,hM];(repeat1' with_reducible first|apply And.intro|(intro _;try exact q_v)|(refine hK _ ?_;clear hK K))<;>(try (clear hK K;exact q_u)))|(with_reducible refine q_s ?_;(first|apply q_J|apply q_K|apply q_L|apply q_M|apply q_N|apply q_O)<;>try (intro _;try exact q_v)))
   all_goals first | omega | exact q_A rfl | skip
  ·rw [if_neg hl]
   (refine q_H Tryz.func149 (fun F=>?_); simp only [q_z,q_y,Tryz.ntmps149,Tryz.results149])
   repeat' (first|with_reducible refine q_0 ?_|((with_reducible first|refine q_q db3d_ok fun K hK=>?_|refine q_r db3d_ok fun K hK=>?_);simp (maxSteps:=2000000) only [go_sem,↓reduceIte,reduceCtorEq,Nat.reduceLeDiff,Nat.reduceLT,Nat.reduceBEq,Nat.reduceAdd,V32,hN,hM];(repeat1' with_reducible first|apply And.intro|(intro _;try exact q_v)|(refine hK _ ?_;clear hK K))<;>(try (clear hK K;exact q_u)))|(with_reducible refine q_s ?_;(first|apply q_J|apply q_K|apply q_L|apply q_M|apply q_N|apply q_O)<;>try (intro _;try exact q_v)))
   all_goals first | omega | exact q_A rfl | skip
def xCT (q : Nat → Nat → Int → Prop) (r : Bool → Nat → Nat → Int → AV) : CT:=mkCT [nX] false fun l K=>match l with
 | [.inr [.b s,.ints .u32 xs,.ints .u32 ys,.i .i64 e]]=>(InB 4294967296 xs ∧ Trd xs ∧ InB 4294967296 ys ∧ Trd ys ∧ q (V 4294967296 xs) (V 4294967296 ys) e) ∧ K (r s (V 4294967296 xs) (V 4294967296 ys) e)
 | _=>False
def fsP (num den : Nat) (e : Int) : Prop:=ds num ≤ 4000 ∧ ds den ≤ 4000 ∧ -100000 ≤ e ∧ e ≤ 100000
theorem fsP_d (num den : Nat) (e : Int) : fsP num den e = (ds num ≤ 4000 ∧ ds den ≤ 4000 ∧ -100000 ≤ e ∧ e ≤ 100000):=rfl
def rFs (_ : Bool) (num den : Nat) (e : Int) : AV:=.c (.i .i64 (firstE num den e))
def dd1x : Cfg:=addT 149 (xCT fsP rFs) cf0
theorem dd1x_ok : TblOk Tryz.prog dd1x:=q_I cf0_ok Tryz.func149 fun l K h=>by
 split at h
 ·rename_i s xs ys e
  obtain ⟨⟨h1,h2,h3,h4,h5,h6,h7⟩,h⟩:=h
  have e1:=dg_V 4294967296 (by omega) xs h1 h2
  have e2:=dg_V 4294967296 (by omega) ys h3 h4
  have:=first_ret s _ _ e h5 h6 h7
  rw [gX,e1,e2] at this
  exact ⟨_,this,h⟩
 ·exact h.elim
attribute [go_sem] xCT fsP_d rFs
set_option maxHeartbeats 1600000 in
theorem at_ret' (s : Bool) (num den : Nat) (e x : Int) (h : atP num den e x) (he : -100000 ≤ e ∧ e ≤ 100000) (hx : -100000 ≤ x ∧ x ≤ 100000) : Ret Tryz.prog 182 false [.inr (gX s num den e),.inl (.i .i64 x)]
  (.t [.inl (.ints .u32 (dg 4294967296 (qE num den e x))),.inl (.ints .u32 (dg 4294967296 (sE num den e x))),.inl (.ints .u32 (dg 4294967296 (ptD den e x)))]):=by
 obtain ⟨h1,h2,h3,h4,h5⟩:=h
 have l1:=ds_600 (n:=num) (Nat.le_trans (ds_mono (ptN_ge num e x)) (by omega))
 have l2:=ds_600 (n:=den) (Nat.le_trans (ds_mono (ptD_ge den e x)) (by omega))
 have hp:=ptD_pos h1 e x
 unfold qE sE
 rcases int_lt_ge (e - x) 0 with h0 | h0
 ·obtain ⟨e1,e2⟩:=pt_lt (num:=num) (den:=den) h0
  rw [e1] at h2
  rw [e2] at h3 hp
  rw [e1,e2]
  have l3:=ds_600 (n:=den * 10 ^ (-(e - x)).toNat) (by omega)
  have e3 : (0 : Int) - (e - x) = -(e - x):=by omega
  generalize hM : den * 10 ^ (-(e - x)).toNat = M at *
  (refine q_H Tryz.func182 (fun F=>?_); simp only [q_z,q_y,Tryz.ntmps182,Tryz.results182])
  repeat' (first|with_reducible refine q_0 ?_|((with_reducible first|refine q_q db3d_ok fun K hK=>?_|refine q_r db3d_ok fun K hK=>?_);simp (maxSteps:=2000000) only [go_sem,↓reduceIte,reduceCtorEq,Nat.reduceLeDiff,Nat.reduceLT,Nat.reduceBEq,Nat.reduceAdd,V32,e3,hM];(repeat1' with_reducible first|apply And.intro|(intro _;try exact q_v)|(refine hK _ ?_;clear hK K))<;>(try (clear hK K;exact q_u)))|(with_reducible refine q_s ?_;(first|apply q_J|apply q_K|apply q_L|apply q_M|apply q_N|apply q_O)<;>try (intro _;try exact q_v)))
  all_goals first | omega | exact q_A rfl | skip
 ·obtain ⟨e1,e2⟩:=pt_ge (num:=num) (den:=den) h0
  rw [e1] at h2
  rw [e2] at h3 hp
  rw [e1,e2]
  have l3:=ds_600 (n:=num * 10 ^ (e - x).toNat) (by omega)
  generalize hM : num * 10 ^ (e - x).toNat = M at *
  (refine q_H Tryz.func182 (fun F=>?_); simp only [q_z,q_y,Tryz.ntmps182,Tryz.results182])
  repeat' (first|with_reducible refine q_0 ?_|((with_reducible first|refine q_q db3d_ok fun K hK=>?_|refine q_r db3d_ok fun K hK=>?_);simp (maxSteps:=2000000) only [go_sem,↓reduceIte,reduceCtorEq,Nat.reduceLeDiff,Nat.reduceLT,Nat.reduceBEq,Nat.reduceAdd,V32,hM];(repeat1' with_reducible first|apply And.intro|(intro _;try exact q_v)|(refine hK _ ?_;clear hK K))<;>(try (clear hK K;exact q_u)))|(with_reducible refine q_s ?_;(first|apply q_J|apply q_K|apply q_L|apply q_M|apply q_N|apply q_O)<;>try (intro _;try exact q_v)))
  all_goals first | omega | exact q_A rfl | skip
def xatCT : CT:=mkCT [nX,.inl none] false fun l K=>match l with
 | [.inr [.b s,.ints .u32 xs,.ints .u32 ys,.i .i64 e],.inl (.i .i64 x)]=>(InB 4294967296 xs ∧ Trd xs ∧ InB 4294967296 ys ∧ Trd ys ∧ atP (V 4294967296 xs) (V 4294967296 ys) e x ∧ (-100000 ≤ e ∧ e ≤ 100000) ∧ (-100000 ≤ x ∧ x ≤ 100000)) ∧
   K (.t [.inl (.ints .u32 (dg 4294967296 (qE (V 4294967296 xs) (V 4294967296 ys) e x))),.inl (.ints .u32 (dg 4294967296 (sE (V 4294967296 xs) (V 4294967296 ys) e x))),.inl (.ints .u32 (dg 4294967296 (ptD (V 4294967296 ys) e x)))])
 | _=>False
def dd2x : Cfg:=addT 182 xatCT cf0
theorem dd2x_ok : TblOk Tryz.prog dd2x:=q_I cf0_ok Tryz.func182 fun l K h=>by
 split at h
 ·rename_i s xs ys e x
  obtain ⟨⟨h1,h2,h3,h4,h5,h6,h7⟩,h⟩:=h
  have e1:=dg_V 4294967296 (by omega) xs h1 h2
  have e2:=dg_V 4294967296 (by omega) ys h3 h4
  have:=at_ret' s _ _ e x h5 h6 h7
  rw [gX,e1,e2] at this
  exact ⟨_,this,h⟩
 ·exact h.elim
attribute [go_sem] xatCT atP_d
set_option maxHeartbeats 1600000 in
theorem away_ret (r : Int) (s o : Bool) (h : Int) : Ret Tryz.prog 183 false [.inl (.i .i64 r),.inl (.b s),.inl (.b o),.inl (.i .i64 h)] (.c (.b (awayB r s o h))):=by
 (refine q_H Tryz.func183 (fun F=>?_); simp only [q_z,q_y,Tryz.ntmps183,Tryz.results183])
 repeat' (first|with_reducible refine q_0 ?_|((with_reducible first|refine q_q db3d_ok fun K hK=>?_|refine q_r db3d_ok fun K hK=>?_);simp (maxSteps:=2000000) only [go_sem,↓reduceIte,reduceCtorEq,Nat.reduceLeDiff,Nat.reduceLT,Nat.reduceBEq,Nat.reduceAdd];(repeat1' with_reducible first|apply And.intro|(intro _;try exact q_v)|(refine hK _ ?_;clear hK K))<;>(try (clear hK K;exact q_u)))|(with_reducible refine q_s ?_;(first|apply q_J|apply q_K|apply q_L|apply q_M|apply q_N|apply q_O)<;>try (intro _;try exact q_v)))
 all_goals exact q_A (by simp [resAV,q_y,awayB, *])
def awayCT : CT:=mkCT [] true fun l K=>match l with
 | [.inl (.i .i64 r),.inl (.b s),.inl (.b o),.inl (.i .i64 h)]=>K (.c (.b (awayB r s o h)))
 | _=>False
def dd3x : Cfg:=addT 183 awayCT cf0
theorem dd3x_ok : TblOk Tryz.prog dd3x:=q_I cf0_ok Tryz.func183 fun l K h=>by
 split at h
 ·exact ⟨_,(away_ret _ _ _ _).plain rfl,h⟩
 ·exact h.elim
attribute [go_sem] awayCT
def db4d : Cfg:=listT [(182,xatCT),(183,awayCT),(125,(nat6CT pAdd rAddN)),(164,(nat6CT tr2 rCmpN))] [34]
theorem db4d_ok : TblOk Tryz.prog db4d:=listE_ok (by simp only [List.mem_singleton,forall_eq]; exact flt) ⟨⟨dd2x,dd2x_ok,rfl⟩,⟨dd3x,dd3x_ok,rfl⟩,⟨dn1,dn1_ok,rfl⟩,⟨dn4,dn4_ok,rfl⟩,trivial⟩
attribute [go_sem] db4d
set_option maxHeartbeats 1600000 in
theorem rounded_ret (s : Bool) (num den : Nat) (e x r : Int) (h : atP num den e x) (he : -100000 ≤ e ∧ e ≤ 100000) (hx : -100000 ≤ x ∧ x ≤ 100000) :
  Ret Tryz.prog 119 false [.inr (gX s num den e),.inl (.i .i64 x),.inl (.i .i64 r)]
  (.t [.inl (.ints .u32 (dg 4294967296 (rdE s num den e x r))),.inl (.b (decide (sE num den e x ≠ 0)))]):=by
 have h':=h
 obtain ⟨h1,h2,h3,h4,h5⟩:=h'
 have hp:=ptD_pos h1 e x
 have b1 : qE num den e x ≤ ptN num e x:=Nat.div_le_self _ _
 have b2 : sE num den e x < ptD den e x:=Nat.mod_lt _ hp
 have l1:=ds_600 (n:=ptD den e x) (by omega)
 have l2:=ds_600 (n:=qE num den e x) (by have:=ds_le_of_le b1 h2; omega)
 have l3:=ds_600 (n:=sE num den e x) (by have:=ds_le_of_le (Nat.le_of_lt b2) h3; omega)
 have l4:=ds_600 (n:=qE num den e x + 1) (by have:=ds_add (a:=qE num den e x) (b:=1) (k:=5600) (ds_le_of_le b1 h2) (by decide); omega)
 have l5:=ds_600 (n:=sE num den e x + sE num den e x) (by have:=ds_add (ds_le_of_le (Nat.le_of_lt b2) h3) (ds_le_of_le (Nat.le_of_lt b2) h3); omega)
 have e1 : ([1] : List Int) = dg 4294967296 1:=rfl
 have l6:=ds_600 (n:=1) (by decide)
 have b0:=(InB_getD (by omega) (InB_dg 4294967296 (by omega) (qE num den e x)) 0).1
 have hodd:=odd32 (qE num den e x)
 have hq:=dg_nil_iff (qE num den e x)
 have e2 : sE num den e x + sE num den e x = 2 * sE num den e x:=by omega
 have hz:=dg_nil_iff (sE num den e x)
 rw [e2] at l5
 unfold rdE
 generalize hQ : qE num den e x = Q at *
 generalize hS : sE num den e x = S at *
 generalize hD : ptD den e x = D at *
 by_cases hs : S = 0
 ·rw [if_pos hs]
  have hs0:=hz.2 hs
  subst hs
  (refine q_H Tryz.func119 (fun F=>?_); simp only [q_z,q_y,Tryz.ntmps119,Tryz.results119])
  repeat' (first|with_reducible refine q_0 ?_|((with_reducible first|refine q_q db4d_ok fun K hK=>?_|refine q_r db4d_ok fun K hK=>?_);simp (maxSteps:=2000000) only [go_sem,↓reduceIte,reduceCtorEq,Nat.reduceLeDiff,Nat.reduceLT,Nat.reduceBEq,Nat.reduceAdd,V32,hQ,hS,hD];(repeat1' with_reducible first|apply And.intro|(intro _;try exact q_v)|(refine hK _ ?_;clear hK K))<;>(try (clear hK K;exact q_u)))|(with_reducible refine q_s ?_;(first|apply q_J|apply q_K|apply q_L|apply q_M|apply q_N|apply q_O)<;>try (intro _;try exact q_v)))
  all_goals first | omega | exact q_A rfl | skip
 ·rw [if_neg hs]
  have hs0 : ¬ ((dg 4294967296 S).length : Int) = 0:=fun k=>hs (hz.1 k)
  have hs1 : decide (S ≠ 0) = true:=decide_eq_true hs
  rw [hs1]
  by_cases hq0 : Q = 0
  ·have hq1:=hq.2 hq0
   have hq2 : decide (Q % 2 = 1) = false:=decide_eq_false (by omega)
   rw [hq2]
   cases ha : awayB r s false (cmp3 (2 * S) D)
   all_goals
    (refine q_H Tryz.func119 (fun F=>?_); simp only [q_z,q_y,Tryz.ntmps119,Tryz.results119])
    repeat' (first|with_reducible refine q_0 ?_|((with_reducible first|refine q_q db4d_ok fun K hK=>?_|refine q_r db4d_ok fun K hK=>?_);simp (maxSteps:=2000000) only [go_sem,↓reduceIte,reduceCtorEq,Nat.reduceLeDiff,Nat.reduceLT,Nat.reduceBEq,Nat.reduceAdd,V32,hQ,hS,hD,e1,e2,ha];(repeat1' with_reducible first|apply And.intro|(intro _;try exact q_v)|(refine hK _ ?_;clear hK K))<;>(try (clear hK K;exact q_u)))|(with_reducible refine q_s ?_;(first|apply q_J|apply q_K|apply q_L|apply q_M|apply q_N|apply q_O)<;>try (intro _;try exact q_v)))
    all_goals first | omega | exact q_A rfl | skip
  ·have hq1 : ¬ ((dg 4294967296 Q).length : Int) = 0:=fun k=>hq0 (hq.1 k)
   cases ha : awayB r s (decide (Q % 2 = 1)) (cmp3 (2 * S) D)
   all_goals
    (refine q_H Tryz.func119 (fun F=>?_); simp only [q_z,q_y,Tryz.ntmps119,Tryz.results119])
    repeat' (first|with_reducible refine q_0 ?_|((with_reducible first|refine q_q db4d_ok fun K hK=>?_|refine q_r db4d_ok fun K hK=>?_);simp (maxSteps:=2000000) only [go_sem,↓reduceIte,reduceCtorEq,Nat.reduceLeDiff,Nat.reduceLT,Nat.reduceBEq,Nat.reduceAdd,V32,hQ,hS,hD,e1,e2,hodd,ha];(repeat1' with_reducible first|apply And.intro|(intro _;try exact q_v)|(refine hK _ ?_;clear hK K))<;>(try (clear hK K;exact q_u)))|(with_reducible refine q_s ?_;(first|apply q_J|apply q_K|apply q_L|apply q_M|apply q_N|apply q_O)<;>try (intro _;try exact q_v)))
    all_goals first | omega | exact q_A rfl | skip
def roundedCT : CT:=mkCT [nX,.inl none,.inl none] false fun l K=>match l with
 | [.inr [.b s,.ints .u32 xs,.ints .u32 ys,.i .i64 e],.inl (.i .i64 x),.inl (.i .i64 r)]=>(InB 4294967296 xs ∧ Trd xs ∧ InB 4294967296 ys ∧ Trd ys ∧ atP (V 4294967296 xs) (V 4294967296 ys) e x ∧ (-100000 ≤ e ∧ e ≤ 100000) ∧ (-100000 ≤ x ∧ x ≤ 100000)) ∧
   K (.t [.inl (.ints .u32 (dg 4294967296 (rdE s (V 4294967296 xs) (V 4294967296 ys) e x r))),.inl (.b (decide (sE (V 4294967296 xs) (V 4294967296 ys) e x ≠ 0)))])
 | _=>False
def dd4x : Cfg:=addT 119 roundedCT cf0
theorem dd4x_ok : TblOk Tryz.prog dd4x:=q_I cf0_ok Tryz.func119 fun l K h=>by
 split at h
 ·rename_i s xs ys e x r
  obtain ⟨⟨h1,h2,h3,h4,h5,h6,h7⟩,h⟩:=h
  have e1:=dg_V 4294967296 (by omega) xs h1 h2
  have e2:=dg_V 4294967296 (by omega) ys h3 h4
  have:=rounded_ret s _ _ e x r h5 h6 h7
  rw [gX,e1,e2] at this
  exact ⟨_,this,h⟩
 ·exact h.elim
attribute [go_sem] roundedCT
end Go.Proofs.YtgkajjifbcmoeaaGreatDoor

namespace Go.Abs
set_option linter.unusedSimpArgs false
set_option linter.unusedVariables false
open Go.RowKit
variable {P : Program}
theorem seq_cut8 {F : Fr} {Q : Exit → St → Prop} {st : St} {a0 a1 a2 a3 a4 a5 a6 a7 Y : Code} {ι : Type} (mid : ι → St) (h1 : ∀ Y',(∀ i,AWp P F Y' Q (mid i)) → AWp P F (.seq a0 (.seq a1 (.seq a2 (.seq a3 (.seq a4 (.seq a5 (.seq a6 (.seq a7 Y')))))))) Q st) (h2 : ∀ i,AWp P F Y Q (mid i)) : AWp P F (.seq a0 (.seq a1 (.seq a2 (.seq a3 (.seq a4 (.seq a5 (.seq a6 (.seq a7 Y)))))))) Q st:=h1 Y h2
theorem cut_fit {F : Fr} {Q : Exit → St → Prop} {st : St} {Y : Code} {ι : Type} {mid : ι → St} (hY : ∀ i,AWp P F Y Q (mid i)) (i : ι) (h : FitP st (mid i)) : AWp P F Y Q st:=awp_told (mid i) h (hY i)
end Go.Abs

namespace Go.Proofs.NatL
set_option linter.unusedSimpArgs false
set_option linter.unusedVariables false
def PF (num den : Nat) (e : Int) : Prop:=0 < den ∧ ds num ≤ 4000 ∧ ds den ≤ 1300 ∧ -2500 ≤ e ∧ e ≤ 2500
structure Cx where
 p : Int
 r : Int
 mn : Int
 mx : Int
def okCx (p r mn mx : Int) : Bool:=decide (1 ≤ p ∧ p ≤ 60 ∧ 0 ≤ r ∧ r ≤ 6 ∧ -999 ≤ mn ∧ mn ≤ 0 ∧ 0 ≤ mx ∧ mx ≤ 999)
theorem okCx_p {p r mn mx : Int} (h : okCx p r mn mx = true) : 1 ≤ p ∧ p ≤ 60 ∧ 0 ≤ r ∧ r ≤ 6 ∧ -999 ≤ mn ∧ mn ≤ 0 ∧ 0 ≤ mx ∧ mx ≤ 999:=by
 unfold okCx at h; exact of_decide_eq_true h
def OkC (c : Cx) : Prop:=1 ≤ c.p ∧ c.p ≤ 60 ∧ 0 ≤ c.r ∧ c.r ≤ 6 ∧ -999 ≤ c.mn ∧ c.mn ≤ 0 ∧ 0 ≤ c.mx ∧ c.mx ≤ 999
theorem fit_at {num den : Nat} {e : Int} (h : PF num den e) (hn : 0 < num) {p mn : Int} (hp : 1 ≤ p ∧ p ≤ 60) (hm : -999 ≤ mn ∧ mn ≤ 0) : atP num den e (fitEx num den e p mn):=by
 obtain ⟨h1,h2,h3,h4,h5⟩:=h
 obtain ⟨p1,p2⟩:=hp
 obtain ⟨m1,m2⟩:=hm
 obtain ⟨b1,b2⟩:=first_bounds hn h1 e
 have d1:=ds_pos.2 hn
 have d2:=ds_pos.2 h1
 have hx1 : fitEx num den e p mn ≤ max ((ds num : Int) - ds den + e - p + 1) (mn - p + 1):=by unfold fitEx tinyE; unfold guessE at b1 b2; omega
 have hx2 : (ds num : Int) - ds den + e - p ≤ fitEx num den e p mn:=by unfold fitEx tinyE; unfold guessE at b1 b2; omega
 generalize fitEx num den e p mn = x at *
 refine ⟨h1,?_,?_,by omega,by omega⟩
 ·rcases int_lt_ge (e - x) 0 with h0 | h0
  ·rw [(pt_lt (den:=den) h0).1]; omega
  ·rw [(pt_ge (den:=den) h0).1]; exact ds_mul10 (by omega)
 ·rcases int_lt_ge (e - x) 0 with h0 | h0
  ·rw [(pt_lt (num:=num) h0).2]; exact ds_mul10 (by omega)
  ·rw [(pt_ge (num:=num) h0).2]; omega
theorem fitEx_bd {num den : Nat} {e : Int} (h : PF num den e) (hn : 0 < num) {p mn : Int} (hp : 1 ≤ p ∧ p ≤ 60) (hm : -999 ≤ mn ∧ mn ≤ 0) : -1060 ≤ fitEx num den e p mn ∧ fitEx num den e p mn ≤ 6500:=by
 obtain ⟨h1,h2,h3,h4,h5⟩:=h
 obtain ⟨p1,p2⟩:=hp
 obtain ⟨m1,m2⟩:=hm
 obtain ⟨b1,b2⟩:=first_bounds hn h1 e
 unfold fitEx tinyE; unfold guessE at b1 b2; omega
theorem rdE_len {neg : Bool} {num den : Nat} (hn : 0 < num) (hd : 0 < den) {exp p mn r : Int} (hp : 1 ≤ p ∧ p ≤ 60) : ds (rdE neg num den exp (fitEx num den exp p mn) r) ≤ 61:=by
 have h:=fit_round_le (neg:=neg) (r:=r) (mn:=mn) hn hd (exp:=exp) hp.1
 refine ds_le (Nat.lt_of_le_of_lt h (Nat.pow_lt_pow_right (by omega) (by omega)))
theorem twd_len (k c : Nat) (e : Int) : ds (twd k c e).1 ≤ ds c:=ds_mono (twd_le k c e).1
theorem twd_exp : ∀ (k c : Nat) (e : Int),(twd k c e).2 ≤ e + k
 | 0,c,e=>by simp [twd]
 | k + 1,c,e=>by
  unfold twd; split
  ·have:=twd_exp k (c / 10) (e + 1); omega
  ·simp only; omega
theorem fit_zero (neg : Bool) {num : Nat} (den : Nat) (exp ideal p r mn mx : Int) (h : num = 0) : fitD neg num den exp ideal p r mn mx = ⟨0,neg,0,min (max ideal (tinyE p mn)) mx⟩ ∧ fitS neg num den exp ideal p r mn mx = 0:=by
 unfold fitD fitS; rw [if_pos h,if_pos h]; exact ⟨rfl,rfl⟩
theorem fit_over {neg : Bool} {num den : Nat} {exp ideal p r mn mx : Int} (h : 0 < num) {c : Nat} {e : Int} (hc : fitCE neg num den exp ideal p r mn = (c,e)) (ho : 0 < c ∧ mx < (ds c : Int) - 1 + e) : fitD neg num den exp ideal p r mn mx = ovf neg p r mx ∧ fitS neg num den exp ideal p r mn mx = 9:=by
 have h0 : ¬ num = 0:=by omega
 unfold fitD fitS; rw [if_neg h0,if_neg h0,hc,if_pos ho,if_pos ho]; exact ⟨rfl,rfl⟩
theorem fit_fine {neg : Bool} {num den : Nat} {exp ideal p r mn mx : Int} (h : 0 < num) {c : Nat} {e : Int} (hc : fitCE neg num den exp ideal p r mn = (c,e)) (ho : ¬ (0 < c ∧ mx < (ds c : Int) - 1 + e)) : fitD neg num den exp ideal p r mn mx = ⟨0,neg,c,e⟩ ∧ fitS neg num den exp ideal p r mn mx = sigE num den exp p mn:=by
 have h0 : ¬ num = 0:=by omega
 unfold fitD fitS; rw [if_neg h0,if_neg h0,hc,if_neg ho,if_neg ho]; exact ⟨rfl,rfl⟩
theorem ce_exact {neg : Bool} {num den : Nat} {exp ideal p r mn : Int} (h : sE num den exp (fitEx num den exp p mn) = 0) : fitCE neg num den exp ideal p r mn = twd (ideal - fitEx num den exp p mn).toNat (rdE neg num den exp (fitEx num den exp p mn) r) (fitEx num den exp p mn):=by
 unfold fitCE; rw [if_pos h]
theorem ce_long {neg : Bool} {num den : Nat} {exp ideal p r mn : Int} (h : ¬ sE num den exp (fitEx num den exp p mn) = 0) (h2 : p < ds (rdE neg num den exp (fitEx num den exp p mn) r)) : fitCE neg num den exp ideal p r mn = (rdE neg num den exp (fitEx num den exp p mn) r / 10,fitEx num den exp p mn + 1):=by
 unfold fitCE; rw [if_neg h,if_pos h2]
theorem ce_short {neg : Bool} {num den : Nat} {exp ideal p r mn : Int} (h : ¬ sE num den exp (fitEx num den exp p mn) = 0) (h2 : ¬ p < ds (rdE neg num den exp (fitEx num den exp p mn) r)) : fitCE neg num den exp ideal p r mn = (rdE neg num den exp (fitEx num den exp p mn) r,fitEx num den exp p mn):=by
 unfold fitCE; rw [if_neg h,if_neg h2]
theorem or02 : Go.Abs.bitI .or .i64 0 2 = 2:=by decide
theorem or01 : Go.Abs.bitI .or .i64 0 1 = 1:=by decide
theorem or21 : Go.Abs.bitI .or .i64 2 1 = 3:=by decide
theorem or34 : Go.Abs.bitI .or .i64 3 4 = 7:=by decide
end Go.Proofs.NatL
namespace Go.Proofs.YtgkajjifbcmoeaaGreatDoor
set_option linter.unusedSimpArgs false
set_option linter.unusedVariables false
open Go.Abs Go.Proofs.NatL

abbrev gDc (D : Dc) : List C:=[.i .i64 D.kind,.b D.neg,.b false,.ints .u32 (dg 4294967296 D.coef),.i .i64 D.exp]
abbrev nDc : Option C ⊕ List (Option C):=.inr [none,none,none,some (.ints .u32 []),none]
abbrev gCx (c : Cx) : List C:=[.i .i64 c.p,.i .i64 c.r,.i .i64 c.mn,.i .i64 c.mx]
def db5d : Cfg:=listT [(85,(nat6CT pos2 rDivN))] [34]
theorem db5d_ok : TblOk Tryz.prog db5d:=listE_ok (by simp only [List.mem_singleton,forall_eq]; exact flt) ⟨⟨dn6,dn6_ok,rfl⟩,trivial⟩
attribute [go_sem] db5d
set_option maxHeartbeats 800000 in
theorem finite_ret (s : Bool) (xs : List Int) (e : Int) : Ret Tryz.prog 75 false [.inl (.b s),.inl (.ints .u32 xs),.inl (.i .i64 e)] (.g [.i .i64 0,.b s,.b false,.ints .u32 xs,.i .i64 e]):=by
 (refine q_H Tryz.func75 (fun F=>?_); simp only [q_z,q_y,Tryz.ntmps75,Tryz.results75])
 repeat' (first|with_reducible refine q_0 ?_|((with_reducible first|refine q_q db5d_ok fun K hK=>?_|refine q_r db5d_ok fun K hK=>?_);simp (maxSteps:=2000000) only [go_sem,↓reduceIte,reduceCtorEq,Nat.reduceLeDiff,Nat.reduceLT,Nat.reduceBEq,Nat.reduceAdd];(repeat1' with_reducible first|apply And.intro|(intro _;try exact q_v)|(refine hK _ ?_;clear hK K))<;>(try (clear hK K;exact q_u)))|(with_reducible refine q_s ?_;(first|apply q_J|apply q_K|apply q_L|apply q_M|apply q_N|apply q_O)<;>try (intro _;try exact q_v)))
 all_goals first | omega | exact q_A rfl | skip
def finiteCT : CT:=mkCT [.inl none,nU] false fun l K=>match l with
 | [.inl (.b s),.inl (.ints .u32 xs),.inl (.i .i64 e)]=>K (.g [.i .i64 0,.b s,.b false,.ints .u32 xs,.i .i64 e])
 | _=>False
def de1 : Cfg:=addT 75 finiteCT cf0
theorem de1_ok : TblOk Tryz.prog de1:=q_I cf0_ok Tryz.func75 fun l K h=>by
 split at h
 ·exact ⟨_,finite_ret _ _ _,h⟩
 ·exact h.elim
set_option maxHeartbeats 800000 in
theorem infinite_ret (s : Bool) : Ret Tryz.prog 74 false [.inl (.b s)] (.g [.i .i64 1,.b s,.b false,.ints .u32 [],.i .i64 0]):=by
 (refine q_H Tryz.func74 (fun F=>?_); simp only [q_z,q_y,Tryz.ntmps74,Tryz.results74])
 repeat' (first|with_reducible refine q_0 ?_|((with_reducible first|refine q_q db5d_ok fun K hK=>?_|refine q_r db5d_ok fun K hK=>?_);simp (maxSteps:=2000000) only [go_sem,↓reduceIte,reduceCtorEq,Nat.reduceLeDiff,Nat.reduceLT,Nat.reduceBEq,Nat.reduceAdd];(repeat1' with_reducible first|apply And.intro|(intro _;try exact q_v)|(refine hK _ ?_;clear hK K))<;>(try (clear hK K;exact q_u)))|(with_reducible refine q_s ?_;(first|apply q_J|apply q_K|apply q_L|apply q_M|apply q_N|apply q_O)<;>try (intro _;try exact q_v)))
 all_goals first | omega | exact q_B [nDc] rfl rfl | exact q_A rfl | skip
def infiniteCT : CT:=mkCT [.inl none] false fun l K=>match l with
 | [.inl (.b s)]=>K (.g [.i .i64 1,.b s,.b false,.ints .u32 [],.i .i64 0])
 | _=>False
def de2 : Cfg:=addT 74 infiniteCT cf0
theorem de2_ok : TblOk Tryz.prog de2:=q_I cf0_ok Tryz.func74 fun l K h=>by
 split at h
 ·exact ⟨_,infinite_ret _,h⟩
 ·exact h.elim
set_option maxHeartbeats 800000 in
theorem tiny_ret (p r mn mx : Int) (h : okCx p r mn mx = true) : Ret Tryz.prog 76 false [.inr [.i .i64 p,.i .i64 r,.i .i64 mn,.i .i64 mx]] (.c (.i .i64 (tinyE p mn))):=by
 have h:=okCx_p h
 have e : mn - p + 1 = tinyE p mn:=rfl
 (refine q_H Tryz.func76 (fun F=>?_); simp only [q_z,q_y,Tryz.ntmps76,Tryz.results76])
 repeat' (first|with_reducible refine q_0 ?_|((with_reducible first|refine q_q db5d_ok fun K hK=>?_|refine q_r db5d_ok fun K hK=>?_);simp (maxSteps:=2000000) only [go_sem,↓reduceIte,reduceCtorEq,Nat.reduceLeDiff,Nat.reduceLT,Nat.reduceBEq,Nat.reduceAdd];(repeat1' with_reducible first|apply And.intro|(intro _;try exact q_v)|(refine hK _ ?_;clear hK K))<;>(try (clear hK K;exact q_u)))|(with_reducible refine q_s ?_;(first|apply q_J|apply q_K|apply q_L|apply q_M|apply q_N|apply q_O)<;>try (intro _;try exact q_v)))
 all_goals first | omega | exact q_A rfl | skip
def tinyCT : CT:=mkCT [.inr [none,none,none,none]] true fun l K=>match l with
 | [.inr [.i .i64 p,.i .i64 r,.i .i64 mn,.i .i64 mx]]=>okCx p r mn mx = true ∧ K (.c (.i .i64 (tinyE p mn)))
 | _=>False
def de3 : Cfg:=addT 76 tinyCT cf0
theorem de3_ok : TblOk Tryz.prog de3:=q_I cf0_ok Tryz.func76 fun l K h=>by
 split at h
 ·exact ⟨_,(tiny_ret _ _ _ _ h.1).plain rfl,h.2⟩
 ·exact h.elim
attribute [go_sem] finiteCT infiniteCT tinyCT
set_option maxHeartbeats 1600000 in
theorem toward_ret (c : Nat) (e i : Int) (h : (dg 4294967296 c).length ≤ 600) (he : -100000 ≤ e ∧ e ≤ 100000) (hi : -100000 ≤ i ∧ i ≤ 100000) :
  Ret Tryz.prog 118 false [.inl (.ints .u32 (dg 4294967296 c)),.inl (.i .i64 e),.inl (.i .i64 i)] (.t [.inl (.ints .u32 (dg 4294967296 (twd (i - e).toNat c e).1)),.inl (.i .i64 (twd (i - e).toNat c e).2)]):=by
 have e10 : ([10] : List Int) = dg 4294967296 10:=(dg_ten 10 (by omega) (by omega)).symm
 have l10 : (dg 4294967296 10).length ≤ 600:=by rw [dg_ten 10 (by omega) (by omega)]; simp
 (refine q_H Tryz.func118 (fun F=>?_); simp only [q_z,q_y,Tryz.ntmps118,Tryz.results118])
 repeat' (first|with_reducible refine q_0 ?_|((with_reducible first|refine q_q db5d_ok fun K hK=>?_|refine q_r db5d_ok fun K hK=>?_);simp (maxSteps:=2000000) only [go_sem,↓reduceIte,reduceCtorEq,Nat.reduceLeDiff,Nat.reduceLT,Nat.reduceBEq,Nat.reduceAdd];(repeat1' with_reducible first|apply And.intro|(intro _;try exact q_v)|(refine hK _ ?_;clear hK K))<;>(try (clear hK K;exact q_u)))|(with_reducible refine q_s ?_;(first|apply q_J|apply q_K|apply q_L|apply q_M|apply q_N|apply q_O)<;>try (intro _;try exact q_v)))
 all_goals first | omega | skip
 generalize hT : twd (i - e).toNat c e = T
 obtain ⟨Tc,Te⟩:=T
 refine q_G (ι:={ q : Nat × Int // twd (i - q.2).toNat q.1 q.2 = (Tc,Te) ∧ (dg 4294967296 q.1).length ≤ 600 ∧ -100000 ≤ q.2 ∧ q.2 ≤ 100000 }) (fun q=>⟨29,[(0,.c (.ints .u32 (dg 4294967296 q.1.1))),(1,.c (.i .i64 q.1.2)),(2,.c (.i .i64 i))],⟨[],[],[]⟩,0⟩) (fun q=>(i - q.1.2).toNat) ⟨(c,e),hT,h,he⟩ ?_ ?_
 ·exact q_D
 rintro ⟨⟨k,x⟩,g1,g2,g3,g4⟩
 simp only at g1 g2 g3 g4 ⊢
 by_cases hx : x < i
 ·obtain ⟨j,hj⟩ : ∃ j,(i - x).toNat = j + 1:=⟨(i - x).toNat - 1,by omega⟩
  have hj2 : (i - (x + 1)).toNat = j:=by omega
  rw [hj] at g1
  have ht : twd (j + 1) k x = if k % 10 = 0 then twd j (k / 10) (x + 1) else (k,x):=rfl
  rw [ht] at g1
  have hz:=dg_nil_iff (k % 10)
  by_cases hk : k % 10 = 0
  ·rw [if_pos hk] at g1
   have hz:=hz.2 hk
   have lk:=Nat.le_trans (dg_len_mono (B:=4294967296) (by omega) (Nat.div_le_self k 10)) g2
   rw [hk] at hz
   repeat' (first|with_reducible refine q_0 ?_|((with_reducible first|refine q_q db5d_ok fun K hK=>?_|refine q_r db5d_ok fun K hK=>?_);simp (maxSteps:=2000000) only [go_sem,↓reduceIte,reduceCtorEq,Nat.reduceLeDiff,Nat.reduceLT,Nat.reduceBEq,Nat.reduceAdd,V32,e10,hk];(repeat1' with_reducible first|apply And.intro|(intro _;try exact q_v)|(refine hK _ ?_;clear hK K))<;>(try (clear hK K;exact q_u)))|(with_reducible refine q_s ?_;(first|apply q_J|apply q_K|apply q_L|apply q_M|apply q_N|apply q_O)<;>try (intro _;try exact q_v)))
   all_goals first | omega | skip
   refine q_F ⟨(k / 10,x + 1),by simp only; rw [hj2]; exact g1,lk,by simp only; omega,by simp only; omega⟩ ?_ (by simp only; omega)
   exact q_D
  ·rw [if_neg hk] at g1
   obtain ⟨rfl,rfl⟩:=Prod.mk.inj g1
   have lk:=Nat.le_trans (dg_len_mono (B:=4294967296) (by omega) (Nat.mod_le k 10)) g2
   have hz : ¬ ((dg 4294967296 (k % 10)).length : Int) = 0:=fun q=>hk (hz.1 q)
   repeat' (first|with_reducible refine q_0 ?_|((with_reducible first|refine q_q db5d_ok fun K hK=>?_|refine q_r db5d_ok fun K hK=>?_);simp (maxSteps:=2000000) only [go_sem,↓reduceIte,reduceCtorEq,Nat.reduceLeDiff,Nat.reduceLT,Nat.reduceBEq,Nat.reduceAdd,V32,e10];(repeat1' with_reducible first|apply And.intro|(intro _;try exact q_v)|(refine hK _ ?_;clear hK K))<;>(try (clear hK K;exact q_u)))|(with_reducible refine q_s ?_;(first|apply q_J|apply q_K|apply q_L|apply q_M|apply q_N|apply q_O)<;>try (intro _;try exact q_v)))
   all_goals first | omega | exact q_A rfl | skip
 ·have hj : (i - x).toNat = 0:=by omega
  rw [hj] at g1
  have ht : twd 0 k x = (k,x):=rfl
  rw [ht] at g1
  obtain ⟨rfl,rfl⟩:=Prod.mk.inj g1
  repeat' (first|with_reducible refine q_0 ?_|((with_reducible first|refine q_q db5d_ok fun K hK=>?_|refine q_r db5d_ok fun K hK=>?_);simp (maxSteps:=2000000) only [go_sem,↓reduceIte,reduceCtorEq,Nat.reduceLeDiff,Nat.reduceLT,Nat.reduceBEq,Nat.reduceAdd];(repeat1' with_reducible first|apply And.intro|(intro _;try exact q_v)|(refine hK _ ?_;clear hK K))<;>(try (clear hK K;exact q_u)))|(with_reducible refine q_s ?_;(first|apply q_J|apply q_K|apply q_L|apply q_M|apply q_N|apply q_O)<;>try (intro _;try exact q_v)))
  all_goals first | omega | exact q_A rfl | skip
def towardCT : CT:=mkCT [nU] false fun l K=>match l with
 | [.inl (.ints .u32 xs),.inl (.i .i64 e),.inl (.i .i64 i)]=>(InB 4294967296 xs ∧ Trd xs ∧ xs.length ≤ 600 ∧ (-100000 ≤ e ∧ e ≤ 100000) ∧ (-100000 ≤ i ∧ i ≤ 100000)) ∧
   K (.t [.inl (.ints .u32 (dg 4294967296 (twd (i - e).toNat (V 4294967296 xs) e).1)),.inl (.i .i64 (twd (i - e).toNat (V 4294967296 xs) e).2)])
 | _=>False
def de3b : Cfg:=addT 118 towardCT cf0
theorem de3b_ok : TblOk Tryz.prog de3b:=q_I cf0_ok Tryz.func118 fun l K h=>by
 split at h
 ·rename_i xs e i
  obtain ⟨⟨h1,h2,h3,h4,h5⟩,h⟩:=h
  have e1:=dg_V 4294967296 (by omega) xs h1 h2
  have:=toward_ret (V 4294967296 xs) e i (by rw [e1]; exact h3) h4 h5
  rw [e1] at this
  exact ⟨_,this,h⟩
 ·exact h.elim
attribute [go_sem] towardCT
def db6d : Cfg:=listT [(183,awayCT),(74,infiniteCT),(75,finiteCT),(83,powerCT),(165,(nat6CT le2 rSubN))] [34]
theorem db6d_ok : TblOk Tryz.prog db6d:=listE_ok (by simp only [List.mem_singleton,forall_eq]; exact flt) ⟨⟨dd3x,dd3x_ok,rfl⟩,⟨de2,de2_ok,rfl⟩,⟨de1,de1_ok,rfl⟩,⟨dc3,dc3_ok,rfl⟩,⟨dn3,dn3_ok,rfl⟩,trivial⟩
attribute [go_sem] db6d
set_option maxHeartbeats 1600000 in
theorem overflow_ret (s : Bool) (p r mn mx : Int) (h : okCx p r mn mx = true) : Ret Tryz.prog 150 false [.inl (.b s),.inr [.i .i64 p,.i .i64 r,.i .i64 mn,.i .i64 mx]] (.g (gDc (ovf s p r mx))):=by
 have h:=okCx_p h
 have e1 : ([1] : List Int) = dg 4294967296 1:=rfl
 have l1:=ten_600 (k:=p.toNat) (by omega)
 have p1 : 1 ≤ 10 ^ p.toNat:=Nat.pow_pos (by omega)
 have l6:=ds_600 (n:=1) (by decide)
 unfold ovf
 cases ha : awayB r s true 1
 ·simp only [Bool.false_eq_true,if_false]
  (refine q_H Tryz.func150 (fun F=>?_); simp only [q_z,q_y,Tryz.ntmps150,Tryz.results150])
  repeat' (first|with_reducible refine q_0 ?_|((with_reducible first|refine q_q db6d_ok fun K hK=>?_|refine q_r db6d_ok fun K hK=>?_);simp (maxSteps:=2000000) only [go_sem,↓reduceIte,reduceCtorEq,Nat.reduceLeDiff,Nat.reduceLT,Nat.reduceBEq,Nat.reduceAdd,V32,e1,ha];(repeat1' with_reducible first|apply And.intro|(intro _;try exact q_v)|(refine hK _ ?_;clear hK K))<;>(try (clear hK K;exact q_u)))|(with_reducible refine q_s ?_;(first|apply q_J|apply q_K|apply q_L|apply q_M|apply q_N|apply q_O)<;>try (intro _;try exact q_v)))
  all_goals first | omega | exact q_A rfl | skip
 ·simp only [if_true]
  (refine q_H Tryz.func150 (fun F=>?_); simp only [q_z,q_y,Tryz.ntmps150,Tryz.results150])
  repeat' (first|with_reducible refine q_0 ?_|((with_reducible first|refine q_q db6d_ok fun K hK=>?_|refine q_r db6d_ok fun K hK=>?_);simp (maxSteps:=2000000) only [go_sem,↓reduceIte,reduceCtorEq,Nat.reduceLeDiff,Nat.reduceLT,Nat.reduceBEq,Nat.reduceAdd,V32,e1,ha];(repeat1' with_reducible first|apply And.intro|(intro _;try exact q_v)|(refine hK _ ?_;clear hK K))<;>(try (clear hK K;exact q_u)))|(with_reducible refine q_s ?_;(first|apply q_J|apply q_K|apply q_L|apply q_M|apply q_N|apply q_O)<;>try (intro _;try exact q_v)))
  all_goals first | omega | exact q_A rfl | skip
def overflowCT : CT:=mkCT [.inl none,.inr [none,none,none,none]] false fun l K=>match l with
 | [.inl (.b s),.inr [.i .i64 p,.i .i64 r,.i .i64 mn,.i .i64 mx]]=>okCx p r mn mx = true ∧ K (.g (gDc (ovf s p r mx)))
 | _=>False
def de3c : Cfg:=addT 150 overflowCT cf0
theorem de3c_ok : TblOk Tryz.prog de3c:=q_I cf0_ok Tryz.func150 fun l K h=>by
 split at h
 ·exact ⟨_,overflow_ret _ _ _ _ _ h.1,h.2⟩
 ·exact h.elim
attribute [go_sem] overflowCT
def dbfd : Cfg:=listT [(149,(xCT fsP rFs)),(119,roundedCT),(76,tinyCT),(75,finiteCT),(120,sizeCT),(118,towardCT),(150,overflowCT),(85,(nat6CT pos2 rDivN))] [34]
theorem dbfd_ok : TblOk Tryz.prog dbfd:=listE_ok (by simp only [List.mem_singleton,forall_eq]; exact flt) ⟨⟨dd1x,dd1x_ok,rfl⟩,⟨dd4x,dd4x_ok,rfl⟩,⟨de3,de3_ok,rfl⟩,⟨de1,de1_ok,rfl⟩,⟨dc1,dc1_ok,rfl⟩,⟨de3b,de3b_ok,rfl⟩,⟨de3c,de3c_ok,rfl⟩,⟨dn6,dn6_ok,rfl⟩,trivial⟩
attribute [go_sem] dbfd
set_option maxHeartbeats 6400000 in
theorem dfit_ret (s : Bool) (num den : Nat) (e ideal p r mn mx : Int) (hP : PF num den e) (hc : okCx p r mn mx = true) (hi : -10000 ≤ ideal ∧ ideal ≤ 10000) :
  Ret Tryz.prog 77 false [.inr (gX s num den e),.inl (.i .i64 ideal),.inr [.i .i64 p,.i .i64 r,.i .i64 mn,.i .i64 mx]]
   (.t [.inr (gDc (fitD s num den e ideal p r mn mx)),.inl (.i .i64 (fitS s num den e ideal p r mn mx))]):=by
 have hcc:=hc
 obtain ⟨c1,c2,c3,c4,c5,c6,c7,c8⟩:=okCx_p hcc
 have hPP:=hP
 obtain ⟨p1,p2,p3,p4,p5⟩:=hPP
 have hz:=dg_nil_iff num
 have l1:=ds_600 (n:=num) (by omega)
 have l2:=ds_600 (n:=den) (by omega)
 by_cases h0 : num = 0
 ·obtain ⟨f1,f2⟩:=fit_zero s den e ideal p r mn mx h0
  rw [f1,f2]
  have hz:=hz.2 h0
  have ht : tinyE p mn = mn - p + 1:=rfl
  (refine q_H Tryz.func77 (fun F=>?_); simp only [q_z,q_y,Tryz.ntmps77,Tryz.results77])
  repeat' (first|with_reducible refine q_0 ?_|((with_reducible first|refine q_q dbfd_ok fun K hK=>?_|refine q_r dbfd_ok fun K hK=>?_);simp (maxSteps:=2000000) only [go_sem,↓reduceIte,reduceCtorEq,Nat.reduceLeDiff,Nat.reduceLT,Nat.reduceBEq,Nat.reduceAdd,V32,hc];(repeat1' with_reducible first|apply And.intro|(intro _;try exact q_v)|(refine hK _ ?_;clear hK K))<;>(try (clear hK K;exact q_u)))|(with_reducible refine q_s ?_;(first|apply q_J|apply q_K|apply q_L|apply q_M|apply q_N|apply q_O)<;>try (intro _;try exact q_v)))
  all_goals first | omega | exact q_A rfl | skip
 have hn : 0 < num:=by omega
 have hz : ¬ ((dg 4294967296 num).length : Int) = 0:=fun h=>h0 (hz.1 h)
 obtain ⟨_,ha2,ha3,ha4,ha5⟩:=fit_at hP hn ⟨c1,c2⟩ ⟨c5,c6⟩
 obtain ⟨x1,x2⟩:=fitEx_bd hP hn ⟨c1,c2⟩ ⟨c5,c6⟩
 have hr:=rdE_len (neg:=s) (r:=r) (mn:=mn) hn p1 (exp:=e) ⟨c1,c2⟩
 have over:=fun {c : Nat} {x : Int}=>fit_over (neg:=s) (num:=num) (den:=den) (exp:=e) (ideal:=ideal) (p:=p) (r:=r) (mn:=mn) (mx:=mx) hn (c:=c) (e:=x)
 have fine:=fun {c : Nat} {x : Int}=>fit_fine (neg:=s) (num:=num) (den:=den) (exp:=e) (ideal:=ideal) (p:=p) (r:=r) (mn:=mn) (mx:=mx) hn (c:=c) (e:=x)
 have cex:=ce_exact (neg:=s) (num:=num) (den:=den) (exp:=e) (ideal:=ideal) (p:=p) (r:=r) (mn:=mn)
 have clo:=ce_long (neg:=s) (num:=num) (den:=den) (exp:=e) (ideal:=ideal) (p:=p) (r:=r) (mn:=mn)
 have csh:=ce_short (neg:=s) (num:=num) (den:=den) (exp:=e) (ideal:=ideal) (p:=p) (r:=r) (mn:=mn)
 obtain ⟨b1,b2⟩:=first_bounds hn p1 e
 unfold guessE at b1 b2
 have hsig : sigE num den e p mn = (if firstE num den e < mn then 2 else 0) + (if sE num den e (fitEx num den e p mn) = 0 then 0 else 1 + (if firstE num den e < mn then 4 else 0)):=rfl
 have hX : max (firstE num den e - p + 1) (tinyE p mn) = fitEx num den e p mn:=rfl
 have ht : tinyE p mn = mn - p + 1:=rfl
 generalize hSg : sigE num den e p mn = SG at *
 generalize hR : rdE s num den e (fitEx num den e p mn) r = R at *
 generalize hSs : sE num den e (fitEx num den e p mn) = S at *
 generalize hF : firstE num den e = F0 at *
 generalize hXX : fitEx num den e p mn = X at *
 generalize hCE : fitCE s num den e ideal p r mn = CE at *
 have l3:=ds_600 (n:=R) (by omega)
 have or2:=or02
 have or1:=or01
 have or3:=or21
 have or7:=or34
 have l4:=ds_div10 R
 have l5:=ds_600 (n:=R / 10) (by omega)
 have d10 : ([10] : List Int) = dg 4294967296 10:=(dg_ten 10 (by omega) (by omega)).symm
 have l10 : (dg 4294967296 10).length ≤ 600:=by rw [dg_ten 10 (by omega) (by omega)]; simp
 have hcb : ds CE.1 ≤ 5000 ∧ -10000 ≤ CE.2 ∧ CE.2 ≤ 20001:=by
  by_cases hS : S = 0
  ·rw [cex hS]
   have w1:=(twd_le (ideal - X).toNat R X)
   have w2:=twd_exp (ideal - X).toNat R X
   have w3:=twd_len (ideal - X).toNat R X
   omega
  ·by_cases hl : p < (ds R : Int)
   ·rw [clo hS hl]; simp only; omega
   ·rw [csh hS hl]; simp only; omega
 (refine q_H Tryz.func77 (fun F=>?_); simp only [q_z,q_y,Tryz.ntmps77,Tryz.results77])
 refine seq_cut8 (ι:=Unit) (fun _=>⟨104,[(3,.bx 0 0),(5,.bx 1 0),(6,.bx 2 0),(9,.c (.i .i64 CE.2)),(10,.c (.ints .u32 (dg 4294967296 CE.1))),(12,.c (.i .i64 SG))],⟨[(2,[.c (.i .i64 0),.c (.b false),.c (.b false),.c .nil,.c (.i .i64 0)]),(1,[.c (.i .i64 p),.c (.i .i64 r),.c (.i .i64 mn),.c (.i .i64 mx)]),(0,[.c (.b s),.c (.ints .u32 (dg 4294967296 num)),.c (.ints .u32 (dg 4294967296 den)),.c (.i .i64 e)])],[],[]⟩,3⟩) (fun Y hY=>?_) ?_
 ·clear over fine
  by_cases hS : S = 0
  ·have cex:=cex hS
   clear clo csh
   have hb : decide (S ≠ 0) = false:=decide_eq_false (by omega)
   rw [if_pos hS] at hsig
   subst cex
   by_cases hf : F0 < mn
   ·rw [if_pos hf] at hsig
    subst hsig
    repeat' (first|with_reducible refine q_0 ?_|((with_reducible first|refine q_q dbfd_ok fun K hK=>?_|refine q_r dbfd_ok fun K hK=>?_);simp (maxSteps:=2000000) only [go_sem,↓reduceIte,reduceCtorEq,Nat.reduceLeDiff,Nat.reduceLT,Nat.reduceBEq,Nat.reduceAdd,V32,hc,hF,hX,hR,hSs,hb,or2];(repeat1' with_reducible first|apply And.intro|(intro _;try exact q_v)|(refine hK _ ?_;clear hK K))<;>(try (clear hK K;exact q_u)))|(with_reducible refine q_s ?_;(first|apply q_J|apply q_K|apply q_L|apply q_M|apply q_N|apply q_O)<;>try (intro _;try exact q_v)))
    all_goals first | omega | assumption | exact cut_fit hY () q_D | skip
   ·rw [if_neg hf] at hsig
    subst hsig
    repeat' (first|with_reducible refine q_0 ?_|((with_reducible first|refine q_q dbfd_ok fun K hK=>?_|refine q_r dbfd_ok fun K hK=>?_);simp (maxSteps:=2000000) only [go_sem,↓reduceIte,reduceCtorEq,Nat.reduceLeDiff,Nat.reduceLT,Nat.reduceBEq,Nat.reduceAdd,V32,hc,hF,hX,hR,hSs,hb,or2];(repeat1' with_reducible first|apply And.intro|(intro _;try exact q_v)|(refine hK _ ?_;clear hK K))<;>(try (clear hK K;exact q_u)))|(with_reducible refine q_s ?_;(first|apply q_J|apply q_K|apply q_L|apply q_M|apply q_N|apply q_O)<;>try (intro _;try exact q_v)))
    all_goals first | omega | assumption | exact cut_fit hY () q_D | skip
  ·have clo:=clo hS
   have csh:=csh hS
   clear cex
   have hb : decide (S ≠ 0) = true:=decide_eq_true hS
   rw [if_neg hS] at hsig
   by_cases hl : p < (ds R : Int)
   ·have clo:=clo hl
    clear csh
    subst clo
    by_cases hf : F0 < mn
    ·rw [if_pos hf,if_pos hf] at hsig
     subst hsig
     repeat' (first|with_reducible refine q_0 ?_|((with_reducible first|refine q_q dbfd_ok fun K hK=>?_|refine q_r dbfd_ok fun K hK=>?_);simp (maxSteps:=2000000) only [go_sem,↓reduceIte,reduceCtorEq,Nat.reduceLeDiff,Nat.reduceLT,Nat.reduceBEq,Nat.reduceAdd,V32,hc,hF,hX,hR,hSs,hb,d10,or2,or1,or3,or7];(repeat1' with_reducible first|apply And.intro|(intro _;try exact q_v)|(refine hK _ ?_;clear hK K))<;>(try (clear hK K;exact q_u)))|(with_reducible refine q_s ?_;(first|apply q_J|apply q_K|apply q_L|apply q_M|apply q_N|apply q_O)<;>try (intro _;try exact q_v)))
     all_goals first | omega | assumption | exact cut_fit hY () q_D | skip
    ·rw [if_neg hf,if_neg hf] at hsig
     subst hsig
     repeat' (first|with_reducible refine q_0 ?_|((with_reducible first|refine q_q dbfd_ok fun K hK=>?_|refine q_r dbfd_ok fun K hK=>?_);simp (maxSteps:=2000000) only [go_sem,↓reduceIte,reduceCtorEq,Nat.reduceLeDiff,Nat.reduceLT,Nat.reduceBEq,Nat.reduceAdd,V32,hc,hF,hX,hR,hSs,hb,d10,or2,or1,or3,or7];(repeat1' with_reducible first|apply And.intro|(intro _;try exact q_v)|(refine hK _ ?_;clear hK K))<;>(try (clear hK K;exact q_u)))|(with_reducible refine q_s ?_;(first|apply q_J|apply q_K|apply q_L|apply q_M|apply q_N|apply q_O)<;>try (intro _;try exact q_v)))
     all_goals first | omega | assumption | exact cut_fit hY () q_D | skip
   ·have csh:=csh hl
    clear clo
    subst csh
    by_cases hf : F0 < mn
    ·rw [if_pos hf,if_pos hf] at hsig
     subst hsig
     repeat' (first|with_reducible refine q_0 ?_|((with_reducible first|refine q_q dbfd_ok fun K hK=>?_|refine q_r dbfd_ok fun K hK=>?_);simp (maxSteps:=2000000) only [go_sem,↓reduceIte,reduceCtorEq,Nat.reduceLeDiff,Nat.reduceLT,Nat.reduceBEq,Nat.reduceAdd,V32,hc,hF,hX,hR,hSs,hb,or2,or1,or3,or7];(repeat1' with_reducible first|apply And.intro|(intro _;try exact q_v)|(refine hK _ ?_;clear hK K))<;>(try (clear hK K;exact q_u)))|(with_reducible refine q_s ?_;(first|apply q_J|apply q_K|apply q_L|apply q_M|apply q_N|apply q_O)<;>try (intro _;try exact q_v)))
     all_goals first | omega | assumption | exact cut_fit hY () q_D | skip
    ·rw [if_neg hf,if_neg hf] at hsig
     subst hsig
     repeat' (first|with_reducible refine q_0 ?_|((with_reducible first|refine q_q dbfd_ok fun K hK=>?_|refine q_r dbfd_ok fun K hK=>?_);simp (maxSteps:=2000000) only [go_sem,↓reduceIte,reduceCtorEq,Nat.reduceLeDiff,Nat.reduceLT,Nat.reduceBEq,Nat.reduceAdd,V32,hc,hF,hX,hR,hSs,hb,or2,or1,or3,or7];(repeat1' with_reducible first|apply And.intro|(intro _;try exact q_v)|(refine hK _ ?_;clear hK K))<;>(try (clear hK K;exact q_u)))|(with_reducible refine q_s ?_;(first|apply q_J|apply q_K|apply q_L|apply q_M|apply q_N|apply q_O)<;>try (intro _;try exact q_v)))
     all_goals first | omega | assumption | exact cut_fit hY () q_D | skip
 intro _
 clear cex clo csh hsig hX b1 b2 hr
 obtain ⟨Cn,Ce⟩:=CE
 simp only at hcb ⊢
 obtain ⟨cb1,cb2,cb3⟩:=hcb
 have lc:=ds_600 (n:=Cn) (by omega)
 have hd0:=dg_len_pos 4294967296 Cn (by omega)
 have over:=over (c:=Cn) (x:=Ce) rfl
 have fine:=fine (c:=Cn) (x:=Ce) rfl
 by_cases ho : 0 < Cn ∧ mx < (ds Cn : Int) - 1 + Ce
 ·obtain ⟨f1,f2⟩:=over ho
  rw [f1,f2]
  obtain ⟨o1,o2⟩:=ho
  clear over fine
  have hd0:=hd0.2 o1
  repeat' (first|with_reducible refine q_0 ?_|((with_reducible first|refine q_q dbfd_ok fun K hK=>?_|refine q_r dbfd_ok fun K hK=>?_);simp (maxSteps:=2000000) only [go_sem,↓reduceIte,reduceCtorEq,Nat.reduceLeDiff,Nat.reduceLT,Nat.reduceBEq,Nat.reduceAdd,V32,hc];(repeat1' with_reducible first|apply And.intro|(intro _;try exact q_v)|(refine hK _ ?_;clear hK K))<;>(try (clear hK K;exact q_u)))|(with_reducible refine q_s ?_;(first|apply q_J|apply q_K|apply q_L|apply q_M|apply q_N|apply q_O)<;>try (intro _;try exact q_v)))
  all_goals first | omega | assumption | exact q_A rfl | skip
 ·obtain ⟨f1,f2⟩:=fine ho
  rw [f1,f2]
  clear over fine
  by_cases hc0 : 0 < Cn
  ·have hd0:=hd0.2 hc0
   repeat' (first|with_reducible refine q_0 ?_|((with_reducible first|refine q_q dbfd_ok fun K hK=>?_|refine q_r dbfd_ok fun K hK=>?_);simp (maxSteps:=2000000) only [go_sem,↓reduceIte,reduceCtorEq,Nat.reduceLeDiff,Nat.reduceLT,Nat.reduceBEq,Nat.reduceAdd,V32,hc];(repeat1' with_reducible first|apply And.intro|(intro _;try exact q_v)|(refine hK _ ?_;clear hK K))<;>(try (clear hK K;exact q_u)))|(with_reducible refine q_s ?_;(first|apply q_J|apply q_K|apply q_L|apply q_M|apply q_N|apply q_O)<;>try (intro _;try exact q_v)))
   all_goals first | omega | assumption | exact q_A rfl | skip
  ·have hd0 : ¬ 0 < (dg 4294967296 Cn).length:=fun h=>hc0 (hd0.1 h)
   repeat' (first|with_reducible refine q_0 ?_|((with_reducible first|refine q_q dbfd_ok fun K hK=>?_|refine q_r dbfd_ok fun K hK=>?_);simp (maxSteps:=2000000) only [go_sem,↓reduceIte,reduceCtorEq,Nat.reduceLeDiff,Nat.reduceLT,Nat.reduceBEq,Nat.reduceAdd,V32,hc];(repeat1' with_reducible first|apply And.intro|(intro _;try exact q_v)|(refine hK _ ?_;clear hK K))<;>(try (clear hK K;exact q_u)))|(with_reducible refine q_s ?_;(first|apply q_J|apply q_K|apply q_L|apply q_M|apply q_N|apply q_O)<;>try (intro _;try exact q_v)))
   all_goals first | omega | assumption | exact q_A rfl | skip
def fitXCT : CT:=mkCT [nX,.inl none,.inr [none,none,none,none]] false fun l K=>match l with
 | [.inr [.b s,.ints .u32 xs,.ints .u32 ys,.i .i64 e],.inl (.i .i64 ideal),.inr [.i .i64 p,.i .i64 r,.i .i64 mn,.i .i64 mx]] =>
   (InB 4294967296 xs ∧ Trd xs ∧ InB 4294967296 ys ∧ Trd ys ∧ PF (V 4294967296 xs) (V 4294967296 ys) e ∧ okCx p r mn mx = true ∧ (-10000 ≤ ideal ∧ ideal ≤ 10000)) ∧
   K (.t [.inr (gDc (fitD s (V 4294967296 xs) (V 4294967296 ys) e ideal p r mn mx)),.inl (.i .i64 (fitS s (V 4294967296 xs) (V 4294967296 ys) e ideal p r mn mx))])
 | _=>False
def de3d : Cfg:=addT 77 fitXCT cf0
theorem de3d_ok : TblOk Tryz.prog de3d:=q_I cf0_ok Tryz.func77 fun l K h=>by
 split at h
 ·rename_i s xs ys e ideal p r mn mx
  obtain ⟨⟨h1,h2,h3,h4,h5,h6,h7⟩,h⟩:=h
  have e1:=dg_V 4294967296 (by omega) xs h1 h2
  have e2:=dg_V 4294967296 (by omega) ys h3 h4
  have:=dfit_ret s _ _ e ideal p r mn mx h5 h6 h7
  rw [gX,e1,e2] at this
  exact ⟨_,this,h⟩
 ·exact h.elim
attribute [go_sem] fitXCT
end Go.Proofs.YtgkajjifbcmoeaaGreatDoor
