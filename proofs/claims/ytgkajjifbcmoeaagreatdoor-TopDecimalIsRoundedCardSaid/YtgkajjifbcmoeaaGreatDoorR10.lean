import Derived.Test.YtgkajjifbcmoeaaGreatDoorR8
import Derived.Test.YtgkajjifbcmoeaaGreatDoorR9
namespace Go.Proofs.YtgkajjifbcmoeaaGreatDoor
set_option linter.unusedSimpArgs false
set_option linter.unusedVariables false
open Go.Abs Go.Proofs.NatL

def dd1 : Cfg:=addT 15 smallCT cf0
theorem dd1_ok : TblOk Tryz.prog dd1:=q_I cf0_ok Tryz.func15 fun l K h=>by
 split at h
 ·rename_i n
  obtain ⟨m,rfl⟩ : ∃ m : Nat,n = m:=⟨n.toNat,by omega⟩
  exact ⟨_,small_ret m (by omega),by simpa using h.2⟩
 ·exact h.elim
def tb23 : Cfg:=listT [(121,halveCT),(15,smallCT),(131,(rnumCT (fun _ _=>True) (· + ·))),(68,(rnumCT (fun _ _=>True) (· * ·)))] [34]
theorem tb23_ok : TblOk Tryz.prog tb23:=listE_ok (by simp only [List.mem_singleton,forall_eq]; exact flt) ⟨⟨rg1,rg1_ok,rfl⟩,⟨dd1,dd1_ok,rfl⟩,⟨db8,db8_ok,rfl⟩,⟨db9,db9_ok,rfl⟩,trivial⟩
attribute [go_sem] tb23
set_option maxRecDepth 100000 in
set_option maxHeartbeats 1600000 in
theorem figures_ret (n b : Nat) (hn : (dg 65536 n).length ≤ 65536) (h1 : 2 ≤ b) (h2 : b ≤ 36) :
  Ret Tryz.prog 105 false [.inl (.ints .i64 (dg 65536 n)),.inl (.i .i64 b)] (.c (.ints .i64 (dg b n).reverse)):=by
 have hbn : (dg b n).length ≤ 1048576:=by
  obtain ⟨e,he⟩ : ∃ e : Nat,e = 65536:=⟨_,rfl⟩
  have:=lt_of_len (B:=65536) (a:=n) (k:=e) (by omega) (by omega)
  rw [show (65536 : Nat) = 2 ^ 16 from rfl,← Nat.pow_mul] at this
  exact Nat.le_trans (dg_len_two b n h1 (16 * e) this) (by omega)
 (refine q_H Tryz.func105 (fun F=>?_); simp only [q_z,q_y,Tryz.ntmps105,Tryz.results105])
 repeat' (first|with_reducible refine q_0 ?_|((with_reducible first|refine q_q tb23_ok fun K hK=>?_|refine q_r tb23_ok fun K hK=>?_);simp (maxSteps:=2000000) only [go_sem,↓reduceIte,reduceCtorEq,Nat.reduceLeDiff,Nat.reduceLT,Nat.reduceBEq,Nat.reduceAdd];(repeat1' with_reducible first|apply And.intro|(intro _;try exact q_v)|(refine hK _ ?_;clear hK K))<;>(try (clear hK K;exact q_u)))|(with_reducible refine q_s ?_;(first|apply q_J|apply q_K|apply q_L|apply q_M|apply q_N|apply q_O)<;>try (intro _;try exact q_v)))
 refine q_G (ι:={ p : Nat × List Int // p.1 ≤ n ∧ p.2 ++ dg b p.1 = dg b n }) (fun p=>⟨37,[(0,.c (.ints .i64 (dg 65536 p.1.1))),(1,.c (.i .i64 b)),(5,.own 0 0)],⟨[],[(0,⟨0,3,1,.ints .i64 p.1.2⟩)],[]⟩,1⟩) (fun p=>p.1.1) ⟨(n,[]),Nat.le_refl _,rfl⟩ ?_ ?_
 ·exact q_D
 rintro ⟨⟨m,o⟩,g1,g2⟩
 simp only at g1 g2 ⊢
 have lm:=dg_len_mono (B:=65536) (by omega) g1
 have pm:=dg_len_pos 65536 m (by omega)
 have ll : o.length ≤ 1048576:=by
  have:=congrArg List.length g2
  rw [List.length_append] at this
  omega
 have bm:=InB_dg 65536 (by omega) m
 have mn : (b : Int) < 65536:=by omega
 repeat' (first|with_reducible refine q_0 ?_|((with_reducible first|refine q_q tb23_ok fun K hK=>?_|refine q_r tb23_ok fun K hK=>?_);simp (maxSteps:=2000000) only [go_sem,↓reduceIte,reduceCtorEq,Nat.reduceLeDiff,Nat.reduceLT,Nat.reduceBEq,Nat.reduceAdd];(repeat1' with_reducible first|apply And.intro|(intro _;try exact q_v)|(refine hK _ ?_;clear hK K))<;>(try (clear hK K;exact q_u)))|(with_reducible refine q_s ?_;(first|apply q_J|apply q_K|apply q_L|apply q_M|apply q_N|apply q_O)<;>try (intro _;try exact q_v)))
 ·rename_i q
  have m0 : 0 < m:=pm.1 (by omega)
  refine q_F ⟨(m / b,o ++ [((m % b : Nat) : Int)]),Nat.le_trans (Nat.div_le_self _ _) g1,?_⟩ ?_ (Nat.div_lt_self m0 h1)
  ·simp only
   rw [dg_pos b m h1 m0] at g2
   rw [List.append_assoc]; exact g2
  ·exact q_D
 ·rename_i q
  have m0 : m = 0:=by
   rcases Nat.eq_zero_or_pos m with h | h
   ·exact h
   ·exact absurd (pm.2 h) (by omega)
  subst m0
  rw [dg_zero,List.append_nil] at g2
  rw [← g2] at hbn ⊢
  refine q_G (ι:={ k : Nat // k ≤ o.length }) (fun k=>⟨37,[(5,.c (.ints .i64 o)),(7,.own 1 0),(8,.c (.i .i64 ((k.1 : Int) - 1)))],⟨[],[(1,⟨0,3,1,.ints .i64 (o.drop k.1).reverse⟩)],[]⟩,2⟩) (fun k=>k.1) ⟨o.length,Nat.le_refl _⟩ ?_ ?_
  ·exact q_D
  rintro ⟨k,hk⟩
  simp only at hk ⊢
  have lr : (o.drop k).reverse.length ≤ 1048576:=by simp only [List.length_reverse,List.length_drop]; omega
  have e1 : 0 < k → ((k : Int) - 1).toNat = k - 1:=fun h=>by omega
  have e2 : 0 < k → (o.drop k).reverse ++ [o.getD (k - 1) 0] = (o.drop (k - 1)).reverse:=fun h=>by
   rw [List.drop_eq_getElem_cons (i:=k - 1) (by omega),List.reverse_cons,getD_eq _ _ (by omega),show k - 1 + 1 = k by omega]
  repeat' (first|with_reducible refine q_0 ?_|((with_reducible first|refine q_q tb23_ok fun K hK=>?_|refine q_r tb23_ok fun K hK=>?_);simp (maxSteps:=2000000) only [go_sem,↓reduceIte,reduceCtorEq,Nat.reduceLeDiff,Nat.reduceLT,Nat.reduceBEq,Nat.reduceAdd];(repeat1' with_reducible first|apply And.intro|(intro _;try exact q_v)|(refine hK _ ?_;clear hK K))<;>(try (clear hK K;exact q_u)))|(with_reducible refine q_s ?_;(first|apply q_J|apply q_K|apply q_L|apply q_M|apply q_N|apply q_O)<;>try (intro _;try exact q_v)))
  ·rename_i q
   rw [e1 (by omega),e2 (by omega)]
   refine q_F ⟨k - 1,by omega⟩ ?_ (by simp only; omega)
   exact q_D
  ·rename_i q
   have hk0 : k = 0:=by omega
   subst hk0
   exact q_A rfl

end Go.Proofs.YtgkajjifbcmoeaaGreatDoor

namespace Go.Proofs.YtgkajjifbcmoeaaGreatDoor
set_option linter.unusedSimpArgs false
set_option linter.unusedVariables false
open Go.Abs Go.Proofs.NatL

theorem okN_dg' {n : Nat} (h : (dg 4294967296 n).length ≤ 600) : okN (dg 4294967296 n) = true:=by
 unfold okN; exact decide_eq_true ⟨h,dg_trd 4294967296 (by omega) n⟩
theorem okN_d (n : Nat) : okN (dg 4294967296 n) = decide ((dg 4294967296 n).length ≤ 600):=by
 unfold okN
 congr 1
 exact propext ⟨fun h=>h.1,fun h=>⟨h,dg_trd 4294967296 (by omega) n⟩⟩
theorem fit_small {n : Nat} (h : (dg 4294967296 n).length ≤ 600) : fitN (dg 4294967296 n) = dg 4294967296 n ∧ fitC (dg 4294967296 n) = 0 ∧ fitI (dg 4294967296 n) = 0:=by
 obtain ⟨h1,h2,h3⟩:=fit_dg n
 rw [h1,h2,h3]; simp [h]

def gcGoodCT : CT:=mkCT [.inl (some (.ints .u32 [])),.inl (some (.ints .u32 []))] false fun l K=>match l with
 | [.inl (.ints .u32 xs),.inl (.ints .u32 ys)]=>(okN xs = true ∧ okN ys = true ∧ InB 4294967296 xs ∧ InB 4294967296 ys) ∧ K (.t [.inl (.ints .u32 (dg 4294967296 (Nat.gcd (V 4294967296 xs) (V 4294967296 ys)))),.inr [.i .i64 0,.i .i64 0]])
 | _=>False
def nt1 : Cfg:=addT 84 gcGoodCT cf0
theorem nt1_ok : TblOk Tryz.prog nt1:=q_I cf0_ok Tryz.func84 fun l K h=>by
 split at h
 ·obtain ⟨⟨h1,h2,h3,h4⟩,h⟩:=h
  have:=Gcd_ret _ _ (okN_LB h1) (okN_LB h2) h3 h4
  simp only [gcO,(chkC_zero h1 h2).1,(chkC_zero h1 h2).2,if_true] at this
  exact ⟨_,this,h⟩
 ·exact h.elim
theorem dvGood_ok (xs ys : List Int) (h1 : okN xs = true) (h2 : okN ys = true) (h3 : InB 4294967296 xs) (h4 : InB 4294967296 ys) (h5 : 0 < V 4294967296 ys) :
  Ret Tryz.prog 85 false [.inl (.ints .u32 xs),.inl (.ints .u32 ys)] (.t [.inl (.ints .u32 (dg 4294967296 (V 4294967296 xs / V 4294967296 ys))),.inl (.ints .u32 (dg 4294967296 (V 4294967296 xs % V 4294967296 ys))),.inr [.i .i64 0,.i .i64 0]]):=by
 have:=DivMod_ret _ _ (okN_LB h1) (okN_LB h2) h3 h4
 have hn : ys ≠ []:=fun e=>by subst e; simp [V] at h5
 simp only [dvQ,dvR,dvC,dvI,dvE,(chkC_zero h1 h2).1,hn,ne_eq,not_true_eq_false,not_false_eq_true,and_self,decide_true,if_true,if_false] at this
 exact this
def digG : CT:=mkCT [.inl (some (.ints .u32 []))] false fun l K=>match l with
 | [.inl (.ints .u32 xs),.inl (.i .i64 b)]=>(InB 4294967296 xs ∧ okN xs = true ∧ 2 ≤ b ∧ b ≤ 36) ∧ K (.t [.inl (.ints .i64 (dg b.toNat (V 4294967296 xs)).reverse),.inr [.i .i64 0,.i .i64 0]])
 | _=>False
def nt5 : Cfg:=addT 152 digG cf0
theorem nt5_ok : TblOk Tryz.prog nt5:=q_I cf0_ok Tryz.func152 fun l K h=>by
 split at h
 ·rename_i xs b
  obtain ⟨⟨h2,h3,h4,h5⟩,h⟩:=h
  obtain ⟨n,rfl⟩ : ∃ n : Nat,b = n:=⟨b.toNat,by omega⟩
  exact ⟨_,Digits_good xs n h2 h3 (by omega) (by omega),by simpa using h⟩
 ·exact h.elim
def nt7 : Cfg:=addT 15 smallCT cf0
theorem nt7_ok : TblOk Tryz.prog nt7:=q_I cf0_ok Tryz.func15 fun l K h=>by
 split at h
 ·rename_i n
  obtain ⟨m,rfl⟩ : ∃ m : Nat,n = m:=⟨n.toNat,by omega⟩
  exact ⟨_,small_ret m (by omega),by simpa using h.2⟩
 ·exact h.elim
def figCT : CT:=mkCT [.inl (some (.ints .i64 []))] false fun l K=>match l with
 | [.inl (.ints .i64 xs),.inl (.i .i64 b)]=>(xs.length ≤ 65536 ∧ InB 65536 xs ∧ Trd xs ∧ 2 ≤ b ∧ b ≤ 36) ∧ K (.c (.ints .i64 (dg b.toNat (V 65536 xs)).reverse))
 | _=>False
def nt11 : Cfg:=addT 105 figCT cf0
theorem nt11_ok : TblOk Tryz.prog nt11:=q_I cf0_ok Tryz.func105 fun l K h=>by
 split at h
 ·rename_i xs b
  obtain ⟨⟨h1,h2,h3,h4,h5⟩,h⟩:=h
  obtain ⟨n,rfl⟩ : ∃ n : Nat,b = n:=⟨b.toNat,by omega⟩
  have e:=dg_V 65536 (by omega) xs h2 h3
  have:=figures_ret (V 65536 xs) n (by rw [e]; exact h1) (by omega) (by omega)
  rw [e] at this
  exact ⟨_,this,by simpa using h⟩
 ·exact h.elim
attribute [go_sem] gcGoodCT digG figCT okN_d V65 I65 T65 V32 I32 T32
end Go.Proofs.YtgkajjifbcmoeaaGreatDoor

namespace Go.Proofs.NatL
set_option linter.unusedSimpArgs false
set_option linter.unusedVariables false

def sv (B : Nat) (s : Bool) (xs : List Int) : Int:=if s then -(V B xs : Int) else V B xs
def sgz (z : Int) (b : Bool) : Bool:=if z = 0 then b else decide (z < 0)

theorem sv_sgz {B : Nat} (hB : 2 ≤ B) (z : Int) (b : Bool) : sv B (sgz z b) (dg B z.natAbs) = z:=by
 unfold sv sgz
 rw [V_dg B hB]
 by_cases h0 : z = 0
 ·subst h0; simp
 ·rw [if_neg h0]
  by_cases h : z < 0
  ·rw [if_pos (by simpa using h)]; omega
  ·rw [if_neg (by simpa using h)]; omega
theorem sv_sg {B : Nat} (hB : 2 ≤ B) (z : Int) : sv B (decide (z < 0)) (dg B z.natAbs) = z:=by
 have:=sv_sgz hB z false
 unfold sgz at this
 by_cases h0 : z = 0
 ·subst h0; simp [sv,dg_zero,V]
 ·rw [if_neg h0] at this; exact this
theorem sv32 (z : Int) : sv 4294967296 (decide (z < 0)) (dg 4294967296 z.natAbs) = z:=sv_sg (by omega) z
theorem sv65 (z : Int) : sv 65536 (decide (z < 0)) (dg 65536 z.natAbs) = z:=sv_sg (by omega) z
theorem svz65 (z : Int) (b : Bool) : sv 65536 (sgz z b) (dg 65536 z.natAbs) = z:=sv_sgz (by omega) z b
theorem sv_abs (B : Nat) (s : Bool) (xs : List Int) : (sv B s xs).natAbs = V B xs:=by cases s <;> simp [sv]
instance decTrd (xs : List Int) : Decidable (Trd xs):=by unfold Trd; infer_instance
def sg (s : Bool) (m : Nat) : Int:=if s then -(m : Int) else m
theorem sv_d {B : Nat} (hB : 2 ≤ B) (s : Bool) (m : Nat) : sv B s (dg B m) = sg s m:=by unfold sv sg; rw [V_dg B hB]
theorem sv32d (s : Bool) (m : Nat) : sv 4294967296 s (dg 4294967296 m) = sg s m:=sv_d (by omega) s m
theorem sgt (m : Nat) : sg true m = -(m : Int):=rfl
theorem sgf (m : Nat) : sg false m = m:=rfl
theorem sg_abs (s : Bool) (m : Nat) : (sg s m).natAbs = m:=by cases s <;> simp [sg]
theorem sg_self (a : Int) : sg (decide (a < 0)) a.natAbs = a:=by
 by_cases h : a < 0
 ·rw [decide_eq_true h,sgt]; omega
 ·rw [decide_eq_false h,sgf]; omega
theorem sg_not (s : Bool) (m : Nat) : sg (!s) m = -sg s m:=by cases s <;> simp [sg]
theorem sg_mul (s t : Bool) (m n : Nat) : sg (s != t) (m * n) = sg s m * sg t n:=by cases s <;> cases t <;> simp [sg,Int.neg_mul,Int.mul_neg]
def okZ (s : Bool) (xs : List Int) : Bool:=decide (xs.length ≤ 128 ∧ ((xs = [] ∧ s = false) ∨ (xs ≠ [] ∧ Trd xs)))
theorem okZ_eq {s : Bool} {xs : List Int} (h : okZ s xs = true) (bx : InB 4294967296 xs) :
  s = decide (sv 4294967296 s xs < 0) ∧ xs = dg 4294967296 (sv 4294967296 s xs).natAbs ∧ xs.length ≤ 128:=by
 unfold okZ at h
 obtain ⟨hl,h⟩:=of_decide_eq_true h
 rw [sv_abs]
 rcases h with ⟨rfl,rfl⟩ | ⟨hne,ht⟩
 ·exact ⟨by simp [sv,V],by simp [V,dg_zero],hl⟩
 ·have hd:=dg_V 4294967296 (by omega) xs bx ht
  have h0 : 0 < V 4294967296 xs:=by
   rcases Nat.eq_zero_or_pos (V 4294967296 xs) with h | h
   ·rw [h,dg_zero] at hd; exact absurd hd.symm hne
   ·exact h
  refine ⟨?_,hd.symm,hl⟩
  cases s
  ·rw [decide_eq_false]; simp [sv]
  ·rw [decide_eq_true]; simp [sv]; omega
theorem okZ_g (z : Int) : okZ (decide (z < 0)) (dg 4294967296 z.natAbs) = decide ((dg 4294967296 z.natAbs).length ≤ 128):=by
 unfold okZ
 congr 1
 refine propext ⟨fun h=>h.1,fun h=>⟨h,?_⟩⟩
 by_cases h0 : z = 0
 ·subst h0; left; exact ⟨rfl,rfl⟩
 ·right
  refine ⟨fun e=>?_,dg_trd _ (by omega) _⟩
  have:=(dg_len_pos 4294967296 z.natAbs (by omega)).2 (by omega)
  rw [e] at this; simp at this
theorem okZ_len {s : Bool} {xs : List Int} (h : okZ s xs = true) : xs.length ≤ 128:=(of_decide_eq_true h).1
theorem okZ_trd {s : Bool} {xs : List Int} (h : okZ s xs = true) : Trd xs:=by
 rcases (of_decide_eq_true h).2 with ⟨rfl,_⟩ | ⟨_,h⟩
 ·exact .inl rfl
 ·exact h

theorem dg_len_iff' {B : Nat} (hB : 2 ≤ B) (n k : Nat) : (dg B n).length ≤ k ↔ n < B ^ k:=by
 constructor
 ·intro h; exact lt_of_len hB h
 ·exact dg_len_le hB n k
theorem dg_half' (n k : Nat) : (dg 65536 n).length ≤ 2 * k ↔ (dg 4294967296 n).length ≤ k:=by
 rw [dg_len_iff' (by omega),dg_len_iff' (by omega),Nat.pow_mul]
def fbC : List (Bool × List Int) → Int
 | []=>0
 | p :: l=>if okZ p.1 p.2 then fbC l else 6
def fbX : Int → List (Bool × List Int) → Int
 | _,[]=>0
 | i,p :: l=>if okZ p.1 p.2 then fbX (i + 1) l else -1 - i
def allL (n : Nat) : List (Bool × List Int) → Prop
 | []=>True
 | p :: l=>p.2.length ≤ n ∧ allL n l
theorem allL_get {n : Nat} : ∀ {l : List (Bool × List Int)} {i : Nat},allL n l → (l.getD i (false,[])).2.length ≤ n
 | [],i,_=>by simp
 | p :: l,0,h=>h.1
 | p :: l,i + 1,h=>by simpa using allL_get (i:=i) h.2
theorem drop_getD (l : List (Bool × List Int)) (i : Nat) (h : i < l.length) : l.drop i = l.getD i (false,[]) :: l.drop (i + 1):=by
 rw [List.drop_eq_getElem_cons h,List.getD_eq_getElem?_getD,List.getElem?_eq_getElem h]; rfl
theorem okZ_iff (s : Bool) (xs : List Int) (b : Bool) (h : b = true ↔ ((xs.length : Int) ≤ 128 ∧ (((xs.length : Int) = 0 ∧ s = false) ∨ (0 < (xs.length : Int) ∧ xs.getD ((xs.length : Int) - 1).toNat 0 ≠ 0)))) : b = okZ s xs:=by
 have e : ((xs.length : Int) - 1).toNat = xs.length - 1:=by omega
 have h2 : okZ s xs = true ↔ ((xs.length : Int) ≤ 128 ∧ (((xs.length : Int) = 0 ∧ s = false) ∨ (0 < (xs.length : Int) ∧ xs.getD ((xs.length : Int) - 1).toNat 0 ≠ 0))):=by
  unfold okZ Trd
  rw [decide_eq_true_iff,e]
  have e1 : xs = [] ↔ (xs.length : Int) = 0:=by rw [← List.length_eq_zero_iff]; omega
  have e2 : xs.length = 0 ↔ (xs.length : Int) = 0:=by omega
  rw [e1,e2,ne_eq,e1]
  constructor
  ·rintro ⟨h1,h3 | ⟨h3,h4 | h4⟩⟩
   ·exact ⟨by omega,.inl h3⟩
   ·exact absurd h4 h3
   ·exact ⟨by omega,.inr ⟨by omega,h4⟩⟩
  ·rintro ⟨h1,h3 | ⟨h3,h4⟩⟩
   ·exact ⟨by omega,.inl h3⟩
   ·exact ⟨by omega,.inr ⟨by omega,.inr h4⟩⟩
 rw [Bool.eq_iff_iff,h,h2]

def cmpZ (a b : Int) : Int:=if a < b then -1 else if a = b then 0 else 1
end Go.Proofs.NatL

namespace Go.Proofs.YtgkajjifbcmoeaaGreatDoor
set_option linter.unusedSimpArgs false
set_option linter.unusedVariables false
open Go.Abs Go.Proofs.NatL

theorem iat_ret (c i : Int) : Ret Tryz.prog 175 false [.inl (.i .i64 c),.inl (.i .i64 i)] (.g [.i .i64 c,.i .i64 i]):=by
 (refine q_H Tryz.func175 (fun F=>?_); simp only [q_z,q_y,Tryz.ntmps175,Tryz.results175])
 repeat' (first|with_reducible refine q_0 ?_|((with_reducible first|refine q_q cf0_ok fun K hK=>?_|refine q_r cf0_ok fun K hK=>?_);simp (maxSteps:=2000000) only [go_sem,↓reduceIte,reduceCtorEq,Nat.reduceLeDiff,Nat.reduceLT,Nat.reduceBEq,Nat.reduceAdd];(repeat1' with_reducible first|apply And.intro|intro _|(refine hK _ ?_;clear hK K))<;>(try (clear hK K;exact q_u)))|(with_reducible refine q_s ?_;(first|apply q_J|apply q_K|apply q_L|apply q_M|apply q_N|apply q_O)<;>try intro _))
 exact q_A rfl
def it1 : Cfg:=addT 175 atCT cf0
theorem it1_ok : TblOk Tryz.prog it1:=q_I cf0_ok Tryz.func175 fun l K h=>by
 split at h
 ·exact ⟨_,(iat_ret _ _).plain rfl,h⟩
 ·exact h.elim

set_option maxHeartbeats 800000 in
theorem ivalid_ret (s : Bool) (xs : List Int) (hx : xs.length ≤ 140737488355328) : Ret Tryz.prog 143 false [.inr [.b s,.ints .u32 xs]] (.c (.b (okZ s xs))):=by
 (refine q_H Tryz.func143 (fun F=>?_); simp only [q_z,q_y,Tryz.ntmps143,Tryz.results143])
 repeat' (first|with_reducible refine q_0 ?_|((with_reducible first|refine q_q cf0_ok fun K hK=>?_|refine q_r cf0_ok fun K hK=>?_);simp (maxSteps:=2000000) only [go_sem,↓reduceIte,reduceCtorEq,Nat.reduceLeDiff,Nat.reduceLT,Nat.reduceBEq,Nat.reduceAdd];(repeat1' with_reducible first|apply And.intro|intro _|(refine hK _ ?_;clear hK K))<;>(try (clear hK K;exact q_u)))|(with_reducible refine q_s ?_;(first|apply q_J|apply q_K|apply q_L|apply q_M|apply q_N|apply q_O)<;>try intro _))
 all_goals refine q_A ?_
 all_goals simp only [resAV,q_y,AV.c.injEq,C.b.injEq]
 all_goals refine okZ_iff s xs _ ?_
 all_goals first | (simp_all; done) | (simp_all; omega)
def ivalidCT : CT:=mkCT [.inr [none,some (.ints .u32 [])]] true fun l K=>match l with
 | [.inr [.b s,.ints .u32 xs]]=>xs.length ≤ 140737488355328 ∧ K (.c (.b (okZ s xs)))
 | _=>False
def it2 : Cfg:=addT 143 ivalidCT cf0
theorem it2_ok : TblOk Tryz.prog it2:=q_I cf0_ok Tryz.func143 fun l K h=>by
 split at h
 ·exact ⟨_,(ivalid_ret _ _ h.1).plain rfl,h.2⟩
 ·exact h.elim
attribute [go_sem] ivalidCT listT
def ib1 : Cfg:=listT [(175,atCT),(143,ivalidCT)] [34]
theorem ib1_ok : TblOk Tryz.prog ib1:=listE_ok (by simp only [List.mem_singleton,forall_eq]; exact flt) ⟨⟨it1,it1_ok,rfl⟩,⟨it2,it2_ok,rfl⟩,trivial⟩
attribute [go_sem] ib1
def rowI (p : Bool × List Int) : List C:=[.b p.1,.ints .u32 p.2]
def unI : List (List C) → Option (List (Bool × List Int))
 | []=>some []
 | [.b s,.ints .u32 xs] :: r=>(unI r).map ((s,xs) :: ·)
 | _ :: _=>none
theorem unI_some : ∀ {rows : List (List C)} {l : List (Bool × List Int)},unI rows = some l → rows = l.map rowI
 | [],l,h=>by simp [unI] at h; subst h; rfl
 | r :: rows,l,h=>by
  unfold unI at h
  split at h
  ·rename_i h0; cases h0
  ·rename_i s xs r' h0
   cases h0
   obtain ⟨l',h1,rfl⟩:=Option.map_eq_some_iff.1 h
   rw [unI_some h1]; rfl
  ·cases h
theorem rowI_get (l : List (Bool × List Int)) (i : Nat) (h : i < l.length) : (l.map rowI).getD i [] = [.b (l.getD i (false,[])).1,.ints .u32 (l.getD i (false,[])).2]:=by
 simp [List.getD_eq_getElem?_getD,List.getElem?_eq_getElem h,rowI]

set_option maxHeartbeats 1600000 in
theorem icheck_ret (l : List (Bool × List Int)) (hn : l.length ≤ 1000) (hl : allL 140737488355328 l) :
  Ret Tryz.prog 151 false [.inl (.sl 2 (l.map rowI))] (.g [.i .i64 (fbC l),.i .i64 (fbX 0 l)]):=by
 (refine q_H Tryz.func151 (fun F=>?_); simp only [q_z,q_y,Tryz.ntmps151,Tryz.results151])
 repeat' (first|with_reducible refine q_0 ?_|((with_reducible first|refine q_q ib1_ok fun K hK=>?_|refine q_r ib1_ok fun K hK=>?_);simp (maxSteps:=2000000) only [go_sem,↓reduceIte,reduceCtorEq,Nat.reduceLeDiff,Nat.reduceLT,Nat.reduceBEq,Nat.reduceAdd,List.length_map];(repeat1' with_reducible first|apply And.intro|intro _|(refine hK _ ?_;clear hK K))<;>(try (clear hK K;exact q_u)))|(with_reducible refine q_s ?_;(first|apply q_J|apply q_K|apply q_L|apply q_M|apply q_N|apply q_O)<;>try intro _))
 refine q_G (ι:={ i : Nat // i ≤ l.length ∧ fbC (l.drop i) = fbC l ∧ fbX i (l.drop i) = fbX 0 l }) (fun i=>⟨20,[(2,.bx 0 0),(5,.c (.sl 2 (l.map rowI))),(6,.c (.i .i64 l.length)),(7,.c (.i .i64 (i.1 : Nat)))],⟨[(0,[.c (.i .i64 0),.c (.i .i64 0)])],[],[]⟩,1⟩) (fun i=>l.length - i.1) ⟨0,by simp,rfl,rfl⟩ ?_ ?_
 ·exact q_D
 rintro ⟨i,g1,g2,g3⟩
 simp only at g1 g2 g3 ⊢
 have hlen:=allL_get (i:=i) hl
 rcases Nat.lt_or_ge i l.length with hi | hi
 ·have hr:=rowI_get l i hi
  rw [drop_getD l i hi,fbC] at g2
  rw [drop_getD l i hi,fbX] at g3
  cases ho : okZ (l.getD i (false,[])).1 (l.getD i (false,[])).2
  ·simp only [ho,Bool.false_eq_true,if_false] at g2 g3
   repeat' (first|with_reducible refine q_0 ?_|((with_reducible first|refine q_q ib1_ok fun K hK=>?_|refine q_r ib1_ok fun K hK=>?_);simp (maxSteps:=2000000) only [go_sem,↓reduceIte,reduceCtorEq,Nat.reduceLeDiff,Nat.reduceLT,Nat.reduceBEq,Nat.reduceAdd,hr,ho,List.length_map];(repeat1' with_reducible first|apply And.intro|(intro _;try exact q_v)|(refine hK _ ?_;clear hK K))<;>(try (clear hK K;exact q_u)))|(with_reducible refine q_s ?_;(first|apply q_J|apply q_K|apply q_L|apply q_M|apply q_N|apply q_O)<;>try (intro _;try exact q_v)))
   exact q_A (by rw [← g2,← g3]; rfl)
  ·simp only [ho,if_true] at g2 g3
   repeat' (first|with_reducible refine q_0 ?_|((with_reducible first|refine q_q ib1_ok fun K hK=>?_|refine q_r ib1_ok fun K hK=>?_);simp (maxSteps:=2000000) only [go_sem,↓reduceIte,reduceCtorEq,Nat.reduceLeDiff,Nat.reduceLT,Nat.reduceBEq,Nat.reduceAdd,hr,ho,List.length_map];(repeat1' with_reducible first|apply And.intro|(intro _;try exact q_v)|(refine hK _ ?_;clear hK K))<;>(try (clear hK K;exact q_u)))|(with_reducible refine q_s ?_;(first|apply q_J|apply q_K|apply q_L|apply q_M|apply q_N|apply q_O)<;>try (intro _;try exact q_v)))
   refine q_F ⟨i + 1,hi,g2,by push_cast; exact g3⟩ ?_ (by simp only; omega)
   exact q_D
 ·have hi' : i = l.length:=by omega
  subst hi'
  rw [List.drop_length] at g2 g3
  repeat' (first|with_reducible refine q_0 ?_|((with_reducible first|refine q_q ib1_ok fun K hK=>?_|refine q_r ib1_ok fun K hK=>?_);simp (maxSteps:=2000000) only [go_sem,↓reduceIte,reduceCtorEq,Nat.reduceLeDiff,Nat.reduceLT,Nat.reduceBEq,Nat.reduceAdd,List.length_map];(repeat1' with_reducible first|apply And.intro|(intro _;try exact q_v)|(refine hK _ ?_;clear hK K))<;>(try (clear hK K;exact q_u)))|(with_reducible refine q_s ?_;(first|apply q_J|apply q_K|apply q_L|apply q_M|apply q_N|apply q_O)<;>try (intro _;try exact q_v)))
  exact q_A (by rw [← g2,← g3]; rfl)
def icheckCT : CT:=mkCT [] true fun l K=>match l with
 | [.inl (.sl 2 rows)]=>match unI rows with
  | some l=>(l.length ≤ 1000 ∧ allL 140737488355328 l) ∧ K (.g [.i .i64 (fbC l),.i .i64 (fbX 0 l)])
  | none=>False
 | _=>False
def it3 : Cfg:=addT 151 icheckCT cf0
theorem it3_ok : TblOk Tryz.prog it3:=q_I cf0_ok Tryz.func151 fun l K h=>by
 split at h
 ·split at h
  ·rename_i l hl
   rw [unI_some hl]
   exact ⟨_,(icheck_ret l h.1.1 h.1.2).plain rfl,h.2⟩
  ·exact h.elim
 ·exact h.elim
attribute [go_sem] icheckCT unI fbC fbX allL
abbrev gI (z : Int) : List C:=[.b (decide (z < 0)),.ints .u32 (dg 4294967296 z.natAbs)]
abbrev nP : Option C ⊕ List (Option C):=.inr [none,some (.ints .u32 [])]
theorem dg_zeroA (B : Nat) : dg B (0 : Int).natAbs = []:=rfl

def cloneVCT : CT:=mkCT [.inl (some (.ints .u32 []))] true fun l K=>match l with
 | [.inl (.ints .u32 xs)]=>xs.length ≤ 16777216 ∧ K (.c (.ints .u32 xs))
 | _=>False
def it5 : Cfg:=addT 161 cloneVCT cf0
attribute [go_sem] cloneVCT gI
end Go.Proofs.YtgkajjifbcmoeaaGreatDoor

namespace Go.Proofs.YtgkajjifbcmoeaaGreatDoor
set_option linter.unusedSimpArgs false
set_option linter.unusedVariables false
open Go.Abs Go.Proofs.NatL

theorem okN_128 {n : Nat} (h : (dg 4294967296 n).length ≤ 128) : okN (dg 4294967296 n) = true:=okN_dg' (by omega)

end Go.Proofs.YtgkajjifbcmoeaaGreatDoor

namespace Go.Proofs.YtgkajjifbcmoeaaGreatDoor
set_option linter.unusedSimpArgs false
set_option linter.unusedVariables false
open Go.Abs Go.Proofs.NatL

theorem subO_le {m n : Nat} (h : n ≤ m) : subO (dg 4294967296 m) (dg 4294967296 n) = dg 4294967296 (m - n) ∧ subC (dg 4294967296 m) (dg 4294967296 n) = 0 ∧ subI (dg 4294967296 m) (dg 4294967296 n) = 0:=by
 have h1 : ¬ m < n:=by omega
 simp only [subO,subC,subI,subN,V32,h1,if_false,and_self]
theorem addNd' (m n : Nat) : addN (dg 4294967296 m) (dg 4294967296 n) = dg 4294967296 (m + n):=by unfold addN; rw [V32,V32]
theorem mulNd' (m n : Nat) : mulN (dg 4294967296 m) (dg 4294967296 n) = dg 4294967296 (m * n):=by unfold mulN; rw [V32,V32]
def it6 : Cfg:=it5
end Go.Proofs.YtgkajjifbcmoeaaGreatDoor

namespace Go.Proofs.YtgkajjifbcmoeaaGreatDoor
set_option linter.unusedSimpArgs false
set_option linter.unusedVariables false
open Go.Abs Go.Proofs.NatL

def digL : List UInt8:=[48,49,50,51,52,53,54,55,56,57,97,98,99,100,101,102,103,104,105,106,107,108,109,110,111,112,113,114,115,116,117,118,119,120,121,122]
def chr (d : Int) : Int:=((digL.getD d.toNat 0).toNat : Nat)
def textI (z : Int) (b : Nat) : List Int:=(if z < 0 then [45] else []) ++ (if z = 0 then [48] else (dg b z.natAbs).reverse.map chr)
theorem map_snoc (f : Int → Int) (ds : List Int) (i : Nat) (h : i < ds.length) : (ds.take (i + 1)).map f = (ds.take i).map f ++ [f (ds.getD i 0)]:=by
 rw [List.take_succ_eq_append_getElem h,List.map_append,getD_eq _ _ h]; rfl
theorem bl_128 {n : Nat} (h : (dg 4294967296 n).length ≤ 128) : bl n ≤ 4096:=by
 obtain ⟨k,hk⟩ : ∃ k,k = 128:=⟨_,rfl⟩
 rw [← hk] at h
 have h1:=lt_of_len (B:=4294967296) (by omega) h
 rw [show (4294967296 : Nat) = 2 ^ 32 from rfl,← Nat.pow_mul] at h1
 have:=bl_lt n _ h1
 omega
def ibt : Cfg:=listT [(151,icheckCT),(152,digG)] [34]
theorem ibt_ok : TblOk Tryz.prog ibt:=listE_ok (by simp only [List.mem_singleton,forall_eq]; exact flt) ⟨⟨it3,it3_ok,rfl⟩,⟨nt5,nt5_ok,rfl⟩,trivial⟩
attribute [go_sem] ibt
set_option maxRecDepth 100000 in
set_option maxHeartbeats 3200000 in
theorem iText_ok (a : Int) (b : Nat) (h1 : 2 ≤ b) (h2 : b ≤ 36) (la : (dg 4294967296 a.natAbs).length ≤ 128) :
  Ret Tryz.prog 79 false [.inr (gI a),.inl (.i .i64 b)] (.t [.inl (.str (strOf (textI a b))),.inr [.i .i64 0,.i .i64 0]]):=by
 have oa:=(okZ_g a).trans (decide_eq_true la)
 have ka:=okN_128 la
 have dl : (dg b a.natAbs).length ≤ 4096:=Nat.le_trans (dg_len_two b a.natAbs h1 _ (lt_bl _)) (bl_128 la)
 have dp:=dg_len_pos b a.natAbs h1
 have din : InB b (dg b a.natAbs).reverse:=fun z hz=>InB_dg b h1 _ z (List.mem_reverse.1 hz)
 have htx : ∀ pre : List Int,pre = (if a < 0 then [45] else []) → strOf (textI a b) = strOf (pre ++ (if a = 0 then [48] else (dg b a.natAbs).reverse.map chr)):=fun pre h=>by rw [h]; rfl
 rw [← List.length_reverse] at dl dp
 generalize hds : (dg b a.natAbs).reverse = ds at *
 by_cases hneg : a < 0
 ·have htx:=htx [45] (by rw [if_pos hneg])
  rw [if_neg (by omega)] at htx
  have e0 : decide (a < 0) = true:=decide_eq_true hneg
  simp only [gI,e0] at oa ⊢
  (refine q_H Tryz.func79 (fun F=>?_); simp only [q_z,q_y,Tryz.ntmps79,Tryz.results79])
  repeat' (first|with_reducible refine q_0 ?_|((with_reducible first|refine q_q ibt_ok fun K hK=>?_|refine q_r ibt_ok fun K hK=>?_);simp (maxSteps:=2000000) only [go_sem,↓reduceIte,reduceCtorEq,Nat.reduceLeDiff,Nat.reduceLT,Nat.reduceBEq,Nat.reduceAdd,oa,ka,hds];(repeat1' with_reducible first|apply And.intro|(intro _;try exact q_v)|(refine hK _ ?_;clear hK K))<;>(try (clear hK K;exact q_u)))|(with_reducible refine q_s ?_;(first|apply q_J|apply q_K|apply q_L|apply q_M|apply q_N|apply q_O)<;>try (intro _;try exact q_v)))
  refine q_G (ι:={ i : Nat // i ≤ ds.length }) (fun i=>⟨56,[(5,.bx 1 0),(7,.c (.ints .i64 ds)),(9,.own 4 0),(35,.c (.ints .i64 ds)),(36,.c (.i .i64 ds.length)),(37,.c (.i .i64 (i.1 : Nat)))],⟨[(1,[.c (.i .i64 0),.c (.i .i64 0)])],[(4,⟨0,5,1,.ints .u8 ([45] ++ (ds.take i.1).map chr)⟩)],[]⟩,5⟩) (fun i=>ds.length - i.1) ⟨0,by simp⟩ ?_ ?_
  ·exact q_D
  rintro ⟨i,g1⟩
  simp only at g1 ⊢
  have b1:=InB_getD (by omega) din i
  have hml : ((ds.take i).map chr).length = i:=by simp; omega
  rcases Nat.lt_or_ge i ds.length with hi | hi
  ·have hm:=map_snoc chr ds i hi
   repeat' (first|with_reducible refine q_0 ?_|((with_reducible first|refine q_q ibt_ok fun K hK=>?_|refine q_r ibt_ok fun K hK=>?_);simp (maxSteps:=2000000) only [go_sem,↓reduceIte,reduceCtorEq,Nat.reduceLeDiff,Nat.reduceLT,Nat.reduceBEq,Nat.reduceAdd,hml];(repeat1' with_reducible first|apply And.intro|(intro _;try exact q_v)|(refine hK _ ?_;clear hK K))<;>(try (clear hK K;exact q_u)))|(with_reducible refine q_s ?_;(first|apply q_J|apply q_K|apply q_L|apply q_M|apply q_N|apply q_O)<;>try (intro _;try exact q_v)))
   refine q_F ⟨i + 1,hi⟩ ?_ (by simp only; omega)
   simp only [hm]
   exact q_D
  ·have hi' : i = ds.length:=by omega
   subst hi'
   rw [List.take_length]
   repeat' (first|with_reducible refine q_0 ?_|((with_reducible first|refine q_q ibt_ok fun K hK=>?_|refine q_r ibt_ok fun K hK=>?_);simp (maxSteps:=2000000) only [go_sem,↓reduceIte,reduceCtorEq,Nat.reduceLeDiff,Nat.reduceLT,Nat.reduceBEq,Nat.reduceAdd];(repeat1' with_reducible first|apply And.intro|(intro _;try exact q_v)|(refine hK _ ?_;clear hK K))<;>(try (clear hK K;exact q_u)))|(with_reducible refine q_s ?_;(first|apply q_J|apply q_K|apply q_L|apply q_M|apply q_N|apply q_O)<;>try (intro _;try exact q_v)))
   exact q_A (by rw [htx]; rfl)
 ·have htx:=htx [] (by rw [if_neg hneg])
  have e0 : decide (a < 0) = false:=decide_eq_false hneg
  simp only [gI,e0] at oa ⊢
  (refine q_H Tryz.func79 (fun F=>?_); simp only [q_z,q_y,Tryz.ntmps79,Tryz.results79])
  repeat' (first|with_reducible refine q_0 ?_|((with_reducible first|refine q_q ibt_ok fun K hK=>?_|refine q_r ibt_ok fun K hK=>?_);simp (maxSteps:=2000000) only [go_sem,↓reduceIte,reduceCtorEq,Nat.reduceLeDiff,Nat.reduceLT,Nat.reduceBEq,Nat.reduceAdd,oa,ka,hds];(repeat1' with_reducible first|apply And.intro|(intro _;try exact q_v)|(refine hK _ ?_;clear hK K))<;>(try (clear hK K;exact q_u)))|(with_reducible refine q_s ?_;(first|apply q_J|apply q_K|apply q_L|apply q_M|apply q_N|apply q_O)<;>try (intro _;try exact q_v)))
  refine q_G (ι:={ i : Nat // i ≤ ds.length }) (fun i=>⟨56,[(5,.bx 1 0),(7,.c (.ints .i64 ds)),(9,.own 4 0),(35,.c (.ints .i64 ds)),(36,.c (.i .i64 ds.length)),(37,.c (.i .i64 (i.1 : Nat)))],⟨[(1,[.c (.i .i64 0),.c (.i .i64 0)])],[(4,⟨0,5,1,.ints .u8 ((ds.take i.1).map chr)⟩)],[]⟩,5⟩) (fun i=>ds.length - i.1) ⟨0,by simp⟩ ?_ ?_
  ·exact q_D
  rintro ⟨i,g1⟩
  simp only at g1 ⊢
  have b1:=InB_getD (by omega) din i
  have hml : ((ds.take i).map chr).length = i:=by simp; omega
  rcases Nat.lt_or_ge i ds.length with hi | hi
  ·have hm:=map_snoc chr ds i hi
   repeat' (first|with_reducible refine q_0 ?_|((with_reducible first|refine q_q ibt_ok fun K hK=>?_|refine q_r ibt_ok fun K hK=>?_);simp (maxSteps:=2000000) only [go_sem,↓reduceIte,reduceCtorEq,Nat.reduceLeDiff,Nat.reduceLT,Nat.reduceBEq,Nat.reduceAdd,hml];(repeat1' with_reducible first|apply And.intro|(intro _;try exact q_v)|(refine hK _ ?_;clear hK K))<;>(try (clear hK K;exact q_u)))|(with_reducible refine q_s ?_;(first|apply q_J|apply q_K|apply q_L|apply q_M|apply q_N|apply q_O)<;>try (intro _;try exact q_v)))
   refine q_F ⟨i + 1,hi⟩ ?_ (by simp only; omega)
   simp only [hm]
   exact q_D
  ·have hi' : i = ds.length:=by omega
   subst hi'
   rw [List.take_length]
   by_cases hz : a = 0
   ·have h0 : ds = []:=List.eq_nil_of_length_eq_zero (by omega)
    subst h0
    rw [if_pos hz] at htx
    repeat' (first|with_reducible refine q_0 ?_|((with_reducible first|refine q_q ibt_ok fun K hK=>?_|refine q_r ibt_ok fun K hK=>?_);simp (maxSteps:=2000000) only [go_sem,↓reduceIte,reduceCtorEq,Nat.reduceLeDiff,Nat.reduceLT,Nat.reduceBEq,Nat.reduceAdd];(repeat1' with_reducible first|apply And.intro|(intro _;try exact q_v)|(refine hK _ ?_;clear hK K))<;>(try (clear hK K;exact q_u)))|(with_reducible refine q_s ?_;(first|apply q_J|apply q_K|apply q_L|apply q_M|apply q_N|apply q_O)<;>try (intro _;try exact q_v)))
    exact q_A (by rw [htx]; rfl)
   ·rw [if_neg hz] at htx
    repeat' (first|with_reducible refine q_0 ?_|((with_reducible first|refine q_q ibt_ok fun K hK=>?_|refine q_r ibt_ok fun K hK=>?_);simp (maxSteps:=2000000) only [go_sem,↓reduceIte,reduceCtorEq,Nat.reduceLeDiff,Nat.reduceLT,Nat.reduceBEq,Nat.reduceAdd];(repeat1' with_reducible first|apply And.intro|(intro _;try exact q_v)|(refine hK _ ?_;clear hK K))<;>(try (clear hK K;exact q_u)))|(with_reducible refine q_s ?_;(first|apply q_J|apply q_K|apply q_L|apply q_M|apply q_N|apply q_O)<;>try (intro _;try exact q_v)))
    exact q_A (by rw [htx]; rfl)
def iTextCT : CT:=mkCT [nP] true fun l K=>match l with
 | [.inr [.b s,.ints .u32 xs],.inl (.i .i64 b)]=>(okZ s xs = true ∧ InB 4294967296 xs ∧ 2 ≤ b ∧ b ≤ 36) ∧ K (.t [.inl (.str (strOf (textI (sv 4294967296 s xs) b.toNat))),.inr [.i .i64 0,.i .i64 0]])
 | _=>False
def iu2 : Cfg:=addT 79 iTextCT cf0
theorem iu2_ok : TblOk Tryz.prog iu2:=q_I cf0_ok Tryz.func79 fun l K h=>by
 split at h
 ·rename_i s xs b
  obtain ⟨⟨h1,h2,h3,h4⟩,h⟩:=h
  obtain ⟨e1,e2,e3⟩:=okZ_eq h1 h2
  obtain ⟨n,rfl⟩ : ∃ n : Nat,b = n:=⟨b.toNat,by omega⟩
  have:=iText_ok (sv 4294967296 s xs) n (by omega) (by omega) (by rw [← e2]; exact e3)
  simp only [gI,← e1,← e2] at this
  exact ⟨_,this.plain rfl,by simpa using h⟩
 ·exact h.elim
attribute [go_sem] iTextCT
end Go.Proofs.YtgkajjifbcmoeaaGreatDoor

namespace Go.Proofs.YtgkajjifbcmoeaaGreatDoor
set_option linter.unusedSimpArgs false
set_option linter.unusedVariables false
open Go.Abs Go.Proofs.NatL

def Nrm (s : Bool) (xs : List Int) : Prop:=InB 4294967296 xs ∧ Trd xs ∧ (xs = [] → s = false)
theorem Nrm_eq {s : Bool} {xs : List Int} (h : Nrm s xs) : s = decide (sv 4294967296 s xs < 0) ∧ xs = dg 4294967296 (sv 4294967296 s xs).natAbs:=by
 obtain ⟨bx,ht,h0⟩:=h
 rw [sv_abs]
 have hd:=dg_V 4294967296 (by omega) xs bx ht
 refine ⟨?_,hd.symm⟩
 cases s
 ·rw [decide_eq_false]; simp [sv]
 ·have hne : xs ≠ []:=fun e=>by have:=h0 e; cases this
  have : 0 < V 4294967296 xs:=by
   rcases Nat.eq_zero_or_pos (V 4294967296 xs) with h | h
   ·rw [h,dg_zero] at hd; exact absurd hd.symm hne
   ·exact h
  rw [decide_eq_true]; simp [sv]; omega
theorem Nrm_g (z : Int) : Nrm (decide (z < 0)) (dg 4294967296 z.natAbs) = True:=by
 refine eq_true ⟨InB_dg _ (by omega) _,dg_trd _ (by omega) _,fun h=>?_⟩
 have:=dg_len_pos 4294967296 z.natAbs (by omega)
 rw [h] at this
 simp only [List.length_nil,Nat.lt_irrefl,false_iff] at this
 exact decide_eq_false (by omega)
theorem Nrm_0 : Nrm false [] = True:=eq_true ⟨InB_nil _,.inl rfl,fun _=>rfl⟩
abbrev gR (z : Int) : List C:=[.b (decide (z < 0)),.ints .i64 (dg 65536 z.natAbs)]
abbrev nR : Option C ⊕ List (Option C):=.inr [none,some (.ints .i64 [])]

def jt0 : Cfg:=addT 33 atCT cf0
theorem jt0_ok : TblOk Tryz.prog jt0:=q_I cf0_ok Tryz.func33 fun l K h=>by
 split at h
 ·exact ⟨_,(At_ret _ _).plain rfl,h⟩
 ·exact h.elim
set_option maxHeartbeats 800000 in
theorem intOk_ret (s : Bool) (xs : List Int) (hx : xs.length ≤ 140737488355328) : Ret Tryz.prog 104 false [.inr [.b s,.ints .u32 xs]] (.c (.b (okZ s xs))):=by
 (refine q_H Tryz.func104 (fun F=>?_); simp only [q_z,q_y,Tryz.ntmps104,Tryz.results104])
 repeat' (first|with_reducible refine q_0 ?_|((with_reducible first|refine q_q cf0_ok fun K hK=>?_|refine q_r cf0_ok fun K hK=>?_);simp (maxSteps:=2000000) only [go_sem,↓reduceIte,reduceCtorEq,Nat.reduceLeDiff,Nat.reduceLT,Nat.reduceBEq,Nat.reduceAdd];(repeat1' with_reducible first|apply And.intro|intro _|(refine hK _ ?_;clear hK K))<;>(try (clear hK K;exact q_u)))|(with_reducible refine q_s ?_;(first|apply q_J|apply q_K|apply q_L|apply q_M|apply q_N|apply q_O)<;>try intro _))
 all_goals refine q_A ?_
 all_goals simp only [resAV,q_y,AV.c.injEq,C.b.injEq]
 all_goals refine okZ_iff s xs _ ?_
 all_goals first | (simp_all; done) | (simp_all; omega)
def jt1 : Cfg:=addT 104 ivalidCT cf0
theorem jt1_ok : TblOk Tryz.prog jt1:=q_I cf0_ok Tryz.func104 fun l K h=>by
 split at h
 ·exact ⟨_,(intOk_ret _ _ h.1).plain rfl,h.2⟩
 ·exact h.elim
attribute [go_sem] Nrm_g Nrm_0 gR
def jb3 : Cfg:=listT [(70,limbsCT),(179,sameCT)] [34]
theorem jb3_ok : TblOk Tryz.prog jb3:=listE_ok (by simp only [List.mem_singleton,forall_eq]; exact flt) ⟨⟨ch1,ch1_ok,rfl⟩,⟨ch2,ch2_ok,rfl⟩,trivial⟩
attribute [go_sem] jb3
end Go.Proofs.YtgkajjifbcmoeaaGreatDoor

namespace Go.Proofs.NatL
set_option linter.unusedSimpArgs false
set_option linter.unusedVariables false

theorem sg_eq_add (s : Bool) (m n : Nat) : sg s m + sg s n = sg s (m + n):=by cases s <;> simp only [sgt,sgf] <;> omega
theorem sg_eq_sub {s t : Bool} (h : s ≠ t) {m n : Nat} (hn : n ≤ m) : sg s m + sg t n = sg s (m - n):=by
 cases s <;> cases t <;> simp only [sgt,sgf] <;> first | exact absurd rfl h | omega
theorem sg_eq_sub' {s t : Bool} (h : s ≠ t) {m n : Nat} (hn : m ≤ n) : sg s m + sg t n = sg t (n - m):=by
 cases s <;> cases t <;> simp only [sgt,sgf] <;> first | exact absurd rfl h | omega
end Go.Proofs.NatL

namespace Go.Proofs.YtgkajjifbcmoeaaGreatDoor
set_option linter.unusedSimpArgs false
set_option linter.unusedVariables false
open Go.Abs Go.Proofs.NatL

def sameIntCT : CT:=mkCT [nP,nR] true fun l K=>match l with
 | [.inr [.b s,.ints .u32 xs],.inr [.b t,.ints .i64 ys]]=>(Nrm s xs ∧ xs.length ≤ 16777216 ∧ InB 65536 ys ∧ Trd ys ∧ ys.length ≤ 4194304) ∧ K (.c (.b (decide (sv 4294967296 s xs = sv 65536 t ys))))
 | _=>False
set_option maxHeartbeats 800000 in
theorem noInt_ret (s : Bool) (xs : List Int) (hn : Nrm s xs) (hx : xs.length ≤ 140737488355328) :
  Ret Tryz.prog 27 false [.inr [.b s,.ints .u32 xs]] (.c (.b (decide (sv 4294967296 s xs = 0)))):=by
 obtain ⟨h1,h2⟩:=Nrm_eq hn
 have hl:=dg_len_pos 4294967296 (sv 4294967296 s xs).natAbs (by omega)
 rw [← h2] at hl
 generalize sv 4294967296 s xs = z at *
 have key : decide (¬ s = true ∧ (xs.length : Int) = 0) = decide (z = 0):=by
  congr 1
  refine propext ⟨fun ⟨e1,e2⟩=>by omega,fun h=>?_⟩
  subst h
  exact ⟨by rw [h1]; simp,by omega⟩
 rw [← key]
 clear key h1 h2 hl
 cases s
 all_goals
  (refine q_H Tryz.func27 (fun F=>?_); simp only [q_z,q_y,Tryz.ntmps27,Tryz.results27])
  repeat' (first|with_reducible refine q_0 ?_|((with_reducible first|refine q_q jb3_ok fun K hK=>?_|refine q_r jb3_ok fun K hK=>?_);simp (maxSteps:=2000000) only [go_sem,↓reduceIte,reduceCtorEq,Nat.reduceLeDiff,Nat.reduceLT,Nat.reduceBEq,Nat.reduceAdd];(repeat1' with_reducible first|apply And.intro|(intro _;try exact q_v)|(refine hK _ ?_;clear hK K))<;>(try (clear hK K;exact q_u)))|(with_reducible refine q_s ?_;(first|apply q_J|apply q_K|apply q_L|apply q_M|apply q_N|apply q_O)<;>try (intro _;try exact q_v)))
 all_goals (refine q_A ?_; simp [resAV,q_y])
def noIntCT : CT:=mkCT [nP] true fun l K=>match l with
 | [.inr [.b s,.ints .u32 xs]]=>(Nrm s xs ∧ xs.length ≤ 140737488355328) ∧ K (.c (.b (decide (sv 4294967296 s xs = 0))))
 | _=>False
def jt6 : Cfg:=addT 27 noIntCT cf0
theorem jt6_ok : TblOk Tryz.prog jt6:=q_I cf0_ok Tryz.func27 fun l K h=>by
 split at h
 ·exact ⟨_,(noInt_ret _ _ h.1.1 h.1.2).plain rfl,h.2⟩
 ·exact h.elim
attribute [go_sem] sameIntCT noIntCT sv32 sv65 svz65
def numberCT : CT:=mkCT [] false fun l K=>match l with
 | [.inl (.i .i64 n)]=>(-9223372036854775808 ≤ n ∧ n ≤ 9223372036854775807) ∧ K (.g (gR n))
 | _=>False
attribute [go_sem] numberCT
end Go.Proofs.YtgkajjifbcmoeaaGreatDoor

namespace Go.Proofs.NatL
set_option linter.unusedSimpArgs false
set_option linter.unusedVariables false
theorem zadd_len {B k : Nat} {a b : Int} (hB : 2 ≤ B) (h : (dg B a.natAbs).length ≤ k) (h2 : (dg B b.natAbs).length ≤ k) : (dg B (a + b).natAbs).length ≤ k + 1 :=
 Nat.le_trans (dg_len_mono hB (Int.natAbs_add_le a b)) (add_len hB h h2)
theorem zmul_len {B k l : Nat} {a b : Int} (hB : 2 ≤ B) (h : (dg B a.natAbs).length ≤ k) (h2 : (dg B b.natAbs).length ≤ l) : (dg B (a * b).natAbs).length ≤ k + l:=by
 rw [Int.natAbs_mul]; exact mul_len hB h h2
end Go.Proofs.NatL

namespace Go.Proofs.YtgkajjifbcmoeaaGreatDoor
set_option linter.unusedSimpArgs false
set_option linter.unusedVariables false
open Go.Proofs.NatL

structure BitOp (op : Nat → Nat → Nat) : Prop where
 lt : ∀ k x y,x < 2 ^ k → y < 2 ^ k → op x y < 2 ^ k
 split : ∀ k x y s t,x < 2 ^ k → y < 2 ^ k → op (x + 2 ^ k * s) (y + 2 ^ k * t) = op x y + 2 ^ k * op s t

theorem BitOp.zero {op : Nat → Nat → Nat} (h : BitOp op) : op 0 0 = 0:=by
 have:=h.split 0 0 0 0 0 (by simp) (by simp)
 simp at this; omega

def lo (k : Nat) (a : Int) : Nat:=(a % ((2 ^ k : Nat) : Int)).toNat
def FitK (k : Nat) (a : Int) : Prop := -((2 ^ k : Nat) : Int) ≤ a ∧ a < ((2 ^ k : Nat) : Int)
theorem FitK.mono {k m : Nat} {a : Int} (h : FitK k a) (hm : k ≤ m) : FitK m a:=by
 have:=Nat.pow_le_pow_right (n:=2) (by omega) hm
 unfold FitK at *; omega
end Go.Proofs.YtgkajjifbcmoeaaGreatDoor

namespace Go.Proofs.YtgkajjifbcmoeaaGreatDoor
set_option linter.unusedSimpArgs false
set_option linter.unusedVariables false
open Go.Proofs.NatL

def pm (a : Int) (e : Nat) (m : Int) : Int:=(a ^ e) % m
end Go.Proofs.YtgkajjifbcmoeaaGreatDoor

namespace Go.Abs
set_option linter.unusedSimpArgs false
set_option linter.unusedVariables false
variable {P : Program}
end Go.Abs
namespace Go.Proofs.YtgkajjifbcmoeaaGreatDoor
set_option linter.unusedSimpArgs false
set_option linter.unusedVariables false
open Go.Proofs.NatL

def bits (n v : Nat) : List Bool:=(List.range n).map fun i=>v.testBit i
end Go.Proofs.YtgkajjifbcmoeaaGreatDoor

namespace Go.Proofs.YtgkajjifbcmoeaaGreatDoor
set_option linter.unusedSimpArgs false
set_option linter.unusedVariables false
open Go.Abs Go.Proofs.NatL

def ku1 : Cfg:=it6
def ku2 : Cfg:=ku1
attribute [go_sem] okZ_g
def kc : Cfg:=listT [(79,iTextCT),(191,sameIntCT),(55,numberCT)] [34]
attribute [go_sem] kc
end Go.Proofs.YtgkajjifbcmoeaaGreatDoor

namespace Go.Proofs.NatL
set_option linter.unusedSimpArgs false
set_option linter.unusedVariables false
def rdN (n : Int) (d : Nat) : Int:=n / ((Nat.gcd n.natAbs d : Nat) : Int)
def rdD (n : Int) (d : Nat) : Nat:=d / Nat.gcd n.natAbs d
theorem rd_gpos (n : Int) {d : Nat} (hd : 0 < d) : 0 < Nat.gcd n.natAbs d:=Nat.gcd_pos_of_pos_right _ hd
theorem rd_n (n : Int) (d : Nat) : n = rdN n d * ((Nat.gcd n.natAbs d : Nat) : Int):=by
 have h : ((Nat.gcd n.natAbs d : Nat) : Int) ∣ n:=Int.ofNat_dvd_left.2 (Nat.gcd_dvd_left _ _)
 exact (Int.ediv_mul_cancel h).symm
theorem rd_d (n : Int) (d : Nat) : d = rdD n d * Nat.gcd n.natAbs d:=(Nat.div_mul_cancel (Nat.gcd_dvd_right _ _)).symm
theorem rdD_pos (n : Int) {d : Nat} (hd : 0 < d) : 0 < rdD n d:=Nat.div_pos (Nat.le_of_dvd hd (Nat.gcd_dvd_right _ _)) (rd_gpos n hd)
theorem rdN_abs (n : Int) {d : Nat} (hd : 0 < d) : (rdN n d).natAbs = n.natAbs / Nat.gcd n.natAbs d:=by
 have hg:=rd_gpos n hd
 have h:=congrArg Int.natAbs (rd_n n d)
 rw [Int.natAbs_mul,Int.natAbs_natCast] at h
 generalize Nat.gcd n.natAbs d = g at *
 rw [h,Nat.mul_div_cancel _ hg]
theorem rdN_neg (n : Int) {d : Nat} (hd : 0 < d) : decide (rdN n d < 0) = decide (n < 0):=by
 have hg:=rd_gpos n hd
 have h:=rd_n n d
 generalize Nat.gcd n.natAbs d = g at *
 generalize rdN n d = m at *
 have h1 : m < 0 → n < 0:=fun hm=>by
  rw [h]; exact Int.mul_neg_of_neg_of_pos hm (by omega)
 have h2 : 0 ≤ m → 0 ≤ n:=fun hm=>by
  rw [h]; exact Int.mul_nonneg hm (by omega)
 exact decide_eq_decide.2 (by omega)
theorem rd_gcd (n : Int) {d : Nat} (hd : 0 < d) : Nat.gcd (rdN n d).natAbs (rdD n d) = 1:=by
 rw [rdN_abs n hd]
 exact Nat.gcd_div_gcd_div_gcd_of_pos_right hd
theorem rd_val (n : Int) (d : Nat) : rdN n d * (d : Int) = n * (rdD n d : Int):=by
 have h1:=rd_n n d
 have h2:=rd_d n d
 generalize Nat.gcd n.natAbs d = g at *
 generalize rdN n d = m at *
 generalize rdD n d = c at *
 rw [h1,h2,Int.natCast_mul]
 rw [Int.mul_assoc,Int.mul_comm (g : Int) (c : Int)]
end Go.Proofs.NatL

namespace Go.Proofs.NatL
set_option linter.unusedSimpArgs false
set_option linter.unusedVariables false
def okQ (s : Bool) (xs : List Int) (t : Bool) (ys : List Int) : Bool:=okZ s xs && okZ t ys && !t && decide (0 < ys.length) && decide (Nat.gcd (V 4294967296 xs) (V 4294967296 ys) = 1)
def RT (z : Int) (d : Nat) : Prop:=0 < d ∧ Nat.gcd z.natAbs d = 1 ∧ (dg 4294967296 z.natAbs).length ≤ 128 ∧ (dg 4294967296 d).length ≤ 128
theorem okQ_z {s t : Bool} {xs ys : List Int} (h : okQ s xs t ys = true) : okZ s xs = true ∧ okZ t ys = true ∧ t = false ∧ 0 < ys.length ∧ Nat.gcd (V 4294967296 xs) (V 4294967296 ys) = 1:=by
 unfold okQ at h
 simp only [Bool.and_eq_true,Bool.not_eq_true',decide_eq_true_eq] at h
 obtain ⟨⟨⟨⟨h1,h2⟩,h3⟩,h4⟩,h5⟩:=h
 exact ⟨h1,h2,h3,h4,h5⟩
theorem okQ_eq {s t : Bool} {xs ys : List Int} (h : okQ s xs t ys = true) (bx : InB 4294967296 xs) (by' : InB 4294967296 ys) :
  ∃ (z : Int) (d : Nat),sv 4294967296 s xs = z ∧ V 4294967296 ys = d ∧ s = decide (z < 0) ∧ xs = dg 4294967296 z.natAbs ∧ t = false ∧ ys = dg 4294967296 d ∧ RT z d:=by
 obtain ⟨h1,h2,rfl,h4,h5⟩:=okQ_z h
 obtain ⟨a1,a2,a3⟩:=okZ_eq h1 bx
 obtain ⟨b1,b2,b3⟩:=okZ_eq h2 by'
 rw [sv_abs] at b2
 refine ⟨_,_,rfl,rfl,a1,a2,rfl,b2,?_,?_,?_,?_⟩
 ·rw [b2] at h4; exact (dg_len_pos _ _ (by omega)).1 h4
 ·rw [sv_abs]; exact h5
 ·rw [← a2]; exact a3
 ·rw [← b2]; exact b3
theorem okQ_g {z : Int} {d : Nat} (h : RT z d) : okQ (decide (z < 0)) (dg 4294967296 z.natAbs) false (dg 4294967296 d) = true:=by
 obtain ⟨h1,h2,h3,h4⟩:=h
 have e:=okZ_g (d : Int)
 rw [Int.natAbs_natCast,show decide ((d : Int) < 0) = false from decide_eq_false (by omega),decide_eq_true h4] at e
 unfold okQ
 rw [okZ_g,decide_eq_true h3,e,V_dg _ (by omega),V_dg _ (by omega),decide_eq_true h2,decide_eq_true ((dg_len_pos _ _ (by omega)).2 h1)]
 rfl
theorem dg_one (B : Nat) (hB : 2 ≤ B) : dg B 1 = [1]:=by
 rw [dg_pos _ _ hB (by omega),Nat.mod_eq_of_lt (by omega),Nat.div_eq_of_lt (by omega)]; rfl
theorem dg_is1 {B : Nat} (hB : 2 ≤ B) {n : Nat} (h : (dg B n).length = 1) : (dg B n).getD 0 0 = n:=by
 have h0 : 0 < n:=(dg_len_pos B n hB).1 (by omega)
 have h1:=dg_pos B n hB h0
 have h2 : n / B = 0:=by
  rcases Nat.eq_zero_or_pos (n / B) with h3 | h3
  ·exact h3
  ·have:=(dg_len_pos B _ hB).2 h3
   have h':=congrArg List.length h1
   rw [h,List.length_cons] at h'
   omega
 rw [h1,h2]
 have : n % B = n:=by
  rw [Nat.mod_eq_of_lt]
  have:=Nat.div_add_mod n B
  have:=Nat.mod_lt n (show 0 < B by omega)
  rw [h2] at *
  omega
 simp [this]
def qbC : List (Bool × List Int × Bool × List Int) → Int
 | []=>0
 | p :: l=>if okQ p.1 p.2.1 p.2.2.1 p.2.2.2 then qbC l else 6
def qbX : Int → List (Bool × List Int × Bool × List Int) → Int
 | _,[]=>0
 | i,p :: l=>if okQ p.1 p.2.1 p.2.2.1 p.2.2.2 then qbX (i + 1) l else -1 - i
def allQ (n : Nat) : List (Bool × List Int × Bool × List Int) → Prop
 | []=>True
 | p :: l=>(p.2.1.length ≤ n ∧ p.2.2.2.length ≤ n ∧ InB 4294967296 p.2.1 ∧ InB 4294967296 p.2.2.2) ∧ allQ n l
abbrev q0 : Bool × List Int × Bool × List Int:=(false,[],false,[])
theorem allQ_get {n : Nat} : ∀ {l : List (Bool × List Int × Bool × List Int)} {i : Nat},allQ n l → (l.getD i q0).2.1.length ≤ n ∧ (l.getD i q0).2.2.2.length ≤ n ∧ InB 4294967296 (l.getD i q0).2.1 ∧ InB 4294967296 (l.getD i q0).2.2.2
 | [],i,_=>by simp [InB_nil]
 | p :: l,0,h=>h.1
 | p :: l,i + 1,h=>by simpa using allQ_get (i:=i) h.2
theorem drop_getQ (l : List (Bool × List Int × Bool × List Int)) (i : Nat) (h : i < l.length) : l.drop i = l.getD i q0 :: l.drop (i + 1):=by
 rw [List.drop_eq_getElem_cons h,List.getD_eq_getElem?_getD,List.getElem?_eq_getElem h]; rfl
end Go.Proofs.NatL
namespace Go.Proofs.YtgkajjifbcmoeaaGreatDoor
set_option linter.unusedSimpArgs false
set_option linter.unusedVariables false
open Go.Abs Go.Proofs.NatL

theorem okZ_okN {s : Bool} {xs : List Int} (h : okZ s xs = true) : okN xs = true:=by
 unfold okZ at h
 obtain ⟨h1,h2⟩:=of_decide_eq_true h
 unfold okN
 refine decide_eq_true ⟨by omega,?_⟩
 rcases h2 with ⟨rfl,_⟩ | ⟨_,h2⟩
 ·exact .inl rfl
 ·exact h2
abbrev nQ : Option C ⊕ List (Option C):=.inr [none,some (.ints .u32 []),none,some (.ints .u32 [])]
def qb1 : Cfg:=listT [(143,ivalidCT),(84,gcGoodCT),(175,atCT)] [34]
theorem qb1_ok : TblOk Tryz.prog qb1:=listE_ok (by simp only [List.mem_singleton,forall_eq]; exact flt) ⟨⟨it2,it2_ok,rfl⟩,⟨nt1,nt1_ok,rfl⟩,⟨it1,it1_ok,rfl⟩,trivial⟩
attribute [go_sem] qb1
def validQCT : CT:=mkCT [nQ] true fun l K=>match l with
 | [.inr [.b s,.ints .u32 xs,.b t,.ints .u32 ys]]=>(xs.length ≤ 140737488355328 ∧ ys.length ≤ 140737488355328 ∧ InB 4294967296 xs ∧ InB 4294967296 ys) ∧ K (.c (.b (okQ s xs t ys)))
 | _=>False
set_option maxHeartbeats 1600000 in
theorem validQ_ret (s t : Bool) (xs ys : List Int) (h1 : xs.length ≤ 140737488355328) (h2 : ys.length ≤ 140737488355328) (b1 : InB 4294967296 xs) (b2 : InB 4294967296 ys) :
  Ret Tryz.prog 96 false [.inr [.b s,.ints .u32 xs,.b t,.ints .u32 ys]] (.c (.b (okQ s xs t ys))):=by
 cases e1 : okZ s xs
 ·(refine q_H Tryz.func96 (fun F=>?_); simp only [q_z,q_y,Tryz.ntmps96,Tryz.results96])
  repeat' (first|with_reducible refine q_0 ?_|((with_reducible first|refine q_q qb1_ok fun K hK=>?_|refine q_r qb1_ok fun K hK=>?_);simp (maxSteps:=2000000) only [go_sem,↓reduceIte,reduceCtorEq,Nat.reduceLeDiff,Nat.reduceLT,Nat.reduceBEq,Nat.reduceAdd,e1];(repeat1' with_reducible first|apply And.intro|(intro _;try exact q_v)|(refine hK _ ?_;clear hK K))<;>(try (clear hK K;exact q_u)))|(with_reducible refine q_s ?_;(first|apply q_J|apply q_K|apply q_L|apply q_M|apply q_N|apply q_O)<;>try (intro _;try exact q_v)))
  all_goals exact q_A (by simp [resAV,q_y,okQ,e1])
 cases e2 : okZ t ys
 ·(refine q_H Tryz.func96 (fun F=>?_); simp only [q_z,q_y,Tryz.ntmps96,Tryz.results96])
  repeat' (first|with_reducible refine q_0 ?_|((with_reducible first|refine q_q qb1_ok fun K hK=>?_|refine q_r qb1_ok fun K hK=>?_);simp (maxSteps:=2000000) only [go_sem,↓reduceIte,reduceCtorEq,Nat.reduceLeDiff,Nat.reduceLT,Nat.reduceBEq,Nat.reduceAdd,e1,e2];(repeat1' with_reducible first|apply And.intro|(intro _;try exact q_v)|(refine hK _ ?_;clear hK K))<;>(try (clear hK K;exact q_u)))|(with_reducible refine q_s ?_;(first|apply q_J|apply q_K|apply q_L|apply q_M|apply q_N|apply q_O)<;>try (intro _;try exact q_v)))
  all_goals exact q_A (by simp [resAV,q_y,okQ,e1,e2])
 have o1:=okZ_okN e1
 have o2:=okZ_okN e2
 cases t
 ·rcases Nat.eq_zero_or_pos ys.length with h0 | h0
  ·have e0 : ((ys.length : Int) = 0) = True:=eq_true (by omega)
   (refine q_H Tryz.func96 (fun F=>?_); simp only [q_z,q_y,Tryz.ntmps96,Tryz.results96])
   repeat' (first|with_reducible refine q_0 ?_|((with_reducible first|refine q_q qb1_ok fun K hK=>?_|refine q_r qb1_ok fun K hK=>?_);simp (maxSteps:=2000000) only [go_sem,↓reduceIte,reduceCtorEq,Nat.reduceLeDiff,Nat.reduceLT,Nat.reduceBEq,Nat.reduceAdd,e1,e2,e0];(repeat1' with_reducible first|apply And.intro|(intro _;try exact q_v)|(refine hK _ ?_;clear hK K))<;>(try (clear hK K;exact q_u)))|(with_reducible refine q_s ?_;(first|apply q_J|apply q_K|apply q_L|apply q_M|apply q_N|apply q_O)<;>try (intro _;try exact q_v)))
   all_goals exact q_A (by simp [resAV,q_y,okQ,h0])
  ·have e0 : ((ys.length : Int) = 0) = False:=eq_false (by omega)
   generalize hg : Nat.gcd (V 4294967296 xs) (V 4294967296 ys) = g at *
   have hgl : (dg 4294967296 g).length ≤ 600:=by
    rw [← hg]
    refine Nat.le_trans (dg_len_mono (by omega) (Nat.gcd_le_right _ ?_)) (m:=(dg 4294967296 (V 4294967296 ys)).length) ?_
    ·rw [← dg_V 4294967296 (by omega) ys b2 (okN_parts o2).2] at h0
     exact (dg_len_pos _ _ (by omega)).1 h0
    ·rw [dg_V 4294967296 (by omega) ys b2 (okN_parts o2).2]; exact (okN_parts o2).1
   by_cases h1 : (dg 4294967296 g).length = 1
   ·have e3:=dg_is1 (by omega) h1
    (refine q_H Tryz.func96 (fun F=>?_); simp only [q_z,q_y,Tryz.ntmps96,Tryz.results96])
    repeat' (first|with_reducible refine q_0 ?_|((with_reducible first|refine q_q qb1_ok fun K hK=>?_|refine q_r qb1_ok fun K hK=>?_);simp (maxSteps:=2000000) only [go_sem,↓reduceIte,reduceCtorEq,Nat.reduceLeDiff,Nat.reduceLT,Nat.reduceBEq,Nat.reduceAdd,e1,e2,e0,hg,h1,e3];(repeat1' with_reducible first|apply And.intro|(intro _;try exact q_v)|(refine hK _ ?_;clear hK K))<;>(try (clear hK K;exact q_u)))|(with_reducible refine q_s ?_;(first|apply q_J|apply q_K|apply q_L|apply q_M|apply q_N|apply q_O)<;>try (intro _;try exact q_v)))
    all_goals exact q_A (by simp [resAV,q_y,okQ,e1,e2,hg,h0]; omega)
   ·have e3 : g ≠ 1:=fun h=>h1 (by rw [h,dg_one _ (by omega)]; rfl)
    have e4 : (((dg 4294967296 g).length : Int) = 1) = False:=eq_false (by omega)
    (refine q_H Tryz.func96 (fun F=>?_); simp only [q_z,q_y,Tryz.ntmps96,Tryz.results96])
    repeat' (first|with_reducible refine q_0 ?_|((with_reducible first|refine q_q qb1_ok fun K hK=>?_|refine q_r qb1_ok fun K hK=>?_);simp (maxSteps:=2000000) only [go_sem,↓reduceIte,reduceCtorEq,Nat.reduceLeDiff,Nat.reduceLT,Nat.reduceBEq,Nat.reduceAdd,e1,e2,e0,hg,e4];(repeat1' with_reducible first|apply And.intro|(intro _;try exact q_v)|(refine hK _ ?_;clear hK K))<;>(try (clear hK K;exact q_u)))|(with_reducible refine q_s ?_;(first|apply q_J|apply q_K|apply q_L|apply q_M|apply q_N|apply q_O)<;>try (intro _;try exact q_v)))
    all_goals exact q_A (by simp [resAV,q_y,okQ,e1,e2,hg,h0,e3])
 ·(refine q_H Tryz.func96 (fun F=>?_); simp only [q_z,q_y,Tryz.ntmps96,Tryz.results96])
  repeat' (first|with_reducible refine q_0 ?_|((with_reducible first|refine q_q qb1_ok fun K hK=>?_|refine q_r qb1_ok fun K hK=>?_);simp (maxSteps:=2000000) only [go_sem,↓reduceIte,reduceCtorEq,Nat.reduceLeDiff,Nat.reduceLT,Nat.reduceBEq,Nat.reduceAdd,e1,e2];(repeat1' with_reducible first|apply And.intro|(intro _;try exact q_v)|(refine hK _ ?_;clear hK K))<;>(try (clear hK K;exact q_u)))|(with_reducible refine q_s ?_;(first|apply q_J|apply q_K|apply q_L|apply q_M|apply q_N|apply q_O)<;>try (intro _;try exact q_v)))
  all_goals exact q_A (by simp [resAV,q_y,okQ])
def qt1 : Cfg:=addT 96 validQCT cf0
theorem qt1_ok : TblOk Tryz.prog qt1:=q_I cf0_ok Tryz.func96 fun l K h=>by
 split at h
 ·exact ⟨_,(validQ_ret _ _ _ _ h.1.1 h.1.2.1 h.1.2.2.1 h.1.2.2.2).plain rfl,h.2⟩
 ·exact h.elim
def qt2 : Cfg:=addT 90 atCT cf0
theorem qt2_ok : TblOk Tryz.prog qt2:=q_I cf0_ok Tryz.func90 fun l K h=>by
 split at h
 ·refine ⟨_,Ret.plain ?_ rfl,h⟩
  (refine q_H Tryz.func90 (fun F=>?_); simp only [q_z,q_y,Tryz.ntmps90,Tryz.results90])
  repeat' (first|with_reducible refine q_0 ?_|((with_reducible first|refine q_q qb1_ok fun K hK=>?_|refine q_r qb1_ok fun K hK=>?_);simp (maxSteps:=2000000) only [go_sem,↓reduceIte,reduceCtorEq,Nat.reduceLeDiff,Nat.reduceLT,Nat.reduceBEq,Nat.reduceAdd];(repeat1' with_reducible first|apply And.intro|(intro _;try exact q_v)|(refine hK _ ?_;clear hK K))<;>(try (clear hK K;exact q_u)))|(with_reducible refine q_s ?_;(first|apply q_J|apply q_K|apply q_L|apply q_M|apply q_N|apply q_O)<;>try (intro _;try exact q_v)))
  exact q_A rfl
 ·exact h.elim
attribute [go_sem] validQCT
def qb2 : Cfg:=listT [(96,validQCT),(90,atCT)] [34]
theorem qb2_ok : TblOk Tryz.prog qb2:=listE_ok (by simp only [List.mem_singleton,forall_eq]; exact flt) ⟨⟨qt1,qt1_ok,rfl⟩,⟨qt2,qt2_ok,rfl⟩,trivial⟩
attribute [go_sem] qb2
def rowQ (p : Bool × List Int × Bool × List Int) : List C:=[.b p.1,.ints .u32 p.2.1,.b p.2.2.1,.ints .u32 p.2.2.2]
def unQ : List (List C) → Option (List (Bool × List Int × Bool × List Int))
 | []=>some []
 | [.b s,.ints .u32 xs,.b t,.ints .u32 ys] :: r=>(unQ r).map ((s,xs,t,ys) :: ·)
 | _ :: _=>none
theorem unQ_some : ∀ {rows : List (List C)} {l : List (Bool × List Int × Bool × List Int)},unQ rows = some l → rows = l.map rowQ
 | [],l,h=>by simp [unQ] at h; subst h; rfl
 | r :: rows,l,h=>by
  unfold unQ at h
  split at h
  ·rename_i h0; cases h0
  ·rename_i s xs t ys r' h0
   cases h0
   obtain ⟨l',h1,rfl⟩:=Option.map_eq_some_iff.1 h
   rw [unQ_some h1]; rfl
  ·cases h
theorem rowQ_get (l : List (Bool × List Int × Bool × List Int)) (i : Nat) (h : i < l.length) : (l.map rowQ).getD i [] = [.b (l.getD i q0).1,.ints .u32 (l.getD i q0).2.1,.b (l.getD i q0).2.2.1,.ints .u32 (l.getD i q0).2.2.2]:=by
 simp [List.getD_eq_getElem?_getD,List.getElem?_eq_getElem h,rowQ]
set_option maxHeartbeats 1600000 in
theorem qcheck_ret (l : List (Bool × List Int × Bool × List Int)) (hn : l.length ≤ 1000) (hl : allQ 140737488355328 l) :
  Ret Tryz.prog 86 false [.inl (.sl 4 (l.map rowQ))] (.g [.i .i64 (qbC l),.i .i64 (qbX 0 l)]):=by
 (refine q_H Tryz.func86 (fun F=>?_); simp only [q_z,q_y,Tryz.ntmps86,Tryz.results86])
 repeat' (first|with_reducible refine q_0 ?_|((with_reducible first|refine q_q qb2_ok fun K hK=>?_|refine q_r qb2_ok fun K hK=>?_);simp (maxSteps:=2000000) only [go_sem,↓reduceIte,reduceCtorEq,Nat.reduceLeDiff,Nat.reduceLT,Nat.reduceBEq,Nat.reduceAdd,List.length_map];(repeat1' with_reducible first|apply And.intro|intro _|(refine hK _ ?_;clear hK K))<;>(try (clear hK K;exact q_u)))|(with_reducible refine q_s ?_;(first|apply q_J|apply q_K|apply q_L|apply q_M|apply q_N|apply q_O)<;>try intro _))
 refine q_G (ι:={ i : Nat // i ≤ l.length ∧ qbC (l.drop i) = qbC l ∧ qbX i (l.drop i) = qbX 0 l }) (fun i=>⟨20,[(2,.bx 0 0),(5,.c (.sl 4 (l.map rowQ))),(6,.c (.i .i64 l.length)),(7,.c (.i .i64 (i.1 : Nat)))],⟨[(0,[.c (.i .i64 0),.c (.i .i64 0)])],[],[]⟩,1⟩) (fun i=>l.length - i.1) ⟨0,by simp,rfl,rfl⟩ ?_ ?_
 ·exact q_D
 rintro ⟨i,g1,g2,g3⟩
 simp only at g1 g2 g3 ⊢
 obtain ⟨n1,n2,n3,n4⟩:=allQ_get (i:=i) hl
 rcases Nat.lt_or_ge i l.length with hi | hi
 ·have hr:=rowQ_get l i hi
  rw [drop_getQ l i hi,qbC] at g2
  rw [drop_getQ l i hi,qbX] at g3
  cases ho : okQ (l.getD i q0).1 (l.getD i q0).2.1 (l.getD i q0).2.2.1 (l.getD i q0).2.2.2
  ·simp only [ho,Bool.false_eq_true,if_false] at g2 g3
   repeat' (first|with_reducible refine q_0 ?_|((with_reducible first|refine q_q qb2_ok fun K hK=>?_|refine q_r qb2_ok fun K hK=>?_);simp (maxSteps:=2000000) only [go_sem,↓reduceIte,reduceCtorEq,Nat.reduceLeDiff,Nat.reduceLT,Nat.reduceBEq,Nat.reduceAdd,hr,ho,List.length_map];(repeat1' with_reducible first|apply And.intro|(intro _;try exact q_v)|(refine hK _ ?_;clear hK K))<;>(try (clear hK K;exact q_u)))|(with_reducible refine q_s ?_;(first|apply q_J|apply q_K|apply q_L|apply q_M|apply q_N|apply q_O)<;>try (intro _;try exact q_v)))
   all_goals first | omega | assumption | exact q_A (by rw [← g2,← g3]; rfl) | skip
  ·simp only [ho,if_true] at g2 g3
   repeat' (first|with_reducible refine q_0 ?_|((with_reducible first|refine q_q qb2_ok fun K hK=>?_|refine q_r qb2_ok fun K hK=>?_);simp (maxSteps:=2000000) only [go_sem,↓reduceIte,reduceCtorEq,Nat.reduceLeDiff,Nat.reduceLT,Nat.reduceBEq,Nat.reduceAdd,hr,ho,List.length_map];(repeat1' with_reducible first|apply And.intro|(intro _;try exact q_v)|(refine hK _ ?_;clear hK K))<;>(try (clear hK K;exact q_u)))|(with_reducible refine q_s ?_;(first|apply q_J|apply q_K|apply q_L|apply q_M|apply q_N|apply q_O)<;>try (intro _;try exact q_v)))
   all_goals first | omega | assumption | skip
   refine q_F ⟨i + 1,hi,g2,by push_cast; exact g3⟩ ?_ (by simp only; omega)
   exact q_D
 ·have hi' : i = l.length:=by omega
  subst hi'
  rw [List.drop_length] at g2 g3
  repeat' (first|with_reducible refine q_0 ?_|((with_reducible first|refine q_q qb2_ok fun K hK=>?_|refine q_r qb2_ok fun K hK=>?_);simp (maxSteps:=2000000) only [go_sem,↓reduceIte,reduceCtorEq,Nat.reduceLeDiff,Nat.reduceLT,Nat.reduceBEq,Nat.reduceAdd,List.length_map];(repeat1' with_reducible first|apply And.intro|(intro _;try exact q_v)|(refine hK _ ?_;clear hK K))<;>(try (clear hK K;exact q_u)))|(with_reducible refine q_s ?_;(first|apply q_J|apply q_K|apply q_L|apply q_M|apply q_N|apply q_O)<;>try (intro _;try exact q_v)))
  exact q_A (by rw [← g2,← g3]; rfl)
def qcheckCT : CT:=mkCT [] true fun l K=>match l with
 | [.inl (.sl 4 rows)]=>match unQ rows with
  | some l=>(l.length ≤ 1000 ∧ allQ 140737488355328 l) ∧ K (.g [.i .i64 (qbC l),.i .i64 (qbX 0 l)])
  | none=>False
 | _=>False
def qt3 : Cfg:=addT 86 qcheckCT cf0
theorem qt3_ok : TblOk Tryz.prog qt3:=q_I cf0_ok Tryz.func86 fun l K h=>by
 split at h
 ·split at h
  ·rename_i l hl
   rw [unQ_some hl]
   exact ⟨_,(qcheck_ret l h.1.1 h.1.2).plain rfl,h.2⟩
  ·exact h.elim
 ·exact h.elim
attribute [go_sem] qcheckCT unQ qbC qbX allQ
end Go.Proofs.YtgkajjifbcmoeaaGreatDoor

namespace Go.Proofs.NatL
set_option linter.unusedSimpArgs false
set_option linter.unusedVariables false
def fQ (z : Int) (d : Nat) : Prop:=(dg 4294967296 z.natAbs).length ≤ 128 ∧ (dg 4294967296 d).length ≤ 128
instance decFQ (z : Int) (d : Nat) : Decidable (fQ z d):=by unfold fQ; infer_instance
def fN (z : Int) (d : Nat) : Int:=if fQ z d then z else 0
def fD (z : Int) (d : Nat) : Nat:=if fQ z d then d else 0
def fC (z : Int) (d : Nat) : Int:=if fQ z d then 0 else 14
def fI (z : Int) (d : Nat) : Int:=if fQ z d then 0 else -1
theorem f_fit {z : Int} {d : Nat} (h : fQ z d) : fN z d = z ∧ fD z d = d ∧ fC z d = 0 ∧ fI z d = 0:=by simp [fN,fD,fC,fI,h]
theorem f_big {z : Int} {d : Nat} (h : ¬ fQ z d) : fN z d = 0 ∧ fD z d = 0 ∧ fC z d = 14 ∧ fI z d = -1:=by simp [fN,fD,fC,fI,h]
theorem rd_sg (s : Bool) (m : Nat) {d : Nat} (hd : 0 < d) : rdN (sg s m) d = sg s (m / Nat.gcd m d) ∧ rdD (sg s m) d = d / Nat.gcd m d:=by
 have h1:=rdN_abs (sg s m) hd
 have h2:=rdN_neg (sg s m) hd
 rw [sg_abs] at h1
 refine ⟨?_,by unfold rdD; rw [sg_abs]⟩
 have e:=sg_self (rdN (sg s m) d)
 rw [h1,h2] at e
 rw [← e]
 rcases Nat.eq_zero_or_pos (m / Nat.gcd m d) with h | h
 ·rw [h]; cases decide (sg s m < 0) <;> cases s <;> rfl
 ·have hm : 0 < m:=by
   rcases Nat.eq_zero_or_pos m with h0 | h0
   ·rw [h0,Nat.zero_div] at h; omega
   ·exact h0
  congr 1
  cases s
  ·rw [sgf]; exact decide_eq_false (by omega)
  ·rw [sgt]; exact decide_eq_true (by omega)
theorem sg_negd (s : Bool) (k : Nat) : decide (sg s k < 0) = (s && decide (0 < k)):=by
 cases s
 ·rw [sgf,Bool.false_and]; exact decide_eq_false (by omega)
 ·rw [sgt,Bool.true_and]; congr 1; exact propext ⟨fun h=>by omega,fun h=>by omega⟩
def plF (u : Bool) (a b : Int) : Int:=if u = true then a - b else a + b
theorem plF_f (a b : Int) : plF false a b = a + b:=rfl
theorem plF_t (a b : Int) : plF true a b = a - b:=rfl
theorem plF_sg (s t u : Bool) (m n c d : Nat) : plF u (sg s m * d) (sg t n * c) = sg s (m * d) + sg (t != u) (n * c):=by
 have e1 : sg s m * (d : Int) = sg s (m * d):=by have:=sg_mul s false m d; rw [sgf,Bool.bne_false] at this; exact this.symm
 have e2 : sg t n * (c : Int) = sg t (n * c):=by have:=sg_mul t false n c; rw [sgf,Bool.bne_false] at this; exact this.symm
 rw [e1,e2]
 cases u
 ·rw [plF_f,Bool.bne_false]
 ·rw [plF_t,Bool.bne_true,sg_not]; omega
end Go.Proofs.NatL
namespace Go.Proofs.YtgkajjifbcmoeaaGreatDoor
set_option linter.unusedSimpArgs false
set_option linter.unusedVariables false
open Go.Abs Go.Proofs.NatL

abbrev nU : Option C ⊕ List (Option C):=.inl (some (.ints .u32 []))
def natCT (p : Nat → Nat → Prop) (f : Nat → Nat → AV) : CT:=mkCT [nU,nU] false fun l K=>match l with
 | [.inl (.ints .u32 xs),.inl (.ints .u32 ys)]=>(InB 4294967296 xs ∧ Trd xs ∧ xs.length ≤ 300 ∧ InB 4294967296 ys ∧ Trd ys ∧ ys.length ≤ 300 ∧ p (V 4294967296 xs) (V 4294967296 ys)) ∧ K (f (V 4294967296 xs) (V 4294967296 ys))
 | _=>False
def oneN (k : Nat) : AV:=.t [.inl (.ints .u32 (dg 4294967296 k)),.inr [.i .i64 0,.i .i64 0]]
def rAddN (m n : Nat) : AV:=oneN (m + n)
def rSubN (m n : Nat) : AV:=oneN (m - n)
def rMulN (m n : Nat) : AV:=oneN (m * n)
def rGcdN (m n : Nat) : AV:=oneN (Nat.gcd m n)
def rDivN (m n : Nat) : AV:=.t [.inl (.ints .u32 (dg 4294967296 (m / n))),.inl (.ints .u32 (dg 4294967296 (m % n))),.inr [.i .i64 0,.i .i64 0]]
def rCmpN (m n : Nat) : AV:=.t [.inl (.i .i64 (cmp3 m n)),.inr [.i .i64 0,.i .i64 0]]
theorem nat_tr {F : FuncId} {p : Nat → Nat → Prop} {f : Nat → Nat → AV} (hc : ∀ (m n : Nat),(dg 4294967296 m).length ≤ 300 → (dg 4294967296 n).length ≤ 300 → p m n → Ret Tryz.prog F false [.inl (.ints .u32 (dg 4294967296 m)),.inl (.ints .u32 (dg 4294967296 n))] (f m n))
  (l : List (C ⊕ List C)) (K : AV → Prop) (hk : match l with
   | [.inl (.ints .u32 xs),.inl (.ints .u32 ys)]=>(InB 4294967296 xs ∧ Trd xs ∧ xs.length ≤ 300 ∧ InB 4294967296 ys ∧ Trd ys ∧ ys.length ≤ 300 ∧ p (V 4294967296 xs) (V 4294967296 ys)) ∧ K (f (V 4294967296 xs) (V 4294967296 ys))
   | _=>False) : ∃ r,Ret Tryz.prog F false l r ∧ K r:=by
 split at hk
 ·rename_i xs ys
  obtain ⟨⟨h1,h2,h3,h4,h5,h6,h7⟩,hk⟩:=hk
  have e1:=dg_V 4294967296 (by omega) xs h1 h2
  have e2:=dg_V 4294967296 (by omega) ys h4 h5
  have:=hc (V 4294967296 xs) (V 4294967296 ys) (by rw [e1]; exact h3) (by rw [e2]; exact h6) h7
  rw [e1,e2] at this
  exact ⟨_,this,hk⟩
 ·exact hk.elim
theorem nAdd_ret (m n : Nat) (lm : (dg 4294967296 m).length ≤ 300) (ln : (dg 4294967296 n).length ≤ 300) :
  Ret Tryz.prog 125 false [.inl (.ints .u32 (dg 4294967296 m)),.inl (.ints .u32 (dg 4294967296 n))] (rAddN m n):=by
 have h1:=okN_dg' (n:=m) (by omega)
 have h2:=okN_dg' (n:=n) (by omega)
 have:=Add_ret _ _ (okN_LB h1) (okN_LB h2) (InB_dg _ (by omega) m) (InB_dg _ (by omega) n)
 obtain ⟨f1,f2,f3⟩:=fit_small (Nat.le_trans (add_len (k:=300) (by omega) lm ln) (by omega))
 rw [oneF_good h1 h2,addNd',f1,f2,f3] at this
 exact this
theorem nMul_ret (m n : Nat) (lm : (dg 4294967296 m).length ≤ 300) (ln : (dg 4294967296 n).length ≤ 300) :
  Ret Tryz.prog 88 false [.inl (.ints .u32 (dg 4294967296 m)),.inl (.ints .u32 (dg 4294967296 n))] (rMulN m n):=by
 have h1:=okN_dg' (n:=m) (by omega)
 have h2:=okN_dg' (n:=n) (by omega)
 have:=Mul_ret _ _ (okN_LB h1) (okN_LB h2) (InB_dg _ (by omega) m) (InB_dg _ (by omega) n)
 obtain ⟨f1,f2,f3⟩:=fit_small (Nat.le_trans (mul_len (k:=300) (l:=300) (by omega) lm ln) (by omega))
 rw [oneF_good h1 h2,mulNd',f1,f2,f3] at this
 exact this
theorem nSub_ret (m n : Nat) (lm : (dg 4294967296 m).length ≤ 300) (ln : (dg 4294967296 n).length ≤ 300) (h : n ≤ m) :
  Ret Tryz.prog 165 false [.inl (.ints .u32 (dg 4294967296 m)),.inl (.ints .u32 (dg 4294967296 n))] (rSubN m n):=by
 have h1:=okN_dg' (n:=m) (by omega)
 have h2:=okN_dg' (n:=n) (by omega)
 have:=Sub_ret _ _ (okN_LB h1) (okN_LB h2) (InB_dg _ (by omega) m) (InB_dg _ (by omega) n)
 obtain ⟨f1,f2,f3⟩:=subO_le h
 rw [oneF_good h1 h2] at this
 have h3 : (if V 4294967296 (dg 4294967296 m) < V 4294967296 (dg 4294967296 n) then [] else subN (dg 4294967296 m) (dg 4294967296 n)) = dg 4294967296 (m - n):=f1
 first
  | (rw [f1,f2,f3] at this; exact this)
  | (simp only [subO,subC,subI] at f1 f2 f3; rw [f1,f2,f3] at this; exact this)
theorem nCmp_ret (m n : Nat) (lm : (dg 4294967296 m).length ≤ 300) (ln : (dg 4294967296 n).length ≤ 300) :
  Ret Tryz.prog 164 false [.inl (.ints .u32 (dg 4294967296 m)),.inl (.ints .u32 (dg 4294967296 n))] (rCmpN m n):=by
 have h1:=okN_dg' (n:=m) (by omega)
 have h2:=okN_dg' (n:=n) (by omega)
 have:=Cmp_ret _ _ (okN_LB h1) (okN_LB h2) (InB_dg _ (by omega) m) (InB_dg _ (by omega) n)
 rw [(chkC_zero h1 h2).1,(chkC_zero h1 h2).2,if_neg (by simp),V32,V32] at this
 exact this
theorem nGcd_ret (m n : Nat) (lm : (dg 4294967296 m).length ≤ 300) (ln : (dg 4294967296 n).length ≤ 300) :
  Ret Tryz.prog 84 false [.inl (.ints .u32 (dg 4294967296 m)),.inl (.ints .u32 (dg 4294967296 n))] (rGcdN m n):=by
 have h1:=okN_dg' (n:=m) (by omega)
 have h2:=okN_dg' (n:=n) (by omega)
 have:=Gcd_ret _ _ (okN_LB h1) (okN_LB h2) (InB_dg _ (by omega) m) (InB_dg _ (by omega) n)
 simp only [gcO,(chkC_zero h1 h2).1,(chkC_zero h1 h2).2,if_true,V32] at this
 exact this
theorem nDiv_ret (m n : Nat) (lm : (dg 4294967296 m).length ≤ 300) (ln : (dg 4294967296 n).length ≤ 300) (h : 0 < n) :
  Ret Tryz.prog 85 false [.inl (.ints .u32 (dg 4294967296 m)),.inl (.ints .u32 (dg 4294967296 n))] (rDivN m n):=by
 have h1:=okN_dg' (n:=m) (by omega)
 have h2:=okN_dg' (n:=n) (by omega)
 have:=dvGood_ok _ _ h1 h2 (InB_dg _ (by omega) m) (InB_dg _ (by omega) n) (by rw [V32]; exact h)
 rw [V32,V32] at this
 exact this
def tr2 (_ _ : Nat) : Prop:=True
def le2 (m n : Nat) : Prop:=n ≤ m
def pos2 (_ n : Nat) : Prop:=0 < n
theorem le2_d (m n : Nat) : le2 m n = (n ≤ m):=rfl
theorem pos2_d (m n : Nat) : pos2 m n = (0 < n):=rfl
theorem tr2_d (m n : Nat) : tr2 m n = True:=rfl
def qn1 : Cfg:=addT 125 (natCT tr2 rAddN) cf0
theorem qn1_ok : TblOk Tryz.prog qn1:=q_I cf0_ok Tryz.func125 fun l K h =>
 nat_tr (p:=tr2) (f:=rAddN) (fun m n a b _=>nAdd_ret m n a b) l K h
def qn2 : Cfg:=addT 88 (natCT tr2 rMulN) cf0
theorem qn2_ok : TblOk Tryz.prog qn2:=q_I cf0_ok Tryz.func88 fun l K h =>
 nat_tr (p:=tr2) (f:=rMulN) (fun m n a b _=>nMul_ret m n a b) l K h
def qn3 : Cfg:=addT 165 (natCT le2 rSubN) cf0
theorem qn3_ok : TblOk Tryz.prog qn3:=q_I cf0_ok Tryz.func165 fun l K h =>
 nat_tr (p:=le2) (f:=rSubN) (fun m n a b h=>nSub_ret m n a b h) l K h
def qn4 : Cfg:=addT 164 (natCT tr2 rCmpN) cf0
theorem qn4_ok : TblOk Tryz.prog qn4:=q_I cf0_ok Tryz.func164 fun l K h =>
 nat_tr (p:=tr2) (f:=rCmpN) (fun m n a b _=>nCmp_ret m n a b) l K h
def qn5 : Cfg:=addT 84 (natCT tr2 rGcdN) cf0
theorem qn5_ok : TblOk Tryz.prog qn5:=q_I cf0_ok Tryz.func84 fun l K h =>
 nat_tr (p:=tr2) (f:=rGcdN) (fun m n a b _=>nGcd_ret m n a b) l K h
def qn6 : Cfg:=addT 85 (natCT pos2 rDivN) cf0
theorem qn6_ok : TblOk Tryz.prog qn6:=q_I cf0_ok Tryz.func85 fun l K h =>
 nat_tr (p:=pos2) (f:=rDivN) (fun m n a b h=>nDiv_ret m n a b h) l K h
attribute [go_sem] natCT oneN rAddN rSubN rMulN rGcdN rDivN rCmpN le2_d pos2_d tr2_d
abbrev gQ (z : Int) (d : Nat) : List C:=[.b (decide (z < 0)),.ints .u32 (dg 4294967296 z.natAbs),.b false,.ints .u32 (dg 4294967296 d)]
def rF (z : Int) (d : Nat) : AV:=.t [.inr (gQ (fN z d) (fD z d)),.inr [.i .i64 (fC z d),.i .i64 (fI z d)]]
def rQ (n : Int) (d : Nat) : AV:=rF (rdN n d) (rdD n d)
def qb3 : Cfg:=listT [(90,atCT),(84,(natCT tr2 rGcdN)),(85,(natCT pos2 rDivN))] [34]
theorem qb3_ok : TblOk Tryz.prog qb3:=listE_ok (by simp only [List.mem_singleton,forall_eq]; exact flt) ⟨⟨qt2,qt2_ok,rfl⟩,⟨qn5,qn5_ok,rfl⟩,⟨qn6,qn6_ok,rfl⟩,trivial⟩
attribute [go_sem] qb3
set_option maxHeartbeats 1600000 in
theorem reduced_ret (s : Bool) (m d : Nat) (lm : (dg 4294967296 m).length ≤ 300) (ld : (dg 4294967296 d).length ≤ 300) (hd : 0 < d) :
  Ret Tryz.prog 89 false [.inl (.b s),.inl (.ints .u32 (dg 4294967296 m)),.inl (.ints .u32 (dg 4294967296 d))] (rQ (sg s m) d):=by
 obtain ⟨e1,e2⟩:=rd_sg s m hd
 have hg : 0 < Nat.gcd m d:=Nat.gcd_pos_of_pos_right _ hd
 have hgl : (dg 4294967296 (Nat.gcd m d)).length ≤ 300:=Nat.le_trans (dg_len_mono (by omega) (Nat.gcd_le_right _ hd)) ld
 unfold rQ
 rw [e1,e2]
 generalize hG : Nat.gcd m d = g at *
 have l1 : (dg 4294967296 (m / g)).length ≤ 300:=Nat.le_trans (dg_len_mono (by omega) (Nat.div_le_self _ _)) lm
 have hp:=dg_len_pos 4294967296 (m / g) (by omega)
 have a1:=sg_abs s (m / g)
 have a2:=sg_negd s (m / g)
 have a3 : decide (0 < m / g) = decide (0 < ((dg 4294967296 (m / g)).length : Int)):=by congr 1; exact propext ⟨fun h=>by omega,fun h=>by omega⟩
 rw [a3] at a2
 by_cases hf : (dg 4294967296 (m / g)).length ≤ 128 ∧ (dg 4294967296 (d / g)).length ≤ 128
 ·obtain ⟨f1,f2,f3,f4⟩:=f_fit (z:=sg s (m / g)) (d:=d / g) (by unfold fQ; rw [a1]; exact hf)
  obtain ⟨g1,g2⟩:=hf
  unfold rF
  rw [f1,f2,f3,f4,gQ,a1,a2]
  clear e1 e2 a1 a2 a3 f1 f2 f3 f4
  cases s
  all_goals
   (refine q_H Tryz.func89 (fun F=>?_); simp only [q_z,q_y,Tryz.ntmps89,Tryz.results89])
   repeat' (first|with_reducible refine q_0 ?_|((with_reducible first|refine q_q qb3_ok fun K hK=>?_|refine q_r qb3_ok fun K hK=>?_);simp (maxSteps:=2000000) only [go_sem,↓reduceIte,reduceCtorEq,Nat.reduceLeDiff,Nat.reduceLT,Nat.reduceBEq,Nat.reduceAdd,V32,hG];(repeat1' with_reducible first|apply And.intro|(intro _;try exact q_v)|(refine hK _ ?_;clear hK K))<;>(try (clear hK K;exact q_u)))|(with_reducible refine q_s ?_;(first|apply q_J|apply q_K|apply q_L|apply q_M|apply q_N|apply q_O)<;>try (intro _;try exact q_v)))
   all_goals first | omega | exact q_A rfl | skip
 ·obtain ⟨f1,f2,f3,f4⟩:=f_big (z:=sg s (m / g)) (d:=d / g) (by unfold fQ; rw [a1]; exact hf)
  unfold rF
  rw [f1,f2,f3,f4]
  clear e1 e2 a1 a2 a3 f1 f2 f3 f4
  by_cases h1 : (dg 4294967296 (m / g)).length ≤ 128
  ·have h2 : ¬ (dg 4294967296 (d / g)).length ≤ 128:=fun h=>hf ⟨h1,h⟩
   (refine q_H Tryz.func89 (fun F=>?_); simp only [q_z,q_y,Tryz.ntmps89,Tryz.results89])
   repeat' (first|with_reducible refine q_0 ?_|((with_reducible first|refine q_q qb3_ok fun K hK=>?_|refine q_r qb3_ok fun K hK=>?_);simp (maxSteps:=2000000) only [go_sem,↓reduceIte,reduceCtorEq,Nat.reduceLeDiff,Nat.reduceLT,Nat.reduceBEq,Nat.reduceAdd,V32,hG];(repeat1' with_reducible first|apply And.intro|(intro _;try exact q_v)|(refine hK _ ?_;clear hK K))<;>(try (clear hK K;exact q_u)))|(with_reducible refine q_s ?_;(first|apply q_J|apply q_K|apply q_L|apply q_M|apply q_N|apply q_O)<;>try (intro _;try exact q_v)))
   all_goals first | omega | exact q_B [nQ] rfl rfl | skip
  ·(refine q_H Tryz.func89 (fun F=>?_); simp only [q_z,q_y,Tryz.ntmps89,Tryz.results89])
   repeat' (first|with_reducible refine q_0 ?_|((with_reducible first|refine q_q qb3_ok fun K hK=>?_|refine q_r qb3_ok fun K hK=>?_);simp (maxSteps:=2000000) only [go_sem,↓reduceIte,reduceCtorEq,Nat.reduceLeDiff,Nat.reduceLT,Nat.reduceBEq,Nat.reduceAdd,V32,hG];(repeat1' with_reducible first|apply And.intro|(intro _;try exact q_v)|(refine hK _ ?_;clear hK K))<;>(try (clear hK K;exact q_u)))|(with_reducible refine q_s ?_;(first|apply q_J|apply q_K|apply q_L|apply q_M|apply q_N|apply q_O)<;>try (intro _;try exact q_v)))
   all_goals first | omega | exact q_B [nQ] rfl rfl | skip
def reducedCT : CT:=mkCT [.inl none,nU,nU] false fun l K=>match l with
 | [.inl (.b s),.inl (.ints .u32 xs),.inl (.ints .u32 ys)]=>(InB 4294967296 xs ∧ Trd xs ∧ xs.length ≤ 300 ∧ InB 4294967296 ys ∧ Trd ys ∧ ys.length ≤ 300 ∧ 0 < V 4294967296 ys) ∧ K (rQ (sv 4294967296 s xs) (V 4294967296 ys))
 | _=>False
def qt4 : Cfg:=addT 89 reducedCT cf0
theorem qt4_ok : TblOk Tryz.prog qt4:=q_I cf0_ok Tryz.func89 fun l K h=>by
 split at h
 ·rename_i s xs ys
  obtain ⟨⟨h1,h2,h3,h4,h5,h6,h7⟩,h⟩:=h
  have e1:=dg_V 4294967296 (by omega) xs h1 h2
  have e2:=dg_V 4294967296 (by omega) ys h4 h5
  have:=reduced_ret s (V 4294967296 xs) (V 4294967296 ys) (by rw [e1]; exact h3) (by rw [e2]; exact h6) h7
  rw [← sv32d,e1,e2] at this
  exact ⟨_,this,h⟩
 ·exact h.elim
attribute [go_sem] reducedCT gQ rQ rF
def qb4 : Cfg:=listT [(89,reducedCT),(88,(natCT tr2 rMulN)),(125,(natCT tr2 rAddN)),(165,(natCT le2 rSubN)),(164,(natCT tr2 rCmpN))] [34]
theorem qb4_ok : TblOk Tryz.prog qb4:=listE_ok (by simp only [List.mem_singleton,forall_eq]; exact flt) ⟨⟨qt4,qt4_ok,rfl⟩,⟨qn2,qn2_ok,rfl⟩,⟨qn1,qn1_ok,rfl⟩,⟨qn3,qn3_ok,rfl⟩,⟨qn4,qn4_ok,rfl⟩,trivial⟩
attribute [go_sem] qb4
set_option maxHeartbeats 1600000 in
theorem qplus_ret (s t u : Bool) (m n c d : Nat) (lm : (dg 4294967296 m).length ≤ 128) (ln : (dg 4294967296 n).length ≤ 128) (lc : (dg 4294967296 c).length ≤ 128) (ld : (dg 4294967296 d).length ≤ 128) (hc : 0 < c) (hd : 0 < d) :
  Ret Tryz.prog 87 false [.inr [.b s,.ints .u32 (dg 4294967296 m),.b false,.ints .u32 (dg 4294967296 c)],.inr [.b t,.ints .u32 (dg 4294967296 n),.b false,.ints .u32 (dg 4294967296 d)],.inl (.b u)] (rQ (plF u (sg s m * d) (sg t n * c)) (c * d)):=by
 rw [plF_sg]
 generalize hv : (t != u) = v
 have l1:=mul_len (B:=4294967296) (by omega) lm ld
 have l2:=mul_len (B:=4294967296) (by omega) ln lc
 have l3:=mul_len (B:=4294967296) (by omega) lc ld
 have l4:=add_len (B:=4294967296) (by omega) l1 l2
 have hcd:=Nat.mul_pos hc hd
 generalize hM : m * d = M at *
 generalize hN : n * c = N at *
 generalize hD : c * d = D at *
 by_cases hst : s = v
 ·subst hst
  rw [sg_eq_add]
  (refine q_H Tryz.func87 (fun F=>?_); simp only [q_z,q_y,Tryz.ntmps87,Tryz.results87])
  repeat' (first|with_reducible refine q_0 ?_|((with_reducible first|refine q_q qb4_ok fun K hK=>?_|refine q_r qb4_ok fun K hK=>?_);simp (maxSteps:=2000000) only [go_sem,↓reduceIte,reduceCtorEq,Nat.reduceLeDiff,Nat.reduceLT,Nat.reduceBEq,Nat.reduceAdd,V32,sv32d,hv,hM,hN,hD];(repeat1' with_reducible first|apply And.intro|(intro _;try exact q_v)|(refine hK _ ?_;clear hK K))<;>(try (clear hK K;exact q_u)))|(with_reducible refine q_s ?_;(first|apply q_J|apply q_K|apply q_L|apply q_M|apply q_N|apply q_O)<;>try (intro _;try exact q_v)))
  all_goals first | omega | exact q_A rfl | skip
 ·have hne : (s == v) = false:=by simpa using hst
  rcases Nat.lt_or_ge M N with h | h
  ·rw [sg_eq_sub' hst (by omega)]
   have hx:=(cmp3_lt M N).2 h
   have l5:=Nat.le_trans (dg_len_mono (B:=4294967296) (by omega) (Nat.sub_le N M)) l2
   (refine q_H Tryz.func87 (fun F=>?_); simp only [q_z,q_y,Tryz.ntmps87,Tryz.results87])
   repeat' (first|with_reducible refine q_0 ?_|((with_reducible first|refine q_q qb4_ok fun K hK=>?_|refine q_r qb4_ok fun K hK=>?_);simp (maxSteps:=2000000) only [go_sem,↓reduceIte,reduceCtorEq,Nat.reduceLeDiff,Nat.reduceLT,Nat.reduceBEq,Nat.reduceAdd,V32,sv32d,hv,hne,hM,hN,hD];(repeat1' with_reducible first|apply And.intro|(intro _;try exact q_v)|(refine hK _ ?_;clear hK K))<;>(try (clear hK K;exact q_u)))|(with_reducible refine q_s ?_;(first|apply q_J|apply q_K|apply q_L|apply q_M|apply q_N|apply q_O)<;>try (intro _;try exact q_v)))
   all_goals first | omega | exact q_A rfl | skip
  ·rw [sg_eq_sub hst h]
   have hx : ¬ cmp3 M N < 0:=fun h2=>by have:=(cmp3_lt M N).1 h2; omega
   have l5:=Nat.le_trans (dg_len_mono (B:=4294967296) (by omega) (Nat.sub_le M N)) l1
   (refine q_H Tryz.func87 (fun F=>?_); simp only [q_z,q_y,Tryz.ntmps87,Tryz.results87])
   repeat' (first|with_reducible refine q_0 ?_|((with_reducible first|refine q_q qb4_ok fun K hK=>?_|refine q_r qb4_ok fun K hK=>?_);simp (maxSteps:=2000000) only [go_sem,↓reduceIte,reduceCtorEq,Nat.reduceLeDiff,Nat.reduceLT,Nat.reduceBEq,Nat.reduceAdd,V32,sv32d,hv,hne,hM,hN,hD];(repeat1' with_reducible first|apply And.intro|(intro _;try exact q_v)|(refine hK _ ?_;clear hK K))<;>(try (clear hK K;exact q_u)))|(with_reducible refine q_s ?_;(first|apply q_J|apply q_K|apply q_L|apply q_M|apply q_N|apply q_O)<;>try (intro _;try exact q_v)))
   all_goals first | omega | exact q_A rfl | skip
def qplusCT : CT:=mkCT [nQ,nQ] false fun l K=>match l with
 | [.inr [.b s,.ints .u32 xs,.b p,.ints .u32 zs],.inr [.b t,.ints .u32 ys,.b q,.ints .u32 ws],.inl (.b u)] =>
   ((InB 4294967296 xs ∧ Trd xs ∧ xs.length ≤ 128 ∧ InB 4294967296 ys ∧ Trd ys ∧ ys.length ≤ 128 ∧ InB 4294967296 zs ∧ Trd zs ∧ zs.length ≤ 128 ∧ InB 4294967296 ws ∧ Trd ws ∧ ws.length ≤ 128) ∧ p = false ∧ q = false ∧ 0 < V 4294967296 zs ∧ 0 < V 4294967296 ws) ∧
   K (rQ (plF u (sv 4294967296 s xs * V 4294967296 ws) (sv 4294967296 t ys * V 4294967296 zs)) (V 4294967296 zs * V 4294967296 ws))
 | _=>False
def qt5 : Cfg:=addT 87 qplusCT cf0
theorem qt5_ok : TblOk Tryz.prog qt5:=q_I cf0_ok Tryz.func87 fun l K h=>by
 split at h
 ·rename_i s xs p zs t ys q ws u
  obtain ⟨⟨⟨h1,h2,h3,h4,h5,h6,h7,h8,h9,h10,h11,h12⟩,rfl,rfl,h13,h14⟩,h⟩:=h
  have e1:=dg_V 4294967296 (by omega) xs h1 h2
  have e2:=dg_V 4294967296 (by omega) ys h4 h5
  have e3:=dg_V 4294967296 (by omega) zs h7 h8
  have e4:=dg_V 4294967296 (by omega) ws h10 h11
  have:=qplus_ret s t u (V 4294967296 xs) (V 4294967296 ys) (V 4294967296 zs) (V 4294967296 ws) (by rw [e1]; exact h3) (by rw [e2]; exact h6) (by rw [e3]; exact h9) (by rw [e4]; exact h12) h13 h14
  rw [← sv32d,← sv32d,e1,e2,e3,e4] at this
  exact ⟨_,this,h⟩
 ·exact h.elim
attribute [go_sem] qplusCT plF_f plF_t
end Go.Proofs.YtgkajjifbcmoeaaGreatDoor
