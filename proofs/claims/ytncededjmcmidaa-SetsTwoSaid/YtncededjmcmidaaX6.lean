import Derived.Test.YtncededjmcmidaaX5
namespace Go.Proofs.Ytncededjmcmidaa
set_option linter.unusedSimpArgs false
set_option linter.unusedVariables false
open Go.Abs Go.Proofs.NatL

structure Vl where
 k : Int
 a : Bool
 x : List Int
 b : Bool
 y : List Int
 t : ByteArray
 r : Int
def vC (v : Vl) : List C:=[.i .i64 v.k,.b v.a,.ints .u32 v.x,.b v.b,.ints .u32 v.y,.str v.t,.i .i64 v.r]
abbrev nVal : Option C ⊕ List (Option C):=.inr [none,none,some (.ints .u32 []),none,some (.ints .u32 []),none,none]
def intV (n : Int) : Vl:=⟨2,decide (n < 0),dg 4294967296 n.natAbs,false,[],ByteArray.empty,0⟩
def ha1 : Cfg:=listT [(70,numberCT),(71,limbsCT)] [39]
theorem ha1_ok : TblOk Try.prog ha1:=listE_ok (by simp only [List.mem_singleton,forall_eq]; exact flt) ⟨⟨jt7,jt7_ok,rfl⟩,⟨ch1,ch1_ok,rfl⟩,trivial⟩
attribute [go_sem] ha1
theorem integer_ret (n : Int) (hn : -9223372036854775808 ≤ n ∧ n ≤ 9223372036854775807) : Ret Try.prog 45 false [.inl (.i .i64 n)] (.g (vC (intV n))):=by
 (refine q_H Try.func45 (fun F=>?_); simp only [q_z,q_y,Try.ntmps45,Try.results45])
 repeat' (first|with_reducible refine q_0 ?_|((with_reducible first|refine q_q ha1_ok fun K hK=>?_|refine q_r ha1_ok fun K hK=>?_);simp (maxSteps:=2000000) only [go_sem,↓reduceIte,reduceCtorEq,Nat.reduceLeDiff,Nat.reduceLT,Nat.reduceBEq,Nat.reduceAdd];(repeat1' with_reducible first|apply And.intro|(intro _;try exact q_v)|(refine hK _ ?_;clear hK K))<;>(try (clear hK K;exact q_u)))|(with_reducible refine q_s ?_;(first|apply q_J|apply q_K|apply q_L|apply q_M|apply q_N|apply q_O)<;>try (intro _;try exact q_v)))
 ·have:=dg_len_le (B:=65536) (by omega) n.natAbs 4 (by omega)
  omega
 ·exact q_B [nVal] rfl rfl
def integerCT : CT:=mkCT [] false fun l K=>match l with
 | [.inl (.i .i64 n)]=>(-9223372036854775808 ≤ n ∧ n ≤ 9223372036854775807) ∧ K (.g (vC (intV n)))
 | _=>False
def h2a : Cfg:=addT 45 integerCT cf0
theorem h2a_ok : TblOk Try.prog h2a:=q_I cf0_ok Try.func45 fun l K h=>by
 split at h
 ·exact ⟨_,integer_ret _ h.1,h.2⟩
 ·exact h.elim
def tx14 : List ByteArray:=[⟨#[]⟩,⟨#[97]⟩,⟨#[98]⟩,⟨#[105,116,39,115]⟩,⟨#[115,97,121,32,34,120,34]⟩,⟨#[39,34]⟩,⟨#[108,105,110,101,10,101,110,100]⟩,⟨#[116,97,98,9]⟩,⟨#[92]⟩,⟨#[1,127]⟩,⟨#[195,169]⟩,⟨#[206,187,226,134,146,240,157,148,184]⟩,⟨#[48]⟩,⟨#[110,105,108]⟩]
theorem texts_ret : Ret Try.prog 75 false [] (.c (.sl 1 (tx14.map fun t=>[.str t]))):=by
 (refine q_H Try.func75 (fun F=>?_); simp only [q_z,q_y,Try.ntmps75,Try.results75])
 repeat' (first|with_reducible refine q_0 ?_|((with_reducible first|refine q_q cf0_ok fun K hK=>?_|refine q_r cf0_ok fun K hK=>?_);simp (maxSteps:=2000000) only [go_sem,↓reduceIte,reduceCtorEq,Nat.reduceLeDiff,Nat.reduceLT,Nat.reduceBEq,Nat.reduceAdd];(repeat1' with_reducible first|apply And.intro|(intro _;try exact q_v)|(refine hK _ ?_;clear hK K))<;>(try (clear hK K;exact q_u)))|(with_reducible refine q_s ?_;(first|apply q_J|apply q_K|apply q_L|apply q_M|apply q_N|apply q_O)<;>try (intro _;try exact q_v)))
 all_goals exact q_A rfl
def textsCT : CT:=mkCT [] false fun l K=>match l with
 | []=>K (.c (.sl 1 (tx14.map fun t=>[.str t])))
 | _=>False
def h2b : Cfg:=addT 75 textsCT cf0
theorem h2b_ok : TblOk Try.prog h2b:=q_I cf0_ok Try.func75 fun l K h=>by
 split at h
 ·exact ⟨_,texts_ret,h⟩
 ·exact h.elim
attribute [go_sem] integerCT textsCT
end Go.Proofs.Ytncededjmcmidaa

namespace Go.Proofs.Ytncededjmcmidaa
set_option linter.unusedSimpArgs false
set_option linter.unusedVariables false
open Go.Abs Go.Proofs.NatL

def it6 : Cfg:=it5
end Go.Proofs.Ytncededjmcmidaa

namespace Go.Proofs.Ytncededjmcmidaa
set_option linter.unusedSimpArgs false
set_option linter.unusedVariables false
open Go.Abs Go.Proofs.NatL

def ku1 : Cfg:=it6
def ku2 : Cfg:=ku1
attribute [go_sem] okZ_g
def kc : Cfg:=listT [(70,numberCT)] [39]
attribute [go_sem] kc
end Go.Proofs.Ytncededjmcmidaa

namespace Go.Proofs.NatL
set_option linter.unusedSimpArgs false
set_option linter.unusedVariables false
def rdN (n : Int) (d : Nat) : Int:=n / ((Nat.gcd n.natAbs d : Nat) : Int)
def rdD (n : Int) (d : Nat) : Nat:=d / Nat.gcd n.natAbs d
theorem rd_gpos (n : Int) {d : Nat} (hd : 0 < d) : 0 < Nat.gcd n.natAbs d:=Nat.gcd_pos_of_pos_right _ hd
theorem rd_n (n : Int) (d : Nat) : n = rdN n d * ((Nat.gcd n.natAbs d : Nat) : Int):=by
 have h : ((Nat.gcd n.natAbs d : Nat) : Int) ∣ n:=Int.ofNat_dvd_left.2 (Nat.gcd_dvd_left _ _)
 exact (Int.ediv_mul_cancel h).symm
theorem rdN_abs (n : Int) {d : Nat} (hd : 0 < d) : (rdN n d).natAbs = n.natAbs / Nat.gcd n.natAbs d:=by
 have hg:=rd_gpos n hd
 have h:=congrArg Int.natAbs (rd_n n d)
 rw [Int.natAbs_mul,Int.natAbs_natCast] at h
 generalize Nat.gcd n.natAbs d = g at *
 rw [h,Nat.mul_div_cancel _ hg]
theorem rdN_neg (n : Int) {d : Nat} (hd : 0 < d) : decide (rdN n d < 0) = decide (n < 0):=by
 have hg:=rd_gpos n hd
 have h:=rd_n n d
 generalize Nat.gcd n.natAbs d = g at *
 generalize rdN n d = m at *
 have h1 : m < 0 → n < 0:=fun hm=>by
  rw [h]; exact Int.mul_neg_of_neg_of_pos hm (by omega)
 have h2 : 0 ≤ m → 0 ≤ n:=fun hm=>by
  rw [h]; exact Int.mul_nonneg hm (by omega)
 exact decide_eq_decide.2 (by omega)
end Go.Proofs.NatL

namespace Go.Proofs.NatL
set_option linter.unusedSimpArgs false
set_option linter.unusedVariables false
abbrev q0 : Bool × List Int × Bool × List Int:=(false,[],false,[])
end Go.Proofs.NatL
namespace Go.Proofs.Ytncededjmcmidaa
set_option linter.unusedSimpArgs false
set_option linter.unusedVariables false
open Go.Abs Go.Proofs.NatL

end Go.Proofs.Ytncededjmcmidaa

namespace Go.Proofs.NatL
set_option linter.unusedSimpArgs false
set_option linter.unusedVariables false
def fQ (z : Int) (d : Nat) : Prop:=(dg 4294967296 z.natAbs).length ≤ 128 ∧ (dg 4294967296 d).length ≤ 128
instance decFQ (z : Int) (d : Nat) : Decidable (fQ z d):=by unfold fQ; infer_instance
theorem rd_sg (s : Bool) (m : Nat) {d : Nat} (hd : 0 < d) : rdN (sg s m) d = sg s (m / Nat.gcd m d) ∧ rdD (sg s m) d = d / Nat.gcd m d:=by
 have h1:=rdN_abs (sg s m) hd
 have h2:=rdN_neg (sg s m) hd
 rw [sg_abs] at h1
 refine ⟨?_,by unfold rdD; rw [sg_abs]⟩
 have e:=sg_self (rdN (sg s m) d)
 rw [h1,h2] at e
 rw [← e]
 rcases Nat.eq_zero_or_pos (m / Nat.gcd m d) with h | h
 ·rw [h]; cases decide (sg s m < 0) <;> cases s <;> rfl
 ·have hm : 0 < m:=by
   rcases Nat.eq_zero_or_pos m with h0 | h0
   ·rw [h0,Nat.zero_div] at h; omega
   ·exact h0
  congr 1
  cases s
  ·rw [sgf]; exact decide_eq_false (by omega)
  ·rw [sgt]; exact decide_eq_true (by omega)
def plF (u : Bool) (a b : Int) : Int:=if u = true then a - b else a + b
theorem plF_f (a b : Int) : plF false a b = a + b:=rfl
theorem plF_t (a b : Int) : plF true a b = a - b:=rfl
end Go.Proofs.NatL
namespace Go.Proofs.Ytncededjmcmidaa
set_option linter.unusedSimpArgs false
set_option linter.unusedVariables false
open Go.Abs Go.Proofs.NatL

def tr2 (_ _ : Nat) : Prop:=True
def le2 (m n : Nat) : Prop:=n ≤ m
def pos2 (_ n : Nat) : Prop:=0 < n
theorem le2_d (m n : Nat) : le2 m n = (n ≤ m):=rfl
theorem pos2_d (m n : Nat) : pos2 m n = (0 < n):=rfl
theorem tr2_d (m n : Nat) : tr2 m n = True:=rfl
attribute [go_sem] le2_d pos2_d tr2_d
attribute [go_sem] plF_f plF_t
end Go.Proofs.Ytncededjmcmidaa

namespace Go.Proofs.Ytncededjmcmidaa
set_option linter.unusedSimpArgs false
set_option linter.unusedVariables false
open Go.Abs Go.Proofs.NatL

theorem sv65d (s : Bool) (m : Nat) : sv 65536 s (dg 65536 m) = sg s m:=sv_d (by omega) s m
theorem sg_sgz (z : Int) (c : Bool) : sg (sgz z c) z.natAbs = z:=by rw [← sv65d,svz65]
attribute [go_sem] sv65d sg_self sg_sgz
def rdivCT : CT:=mkCT [.inl (some (.ints .i64 [])),.inl (some (.ints .i64 []))] false fun l K=>match l with
 | [.inl (.ints .i64 xs),.inl (.ints .i64 ys)]=>(InB 65536 xs ∧ Trd xs ∧ xs.length ≤ 65536 ∧ InB 65536 ys ∧ Trd ys ∧ ys.length ≤ 65536 ∧ 0 < V 65536 ys) ∧ K (.t [.inl (.ints .i64 (dg 65536 (V 65536 xs / V 65536 ys))),.inl (.ints .i64 (dg 65536 (V 65536 xs % V 65536 ys)))])
 | _=>False
def jt13 : Cfg:=addT 90 rdivCT cf0
theorem jt13_ok : TblOk Try.prog jt13:=q_I cf0_ok Try.func90 fun l K h=>by
 split at h
 ·rename_i xs ys
  obtain ⟨⟨h1,h2,h3,h4,h5,h6,h7⟩,h⟩:=h
  have e1:=dg_V 65536 (by omega) xs h1 h2
  have e2:=dg_V 65536 (by omega) ys h4 h5
  have:=divide_ret' (V 65536 xs) (V 65536 ys) h7 (by rw [e1]; exact h3) (by rw [e2]; exact h6)
  rw [e1,e2] at this
  exact ⟨_,this,h⟩
 ·exact h.elim
attribute [go_sem] rdivCT
end Go.Proofs.Ytncededjmcmidaa

namespace Go.Proofs.NatL
set_option linter.unusedSimpArgs false
set_option linter.unusedVariables false
end Go.Proofs.NatL
namespace Go.Proofs.Ytncededjmcmidaa
set_option linter.unusedSimpArgs false
set_option linter.unusedVariables false
open Go.Abs Go.Proofs.NatL

abbrev nT : Option C ⊕ List (Option C):=.inr [none,some (.ints .i64 []),some (.ints .i64 [])]
abbrev gT (z : Int) (d : Nat) (c : Bool) : List C:=[.b (sgz z c),.ints .i64 (dg 65536 z.natAbs),.ints .i64 (dg 65536 d)]
def qr1 : Cfg:=listT [(93,ofCT),(89,commonCT),(72,smallCT),(74,rcmpCT),(90,rdivCT)] [39]
theorem qr1_ok : TblOk Try.prog qr1:=listE_ok (by simp only [List.mem_singleton,forall_eq]; exact flt) ⟨⟨db6,db6_ok,rfl⟩,⟨rg3,rg3_ok,rfl⟩,⟨nt7,nt7_ok,rfl⟩,⟨db7,db7_ok,rfl⟩,⟨jt13,jt13_ok,rfl⟩,trivial⟩
attribute [go_sem] qr1
theorem gT_eq (s : Bool) (k d : Nat) : gT (sg s k) d s = [.b s,.ints .i64 (dg 65536 k),.ints .i64 (dg 65536 d)]:=by simp only [gT,sgz_sg,sg_abs]
set_option maxHeartbeats 1600000 in
theorem lowest_ret (s : Bool) (m d : Nat) (lm : (dg 65536 m).length ≤ 60000) (ld : (dg 65536 d).length ≤ 60000) (hd : 0 < d) :
  Ret Try.prog 73 false [.inr [.b s,.ints .i64 (dg 65536 m),.ints .i64 (dg 65536 d)]] (.g (gT (rdN (sg s m) d) (rdD (sg s m) d) s)):=by
 obtain ⟨e1,e2⟩:=rd_sg s m hd
 have hg : 0 < Nat.gcd m d:=Nat.gcd_pos_of_pos_right _ hd
 have hgl : (dg 65536 (Nat.gcd m d)).length ≤ 60000:=Nat.le_trans (dg_len_mono (by omega) (Nat.gcd_le_right _ hd)) ld
 rw [e1,e2,gT_eq]
 generalize hG : Nat.gcd m d = g at *
 (refine q_H Try.func73 (fun F=>?_); simp only [q_z,q_y,Try.ntmps73,Try.results73])
 repeat' (first|with_reducible refine q_0 ?_|((with_reducible first|refine q_q qr1_ok fun K hK=>?_|refine q_r qr1_ok fun K hK=>?_);simp (maxSteps:=2000000) only [go_sem,↓reduceIte,reduceCtorEq,Nat.reduceLeDiff,Nat.reduceLT,Nat.reduceBEq,Nat.reduceAdd,V65,hG];(repeat1' with_reducible first|apply And.intro|(intro _;try exact q_v)|(refine hK _ ?_;clear hK K))<;>(try (clear hK K;exact q_u)))|(with_reducible refine q_s ?_;(first|apply q_J|apply q_K|apply q_L|apply q_M|apply q_N|apply q_O)<;>try (intro _;try exact q_v)))
 all_goals first | omega | exact q_A rfl | skip
def qT (n : Nat) (p : Int → Nat → Prop) (f : Int → Nat → Bool → (AV → Prop) → Prop) : CT:=mkCT [nT] false fun l K=>match l with
 | [.inr [.b s,.ints .i64 xs,.ints .i64 zs]]=>(InB 65536 xs ∧ Trd xs ∧ xs.length ≤ n ∧ InB 65536 zs ∧ Trd zs ∧ zs.length ≤ n ∧ p (sv 65536 s xs) (V 65536 zs)) ∧ f (sv 65536 s xs) (V 65536 zs) s K
 | _=>False
theorem qT_tr {F : FuncId} {n : Nat} {p : Int → Nat → Prop} {f : Int → Nat → Bool → (AV → Prop) → Prop} (h : ∀ (s : Bool) (m d : Nat),(dg 65536 m).length ≤ n → (dg 65536 d).length ≤ n → p (sg s m) d → ∀ K,f (sg s m) d s K → ∃ r,Ret Try.prog F false [.inr [.b s,.ints .i64 (dg 65536 m),.ints .i64 (dg 65536 d)]] r ∧ K r)
  (l : List (C ⊕ List C)) (K : AV → Prop) (hk : match l with
   | [.inr [.b s,.ints .i64 xs,.ints .i64 zs]]=>(InB 65536 xs ∧ Trd xs ∧ xs.length ≤ n ∧ InB 65536 zs ∧ Trd zs ∧ zs.length ≤ n ∧ p (sv 65536 s xs) (V 65536 zs)) ∧ f (sv 65536 s xs) (V 65536 zs) s K
   | _=>False) : ∃ r,Ret Try.prog F false l r ∧ K r:=by
 split at hk
 ·rename_i s xs zs
  obtain ⟨⟨h1,h2,h3,h4,h5,h6,h7⟩,hk⟩:=hk
  obtain ⟨e1,e2⟩:=sv_ys (s:=s) h1 h2
  have e3:=dg_V 65536 (by omega) zs h4 h5
  rw [e2] at h7 hk
  have:=h s (V 65536 xs) (V 65536 zs) (by rw [← e1]; exact h3) (by rw [e3]; exact h6) h7 K hk
  rw [← e1,e3] at this
  exact this
 ·exact hk.elim
def dpos (_ : Int) (d : Nat) : Prop:=0 < d
theorem dpos_d (z : Int) (d : Nat) : dpos z d = (0 < d):=rfl
def lowF (z : Int) (d : Nat) (s : Bool) (K : AV → Prop) : Prop:=K (.g (gT (rdN z d) (rdD z d) s))
def rq3 : Cfg:=addT 73 (qT 60000 dpos lowF) cf0
theorem rq3_ok : TblOk Try.prog rq3:=q_I cf0_ok Try.func73 fun l K h =>
 qT_tr (p:=dpos) (f:=lowF) (fun s m d lm ld hd K h=>⟨_,lowest_ret s m d lm ld hd,h⟩) l K h
attribute [go_sem] gT qT dpos_d lowF
def dpos2 (_ : Int) (c : Nat) (_ : Int) (d : Nat) : Prop:=0 < c ∧ 0 < d
def dany2 (_ : Int) (_ : Nat) (_ : Int) (_ : Nat) : Prop:=True
theorem dpos2_d (x : Int) (c : Nat) (y : Int) (d : Nat) : dpos2 x c y d = (0 < c ∧ 0 < d):=rfl
theorem dany2_d (x : Int) (c : Nat) (y : Int) (d : Nat) : dany2 x c y d = True:=rfl
attribute [go_sem] dpos2_d dany2_d
end Go.Proofs.Ytncededjmcmidaa

namespace Go.Proofs.Ytncededjmcmidaa
set_option linter.unusedSimpArgs false
set_option linter.unusedVariables false
open Go.Abs Go.Proofs.NatL

structure OkA (v : Vl) : Prop where
 k : v.k = 0 ∨ v.k = 1 ∨ v.k = 2 ∨ v.k = 3 ∨ v.k = 4 ∨ v.k = 5 ∨ v.k = 8
 x : InB 4294967296 v.x ∧ v.x.length ≤ 50
 y : InB 4294967296 v.y ∧ v.y.length ≤ 50
 t : v.t.size ≤ 100
 r : 0 ≤ v.r ∧ v.r ≤ 1
abbrev sB (l : List Int) (k : Int) : List AV:=[.c (.ints .i64 l),.c (.i .i64 k)]
abbrev vA (v : Vl) : List AV:=(vC v).map .c
abbrev atH (l : List Int) (k : Int) (v : Vl) : Hp:=⟨[(0,sB l k),(1,vA v)],[],[]⟩
attribute [go_sem] nextCT vA atH sB vC intV
def ha2 : Cfg:=listT [(13,nextCT),(45,integerCT),(75,textsCT),(70,numberCT),(71,limbsCT),(72,smallCT),(74,rcmpCT),(73,(qT 60000 dpos lowF))] [39]
theorem ha2_ok : TblOk Try.prog ha2:=listE_ok (by simp only [List.mem_singleton,forall_eq]; exact flt) ⟨⟨h1t,h1t_ok,rfl⟩,⟨h2a,h2a_ok,rfl⟩,⟨h2b,h2b_ok,rfl⟩,⟨jt7,jt7_ok,rfl⟩,⟨ch1,ch1_ok,rfl⟩,⟨nt7,nt7_ok,rfl⟩,⟨db7,db7_ok,rfl⟩,⟨rq3,rq3_ok,rfl⟩,trivial⟩
attribute [go_sem] ha2
set_option maxRecDepth 100000 in
set_option maxHeartbeats 4000000 in
theorem atom0 (l : List Int) (k : Int) (h : okSd l k) (hx : nxV l k 9 = 0) : RetG Try.prog 46 (sH l k) [.bx 0 0] (atH l (nxK l k) ⟨0,false,[],false,[],ByteArray.empty,0⟩) [.g (vC ⟨0,false,[],false,[],ByteArray.empty,0⟩)]:=by
 have h2:=nxK_ok h
 (refine ret_ge Try.func46 (fun F bs=>?_); simp only [avSl,ancs,hnx,Nat.reduceAdd,Nat.reduceLeDiff,if_true,if_false,List.length_cons,List.length_nil,List.cons_append,List.nil_append,Try.ntmps46,Try.results46])
 repeat' (first|with_reducible refine q_0 ?_|((with_reducible first|refine q_q ha2_ok fun K hK=>?_|refine q_r ha2_ok fun K hK=>?_);simp (maxSteps:=2000000) only [go_sem,↓reduceIte,reduceCtorEq,Nat.reduceLeDiff,Nat.reduceLT,Nat.reduceBEq,Nat.reduceAdd,hx];(repeat1' with_reducible first|apply And.intro|(intro _;try exact q_v)|(refine hK _ ?_;clear hK K))<;>(try (clear hK K;exact q_u)))|(with_reducible refine q_s ?_;(first|apply q_J|apply q_K|apply q_L|apply q_M|apply q_N|apply q_O)<;>try (intro _;try exact q_v)))
 all_goals first | omega | contradiction | assumption | (exact ends_g [(2,.bx 1 0)] 2 (by exact q_D) rfl) | skip
set_option maxRecDepth 100000 in
set_option maxHeartbeats 4000000 in
theorem atom1 (l : List Int) (k : Int) (h : okSd l k) (hx : nxV l k 9 = 1) : RetG Try.prog 46 (sH l k) [.bx 0 0] (atH l (nxK l (nxK l k)) ⟨1,false,[],false,[],ByteArray.empty,nxV l (nxK l k) 2⟩) [.g (vC ⟨1,false,[],false,[],ByteArray.empty,nxV l (nxK l k) 2⟩)]:=by
 have h2:=nxK_ok h
 (refine ret_ge Try.func46 (fun F bs=>?_); simp only [avSl,ancs,hnx,Nat.reduceAdd,Nat.reduceLeDiff,if_true,if_false,List.length_cons,List.length_nil,List.cons_append,List.nil_append,Try.ntmps46,Try.results46])
 repeat' (first|with_reducible refine q_0 ?_|((with_reducible first|refine q_q ha2_ok fun K hK=>?_|refine q_r ha2_ok fun K hK=>?_);simp (maxSteps:=2000000) only [go_sem,↓reduceIte,reduceCtorEq,Nat.reduceLeDiff,Nat.reduceLT,Nat.reduceBEq,Nat.reduceAdd,hx];(repeat1' with_reducible first|apply And.intro|(intro _;try exact q_v)|(refine hK _ ?_;clear hK K))<;>(try (clear hK K;exact q_u)))|(with_reducible refine q_s ?_;(first|apply q_J|apply q_K|apply q_L|apply q_M|apply q_N|apply q_O)<;>try (intro _;try exact q_v)))
 all_goals first | omega | contradiction | assumption | (exact ends_g [(2,.bx 1 0)] 2 (by exact q_D) rfl) | skip
set_option maxRecDepth 100000 in
set_option maxHeartbeats 4000000 in
theorem atom2 (l : List Int) (k : Int) (h : okSd l k) (hx : nxV l k 9 = 2) : RetG Try.prog 46 (sH l k) [.bx 0 0] (atH l (nxK l (nxK l k)) (intV (nxV l (nxK l k) 1099511627776 - 549755813888))) [.g (vC (intV (nxV l (nxK l k) 1099511627776 - 549755813888)))]:=by
 have h2:=nxK_ok h
 (refine ret_ge Try.func46 (fun F bs=>?_); simp only [avSl,ancs,hnx,Nat.reduceAdd,Nat.reduceLeDiff,if_true,if_false,List.length_cons,List.length_nil,List.cons_append,List.nil_append,Try.ntmps46,Try.results46])
 repeat' (first|with_reducible refine q_0 ?_|((with_reducible first|refine q_q ha2_ok fun K hK=>?_|refine q_r ha2_ok fun K hK=>?_);simp (maxSteps:=2000000) only [go_sem,↓reduceIte,reduceCtorEq,Nat.reduceLeDiff,Nat.reduceLT,Nat.reduceBEq,Nat.reduceAdd,hx];(repeat1' with_reducible first|apply And.intro|(intro _;try exact q_v)|(refine hK _ ?_;clear hK K))<;>(try (clear hK K;exact q_u)))|(with_reducible refine q_s ?_;(first|apply q_J|apply q_K|apply q_L|apply q_M|apply q_N|apply q_O)<;>try (intro _;try exact q_v)))
 all_goals first | omega | contradiction | assumption | (exact ends_g [(2,.bx 1 0)] 2 (by exact q_D) rfl) | skip
set_option maxRecDepth 100000 in
set_option maxHeartbeats 4000000 in
theorem atom7 (l : List Int) (k : Int) (h : okSd l k) (hx : nxV l k 9 = 7) : RetG Try.prog 46 (sH l k) [.bx 0 0] (atH l (nxK l k) ⟨8,false,[],false,[],ByteArray.empty,0⟩) [.g (vC ⟨8,false,[],false,[],ByteArray.empty,0⟩)]:=by
 have h2:=nxK_ok h
 (refine ret_ge Try.func46 (fun F bs=>?_); simp only [avSl,ancs,hnx,Nat.reduceAdd,Nat.reduceLeDiff,if_true,if_false,List.length_cons,List.length_nil,List.cons_append,List.nil_append,Try.ntmps46,Try.results46])
 repeat' (first|with_reducible refine q_0 ?_|((with_reducible first|refine q_q ha2_ok fun K hK=>?_|refine q_r ha2_ok fun K hK=>?_);simp (maxSteps:=2000000) only [go_sem,↓reduceIte,reduceCtorEq,Nat.reduceLeDiff,Nat.reduceLT,Nat.reduceBEq,Nat.reduceAdd,hx];(repeat1' with_reducible first|apply And.intro|(intro _;try exact q_v)|(refine hK _ ?_;clear hK K))<;>(try (clear hK K;exact q_u)))|(with_reducible refine q_s ?_;(first|apply q_J|apply q_K|apply q_L|apply q_M|apply q_N|apply q_O)<;>try (intro _;try exact q_v)))
 all_goals first | omega | contradiction | assumption | (exact ends_g [(2,.bx 1 0)] 2 (by exact q_D) rfl) | skip
set_option maxRecDepth 100000 in
set_option maxHeartbeats 4000000 in
theorem atom8 (l : List Int) (k : Int) (h : okSd l k) (hx : nxV l k 9 = 8) : RetG Try.prog 46 (sH l k) [.bx 0 0] (atH l (nxK l (nxK l k)) (intV (nxV l (nxK l k) 5))) [.g (vC (intV (nxV l (nxK l k) 5)))]:=by
 have h2:=nxK_ok h
 (refine ret_ge Try.func46 (fun F bs=>?_); simp only [avSl,ancs,hnx,Nat.reduceAdd,Nat.reduceLeDiff,if_true,if_false,List.length_cons,List.length_nil,List.cons_append,List.nil_append,Try.ntmps46,Try.results46])
 repeat' (first|with_reducible refine q_0 ?_|((with_reducible first|refine q_q ha2_ok fun K hK=>?_|refine q_r ha2_ok fun K hK=>?_);simp (maxSteps:=2000000) only [go_sem,↓reduceIte,reduceCtorEq,Nat.reduceLeDiff,Nat.reduceLT,Nat.reduceBEq,Nat.reduceAdd,hx];(repeat1' with_reducible first|apply And.intro|(intro _;try exact q_v)|(refine hK _ ?_;clear hK K))<;>(try (clear hK K;exact q_u)))|(with_reducible refine q_s ?_;(first|apply q_J|apply q_K|apply q_L|apply q_M|apply q_N|apply q_O)<;>try (intro _;try exact q_v)))
 all_goals first | omega | contradiction | assumption | (exact ends_g [(2,.bx 1 0)] 2 (by exact q_D) rfl) | skip
end Go.Proofs.Ytncededjmcmidaa

namespace Go.Proofs.Ytncededjmcmidaa
set_option linter.unusedSimpArgs false
set_option linter.unusedVariables false
open Go.Abs Go.Proofs.NatL

theorem tx_at {i : Nat} (h : i < 14) : (tx14.map fun t=>[C.str t]).getD i [] = [.str (tx14.getD i ByteArray.empty)]:=by
 rw [List.getD_eq_getElem?_getD,List.getElem?_map,List.getD_eq_getElem?_getD]
 rw [List.getElem?_eq_getElem (show i < tx14.length from h)]
 rfl
set_option maxRecDepth 100000 in
set_option maxHeartbeats 4000000 in
theorem atom5 (l : List Int) (k : Int) (h : okSd l k) (hx : nxV l k 9 = 5) : RetG Try.prog 46 (sH l k) [.bx 0 0] (atH l (nxK l (nxK l k)) ⟨4,false,[],false,[],tx14.getD (nxV l (nxK l k) 14).toNat ByteArray.empty,0⟩) [.g (vC ⟨4,false,[],false,[],tx14.getD (nxV l (nxK l k) 14).toNat ByteArray.empty,0⟩)]:=by
 have h2:=nxK_ok h
 have e14 : ((List.map (fun t=>[C.str t]) tx14).length : Int) = 14:=rfl
 have hn:=nxV_in l (nxK l k) (n:=14) (by omega)
 have hat:=tx_at (i:=(nxV l (nxK l k) 14).toNat) (by omega)
 (refine ret_ge Try.func46 (fun F bs=>?_); simp only [avSl,ancs,hnx,Nat.reduceAdd,Nat.reduceLeDiff,if_true,if_false,List.length_cons,List.length_nil,List.cons_append,List.nil_append,Try.ntmps46,Try.results46])
 repeat' (first|with_reducible refine q_0 ?_|((with_reducible first|refine q_q ha2_ok fun K hK=>?_|refine q_r ha2_ok fun K hK=>?_);simp (maxSteps:=2000000) only [go_sem,↓reduceIte,reduceCtorEq,Nat.reduceLeDiff,Nat.reduceLT,Nat.reduceBEq,Nat.reduceAdd,hx,e14,hat];(repeat1' with_reducible first|apply And.intro|(intro _;try exact q_v)|(refine hK _ ?_;clear hK K))<;>(try (clear hK K;exact q_u)))|(with_reducible refine q_s ?_;(first|apply q_J|apply q_K|apply q_L|apply q_M|apply q_N|apply q_O)<;>try (intro _;try exact q_v)))
 all_goals first | omega | contradiction | assumption | rfl | exact keep_of [] trivial | exact keep_of [4] ⟨rfl,trivial⟩ | (exact ends_g [(2,.bx 1 0)] 2 (by exact q_D) rfl) | skip
set_option maxRecDepth 100000 in
set_option maxHeartbeats 4000000 in
theorem atom6 (l : List Int) (k : Int) (h : okSd l k) (hx : nxV l k 9 = 6) : RetG Try.prog 46 (sH l k) [.bx 0 0] (atH l (nxK l (nxK l (nxK l (nxK l (nxK l k))))) ⟨5,false,[],false,[],strOf (List.take (nxV l (nxK l (nxK l (nxK l (nxK l k)))) 4).toNat [nxV l (nxK l k) 256 % 256,nxV l (nxK l (nxK l k)) 256 % 256,nxV l (nxK l (nxK l (nxK l k))) 128 % 256]),0⟩) [.g (vC ⟨5,false,[],false,[],strOf (List.take (nxV l (nxK l (nxK l (nxK l (nxK l k)))) 4).toNat [nxV l (nxK l k) 256 % 256,nxV l (nxK l (nxK l k)) 256 % 256,nxV l (nxK l (nxK l (nxK l k))) 128 % 256]),0⟩)]:=by
 have h2:=nxK_ok h
 (refine ret_ge Try.func46 (fun F bs=>?_); simp only [avSl,ancs,hnx,Nat.reduceAdd,Nat.reduceLeDiff,if_true,if_false,List.length_cons,List.length_nil,List.cons_append,List.nil_append,Try.ntmps46,Try.results46])
 repeat' (first|with_reducible refine q_0 ?_|((with_reducible first|refine q_q ha2_ok fun K hK=>?_|refine q_r ha2_ok fun K hK=>?_);simp (maxSteps:=2000000) only [go_sem,↓reduceIte,reduceCtorEq,Nat.reduceLeDiff,Nat.reduceLT,Nat.reduceBEq,Nat.reduceAdd,hx];(repeat1' with_reducible first|apply And.intro|(intro _;try exact q_v)|(refine hK _ ?_;clear hK K))<;>(try (clear hK K;exact q_u)))|(with_reducible refine q_s ?_;(first|apply q_J|apply q_K|apply q_L|apply q_M|apply q_N|apply q_O)<;>try (intro _;try exact q_v)))
 all_goals first | omega | contradiction | assumption | rfl | exact keep_of [] trivial | exact keep_of [4] ⟨rfl,trivial⟩ | (exact ends_g [(2,.bx 1 0)] 2 (by exact q_D) rfl) | skip
set_option maxRecDepth 100000 in
set_option maxHeartbeats 4000000 in
theorem atom4a (l : List Int) (k : Int) (h : okSd l k) (hx : nxV l k 9 = 4) (hc : cmp3 (rdD (nxV l (nxK l k) 99 - 49) ((nxV l (nxK l (nxK l k)) 7 + 2).toNat)) (Int.toNat 1) = 0) (hf : sgz (rdN (nxV l (nxK l k) 99 - 49) ((nxV l (nxK l (nxK l k)) 7 + 2).toNat)) (decide ((nxV l (nxK l k) 99 - 49) < 0)) = true) : RetG Try.prog 46 (sH l k) [.bx 0 0] (atH l (nxK l (nxK l (nxK l k))) ⟨2,decide (0 < ((dg 65536 (rdN (nxV l (nxK l k) 99 - 49) ((nxV l (nxK l (nxK l k)) 7 + 2).toNat)).natAbs).length : Int)),dg 4294967296 (rdN (nxV l (nxK l k) 99 - 49) ((nxV l (nxK l (nxK l k)) 7 + 2).toNat)).natAbs,false,[],ByteArray.empty,0⟩) [.g (vC ⟨2,decide (0 < ((dg 65536 (rdN (nxV l (nxK l k) 99 - 49) ((nxV l (nxK l (nxK l k)) 7 + 2).toNat)).natAbs).length : Int)),dg 4294967296 (rdN (nxV l (nxK l k) 99 - 49) ((nxV l (nxK l (nxK l k)) 7 + 2).toNat)).natAbs,false,[],ByteArray.empty,0⟩)]:=by
 have h2:=nxK_ok h
 have n1:=nxV_in l (nxK l k) (n:=99) (by omega)
 have n2:=nxV_in l (nxK l (nxK l k)) (n:=7) (by omega)
 have l1:=dg_len_le (B:=65536) (by omega) (nxV l (nxK l k) 99 - 49).natAbs 4 (by omega)
 have l2:=dg_len_le (B:=65536) (by omega) ((nxV l (nxK l (nxK l k)) 7 + 2).toNat) 4 (by omega)
 have l3 : (dg 65536 (rdN (nxV l (nxK l k) 99 - 49) (nxV l (nxK l (nxK l k)) 7 + 2).toNat).natAbs).length ≤ 4:=dg_len_le (B:=65536) (by omega) _ 4 (by
  rw [rdN_abs _ (by omega)]
  exact Nat.lt_of_le_of_lt (Nat.div_le_self _ _) (by omega))
 have l4 : (dg 65536 (rdD (nxV l (nxK l k) 99 - 49) (nxV l (nxK l (nxK l k)) 7 + 2).toNat)).length ≤ 4:=dg_len_le (B:=65536) (by omega) _ 4 (by
  unfold rdD
  exact Nat.lt_of_le_of_lt (Nat.div_le_self _ _) (by omega))
 have l5 : (dg 65536 (Int.toNat 1)).length ≤ 4:=dg_len_le (B:=65536) (by omega) _ 4 (by decide)
 (refine ret_ge Try.func46 (fun F bs=>?_); simp only [avSl,ancs,hnx,Nat.reduceAdd,Nat.reduceLeDiff,if_true,if_false,List.length_cons,List.length_nil,List.cons_append,List.nil_append,Try.ntmps46,Try.results46])
 repeat' (first|with_reducible refine q_0 ?_|((with_reducible first|refine q_q ha2_ok fun K hK=>?_|refine q_r ha2_ok fun K hK=>?_);simp (maxSteps:=2000000) only [go_sem,↓reduceIte,reduceCtorEq,Nat.reduceLeDiff,Nat.reduceLT,Nat.reduceBEq,Nat.reduceAdd,hx,hc,hf];(repeat1' with_reducible first|apply And.intro|(intro _;try exact q_v)|(refine hK _ ?_;clear hK K))<;>(try (clear hK K;exact q_u)))|(with_reducible refine q_s ?_;(first|apply q_J|apply q_K|apply q_L|apply q_M|apply q_N|apply q_O)<;>try (intro _;try exact q_v)))
 all_goals first | omega | contradiction | assumption | rfl | exact keep_of [] trivial | exact keep_of [4] ⟨rfl,trivial⟩ | (exact ends_g [(2,.bx 1 0)] 2 (by exact q_D) rfl) | skip
set_option maxRecDepth 100000 in
set_option maxHeartbeats 4000000 in
theorem atom4b (l : List Int) (k : Int) (h : okSd l k) (hx : nxV l k 9 = 4) (hc : cmp3 (rdD (nxV l (nxK l k) 99 - 49) ((nxV l (nxK l (nxK l k)) 7 + 2).toNat)) (Int.toNat 1) = 0) (hf : sgz (rdN (nxV l (nxK l k) 99 - 49) ((nxV l (nxK l (nxK l k)) 7 + 2).toNat)) (decide ((nxV l (nxK l k) 99 - 49) < 0)) = false) : RetG Try.prog 46 (sH l k) [.bx 0 0] (atH l (nxK l (nxK l (nxK l k))) ⟨2,false,dg 4294967296 (rdN (nxV l (nxK l k) 99 - 49) ((nxV l (nxK l (nxK l k)) 7 + 2).toNat)).natAbs,false,[],ByteArray.empty,0⟩) [.g (vC ⟨2,false,dg 4294967296 (rdN (nxV l (nxK l k) 99 - 49) ((nxV l (nxK l (nxK l k)) 7 + 2).toNat)).natAbs,false,[],ByteArray.empty,0⟩)]:=by
 have h2:=nxK_ok h
 have n1:=nxV_in l (nxK l k) (n:=99) (by omega)
 have n2:=nxV_in l (nxK l (nxK l k)) (n:=7) (by omega)
 have l1:=dg_len_le (B:=65536) (by omega) (nxV l (nxK l k) 99 - 49).natAbs 4 (by omega)
 have l2:=dg_len_le (B:=65536) (by omega) ((nxV l (nxK l (nxK l k)) 7 + 2).toNat) 4 (by omega)
 have l3 : (dg 65536 (rdN (nxV l (nxK l k) 99 - 49) (nxV l (nxK l (nxK l k)) 7 + 2).toNat).natAbs).length ≤ 4:=dg_len_le (B:=65536) (by omega) _ 4 (by
  rw [rdN_abs _ (by omega)]
  exact Nat.lt_of_le_of_lt (Nat.div_le_self _ _) (by omega))
 have l4 : (dg 65536 (rdD (nxV l (nxK l k) 99 - 49) (nxV l (nxK l (nxK l k)) 7 + 2).toNat)).length ≤ 4:=dg_len_le (B:=65536) (by omega) _ 4 (by
  unfold rdD
  exact Nat.lt_of_le_of_lt (Nat.div_le_self _ _) (by omega))
 have l5 : (dg 65536 (Int.toNat 1)).length ≤ 4:=dg_len_le (B:=65536) (by omega) _ 4 (by decide)
 (refine ret_ge Try.func46 (fun F bs=>?_); simp only [avSl,ancs,hnx,Nat.reduceAdd,Nat.reduceLeDiff,if_true,if_false,List.length_cons,List.length_nil,List.cons_append,List.nil_append,Try.ntmps46,Try.results46])
 repeat' (first|with_reducible refine q_0 ?_|((with_reducible first|refine q_q ha2_ok fun K hK=>?_|refine q_r ha2_ok fun K hK=>?_);simp (maxSteps:=2000000) only [go_sem,↓reduceIte,reduceCtorEq,Nat.reduceLeDiff,Nat.reduceLT,Nat.reduceBEq,Nat.reduceAdd,hx,hc,hf];(repeat1' with_reducible first|apply And.intro|(intro _;try exact q_v)|(refine hK _ ?_;clear hK K))<;>(try (clear hK K;exact q_u)))|(with_reducible refine q_s ?_;(first|apply q_J|apply q_K|apply q_L|apply q_M|apply q_N|apply q_O)<;>try (intro _;try exact q_v)))
 all_goals first | omega | contradiction | assumption | rfl | exact keep_of [] trivial | exact keep_of [4] ⟨rfl,trivial⟩ | (exact ends_g [(2,.bx 1 0)] 2 (by exact q_D) rfl) | skip
set_option maxRecDepth 100000 in
set_option maxHeartbeats 4000000 in
theorem atom4c (l : List Int) (k : Int) (h : okSd l k) (hx : nxV l k 9 = 4) (hc : ¬ cmp3 (rdD (nxV l (nxK l k) 99 - 49) ((nxV l (nxK l (nxK l k)) 7 + 2).toNat)) (Int.toNat 1) = 0) : RetG Try.prog 46 (sH l k) [.bx 0 0] (atH l (nxK l (nxK l (nxK l k))) ⟨3,sgz (rdN (nxV l (nxK l k) 99 - 49) ((nxV l (nxK l (nxK l k)) 7 + 2).toNat)) (decide ((nxV l (nxK l k) 99 - 49) < 0)),dg 4294967296 (rdN (nxV l (nxK l k) 99 - 49) ((nxV l (nxK l (nxK l k)) 7 + 2).toNat)).natAbs,false,dg 4294967296 (rdD (nxV l (nxK l k) 99 - 49) ((nxV l (nxK l (nxK l k)) 7 + 2).toNat)),ByteArray.empty,0⟩) [.g (vC ⟨3,sgz (rdN (nxV l (nxK l k) 99 - 49) ((nxV l (nxK l (nxK l k)) 7 + 2).toNat)) (decide ((nxV l (nxK l k) 99 - 49) < 0)),dg 4294967296 (rdN (nxV l (nxK l k) 99 - 49) ((nxV l (nxK l (nxK l k)) 7 + 2).toNat)).natAbs,false,dg 4294967296 (rdD (nxV l (nxK l k) 99 - 49) ((nxV l (nxK l (nxK l k)) 7 + 2).toNat)),ByteArray.empty,0⟩)]:=by
 have h2:=nxK_ok h
 have n1:=nxV_in l (nxK l k) (n:=99) (by omega)
 have n2:=nxV_in l (nxK l (nxK l k)) (n:=7) (by omega)
 have l1:=dg_len_le (B:=65536) (by omega) (nxV l (nxK l k) 99 - 49).natAbs 4 (by omega)
 have l2:=dg_len_le (B:=65536) (by omega) ((nxV l (nxK l (nxK l k)) 7 + 2).toNat) 4 (by omega)
 have l3 : (dg 65536 (rdN (nxV l (nxK l k) 99 - 49) (nxV l (nxK l (nxK l k)) 7 + 2).toNat).natAbs).length ≤ 4:=dg_len_le (B:=65536) (by omega) _ 4 (by
  rw [rdN_abs _ (by omega)]
  exact Nat.lt_of_le_of_lt (Nat.div_le_self _ _) (by omega))
 have l4 : (dg 65536 (rdD (nxV l (nxK l k) 99 - 49) (nxV l (nxK l (nxK l k)) 7 + 2).toNat)).length ≤ 4:=dg_len_le (B:=65536) (by omega) _ 4 (by
  unfold rdD
  exact Nat.lt_of_le_of_lt (Nat.div_le_self _ _) (by omega))
 have l5 : (dg 65536 (Int.toNat 1)).length ≤ 4:=dg_len_le (B:=65536) (by omega) _ 4 (by decide)
 (refine ret_ge Try.func46 (fun F bs=>?_); simp only [avSl,ancs,hnx,Nat.reduceAdd,Nat.reduceLeDiff,if_true,if_false,List.length_cons,List.length_nil,List.cons_append,List.nil_append,Try.ntmps46,Try.results46])
 repeat' (first|with_reducible refine q_0 ?_|((with_reducible first|refine q_q ha2_ok fun K hK=>?_|refine q_r ha2_ok fun K hK=>?_);simp (maxSteps:=2000000) only [go_sem,↓reduceIte,reduceCtorEq,Nat.reduceLeDiff,Nat.reduceLT,Nat.reduceBEq,Nat.reduceAdd,hx,hc];(repeat1' with_reducible first|apply And.intro|(intro _;try exact q_v)|(refine hK _ ?_;clear hK K))<;>(try (clear hK K;exact q_u)))|(with_reducible refine q_s ?_;(first|apply q_J|apply q_K|apply q_L|apply q_M|apply q_N|apply q_O)<;>try (intro _;try exact q_v)))
 all_goals first | omega | contradiction | assumption | rfl | exact keep_of [] trivial | exact keep_of [4] ⟨rfl,trivial⟩ | (exact ends_g [(2,.bx 1 0)] 2 (by exact q_D) rfl) | skip
end Go.Proofs.Ytncededjmcmidaa

namespace Go.Proofs.Ytncededjmcmidaa
set_option linter.unusedSimpArgs false
set_option linter.unusedVariables false
open Go.Abs Go.Proofs.NatL

set_option maxRecDepth 100000 in
set_option maxHeartbeats 4000000 in
theorem atom3 (l : List Int) (k : Int) (h : okSd l k) (hx : nxV l k 9 = 3) : RetG Try.prog 46 (sH l k) [.bx 0 0] (atH l (nxK l (nxK l (nxK l (nxK l k)))) ⟨2,decide (nxV l (nxK l (nxK l (nxK l k))) 2 = 1),List.replicate (nxV l (nxK l k) 40).toNat 0 ++ [nxV l (nxK l (nxK l k)) 2147483648 + 1],false,[],ByteArray.empty,0⟩) [.g (vC ⟨2,decide (nxV l (nxK l (nxK l (nxK l k))) 2 = 1),List.replicate (nxV l (nxK l k) 40).toNat 0 ++ [nxV l (nxK l (nxK l k)) 2147483648 + 1],false,[],ByteArray.empty,0⟩)]:=by
 have h2:=nxK_ok h
 (refine ret_ge Try.func46 (fun F bs=>?_); simp only [avSl,ancs,hnx,Nat.reduceAdd,Nat.reduceLeDiff,if_true,if_false,List.length_cons,List.length_nil,List.cons_append,List.nil_append,Try.ntmps46,Try.results46])
 repeat' (first|with_reducible refine q_0 ?_|((with_reducible first|refine q_q (mkT_ok ha2_ok) fun K hK=>?_|refine q_r (mkT_ok ha2_ok) fun K hK=>?_);simp (maxSteps:=2000000) only [go_sem,↓reduceIte,reduceCtorEq,Nat.reduceLeDiff,Nat.reduceLT,Nat.reduceBEq,Nat.reduceAdd,hx];(repeat1' with_reducible first|apply And.intro|(intro _;try exact q_v)|(refine hK _ ?_;clear hK K))<;>(try (clear hK K;exact q_u)))|(with_reducible refine q_s ?_;(first|apply q_J|apply q_K|apply q_L|apply q_M|apply q_N|apply q_O)<;>try (intro _;try exact q_v)))
 all_goals first | omega | contradiction | assumption | rfl | exact keep_of [] trivial | exact keep_of [4] ⟨rfl,trivial⟩ | (exact ends_g [(2,.bx 1 0)] 2 (by exact q_D) rfl) | skip
theorem strOf_size_go : ∀ (xs : List Int) (r : ByteArray),(xs.foldl (fun r n=>r.push (UInt8.ofNat n.toNat)) r).size = r.size + xs.length
 | [],r=>by simp
 | x :: xs,r=>by
  rw [List.foldl_cons,strOf_size_go xs,ByteArray.size_push,List.length_cons]; omega
theorem strOf_size (xs : List Int) : (strOf xs).size = xs.length:=by
 unfold strOf
 rw [strOf_size_go]
 exact Nat.zero_add _
theorem tx14_size (i : Nat) : (tx14.getD i ByteArray.empty).size ≤ 100:=by
 rw [List.getD_eq_getElem?_getD]
 rcases hq : tx14[i]? with _ | t
 ·exact Nat.zero_le _
 ·have:=List.mem_of_getElem? hq
  simp only [Option.getD_some]
  have h : ∀ t ∈ tx14,t.size ≤ 100:=by
   intro t ht
   simp only [tx14,List.mem_cons,List.not_mem_nil,or_false] at ht
   rcases ht with rfl | rfl | rfl | rfl | rfl | rfl | rfl | rfl | rfl | rfl | rfl | rfl | rfl | rfl <;> exact Nat.le_of_ble_eq_true rfl
  exact h t this
theorem inB_nil (B : Nat) : InB B []:=fun x hx=>by cases hx
theorem okA_int (n : Int) (h : n.natAbs < 4294967296 ^ 2) : OkA (intV n):=⟨by simp [intV],⟨InB_dg _ (by omega) _,by have:=dg_len_le (B:=4294967296) (by omega) n.natAbs 2 h; simp only [intV]; omega⟩,⟨inB_nil _,by simp [intV]⟩,by simp [intV],by simp [intV]⟩
theorem dg50 (n : Nat) (h : n < 4294967296 ^ 2) : InB 4294967296 (dg 4294967296 n) ∧ (dg 4294967296 n).length ≤ 50:=⟨InB_dg _ (by omega) _,by have:=dg_len_le (B:=4294967296) (by omega) n 2 h; omega⟩
theorem atom_ex (l : List Int) (k : Int) (h : okSd l k) : ∃ v k',(OkA v ∧ okSd l k') ∧ RetG Try.prog 46 (sH l k) [.bx 0 0] (atH l k' v) [.g (vC v)]:=by
 have hn:=nxV_in l k (n:=9) (by omega)
 have h1:=nxK_ok h
 have h2:=nxK_ok h1
 have h3:=nxK_ok h2
 have h4:=nxK_ok h3
 have hb:=inB_nil 4294967296
 have hc : nxV l k 9 = 0 ∨ nxV l k 9 = 1 ∨ nxV l k 9 = 2 ∨ nxV l k 9 = 3 ∨ nxV l k 9 = 4 ∨ nxV l k 9 = 5 ∨ nxV l k 9 = 6 ∨ nxV l k 9 = 7 ∨ nxV l k 9 = 8:=by omega
 rcases hc with hc | hc | hc | hc | hc | hc | hc | hc | hc
 ·exact ⟨_,_,⟨⟨by simp,⟨hb,by simp⟩,⟨hb,by simp⟩,by simp,by simp⟩,h1⟩,atom0 l k h hc⟩
 ·have hr:=nxV_in l (nxK l k) (n:=2) (by omega)
  exact ⟨_,_,⟨⟨by simp,⟨hb,by simp⟩,⟨hb,by simp⟩,by simp,by simp only; omega⟩,h2⟩,atom1 l k h hc⟩
 ·have hr:=nxV_in l (nxK l k) (n:=1099511627776) (by omega)
  exact ⟨_,_,⟨okA_int _ (by omega),h2⟩,atom2 l k h hc⟩
 ·have hr:=nxV_in l (nxK l k) (n:=40) (by omega)
  have hs:=nxV_in l (nxK l (nxK l k)) (n:=2147483648) (by omega)
  refine ⟨_,_,⟨⟨by simp,⟨fun x hx=>?_,?_⟩,⟨hb,by simp⟩,by simp,by simp⟩,h4⟩,atom3 l k h hc⟩
  ·rcases List.mem_append.1 hx with hx | hx
   ·have:=List.eq_of_mem_replicate hx; omega
   ·simp only [List.mem_singleton] at hx; omega
  ·simp only [List.length_append,List.length_replicate,List.length_singleton]; omega
 ·have n1:=nxV_in l (nxK l k) (n:=99) (by omega)
  have n2:=nxV_in l (nxK l (nxK l k)) (n:=7) (by omega)
  have e1 : (rdN (nxV l (nxK l k) 99 - 49) (nxV l (nxK l (nxK l k)) 7 + 2).toNat).natAbs < 4294967296 ^ 2:=by
   rw [rdN_abs _ (by omega)]
   exact Nat.lt_of_le_of_lt (Nat.div_le_self _ _) (by omega)
  have e2 : rdD (nxV l (nxK l k) 99 - 49) (nxV l (nxK l (nxK l k)) 7 + 2).toNat < 4294967296 ^ 2:=by
   unfold rdD
   exact Nat.lt_of_le_of_lt (Nat.div_le_self _ _) (by omega)
  by_cases hcc : cmp3 (rdD (nxV l (nxK l k) 99 - 49) ((nxV l (nxK l (nxK l k)) 7 + 2).toNat)) (Int.toNat 1) = 0
  ·cases hf : sgz (rdN (nxV l (nxK l k) 99 - 49) ((nxV l (nxK l (nxK l k)) 7 + 2).toNat)) (decide ((nxV l (nxK l k) 99 - 49) < 0))
   ·exact ⟨_,_,⟨⟨by simp,dg50 _ e1,⟨hb,by simp⟩,by simp,by simp⟩,h3⟩,atom4b l k h hc hcc hf⟩
   ·exact ⟨_,_,⟨⟨by simp,dg50 _ e1,⟨hb,by simp⟩,by simp,by simp⟩,h3⟩,atom4a l k h hc hcc hf⟩
  ·exact ⟨_,_,⟨⟨by simp,dg50 _ e1,dg50 _ e2,by simp,by simp⟩,h3⟩,atom4c l k h hc hcc⟩
 ·exact ⟨_,_,⟨⟨by simp,⟨hb,by simp⟩,⟨hb,by simp⟩,tx14_size _,by simp⟩,h2⟩,atom5 l k h hc⟩
 ·exact ⟨_,_,⟨⟨by simp,⟨hb,by simp⟩,⟨hb,by simp⟩,by
   simp only [strOf_size,List.length_take,List.length_cons,List.length_nil]; omega,by simp⟩,nxK_ok h4⟩,atom6 l k h hc⟩
 ·exact ⟨_,_,⟨⟨by simp,⟨hb,by simp⟩,⟨hb,by simp⟩,by simp,by simp⟩,h1⟩,atom7 l k h hc⟩
 ·have hr:=nxV_in l (nxK l k) (n:=5) (by omega)
  exact ⟨_,_,⟨okA_int _ (by omega),h2⟩,atom8 l k h hc⟩
open Classical in
noncomputable def atV (l : List Int) (k : Int) : Vl:=if h : okSd l k then (atom_ex l k h).choose else intV 0
open Classical in
noncomputable def atK (l : List Int) (k : Int) : Int:=if h : okSd l k then (atom_ex l k h).choose_spec.choose else k
theorem at_spec {l : List Int} {k : Int} (h : okSd l k) : (OkA (atV l k) ∧ okSd l (atK l k)) ∧ RetG Try.prog 46 (sH l k) [.bx 0 0] (atH l (atK l k) (atV l k)) [.g (vC (atV l k))]:=by
 unfold atV atK
 rw [dif_pos h,dif_pos h]
 exact (atom_ex l k h).choose_spec.choose_spec
def atomCT : CT:=mkCTG fun H al K=>match H,al with
 | ⟨[(0,[.c (.ints .i64 l),.c (.i .i64 k)])],[],[]⟩,[.bx 0 0]=>okSd l k ∧ (OkA (atV l k) → okSd l (atK l k) → K (atH l (atK l k) (atV l k)) [.g (vC (atV l k))])
 | _,_=>False
def h5a : Cfg:=addT 46 atomCT cf0
theorem h5a_ok : TblOk Try.prog h5a:=ctg_ok cf0_ok Try.func46 fun H al K h=>by
 split at h
 ·rename_i l k
  have t:=at_spec h.1
  exact ⟨_,_,t.2,h.2 t.1.1 t.1.2⟩
 ·exact h.elim
end Go.Proofs.Ytncededjmcmidaa

namespace Go.Proofs.Ytncededjmcmidaa
set_option linter.unusedSimpArgs false
set_option linter.unusedVariables false
open Go.Abs Go.Proofs.NatL

abbrev refV (r : Int) : Vl:=⟨6,false,[],false,[],ByteArray.empty,r⟩
noncomputable def vaV (l : List Int) (k n f : Int) : Vl:=if 0 < n - f then (if nxV l k 2 = 1 then refV (f + nxV l (nxK l k) (n - f)) else atV l (nxK l k)) else atV l k
noncomputable def vaK (l : List Int) (k n f : Int) : Int:=if 0 < n - f then (if nxV l k 2 = 1 then nxK l (nxK l k) else atK l (nxK l k)) else atK l k
def OkV (n f : Int) (v : Vl) : Prop:=OkA v ∨ (v = refV v.r ∧ f ≤ v.r ∧ v.r < n)
attribute [go_sem] atomCT
abbrev vaH (l : List Int) (k : Int) (v : Vl) : Hp:=⟨[(0,sB l k),(2,vA v)],[],[]⟩
def ha3 : Cfg:=listT [(13,nextCT),(46,atomCT)] [39]
theorem ha3_ok : TblOk Try.prog ha3:=listE_ok (by simp only [List.mem_singleton,forall_eq]; exact flt) ⟨⟨h1t,h1t_ok,rfl⟩,⟨h5a,h5a_ok,rfl⟩,trivial⟩
attribute [go_sem] ha3
set_option maxRecDepth 100000 in
set_option maxHeartbeats 4000000 in
theorem value_ret (l : List Int) (k : Int) (os : List (List C)) (f : Int) (h : okSd l k) (hf : 0 ≤ f ∧ f ≤ 100000) (hn : os.length ≤ 100000) : RetG Try.prog 12 (sH l k) [.bx 0 0,.gt [.ln (.sl 10 os)],.c (.i .i64 f)] (vaH l (vaK l k os.length f) (vaV l k os.length f)) [.g (vC (vaV l k os.length f))]:=by
 have h2:=nxK_ok h
 unfold vaV vaK
 by_cases h3 : (0:Int) < os.length - f
 ·rw [if_pos h3,if_pos h3]
  by_cases hx : nxV l k 2 = 1
  ·rw [if_pos hx,if_pos hx]
   (refine ret_ge Try.func12 (fun F bs=>?_); simp only [avSl,ancs,hnx,Nat.reduceAdd,Nat.reduceLeDiff,if_true,if_false,List.length_cons,List.length_nil,List.cons_append,List.nil_append,Try.ntmps12,Try.results12])
   repeat' (first|with_reducible refine q_0 ?_|((with_reducible first|refine q_q ha3_ok fun K hK=>?_|refine q_r ha3_ok fun K hK=>?_);simp (maxSteps:=2000000) only [go_sem,↓reduceIte,reduceCtorEq,Nat.reduceLeDiff,Nat.reduceLT,Nat.reduceBEq,Nat.reduceAdd,hx,h3];(repeat1' with_reducible first|apply And.intro|(intro _;try exact q_v)|(refine hK _ ?_;clear hK K))<;>(try (clear hK K;exact q_u)))|(with_reducible refine q_s ?_;(first|apply q_J|apply q_K|apply q_L|apply q_M|apply q_N|apply q_O)<;>try (intro _;try exact q_v)))
   all_goals first | omega | contradiction | assumption | rfl | (exact ends_g [(6,.bx 2 0)] 3 (by exact q_D) rfl) | skip
  ·rw [if_neg hx,if_neg hx]
   (refine ret_ge Try.func12 (fun F bs=>?_); simp only [avSl,ancs,hnx,Nat.reduceAdd,Nat.reduceLeDiff,if_true,if_false,List.length_cons,List.length_nil,List.cons_append,List.nil_append,Try.ntmps12,Try.results12])
   repeat' (first|with_reducible refine q_0 ?_|((with_reducible first|refine q_q ha3_ok fun K hK=>?_|refine q_r ha3_ok fun K hK=>?_);simp (maxSteps:=2000000) only [go_sem,↓reduceIte,reduceCtorEq,Nat.reduceLeDiff,Nat.reduceLT,Nat.reduceBEq,Nat.reduceAdd,hx,h3];(repeat1' with_reducible first|apply And.intro|(intro _;try exact q_v)|(refine hK _ ?_;clear hK K))<;>(try (clear hK K;exact q_u)))|(with_reducible refine q_s ?_;(first|apply q_J|apply q_K|apply q_L|apply q_M|apply q_N|apply q_O)<;>try (intro _;try exact q_v)))
   all_goals first | omega | contradiction | assumption | rfl | (exact ends_g [(6,.bx 2 0)] 3 (by exact q_D) rfl) | skip
 ·rw [if_neg h3,if_neg h3]
  (refine ret_ge Try.func12 (fun F bs=>?_); simp only [avSl,ancs,hnx,Nat.reduceAdd,Nat.reduceLeDiff,if_true,if_false,List.length_cons,List.length_nil,List.cons_append,List.nil_append,Try.ntmps12,Try.results12])
  repeat' (first|with_reducible refine q_0 ?_|((with_reducible first|refine q_q ha3_ok fun K hK=>?_|refine q_r ha3_ok fun K hK=>?_);simp (maxSteps:=2000000) only [go_sem,↓reduceIte,reduceCtorEq,Nat.reduceLeDiff,Nat.reduceLT,Nat.reduceBEq,Nat.reduceAdd,h3];(repeat1' with_reducible first|apply And.intro|(intro _;try exact q_v)|(refine hK _ ?_;clear hK K))<;>(try (clear hK K;exact q_u)))|(with_reducible refine q_s ?_;(first|apply q_J|apply q_K|apply q_L|apply q_M|apply q_N|apply q_O)<;>try (intro _;try exact q_v)))
  all_goals first | omega | contradiction | assumption | rfl | (exact ends_g [(6,.bx 2 0)] 3 (by exact q_D) rfl) | skip
set_option maxRecDepth 100000 in
set_option maxHeartbeats 4000000 in
theorem value_ret2 (l : List Int) (k : Int) (p : Option Addr) (n c : Nat) (f : Int) (h : okSd l k) (hf : 0 ≤ f ∧ f ≤ 100000) (hn : n ≤ 100000) : RetG Try.prog 12 (sH l k) [.bx 0 0,.g [.a (.slice p n c)],.c (.i .i64 f)] (vaH l (vaK l k n f) (vaV l k n f)) [.g (vC (vaV l k n f))]:=by
 have h2:=nxK_ok h
 unfold vaV vaK
 by_cases h3 : (0:Int) < n - f
 ·rw [if_pos h3,if_pos h3]
  by_cases hx : nxV l k 2 = 1
  ·rw [if_pos hx,if_pos hx]
   (refine ret_ge Try.func12 (fun F bs=>?_); simp only [avSl,ancs,hnx,Nat.reduceAdd,Nat.reduceLeDiff,if_true,if_false,List.length_cons,List.length_nil,List.cons_append,List.nil_append,Try.ntmps12,Try.results12])
   repeat' (first|with_reducible refine q_0 ?_|((with_reducible first|refine q_q ha3_ok fun K hK=>?_|refine q_r ha3_ok fun K hK=>?_);simp (maxSteps:=2000000) only [go_sem,↓reduceIte,reduceCtorEq,Nat.reduceLeDiff,Nat.reduceLT,Nat.reduceBEq,Nat.reduceAdd,hx,h3];(repeat1' with_reducible first|apply And.intro|(intro _;try exact q_v)|(refine hK _ ?_;clear hK K))<;>(try (clear hK K;exact q_u)))|(with_reducible refine q_s ?_;(first|apply q_J|apply q_K|apply q_L|apply q_M|apply q_N|apply q_O)<;>try (intro _;try exact q_v)))
   all_goals first | omega | contradiction | assumption | rfl | (exact ends_g [(6,.bx 2 0)] 3 (by exact q_D) rfl) | skip
  ·rw [if_neg hx,if_neg hx]
   (refine ret_ge Try.func12 (fun F bs=>?_); simp only [avSl,ancs,hnx,Nat.reduceAdd,Nat.reduceLeDiff,if_true,if_false,List.length_cons,List.length_nil,List.cons_append,List.nil_append,Try.ntmps12,Try.results12])
   repeat' (first|with_reducible refine q_0 ?_|((with_reducible first|refine q_q ha3_ok fun K hK=>?_|refine q_r ha3_ok fun K hK=>?_);simp (maxSteps:=2000000) only [go_sem,↓reduceIte,reduceCtorEq,Nat.reduceLeDiff,Nat.reduceLT,Nat.reduceBEq,Nat.reduceAdd,hx,h3];(repeat1' with_reducible first|apply And.intro|(intro _;try exact q_v)|(refine hK _ ?_;clear hK K))<;>(try (clear hK K;exact q_u)))|(with_reducible refine q_s ?_;(first|apply q_J|apply q_K|apply q_L|apply q_M|apply q_N|apply q_O)<;>try (intro _;try exact q_v)))
   all_goals first | omega | contradiction | assumption | rfl | (exact ends_g [(6,.bx 2 0)] 3 (by exact q_D) rfl) | skip
 ·rw [if_neg h3,if_neg h3]
  (refine ret_ge Try.func12 (fun F bs=>?_); simp only [avSl,ancs,hnx,Nat.reduceAdd,Nat.reduceLeDiff,if_true,if_false,List.length_cons,List.length_nil,List.cons_append,List.nil_append,Try.ntmps12,Try.results12])
  repeat' (first|with_reducible refine q_0 ?_|((with_reducible first|refine q_q ha3_ok fun K hK=>?_|refine q_r ha3_ok fun K hK=>?_);simp (maxSteps:=2000000) only [go_sem,↓reduceIte,reduceCtorEq,Nat.reduceLeDiff,Nat.reduceLT,Nat.reduceBEq,Nat.reduceAdd,h3];(repeat1' with_reducible first|apply And.intro|(intro _;try exact q_v)|(refine hK _ ?_;clear hK K))<;>(try (clear hK K;exact q_u)))|(with_reducible refine q_s ?_;(first|apply q_J|apply q_K|apply q_L|apply q_M|apply q_N|apply q_O)<;>try (intro _;try exact q_v)))
  all_goals first | omega | contradiction | assumption | rfl | (exact ends_g [(6,.bx 2 0)] 3 (by exact q_D) rfl) | skip
theorem vaV_ok {l : List Int} {k n f : Int} (h : okSd l k) : OkV n f (vaV l k n f) ∧ okSd l (vaK l k n f):=by
 have h2:=nxK_ok h
 unfold vaV vaK
 split
 ·rename_i h3
  have hr:=nxV_in l (nxK l k) h3
  split
  ·exact ⟨.inr ⟨rfl,by show f ≤ f + nxV l (nxK l k) (n - f); omega,by show f + nxV l (nxK l k) (n - f) < n; omega⟩,nxK_ok h2⟩
  ·exact ⟨.inl (at_spec h2).1.1,(at_spec h2).1.2⟩
 ·exact ⟨.inl (at_spec h).1.1,(at_spec h).1.2⟩
def valueCT : CT:=mkCTG fun H al K=>match H,al with
 | ⟨[(0,[.c (.ints .i64 l),.c (.i .i64 k)])],[],[]⟩,[.bx 0 0,.gt [.ln (.sl 10 os)],.c (.i .i64 f)]=>(okSd l k ∧ (0 ≤ f ∧ f ≤ 100000) ∧ os.length ≤ 100000) ∧ (OkV os.length f (vaV l k os.length f) → okSd l (vaK l k os.length f) → K (vaH l (vaK l k os.length f) (vaV l k os.length f)) [.g (vC (vaV l k os.length f))])
 | ⟨[(0,[.c (.ints .i64 l),.c (.i .i64 k)])],[],[]⟩,[.bx 0 0,.g [.a (.slice _ n _)],.c (.i .i64 f)]=>(okSd l k ∧ (0 ≤ f ∧ f ≤ 100000) ∧ n ≤ 100000) ∧ (OkV n f (vaV l k n f) → okSd l (vaK l k n f) → K (vaH l (vaK l k n f) (vaV l k n f)) [.g (vC (vaV l k n f))])
 | _,_=>False
def h6a : Cfg:=addT 12 valueCT cf0
theorem h6a_ok : TblOk Try.prog h6a:=ctg_ok cf0_ok Try.func12 fun H al K h=>by
 split at h
 ·rename_i l k os f
  obtain ⟨⟨h1,h2,h3⟩,hK⟩:=h
  have t:=vaV_ok (n:=os.length) (f:=f) h1
  exact ⟨_,_,value_ret l k os f h1 h2 h3,hK t.1 t.2⟩
 ·rename_i l k p n c f
  obtain ⟨⟨h1,h2,h3⟩,hK⟩:=h
  have t:=vaV_ok (n:=(n : Int)) (f:=f) h1
  exact ⟨_,_,value_ret2 l k p n c f h1 h2 h3,hK t.1 t.2⟩
 ·exact h.elim
end Go.Proofs.Ytncededjmcmidaa

namespace Go.Proofs.Ytncededjmcmidaa
set_option linter.unusedSimpArgs false
set_option linter.unusedVariables false
open Go.Abs Go.Proofs.NatL

def hdg (xs : List Int) (i : Nat) : Int:=if i % 2 = 0 then xs.getD (i / 2) 0 % 65536 else xs.getD (i / 2) 0 / 65536
def hbs (xs : List Int) : Nat → List Int
 | 0=>[]
 | i + 1=>hbs xs i ++ [hdg xs i % 256,hdg xs i / 256]
theorem hbs_len (xs : List Int) : ∀ i,(hbs xs i).length = 2 * i
 | 0=>rfl
 | i + 1=>by simp only [hbs,List.length_append,hbs_len xs i,List.length_cons,List.length_nil]; omega
theorem hdg_in {xs : List Int} (h : InB 4294967296 xs) (i : Nat) : 0 ≤ hdg xs i ∧ hdg xs i < 65536:=by
 have:=InB_getD (by omega) h (i / 2)
 unfold hdg
 split <;> omega
theorem dg_digit (N i : Nat) : (dg 65536 N).getD i 0 = ((N / 65536 ^ i % 65536 : Nat) : Int):=by
 have h:=V_digit 65536 (by omega) (dg 65536 N) (InB_dg _ (by omega) N) i
 rw [V_dg 65536 (by omega)] at h
 have:=InB_getD (by omega) (InB_dg 65536 (by omega) N) i
 omega
theorem dg_hdg {xs : List Int} (h : InB 4294967296 xs) (i : Nat) : (dg 65536 (V 4294967296 xs)).getD i 0 = hdg xs i:=by
 rw [dg_digit]
 have hv:=V_digit 4294967296 (by omega) xs h (i / 2)
 have hb:=InB_getD (by omega) h (i / 2)
 have e : (4294967296 : Nat) ^ (i / 2) = 65536 ^ (2 * (i / 2)):=by rw [Nat.pow_mul]
 rw [e] at hv
 unfold hdg
 generalize V 4294967296 xs = N at *
 generalize xs.getD (i / 2) 0 = x at *
 by_cases hi : i % 2 = 0
 ·have e2 : 2 * (i / 2) = i:=by omega
  rw [if_pos hi]
  rw [e2] at hv
  generalize N / 65536 ^ i = q at *
  omega
 ·have e2 : i = 2 * (i / 2) + 1:=by omega
  rw [if_neg hi]
  have e3 : N / 65536 ^ i = N / 65536 ^ (2 * (i / 2)) / 65536:=by
   conv=>lhs; rw [e2,Nat.pow_succ]
   rw [Nat.div_div_eq_div_mul]
  rw [e3]
  generalize N / 65536 ^ (2 * (i / 2)) = q at *
  omega
def intB (a : Bool) (xs : List Int) : List Int:=[if a then 1 else 0,(xs.length : Int) % 256] ++ hbs xs (2 * xs.length)
theorem intB_len (a : Bool) (xs : List Int) : (intB a xs).length = 2 + 4 * xs.length:=by
 simp only [intB,List.length_append,List.length_cons,List.length_nil,hbs_len]; omega
def ha4 : Cfg:=listT [(93,ofCT)] [39]
theorem ha4_ok : TblOk Try.prog ha4:=listE_ok (by simp only [List.mem_singleton,forall_eq]; exact flt) ⟨⟨rf2,rf2_ok,rfl⟩,trivial⟩
attribute [go_sem] ha4
set_option maxRecDepth 100000 in
set_option maxHeartbeats 4000000 in
theorem bytesOf_ret (a : Bool) (xs : List Int) (hx : xs.length ≤ 100) (bx : InB 4294967296 xs) : Ret Try.prog 79 false [.inr [.b a,.ints .u32 xs]] (.c (.ints .u8 (intB a xs))):=by
 have hl:=dg_len_le (B:=65536) (by omega) (V 4294967296 xs) 200 (by
  refine Nat.lt_of_lt_of_le (V_lt _ (by omega) xs bx) ?_
  rw [show (4294967296 : Nat) = 65536 ^ 2 by omega,← Nat.pow_mul]
  exact Nat.pow_le_pow_right (by omega) (by omega))
 (refine q_H Try.func79 (fun F=>?_); simp only [q_z,q_y,Try.ntmps79,Try.results79])
 repeat' (first|with_reducible refine q_0 ?_|((with_reducible first|refine q_q (loT_ok ha4_ok) fun K hK=>?_|refine q_r (loT_ok ha4_ok) fun K hK=>?_);simp (maxSteps:=2000000) only [go_sem,↓reduceIte,reduceCtorEq,Nat.reduceLeDiff,Nat.reduceLT,Nat.reduceBEq,Nat.reduceAdd];(repeat1' with_reducible first|apply And.intro|(intro _;try exact q_v)|(refine hK _ ?_;clear hK K))<;>(try (clear hK K;exact q_u)))|(with_reducible refine q_s ?_;(first|apply q_J|apply q_K|apply q_L|apply q_M|apply q_N|apply q_O)<;>try (intro _;try exact q_v)))
 all_goals first | omega | skip
 all_goals
  refine q_G (ι:={ i : Nat // i ≤ 2 * xs.length }) (fun p=>⟨45,[(1,.bx 0 0),(3,.own 1 0),(4,.c (.ints .i64 (dg 65536 (V 4294967296 xs)))),(5,.c (.i .i64 p.1))],⟨[(0,[.c (.b a),.c (.ints .u32 xs)])],[(1,⟨0,5,1,.ints .u8 ([if a then 1 else 0,(xs.length : Int) % 256] ++ hbs xs p.1)⟩)],[]⟩,2⟩) (fun p=>2 * xs.length - p.1) ⟨0,by omega⟩ ?_ ?_
  ·simp only [*,hbs,List.append_nil,if_true,if_false,Bool.false_eq_true]; exact q_D
  rintro ⟨i,g1⟩
  simp only at g1 ⊢
  have b1:=hdg_in bx i
  have b2:=dg_hdg bx i
  have b3 : (dg 65536 (V 4294967296 xs)).length ≤ i → hdg xs i = 0:=fun h=>by rw [← b2]; exact getD_ge _ _ h
  have b4:=hbs_len xs i
  have b5 : hbs xs (i + 1) = hbs xs i ++ [hdg xs i % 256,hdg xs i / 256]:=rfl
  generalize hh : hdg xs i = h at *
  have e1 : h.tmod 256 % 256 = h % 256:=by rw [Int.tmod_eq_emod_of_nonneg b1.1]; omega
  have e2 : h.tdiv 256 % 256 = h / 256:=by rw [Int.tdiv_eq_ediv_of_nonneg b1.1]; omega
  repeat' (first|with_reducible refine q_0 ?_|((with_reducible first|refine q_q (loT_ok ha4_ok) fun K hK=>?_|refine q_r (loT_ok ha4_ok) fun K hK=>?_);simp (maxSteps:=2000000) only [go_sem,↓reduceIte,reduceCtorEq,Nat.reduceLeDiff,Nat.reduceLT,Nat.reduceBEq,Nat.reduceAdd,b2,b4,e1,e2];(repeat1' with_reducible first|apply And.intro|(intro _;try exact q_v)|(refine hK _ ?_;clear hK K))<;>(try (clear hK K;exact q_u)))|(with_reducible refine q_s ?_;(first|apply q_J|apply q_K|apply q_L|apply q_M|apply q_N|apply q_O)<;>try (intro _;try exact q_v)))
  all_goals first | omega | skip
  ·refine q_F ⟨i + 1,by omega⟩ ?_ ?_
   ·simp only [b5]; exact q_D
   ·show 2 * xs.length - (i + 1) < 2 * xs.length - i
    omega
  ·obtain rfl:=b3 (by omega)
   refine q_F ⟨i + 1,by omega⟩ ?_ ?_
   ·simp only [b5]; exact q_D
   ·show 2 * xs.length - (i + 1) < 2 * xs.length - i
    omega
  ·obtain rfl : i = 2 * xs.length:=by omega
   exact q_A rfl
theorem strB_len (t : ByteArray) : (bytesOf t).length = t.size:=by simp [bytesOf]
def txtB (k : Int) (t : ByteArray) : List Int:=[k,(t.size : Int) % 256,(t.size : Int) / 256] ++ bytesOf t
set_option maxRecDepth 100000 in
set_option maxHeartbeats 4000000 in
theorem named_ret (k : Int) (t : ByteArray) (hk : 0 ≤ k ∧ k < 256) (ht : t.size ≤ 60000) : Ret Try.prog 80 false [.inl (.i .u8 k),.inl (.str t)] (.c (.ints .u8 (txtB k t))):=by
 have e1 : (t.size : Int).tmod 256 % 256 = (t.size : Int) % 256:=by rw [Int.tmod_eq_emod_of_nonneg (by omega)]; omega
 have e2 : (t.size : Int).tdiv 256 % 256 = (t.size : Int) / 256:=by rw [Int.tdiv_eq_ediv_of_nonneg (by omega)]; omega
 have e3:=strB_len t
 (refine q_H Try.func80 (fun F=>?_); simp only [q_z,q_y,Try.ntmps80,Try.results80])
 repeat' (first|with_reducible refine q_0 ?_|((with_reducible first|refine q_q (loT_ok ha4_ok) fun K hK=>?_|refine q_r (loT_ok ha4_ok) fun K hK=>?_);simp (maxSteps:=2000000) only [go_sem,↓reduceIte,reduceCtorEq,Nat.reduceLeDiff,Nat.reduceLT,Nat.reduceBEq,Nat.reduceAdd,e1,e2,e3];(repeat1' with_reducible first|apply And.intro|(intro _;try exact q_v)|(refine hK _ ?_;clear hK K))<;>(try (clear hK K;exact q_u)))|(with_reducible refine q_s ?_;(first|apply q_J|apply q_K|apply q_L|apply q_M|apply q_N|apply q_O)<;>try (intro _;try exact q_v)))
 all_goals first | omega | (unfold maxLen; omega) | exact q_A rfl | skip
def plB (v : Vl) : List Int:=if v.k = 0 then [0] else if v.k = 1 then [1,v.r % 256] else if v.k = 2 then 2 :: intB v.a v.x else if v.k = 3 then 3 :: (intB v.a v.x ++ intB v.b v.y) else if v.k = 4 then txtB 4 v.t else if v.k = 5 then txtB 5 v.t else if v.k = 7 then txtB 8 v.t else [9]
abbrev nInt : Option C ⊕ List (Option C):=.inr [none,some (.ints .u32 [])]
def bytesOfCT : CT:=mkCT [nInt] false fun l K=>match l with
 | [.inr [.b a,.ints .u32 xs]]=>(xs.length ≤ 100 ∧ InB 4294967296 xs) ∧ ((hbs xs (2 * xs.length)).length = 4 * xs.length → K (.c (.ints .u8 ((if a then 1 else 0) :: ((xs.length : Int) % 256) :: hbs xs (2 * xs.length)))))
 | _=>False
def h7a : Cfg:=addT 79 bytesOfCT cf0
theorem h7a_ok : TblOk Try.prog h7a:=q_I cf0_ok Try.func79 fun l K h=>by
 split at h
 ·exact ⟨_,bytesOf_ret _ _ h.1.1 h.1.2,h.2 (by rw [hbs_len]; omega)⟩
 ·exact h.elim
def namedCT : CT:=mkCT [] false fun l K=>match l with
 | [.inl (.i .u8 k),.inl (.str t)]=>((0 ≤ k ∧ k < 256) ∧ t.size ≤ 60000) ∧ K (.c (.ints .u8 (txtB k t)))
 | _=>False
def h7b : Cfg:=addT 80 namedCT cf0
theorem h7b_ok : TblOk Try.prog h7b:=q_I cf0_ok Try.func80 fun l K h=>by
 split at h
 ·exact ⟨_,named_ret _ _ h.1.1 h.1.2,h.2⟩
 ·exact h.elim
attribute [go_sem] bytesOfCT namedCT
def OkP (v : Vl) : Prop:=(v.x.length ≤ 50 ∧ InB 4294967296 v.x) ∧ (v.y.length ≤ 50 ∧ InB 4294967296 v.y) ∧ v.t.size ≤ 60000 ∧ 0 ≤ v.k ∧ v.k ≤ 9
def ha5 : Cfg:=listT [(79,bytesOfCT),(80,namedCT)] [39]
theorem ha5_ok : TblOk Try.prog ha5:=listE_ok (by simp only [List.mem_singleton,forall_eq]; exact flt) ⟨⟨h7a,h7a_ok,rfl⟩,⟨h7b,h7b_ok,rfl⟩,trivial⟩
attribute [go_sem] ha5
set_option maxRecDepth 100000 in
set_option maxHeartbeats 4000000 in
theorem plain_ret (k : Int) (a : Bool) (x : List Int) (b : Bool) (y : List Int) (t : ByteArray) (r : Int) (h : OkP ⟨k,a,x,b,y,t,r⟩) : Ret Try.prog 49 false [.inr (vC ⟨k,a,x,b,y,t,r⟩)] (.c (.ints .u8 (plB ⟨k,a,x,b,y,t,r⟩))):=by
 obtain ⟨h1,h2,h3,_⟩:=h
 simp only at h1 h2 h3
 unfold vC
 (refine q_H Try.func49 (fun F=>?_); simp only [q_z,q_y,Try.ntmps49,Try.results49])
 repeat' (first|with_reducible refine q_0 ?_|((with_reducible first|refine q_q (lvT_ok ha5_ok) fun K hK=>?_|refine q_r (lvT_ok ha5_ok) fun K hK=>?_);simp (maxSteps:=2000000) only [go_sem,↓reduceIte,reduceCtorEq,Nat.reduceLeDiff,Nat.reduceLT,Nat.reduceBEq,Nat.reduceAdd];(repeat1' with_reducible first|apply And.intro|(intro _;try exact q_v)|(refine hK _ ?_;clear hK K))<;>(try (clear hK K;exact q_u)))|(with_reducible refine q_s ?_;(first|apply q_J|apply q_K|apply q_L|apply q_M|apply q_N|apply q_O)<;>try (intro _;try exact q_v)))
 all_goals first | omega | exact h1.2 | exact h2.2 | exact q_A (by simp [resAV,q_y,plB,intB, *]) | skip
def plainCT : CT:=mkCT [nVal] false fun l K=>match l with
 | [.inr [.i .i64 k,.b a,.ints .u32 x,.b b,.ints .u32 y,.str t,.i .i64 r]]=>OkP ⟨k,a,x,b,y,t,r⟩ ∧ K (.c (.ints .u8 (plB ⟨k,a,x,b,y,t,r⟩)))
 | _=>False
def h7c : Cfg:=addT 49 plainCT cf0
theorem h7c_ok : TblOk Try.prog h7c:=q_I cf0_ok Try.func49 fun l K h=>by
 split at h
 ·exact ⟨_,plain_ret _ _ _ _ _ _ _ h.1,h.2⟩
 ·exact h.elim
attribute [go_sem] plainCT
theorem plB_len (v : Vl) (h : OkP v) : (plB v).length ≤ 60003:=by
 obtain ⟨⟨h1,_⟩,⟨h2,_⟩,h3,_⟩:=h
 have e1:=intB_len v.a v.x
 have e2:=intB_len v.b v.y
 have e3:=strB_len v.t
 unfold plB
 repeat' split
 all_goals simp only [List.length_cons,List.length_nil,List.length_append,txtB,e3,e1,e2]
 all_goals omega
end Go.Proofs.Ytncededjmcmidaa

namespace Go.Proofs.Ytncededjmcmidaa
set_option linter.unusedSimpArgs false
set_option linter.unusedVariables false
open Go.Abs Go.Proofs.NatL

structure Ob where
 k : Int
 nm : ByteArray
 cl : Int
 rf : List Int
 od : List Int
 raw : Option Value
 it : List Vl
 ks : List Vl
def itC (o : Ob) : C:=match o.raw with | some v=>.a v | none=>.sl 7 (o.it.map vC)
def obC (o : Ob) : List C:=[.i .i64 o.k,.str o.nm,.i .i64 o.cl,.ints .i64 o.rf,.ints .i64 o.od,.sl 1 [],itC o,.sl 7 (o.ks.map vC),.i .i64 0,.i .i64 0]
def ob0 : Ob:=⟨0,ByteArray.empty,0,[],[],none,[],[]⟩
def OkW (n : Nat) (v : Vl) : Prop:=OkP v ∧ (v.k = 6 → 0 ≤ v.r ∧ v.r < n)
def HOk (os : List Ob) : Prop:=os.length ≤ 1000 ∧ ∀ o ∈ os,o.k = 1 → o.raw = none ∧ o.it.length ≤ 1000 ∧ ∀ v ∈ o.it,OkW os.length v
def refB (r : Int) : List Int:=[7,r % 256,r / 256 % 256,r / 65536 % 256,r / 65536 / 256 % 256]
def keyG (os : List Ob) : Nat → List Vl → List Int → List Int × Int × Int
  | _, [], out => (out, 0, 0)
  | 0, _ :: _, _ => ([], 14, -2)
  | p + 1, x :: t, out =>
    if x.k = 9 then ([], 27, -2) else if x.k = 6 then
      (let o := os.getD x.r.toNat ob0
       if o.k = 2 ∨ o.k = 3 ∨ o.k = 4 ∨ o.k = 5 then ([], 27, x.r)
       else if o.k = 1 then keyG os p (o.it ++ t) (out ++ [6, (o.it.length : Int) % 256, (o.it.length : Int) / 256])
       else keyG os p t (out ++ refB x.r))
    else keyG os p t (out ++ plB x)
theorem obC_at (os : List Ob) {r : Int} (h : 0 ≤ r ∧ r < os.length) : (os.map obC).getD r.toNat [] = obC (os.getD r.toNat ob0):=by
 have hl : r.toNat < os.length:=by omega
 simp [List.getD_eq_getElem?_getD,List.getElem?_eq_getElem hl]
theorem ob_mem (os : List Ob) {r : Int} (h : 0 ≤ r ∧ r < os.length) : os.getD r.toNat ob0 ∈ os:=by
 have hl : r.toNat < os.length:=by omega
 simp [List.getD_eq_getElem?_getD,List.getElem?_eq_getElem hl]
def ha6 : Cfg:=listT [(25,atCT),(49,plainCT)] [39]
theorem ha6_ok : TblOk Try.prog ha6:=listE_ok (by simp only [List.mem_singleton,forall_eq]; exact flt) ⟨⟨cf2,cf2_ok,rfl⟩,⟨h7c,h7c_ok,rfl⟩,trivial⟩
attribute [go_sem] ha6
set_option maxRecDepth 100000 in
set_option maxHeartbeats 8000000 in
theorem key_ret (os : List Ob) (v : Vl) (ho : HOk os) (hv : OkW os.length v) : Ret Try.prog 17 false [.inr [.sl 10 (os.map obC)],.inr (vC v)] (.t [.inl (.ints .u8 (keyG os 1000 [v] []).1),.inr [.i .i64 (keyG os 1000 [v] []).2.1,.i .i64 (keyG os 1000 [v] []).2.2]]):=by
 obtain ⟨ho1,ho2⟩:=ho
 generalize hR : keyG os 1000 [v] [] = R
 (refine q_H Try.func17 (fun F=>?_); simp only [q_z,q_y,Try.ntmps17,Try.results17])
 simp only [vC]
 repeat' (first|with_reducible refine q_0 ?_|((with_reducible first|refine q_q ha6_ok fun K hK=>?_|refine q_r ha6_ok fun K hK=>?_);simp (maxSteps:=2000000) only [go_sem,↓reduceIte,reduceCtorEq,Nat.reduceLeDiff,Nat.reduceLT,Nat.reduceBEq,Nat.reduceAdd];(repeat1' with_reducible first|apply And.intro|(intro _;try exact q_v)|(refine hK _ ?_;clear hK K))<;>(try (clear hK K;exact q_u)))|(with_reducible refine q_s ?_;(first|apply q_J|apply q_K|apply q_L|apply q_M|apply q_N|apply q_O)<;>try (intro _;try exact q_v)))
 all_goals first | omega | skip
 refine q_G (ι:={ p : Nat × List Vl × List Int // p.1 ≤ 1000 ∧ (∀ x ∈ p.2.1,OkW os.length x) ∧ p.2.1.length ≤ 1 + p.1 * 1000 ∧ p.2.2.length ≤ p.1 * 60003 ∧ keyG os (1000 - p.1) p.2.1 p.2.2 = R }) (fun p=>⟨96,[(2,.bx 0 0),(5,.bx 2 0),(6,.c (.sl 7 (p.1.2.1.map vC))),(7,.own 5 0),(8,.c (.i .i64 p.1.1))],⟨[(0,[.c (.sl 10 (os.map obC))]),(2,[.c (.i .i64 0),.c (.i .i64 0)])],[(5,⟨0,5,1,.ints .u8 p.1.2.2⟩)],[]⟩,6⟩) (fun p=>1000 - p.1.1 + 1) ⟨(0,[v],[]),by simp,by simpa using hv,by simp,by simp,hR⟩ ?_ ?_
 ·simp only [List.map_cons,List.map_nil,vC]; exact q_D
 rintro ⟨⟨i,td,out⟩,g1,g2,g3,g4,g5⟩
 simp only at g1 g2 g3 g4 g5 ⊢
 have g6 : (td.map vC).length = td.length:=List.length_map ..
 cases td with
 | nil =>
  rw [show keyG os (1000 - i) [] out = (out,0,0) by cases 1000 - i <;> rfl] at g5
  subst g5
  repeat' (first|with_reducible refine q_0 ?_|((with_reducible first|refine q_q ha6_ok fun K hK=>?_|refine q_r ha6_ok fun K hK=>?_);simp (maxSteps:=2000000) only [go_sem,↓reduceIte,reduceCtorEq,Nat.reduceLeDiff,Nat.reduceLT,Nat.reduceBEq,Nat.reduceAdd];(repeat1' with_reducible first|apply And.intro|(intro _;try exact q_v)|(refine hK _ ?_;clear hK K))<;>(try (clear hK K;exact q_u)))|(with_reducible refine q_s ?_;(first|apply q_J|apply q_K|apply q_L|apply q_M|apply q_N|apply q_O)<;>try (intro _;try exact q_v)))
  all_goals first | omega | exact q_A rfl | skip
 | cons x t =>
  have hx:=g2 x (List.mem_cons_self ..)
  have ht : ∀ y ∈ t,OkW os.length y:=fun y hy=>g2 y (List.mem_cons_of_mem _ hy)
  obtain ⟨k,a,xs,b,ys,tx,r⟩:=x
  obtain ⟨hx1,hx2⟩:=hx
  have hbl:=plB_len _ hx1
  have htk : List.take t.length (List.map vC t) = List.map vC t:=List.take_of_length_le (by simp)
  have hd1 : ∀ (y : List C) (l : List (List C)),List.drop (Int.toNat 1) (y :: l) = l:=fun _ _=>rfl
  simp only [List.map_cons,List.length_cons,vC] at g1 g3 g4 g6 hx2 ⊢
  by_cases hi : i = 1000
  ·subst hi
   obtain rfl : R = ([],14, -2):=g5.symm
   repeat' (first|with_reducible refine q_0 ?_|((with_reducible first|refine q_q ha6_ok fun K hK=>?_|refine q_r ha6_ok fun K hK=>?_);simp (maxSteps:=2000000) only [go_sem,↓reduceIte,reduceCtorEq,Nat.reduceLeDiff,Nat.reduceLT,Nat.reduceBEq,Nat.reduceAdd,hd1,List.getD_cons_zero];(repeat1' with_reducible first|apply And.intro|(intro _;try exact q_v)|(refine hK _ ?_;clear hK K))<;>(try (clear hK K;exact q_u)))|(with_reducible refine q_s ?_;(first|apply q_J|apply q_K|apply q_L|apply q_M|apply q_N|apply q_O)<;>try (intro _;try exact q_v)))
   all_goals first | omega | exact q_B [.inl (some (.ints .u8 [])),.inr []] rfl rfl | skip
  obtain ⟨p,hp⟩ : ∃ p,1000 - i = p + 1:=⟨999 - i,by omega⟩
  have hp2 : 1000 - (i + 1) = p:=by omega
  rw [hp] at g5
  by_cases h9 : k = 9
  ·subst h9
   obtain rfl : R = ([],27, -2):=by rw [← g5]; simp [keyG]
   repeat' (first|with_reducible refine q_0 ?_|((with_reducible first|refine q_q ha6_ok fun K hK=>?_|refine q_r ha6_ok fun K hK=>?_);simp (maxSteps:=2000000) only [go_sem,↓reduceIte,reduceCtorEq,Nat.reduceLeDiff,Nat.reduceLT,Nat.reduceBEq,Nat.reduceAdd,hd1,List.getD_cons_zero];(repeat1' with_reducible first|apply And.intro|(intro _;try exact q_v)|(refine hK _ ?_;clear hK K))<;>(try (clear hK K;exact q_u)))|(with_reducible refine q_s ?_;(first|apply q_J|apply q_K|apply q_L|apply q_M|apply q_N|apply q_O)<;>try (intro _;try exact q_v)))
   all_goals first | omega | exact q_B [.inl (some (.ints .u8 [])),.inr []] rfl rfl | skip
  by_cases h6 : k = 6
  ·subst h6
   obtain ⟨r0,r1⟩:=hx2 rfl
   have hat:=obC_at os ⟨r0,r1⟩
   have hmem:=ob_mem os ⟨r0,r1⟩
   simp only [keyG] at g5
   generalize os.getD r.toNat ob0 = o at *
   obtain ⟨ok,onm,ocl,orf,ood,oraw,oit,oks⟩:=o
   have hT:=ho2 _ hmem
   simp only [obC,itC] at hat hT g5
   by_cases h1 : ok = 1
   ·obtain ⟨hT1,hT2,hT3⟩:=hT h1
    subst hT1; subst h1
    simp only at hat
    have m1 : ((oit.length : Nat) : Int).tmod 256 = (oit.length : Int) % 256:=Int.tmod_eq_emod_of_nonneg (by omega)
    have m2 : ((oit.length : Nat) : Int).tdiv 256 = (oit.length : Int) / 256:=Int.tdiv_eq_ediv_of_nonneg (by omega)
    have m3 : (oit.length : Int) % 256 % 256 = (oit.length : Int) % 256:=by omega
    have m4 : (oit.length : Int) / 256 % 256 = (oit.length : Int) / 256:=by omega
    simp only [show ¬ ((6 : Int) = 9) by omega,show ¬ ((1 : Int) = 2 ∨ (1 : Int) = 3 ∨ (1 : Int) = 4 ∨ (1 : Int) = 5) by omega,if_false,if_true] at g5
    repeat' (first|with_reducible refine q_0 ?_|((with_reducible first|refine q_q ha6_ok fun K hK=>?_|refine q_r ha6_ok fun K hK=>?_);simp (maxSteps:=2000000) only [go_sem,↓reduceIte,reduceCtorEq,Nat.reduceLeDiff,Nat.reduceLT,Nat.reduceBEq,Nat.reduceAdd,hd1,List.getD_cons_zero,hat,htk,List.length_map,m1,m2,m3,m4];(repeat1' with_reducible first|apply And.intro|(intro _;try exact q_v)|(refine hK _ ?_;clear hK K))<;>(try (clear hK K;exact q_u)))|(with_reducible refine q_s ?_;(first|apply q_J|apply q_K|apply q_L|apply q_M|apply q_N|apply q_O)<;>try (intro _;try exact q_v)))
    all_goals first | omega | skip
    refine q_F ⟨(i + 1,oit ++ t,out ++ [6,(oit.length : Int) % 256,(oit.length : Int) / 256]),by simp only; omega,fun y hy=>(List.mem_append.1 hy).elim (hT3 y) (ht y),by simp only [List.length_append]; omega,by simp only [List.length_append,List.length_cons,List.length_nil]; omega,by simp only [hp2]; exact g5⟩ ?_ ?_
    ·simp only [List.map_append]; exact q_D
    ·show 1000 - (i + 1) + 1 < 1000 - i + 1
     omega
   ·simp only [if_neg h1,show ¬ ((6 : Int) = 9) by omega,if_false,if_true] at g5
    have d1 : r.tdiv 256 = r / 256:=Int.tdiv_eq_ediv_of_nonneg r0
    have d2 : r.tdiv 65536 = r / 65536:=Int.tdiv_eq_ediv_of_nonneg r0
    have d3 : (r / 65536).tdiv 256 = r / 65536 / 256:=Int.tdiv_eq_ediv_of_nonneg (by omega)
    repeat' (first|with_reducible refine q_0 ?_|((with_reducible first|refine q_q ha6_ok fun K hK=>?_|refine q_r ha6_ok fun K hK=>?_);simp (maxSteps:=2000000) only [go_sem,↓reduceIte,reduceCtorEq,Nat.reduceLeDiff,Nat.reduceLT,Nat.reduceBEq,Nat.reduceAdd,hd1,List.getD_cons_zero,hat,htk,List.length_map,d1,d2,d3];(repeat1' with_reducible first|apply And.intro|(intro _;try exact q_v)|(refine hK _ ?_;clear hK K))<;>(try (clear hK K;exact q_u)))|(with_reducible refine q_s ?_;(first|apply q_J|apply q_K|apply q_L|apply q_M|apply q_N|apply q_O)<;>try (intro _;try exact q_v)))
    all_goals first | omega | contradiction | ((obtain rfl : R = ([],27,r):=by rw [← g5]; simp [*]); exact q_B [.inl (some (.ints .u8 [])),.inr []] rfl rfl) | skip
    rw [if_neg (by omega)] at g5
    refine q_F ⟨(i + 1,t,out ++ refB r),by simp only; omega,ht,by simp only; omega,by simp only [List.length_append,refB,List.length_cons,List.length_nil]; omega,by simp only [hp2]; exact g5⟩ ?_ ?_
    ·simp only [refB]; exact q_D
    ·show 1000 - (i + 1) + 1 < 1000 - i + 1
     omega
  ·simp only [keyG,if_neg h9,if_neg h6] at g5
   repeat' (first|with_reducible refine q_0 ?_|((with_reducible first|refine q_q ha6_ok fun K hK=>?_|refine q_r ha6_ok fun K hK=>?_);simp (maxSteps:=2000000) only [go_sem,↓reduceIte,reduceCtorEq,Nat.reduceLeDiff,Nat.reduceLT,Nat.reduceBEq,Nat.reduceAdd,hd1,List.getD_cons_zero,htk,List.length_map];(repeat1' with_reducible first|apply And.intro|(intro _;try exact q_v)|(refine hK _ ?_;clear hK K))<;>(try (clear hK K;exact q_u)))|(with_reducible refine q_s ?_;(first|apply q_J|apply q_K|apply q_L|apply q_M|apply q_N|apply q_O)<;>try (intro _;try exact q_v)))
   all_goals first | omega | contradiction | skip
   refine q_F ⟨(i + 1,t,out ++ plB ⟨k,a,xs,b,ys,tx,r⟩),by simp only; omega,ht,by simp only; omega,by simp only [List.length_append]; omega,by simp only [hp2]; exact g5⟩ ?_ ?_
   ·exact q_D
   ·show 1000 - (i + 1) + 1 < 1000 - i + 1
    omega
def keyF (os : List Ob) (v : Vl) : List Int × Int × Int:=keyG os 1000 [v] []
end Go.Proofs.Ytncededjmcmidaa
