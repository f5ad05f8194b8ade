import Derived.Test.YtncededjmcmidaaX4
namespace Go.Proofs.Ytncededjmcmidaa
set_option linter.unusedSimpArgs false
set_option linter.unusedVariables false
open Go.Abs Go.Proofs.NatL
attribute [go_sem] cf0 addT mkCT norm nz nzL List.mem_singleton List.mem_cons true_or or_true rf1 rtrimCT rf2 ofCT
theorem limb_step (j : Nat) (o xs : List Int) (h : V 4294967296 o = V 65536 (xs.take (2 * j))) (hl : o.length = j) (v : Int) (hr : v.toNat = (xs.getD (2 * j) 0).toNat + 65536 * (xs.getD (2 * j + 1) 0).toNat) : V 4294967296 (o ++ [v]) = V 65536 (xs.take (2 * (j + 1))):=by
 rw [V_snoc,show 2 * (j + 1) = 2 * j + 1 + 1 by omega,V_take_getD,V_take_getD,← h,hl,hr]
 have e : (65536 : Nat) ^ (2 * j) = 4294967296 ^ j:=by rw [Nat.pow_mul]
 rw [Nat.pow_succ,e,Nat.mul_add,Nat.mul_assoc]
 omega

set_option maxHeartbeats 1600000 in
theorem limbs_ret (xs : List Int) (hx : xs.length ≤ 4194304) (bx : InB 65536 xs) (tx : Trd xs) : Ret Try.prog 71 false [.inl (.ints .i64 xs)] (.c (.ints .u32 (dg 4294967296 (V 65536 xs)))):=by
 (refine q_H Try.func71 (fun F=>?_); simp only [q_z,q_y,Try.ntmps71,Try.results71])
 repeat' (first|with_reducible refine q_0 ?_|((with_reducible first|refine q_q rf1_ok fun K hK=>?_|refine q_r rf1_ok fun K hK=>?_);simp (maxSteps:=2000000) only [go_sem,↓reduceIte,reduceCtorEq,Nat.reduceLeDiff,Nat.reduceLT,Nat.reduceBEq,Nat.reduceAdd];(repeat1' with_reducible first|apply And.intro|intro _|(refine hK _ ?_;clear hK K))<;>(try (clear hK K;exact q_u)))|(with_reducible refine q_s ?_;(first|apply q_J|apply q_K|apply q_L|apply q_M|apply q_N|apply q_O)<;>try intro _))
 refine q_G (ι:={ p : Nat × List Int // 2 * p.1 ≤ xs.length + 1 ∧ p.2.length = p.1 ∧ InB 4294967296 p.2 ∧ V 4294967296 p.2 = V 65536 (xs.take (2 * p.1)) }) (fun p=>⟨36,[(0,.c (.ints .i64 xs)),(3,.own 0 0),(4,.c (.i .i64 ((2 * p.1.1 : Nat) : Int)))],⟨[],[(0,⟨0,117,1,.ints .u32 p.1.2⟩)],[]⟩,1⟩) (fun p=>xs.length + 1 - 2 * p.1.1) ⟨(0,[]),by simp,by simp,InB_nil _,by simp [V]⟩ ?_ ?_
 ·exact q_D
 rintro ⟨⟨j,o⟩,g1,g2,g3,g4⟩
 simp only at g1 g2 g3 g4 ⊢
 have b1:=InB_getD (by omega) bx (2 * j)
 have b2:=InB_getD (by omega) bx (2 * j + 1)
 have e1 : (((2 * j : Nat) : Int) + 1).toNat = 2 * j + 1:=by omega
 have z2 : ¬ ((2 * j : Nat) : Int) + 1 < xs.length → xs.getD (2 * j + 1) 0 = 0:=fun h=>getD_ge xs _ (by omega)
 repeat' (first|with_reducible refine q_0 ?_|((with_reducible first|refine q_q rf1_ok fun K hK=>?_|refine q_r rf1_ok fun K hK=>?_);simp (maxSteps:=2000000) only [go_sem,↓reduceIte,reduceCtorEq,Nat.reduceLeDiff,Nat.reduceLT,Nat.reduceBEq,Nat.reduceAdd];(repeat1' with_reducible first|apply And.intro|intro _|(refine hK _ ?_;clear hK K))<;>(try (clear hK K;exact q_u)))|(with_reducible refine q_s ?_;(first|apply q_J|apply q_K|apply q_L|apply q_M|apply q_N|apply q_O)<;>try intro _))
 all_goals (try simp only [e1])
 all_goals first
  | (refine q_F ⟨(j + 1,o ++ [xs.getD (2 * j) 0 + 65536 * xs.getD (2 * j + 1) 0]),by simp only; omega,by simp [g2],InB_snoc g3 (by omega) (by omega),limb_step j o xs g4 g2 _ (by omega)⟩ ?_ (by show xs.length + 1 - 2 * (j + 1) < xs.length + 1 - 2 * j; omega); exact q_D; done)
  | skip
 ·rename_i ha
  refine q_A ?_
  rw [List.take_of_length_le (by omega)] at g4
  simp only [resAV,q_y]
  rw [← g4,dg_V 4294967296 (by omega) o g3]
  by_cases h0 : xs.length = 0
  ·have : j = 0:=by omega
   subst this
   have ho : o = []:=List.eq_nil_of_length_eq_zero g2
   have hxs : xs = []:=List.eq_nil_of_length_eq_zero h0
   subst ho
   exact .inl rfl
  ·refine trd_of_ge (by omega) o g3 ?_
   have h1:=V_ge_of_trd (by omega) xs bx tx (by omega)
   rw [g4,g2]
   refine Nat.le_trans ?_ h1
   have e : (4294967296 : Nat) ^ (j - 1) = 65536 ^ (2 * (j - 1)):=by rw [Nat.pow_mul]
   rw [e]
   exact Nat.pow_le_pow_right (by omega) (by omega)

set_option maxHeartbeats 1600000 in
theorem sameLimbs_ret (xs ys : List Int) (hx : xs.length ≤ 16777216) (hy : ys.length ≤ 16777216) : Ret Try.prog 87 false [.inl (.ints .u32 xs),.inl (.ints .u32 ys)] (.c (.b (decide (xs = ys)))):=by
 (refine q_H Try.func87 (fun F=>?_); simp only [q_z,q_y,Try.ntmps87,Try.results87])
 repeat' (first|with_reducible refine q_0 ?_|((with_reducible first|refine q_q rf1_ok fun K hK=>?_|refine q_r rf1_ok fun K hK=>?_);simp (maxSteps:=2000000) only [go_sem,↓reduceIte,reduceCtorEq,Nat.reduceLeDiff,Nat.reduceLT,Nat.reduceBEq,Nat.reduceAdd];(repeat1' with_reducible first|apply And.intro|intro _|(refine hK _ ?_;clear hK K))<;>(try (clear hK K;exact q_u)))|(with_reducible refine q_s ?_;(first|apply q_J|apply q_K|apply q_L|apply q_M|apply q_N|apply q_O)<;>try intro _))
 ·rename_i hl
  exact q_A (by simp only [resAV,q_y]; rw [decide_eq_false (fun h=>hl (by rw [h]))])
 rename_i hl
 have hl : xs.length = ys.length:=by omega
 refine q_G (ι:={ i : Nat // i ≤ xs.length ∧ xs.take i = ys.take i }) (fun i=>⟨26,[(0,.c (.ints .u32 xs)),(1,.c (.ints .u32 ys)),(5,.c (.i .i64 i.1))],⟨[],[],[]⟩,0⟩) (fun i=>xs.length - i.1) ⟨0,by simp,by simp⟩ ?_ ?_
 ·exact q_D
 rintro ⟨i,h1,h2⟩
 simp only
 repeat' (first|with_reducible refine q_0 ?_|((with_reducible first|refine q_q rf1_ok fun K hK=>?_|refine q_r rf1_ok fun K hK=>?_);simp (maxSteps:=2000000) only [go_sem,↓reduceIte,reduceCtorEq,Nat.reduceLeDiff,Nat.reduceLT,Nat.reduceBEq,Nat.reduceAdd];(repeat1' with_reducible first|apply And.intro|intro _|(refine hK _ ?_;clear hK K))<;>(try (clear hK K;exact q_u)))|(with_reducible refine q_s ?_;(first|apply q_J|apply q_K|apply q_L|apply q_M|apply q_N|apply q_O)<;>try intro _))
 ·rename_i h3 hne
  exact q_A (by simp only [resAV,q_y]; rw [decide_eq_false (fun h=>hne (by rw [h]))])
 ·rename_i h3 he
  refine q_F ⟨i + 1,by omega,?_⟩ ?_ ?_
  ·rw [List.take_succ_eq_append_getElem (by omega),List.take_succ_eq_append_getElem (by omega),h2]
   have e : xs.getD i 0 = ys.getD i 0:=by omega
   rw [getD_eq xs i (by omega),getD_eq ys i (by omega)] at e
   rw [e]
  ·exact q_D
  ·show xs.length - (i + 1) < xs.length - i
   omega
 ·rename_i h3
  rw [List.take_of_length_le (by omega),List.take_of_length_le (by omega)] at h2
  exact q_A (by simp only [resAV,q_y]; rw [decide_eq_true h2])

end Go.Proofs.Ytncededjmcmidaa

namespace Go.Proofs.Ytncededjmcmidaa
set_option linter.unusedSimpArgs false
set_option linter.unusedVariables false
open Go.Abs Go.Proofs.NatL

attribute [go_sem] decide_true decide_false
def sameCT : CT:=mkCT [.inl (some (.ints .u32 [])),.inl (some (.ints .u32 []))] true fun l K=>match l with
 | [.inl (.ints .u32 xs),.inl (.ints .u32 ys)]=>(xs.length ≤ 16777216 ∧ ys.length ≤ 16777216) ∧ K (.c (.b (decide (xs = ys))))
 | _=>False
def limbsCT : CT:=mkCT [.inl (some (.ints .i64 []))] false fun l K=>match l with
 | [.inl (.ints .i64 xs)]=>(xs.length ≤ 4194304 ∧ InB 65536 xs ∧ Trd xs) ∧ K (.c (.ints .u32 (dg 4294967296 (V 65536 xs))))
 | _=>False
def ch1 : Cfg:=addT 71 limbsCT cf0
theorem ch1_ok : TblOk Try.prog ch1:=q_I cf0_ok Try.func71 fun l K h=>by
 split at h
 ·exact ⟨_,limbs_ret _ h.1.1 h.1.2.1 h.1.2.2,h.2⟩
 ·exact h.elim
def ch2 : Cfg:=addT 87 sameCT cf0
theorem ch2_ok : TblOk Try.prog ch2:=q_I cf0_ok Try.func87 fun l K h=>by
 split at h
 ·exact ⟨_,(sameLimbs_ret _ _ h.1.1 h.1.2).plain rfl,h.2⟩
 ·exact h.elim
attribute [go_sem] ch1 limbsCT ch2 sameCT
def db6 : Cfg:=addT 93 ofCT cf0
theorem db6_ok : TblOk Try.prog db6:=q_I cf0_ok Try.func93 fun l K h=>by
 split at h
 ·exact ⟨_,of_ret _ h.1.1 h.1.2,h.2⟩
 ·exact h.elim
attribute [go_sem] V65 I65 T65 V32 I32 T32 I0 T0 V0
def rnumCT (p : List Int → List Int → Prop) (f : Nat → Nat → Nat) : CT:=mkCT [.inl (some (.ints .i64 [])),.inl (some (.ints .i64 []))] false fun l K=>match l with
 | [.inl (.ints .i64 xs),.inl (.ints .i64 ys)]=>(xs.length ≤ 4194304 ∧ ys.length ≤ 4194304 ∧ InB 65536 xs ∧ InB 65536 ys ∧ Trd xs ∧ Trd ys ∧ p xs ys) ∧ K (.c (.ints .i64 (dg 65536 (f (V 65536 xs) (V 65536 ys)))))
 | _=>False
def rcmpCT : CT:=mkCT [.inl (some (.ints .i64 [])),.inl (some (.ints .i64 []))] true fun l K=>match l with
 | [.inl (.ints .i64 xs),.inl (.ints .i64 ys)]=>(xs.length ≤ 4194304 ∧ ys.length ≤ 4194304 ∧ InB 65536 xs ∧ InB 65536 ys ∧ Trd xs ∧ Trd ys) ∧ K (.c (.i .i64 (cmp3 (V 65536 xs) (V 65536 ys))))
 | _=>False
def db7 : Cfg:=addT 74 rcmpCT cf0
theorem db7_ok : TblOk Try.prog db7:=q_I cf0_ok Try.func74 fun l K h=>by
 split at h
 ·obtain ⟨⟨h1,h2,h3,h4,h5,h6⟩,h⟩:=h
  exact ⟨_,(rcompare_ret _ _ h1 h2 h3 h4 h5 h6).plain rfl,h⟩
 ·exact h.elim
def db8 : Cfg:=addT 97 (rnumCT (fun _ _=>True) (· + ·)) cf0
theorem db8_ok : TblOk Try.prog db8:=q_I cf0_ok Try.func97 fun l K h=>by
 split at h
 ·obtain ⟨⟨h1,h2,h3,h4,h5,h6,h7⟩,h⟩:=h
  exact ⟨_,plus_ret _ _ h1 h2 h3 h4,h⟩
 ·exact h.elim
def db10 : Cfg:=addT 96 (rnumCT (fun xs ys=>V 65536 ys ≤ V 65536 xs) (· - ·)) cf0
theorem db10_ok : TblOk Try.prog db10:=q_I cf0_ok Try.func96 fun l K h=>by
 split at h
 ·obtain ⟨⟨h1,h2,h3,h4,h5,h6,h7⟩,h⟩:=h
  exact ⟨_,minus_ret _ _ h1 (V_le_len (by omega) h3 h4 h6 h7) h3 h4 h7,h⟩
 ·exact h.elim
attribute [go_sem] db6 db7 db8 db10 rnumCT rcmpCT
end Go.Proofs.Ytncededjmcmidaa

namespace Go.Proofs.Ytncededjmcmidaa
set_option linter.unusedSimpArgs false
set_option linter.unusedVariables false
open Go.Abs Go.Proofs.NatL

theorem v1d : V 4294967296 [1] = 1:=rfl
attribute [go_sem] v1d V32 I32 T32 I0 T0 V0
end Go.Proofs.Ytncededjmcmidaa

namespace Go.Proofs.Ytncededjmcmidaa
set_option linter.unusedSimpArgs false
set_option linter.unusedVariables false
open Go.Abs Go.Proofs.NatL

set_option maxHeartbeats 800000 in
theorem small_ret (n : Nat) (hn : n ≤ 9223372036854775807) : Ret Try.prog 72 false [.inl (.i .i64 n)] (.c (.ints .i64 (dg 65536 n))):=by
 (refine q_H Try.func72 (fun F=>?_); simp only [q_z,q_y,Try.ntmps72,Try.results72])
 repeat' (first|with_reducible refine q_0 ?_|((with_reducible first|refine q_q rf1_ok fun K hK=>?_|refine q_r rf1_ok fun K hK=>?_);simp (maxSteps:=2000000) only [go_sem,↓reduceIte,reduceCtorEq,Nat.reduceLeDiff,Nat.reduceLT,Nat.reduceBEq,Nat.reduceAdd];(repeat1' with_reducible first|apply And.intro|intro _|(refine hK _ ?_;clear hK K))<;>(try (clear hK K;exact q_u)))|(with_reducible refine q_s ?_;(first|apply q_J|apply q_K|apply q_L|apply q_M|apply q_N|apply q_O)<;>try intro _))
 refine q_G (ι:={ p : List Int × Nat // p.2 ≤ n ∧ p.1 ++ dg 65536 p.2 = dg 65536 n }) (fun p=>⟨14,[(0,.c (.i .i64 (p.1.2 : Nat))),(3,.own 0 0)],⟨[],[(0,⟨0,3,1,.ints .i64 p.1.1⟩)],[]⟩,1⟩) (fun p=>p.1.2) ⟨([],n),Nat.le_refl _,rfl⟩ ?_ ?_
 ·exact q_D
 rintro ⟨⟨o,m⟩,g1,g2⟩
 simp only at g1 g2 ⊢
 have hlen : o.length ≤ 4:=by
  have h1:=congrArg List.length g2
  rw [List.length_append] at h1
  have h2:=dg_len_le (B:=65536) (by omega) n 4 (by omega)
  omega
 repeat' (first|with_reducible refine q_0 ?_|((with_reducible first|refine q_q rf1_ok fun K hK=>?_|refine q_r rf1_ok fun K hK=>?_);simp (maxSteps:=2000000) only [go_sem,↓reduceIte,reduceCtorEq,Nat.reduceLeDiff,Nat.reduceLT,Nat.reduceBEq,Nat.reduceAdd];(repeat1' with_reducible first|apply And.intro|(intro _;try exact q_v)|(refine hK _ ?_;clear hK K))<;>(try (clear hK K;exact q_u)))|(with_reducible refine q_s ?_;(first|apply q_J|apply q_K|apply q_L|apply q_M|apply q_N|apply q_O)<;>try (intro _;try exact q_v)))
 ·rename_i h
  have e1 : ((m : Int)).tdiv 65536 = ((m / 65536 : Nat) : Int):=by rw [Int.tdiv_eq_ediv_of_nonneg (by omega)]; omega
  have e2 : ((m : Int)).tmod 65536 = ((m % 65536 : Nat) : Int):=by rw [Int.tmod_eq_emod_of_nonneg (by omega)]; omega
  rw [e1,e2]
  refine q_F ⟨(o ++ [((m % 65536 : Nat) : Int)],m / 65536),by simp only; omega,?_⟩ ?_ (by simp only; omega)
  ·simp only
   rw [← g2,dg_pos 65536 m (by omega) (by omega)]; simp
  ·exact q_D
 ·rename_i h
  have hm : m = 0:=by omega
  subst hm
  rw [dg_zero,List.append_nil] at g2
  exact q_A (by rw [g2]; rfl)

set_option maxRecDepth 100000 in
set_option maxHeartbeats 1600000 in
theorem ones_ret (n : Nat) (hn : (dg 65536 n).length ≤ 1048576) : Ret Try.prog 99 false [.inl (.ints .i64 (dg 65536 n))] (.c (.bools (bs n))):=by
 have bx:=InB_dg 65536 (by omega) n
 have vx:=V_dg 65536 (by omega) n
 generalize dg 65536 n = xs at *
 (refine q_H Try.func99 (fun F=>?_); simp only [q_z,q_y,Try.ntmps99,Try.results99])
 repeat' (first|with_reducible refine q_0 ?_|((with_reducible first|refine q_q rf1_ok fun K hK=>?_|refine q_r rf1_ok fun K hK=>?_);simp (maxSteps:=2000000) only [go_sem,↓reduceIte,reduceCtorEq,Nat.reduceLeDiff,Nat.reduceLT,Nat.reduceBEq,Nat.reduceAdd];(repeat1' with_reducible first|apply And.intro|intro _|(refine hK _ ?_;clear hK K))<;>(try (clear hK K;exact q_u)))|(with_reducible refine q_s ?_;(first|apply q_J|apply q_K|apply q_L|apply q_M|apply q_N|apply q_O)<;>try intro _))
 refine q_G (ι:={ p : Nat × List Bool // p.1 ≤ xs.length ∧ p.2.length = 16 * p.1 ∧ B2 p.2 = V 65536 (xs.take p.1) }) (fun p=>⟨47,[(0,.c (.ints .i64 xs)),(3,.own 0 0),(4,.c (.i .i64 (p.1.1 : Nat)))],⟨[],[(0,⟨0,4,1,.bools p.1.2⟩)],[]⟩,1⟩) (fun p=>xs.length - p.1.1) ⟨(0,[]),by simp,rfl,by simp [B2,bI,V]⟩ ?_ ?_
 ·exact q_D
 rintro ⟨⟨i,o⟩,g1,g2,g3⟩
 simp only at g1 g2 g3 ⊢
 have b1:=InB_getD (by omega) bx i
 obtain ⟨x,hxx⟩ : ∃ x : Nat,xs.getD i 0 = x:=⟨(xs.getD i 0).toNat,by omega⟩
 repeat' (first|with_reducible refine q_0 ?_|((with_reducible first|refine q_q rf1_ok fun K hK=>?_|refine q_r rf1_ok fun K hK=>?_);simp (maxSteps:=2000000) only [go_sem,↓reduceIte,reduceCtorEq,Nat.reduceLeDiff,Nat.reduceLT,Nat.reduceBEq,Nat.reduceAdd];(repeat1' with_reducible first|apply And.intro|(intro _;try exact q_v)|(refine hK _ ?_;clear hK K))<;>(try (clear hK K;exact q_u)))|(with_reducible refine q_s ?_;(first|apply q_J|apply q_K|apply q_L|apply q_M|apply q_N|apply q_O)<;>try (intro _;try exact q_v)))
 ·rename_i hi
  rw [hxx]
  refine q_G (ι:={ p : Nat × List Bool × Nat // p.1 ≤ 16 ∧ p.2.1.length = 16 * i + p.1 ∧ p.2.2 < 2 ^ (16 - p.1) ∧ B2 p.2.1 + 2 ^ (16 * i + p.1) * p.2.2 = V 65536 (xs.take (i + 1)) }) (fun p=>⟨47,[(0,.c (.ints .i64 xs)),(3,.own 0 0),(4,.c (.i .i64 (i : Nat))),(5,.c (.i .i64 (p.1.2.2 : Nat))),(6,.c (.i .i64 (p.1.1 : Nat)))],⟨[],[(0,⟨0,4,1,.bools p.1.2.1⟩)],[]⟩,1⟩) (fun p=>16 - p.1.1) ⟨(0,o,x),by simp,g2,by simp only [show (2 : Nat) ^ (16 - 0) = 65536 from rfl]; omega,by
   simp only
   rw [V_take_getD,g3,hxx,Int.toNat_natCast,Nat.add_zero,show (65536 : Nat) = 2 ^ 16 from rfl,← Nat.pow_mul]⟩ ?_ ?_
  ·exact q_D
  rintro ⟨⟨k,l,y⟩,p1,p2,p3,p4⟩
  simp only at p1 p2 p3 p4 ⊢
  have hy : y < 65536:=Nat.lt_of_lt_of_le p3 (by
   have : (2 : Nat) ^ (16 - k) ≤ 2 ^ 16:=Nat.pow_le_pow_right (by omega) (by omega)
   exact this)
  have e1 : ((y : Int)).tdiv 2 = ((y / 2 : Nat) : Int):=by rw [Int.tdiv_eq_ediv_of_nonneg (by omega)]; omega
  have e2 : ((y : Int)).tmod 2 = ((y % 2 : Nat) : Int):=by rw [Int.tmod_eq_emod_of_nonneg (by omega)]; omega
  have e3 : decide (((y % 2 : Nat) : Int) = 1) = decide (y % 2 = 1):=by
   by_cases h : y % 2 = 1
   ·rw [decide_eq_true h,decide_eq_true (by omega)]
   ·rw [decide_eq_false h,decide_eq_false (by omega)]
  repeat' (first|with_reducible refine q_0 ?_|((with_reducible first|refine q_q rf1_ok fun K hK=>?_|refine q_r rf1_ok fun K hK=>?_);simp (maxSteps:=2000000) only [go_sem,↓reduceIte,reduceCtorEq,Nat.reduceLeDiff,Nat.reduceLT,Nat.reduceBEq,Nat.reduceAdd];(repeat1' with_reducible first|apply And.intro|(intro _;try exact q_v)|(refine hK _ ?_;clear hK K))<;>(try (clear hK K;exact q_u)))|(with_reducible refine q_s ?_;(first|apply q_J|apply q_K|apply q_L|apply q_M|apply q_N|apply q_O)<;>try (intro _;try exact q_v)))
  ·rename_i hk
   rw [e1,e2,e3]
   refine q_F ⟨(k + 1,l ++ [decide (y % 2 = 1)],y / 2),by simp only; omega,by simp [p2]; omega,?_,?_⟩ ?_ (by simp only; omega)
   ·simp only
    rw [show 16 - k = 16 - (k + 1) + 1 by omega,Nat.pow_succ] at p3
    omega
   ·simp only
    exact bit_step l (16 * i + k) y _ p2 p4
   ·exact q_D
  ·rename_i hk
   have hk' : k = 16:=by omega
   subst hk'
   have hy0 : y = 0:=by simp only [Nat.sub_self,Nat.pow_zero] at p3; omega
   subst hy0
   refine q_F ⟨(i + 1,l),by simp only; omega,by simp only; omega,by simpa using p4⟩ ?_ (by simp only; omega)
   exact q_D
 ·rename_i hi
  have hi' : i = xs.length:=by omega
  rw [hi',List.take_length,vx] at g3
  refine q_G (ι:={ l : List Bool // l.length ≤ 16 * xs.length ∧ B2 l = n }) (fun l=>⟨47,[(3,.own 0 0)],⟨[],[(0,⟨0,4,1,.bools l.1⟩)],[]⟩,1⟩) (fun l=>l.1.length) ⟨o,by omega,g3⟩ ?_ ?_
  ·exact q_D
  rintro ⟨l,q1,q2⟩
  simp only at q1 q2 ⊢
  have e1 : ((l.length : Int) - 1).toNat = l.length - 1:=by omega
  repeat' (first|with_reducible refine q_0 ?_|((with_reducible first|refine q_q rf1_ok fun K hK=>?_|refine q_r rf1_ok fun K hK=>?_);simp (maxSteps:=2000000) only [go_sem,↓reduceIte,reduceCtorEq,Nat.reduceLeDiff,Nat.reduceLT,Nat.reduceBEq,Nat.reduceAdd];(repeat1' with_reducible first|apply And.intro|(intro _;try exact q_v)|(refine hK _ ?_;clear hK K))<;>(try (clear hK K;exact q_u)))|(with_reducible refine q_s ?_;(first|apply q_J|apply q_K|apply q_L|apply q_M|apply q_N|apply q_O)<;>try (intro _;try exact q_v)))
  ·rename_i h1 h2
   rw [e1] at h2
   rw [e1]
   refine q_F ⟨l.take (l.length - 1),by simp; omega,by rw [B2_drop_last l (by omega) h2]; exact q2⟩ ?_ (by simp; omega)
   exact q_D
  ·rename_i h1 h2
   rw [e1] at h2
   exact q_A (by rw [← q2,← bs_of l (.inr h2)]; rfl)
  ·rename_i h1
   exact q_A (by rw [← q2,← bs_of l (.inl (by omega))]; rfl)

set_option maxRecDepth 100000 in
set_option maxHeartbeats 1600000 in
theorem binary_ret (l : List Bool) (hl : l.length ≤ 16777216) : Ret Try.prog 88 false [.inl (.bools l)] (.c (.ints .i64 (dg 65536 (B2 l)))):=by
 (refine q_H Try.func88 (fun F=>?_); simp only [q_z,q_y,Try.ntmps88,Try.results88])
 repeat' (first|with_reducible refine q_0 ?_|((with_reducible first|refine q_q rf1_ok fun K hK=>?_|refine q_r rf1_ok fun K hK=>?_);simp (maxSteps:=2000000) only [go_sem,↓reduceIte,reduceCtorEq,Nat.reduceLeDiff,Nat.reduceLT,Nat.reduceBEq,Nat.reduceAdd];(repeat1' with_reducible first|apply And.intro|intro _|(refine hK _ ?_;clear hK K))<;>(try (clear hK K;exact q_u)))|(with_reducible refine q_s ?_;(first|apply q_J|apply q_K|apply q_L|apply q_M|apply q_N|apply q_O)<;>try intro _))
 refine q_G (ι:={ p : Nat × List Int // 16 * p.1 ≤ l.length + 15 ∧ p.2.length = p.1 ∧ InB 65536 p.2 ∧ V 65536 p.2 = B2 (l.take (16 * p.1)) }) (fun p=>⟨41,[(0,.c (.bools l)),(3,.own 0 0),(4,.c (.i .i64 ((16 * p.1.1 : Nat) : Int)))],⟨[],[(0,⟨0,3,1,.ints .i64 p.1.2⟩)],[]⟩,1⟩) (fun p=>l.length + 15 - 16 * p.1.1) ⟨(0,[]),by simp,rfl,InB_nil _,by simp [B2,bI,V]⟩ ?_ ?_
 ·exact q_D
 rintro ⟨⟨j,o⟩,g1,g2,g3,g4⟩
 simp only at g1 g2 g3 g4 ⊢
 repeat' (first|with_reducible refine q_0 ?_|((with_reducible first|refine q_q rf1_ok fun K hK=>?_|refine q_r rf1_ok fun K hK=>?_);simp (maxSteps:=2000000) only [go_sem,↓reduceIte,reduceCtorEq,Nat.reduceLeDiff,Nat.reduceLT,Nat.reduceBEq,Nat.reduceAdd];(repeat1' with_reducible first|apply And.intro|(intro _;try exact q_v)|(refine hK _ ?_;clear hK K))<;>(try (clear hK K;exact q_u)))|(with_reducible refine q_s ?_;(first|apply q_J|apply q_K|apply q_L|apply q_M|apply q_N|apply q_O)<;>try (intro _;try exact q_v)))
 ·rename_i hj
  refine q_G (ι:={ p : Nat × Nat // p.1 ≤ 16 ∧ p.2 = B2 ((l.drop (16 * j + p.1)).take (16 - p.1)) }) (fun p=>⟨41,[(0,.c (.bools l)),(3,.own 0 0),(4,.c (.i .i64 ((16 * j : Nat) : Int))),(5,.c (.i .i64 (p.1.2 : Nat))),(6,.c (.i .i64 ((p.1.1 : Int) - 1)))],⟨[],[(0,⟨0,3,1,.ints .i64 o⟩)],[]⟩,1⟩) (fun p=>p.1.1) ⟨(16,0),by simp,by simp [B2,bI,V]⟩ ?_ ?_
  ·exact q_D
  rintro ⟨⟨k,x⟩,q1,q2⟩
  simp only at q1 q2 ⊢
  have hx : x < 65536:=by
   rw [q2]
   refine Nat.lt_of_lt_of_le (B2_lt _) ?_
   have : (2 : Nat) ^ ((l.drop (16 * j + k)).take (16 - k)).length ≤ 2 ^ 16:=Nat.pow_le_pow_right (by omega) (by simp; omega)
   exact this
  have hnx : 0 < k → B2 ((l.drop (16 * j + (k - 1))).take (16 - (k - 1))) = 2 * x + (if l.getD (16 * j + (k - 1)) false then 1 else 0):=fun h=>by
   rcases Nat.lt_or_ge (16 * j + (k - 1)) l.length with h1 | h1
   ·rw [show 16 - (k - 1) = 16 - k + 1 by omega,group_step l _ _ h1,show 16 * j + (k - 1) + 1 = 16 * j + k by omega,← q2]
   ·rw [group_end l _ _ h1,q2,group_end l _ _ (by omega),List.getD_eq_getElem?_getD,List.getElem?_eq_none h1]; simp
  have e1 : 0 < k → (((16 * j : Nat) : Int) + ((k : Int) - 1)).toNat = 16 * j + (k - 1):=fun h=>by omega
  repeat' (first|with_reducible refine q_0 ?_|((with_reducible first|refine q_q rf1_ok fun K hK=>?_|refine q_r rf1_ok fun K hK=>?_);simp (maxSteps:=2000000) only [go_sem,↓reduceIte,reduceCtorEq,Nat.reduceLeDiff,Nat.reduceLT,Nat.reduceBEq,Nat.reduceAdd];(repeat1' with_reducible first|apply And.intro|(intro _;try exact q_v)|(refine hK _ ?_;clear hK K))<;>(try (clear hK K;exact q_u)))|(with_reducible refine q_s ?_;(first|apply q_J|apply q_K|apply q_L|apply q_M|apply q_N|apply q_O)<;>try (intro _;try exact q_v)))
  ·rename_i h1 h2 h3
   rw [e1 (by omega)] at h3
   have h4:=hnx (by omega)
   rw [h3,if_pos rfl] at h4
   refine q_F ⟨(k - 1,2 * x + 1),by simp only; omega,h4.symm⟩ ?_ (by simp only; omega)
   exact q_D
  ·rename_i h1 h2 h3
   rw [e1 (by omega)] at h3
   have h4:=hnx (by omega)
   rw [h3] at h4
   refine q_F ⟨(k - 1,2 * x),by simp only; omega,by simpa using h4.symm⟩ ?_ (by simp only; omega)
   exact q_D
  ·rename_i h1 h2
   have h4:=hnx (by omega)
   rw [List.getD_eq_getElem?_getD,List.getElem?_eq_none (by omega)] at h4
   refine q_F ⟨(k - 1,2 * x),by simp only; omega,by simpa using h4.symm⟩ ?_ (by simp only; omega)
   exact q_D
  ·rename_i h1
   have hk : k = 0:=by omega
   subst hk
   refine q_F ⟨(j + 1,o ++ [(x : Int)]),by simp only; omega,by simp [g2],InB_snoc g3 (by omega) (by omega),digit_group j o l g4 g2 x (by simpa using q2) (by omega)⟩ ?_ (by simp only; omega)
   exact q_D
 ·rename_i hj
  refine q_A ?_
  rw [List.take_of_length_le (by omega)] at g4
  simp only [resAV,q_y]
  rw [trimL_eq 65536 (by omega) _ g3,g4]

def smallCT : CT:=mkCT [] false fun l K=>match l with
 | [.inl (.i .i64 n)]=>(0 ≤ n ∧ n ≤ 9223372036854775807) ∧ K (.c (.ints .i64 (dg 65536 n.toNat)))
 | _=>False
def onesCT : CT:=mkCT [.inl (some (.ints .i64 []))] false fun l K=>match l with
 | [.inl (.ints .i64 xs)]=>(xs.length ≤ 1048576 ∧ InB 65536 xs ∧ Trd xs) ∧ K (.c (.bools (bs (V 65536 xs))))
 | _=>False
def binaryCT : CT:=mkCT [.inl (some (.bools []))] false fun l K=>match l with
 | [.inl (.bools l)]=>l.length ≤ 16777216 ∧ K (.c (.ints .i64 (dg 65536 (B2 l))))
 | _=>False
attribute [go_sem] smallCT onesCT binaryCT V65 I65 T65
theorem bs_bl (n : Nat) : (bs n).length = bl n:=by
 rw [bs_len]
 rcases Nat.eq_zero_or_pos n with h | h
 ·subst h; rfl
 ·obtain ⟨h1,h2,h3⟩:=bl_spec n h
  have g1:=dg_len_le (B:=2) (by omega) n _ h2
  have g2:=dg_len_gt (B:=2) (by omega) n _ h1
  omega

theorem bl_dg {a k : Nat} (h : (dg 65536 a).length ≤ k) : bl a ≤ 16 * k:=by
 have h1:=lt_of_len (B:=65536) (by omega) h
 rw [show (65536 : Nat) = 2 ^ 16 from rfl,← Nat.pow_mul] at h1
 exact bl_lt a _ h1

end Go.Proofs.Ytncededjmcmidaa

namespace Go.Proofs.Ytncededjmcmidaa
set_option linter.unusedSimpArgs false
set_option linter.unusedVariables false
open Go.Abs Go.Proofs.NatL
theorem toNat2 : (2 : Int).toNat = 2:=rfl
attribute [go_sem] dg_head tmod2 toNat2 Bool.toNat_false Bool.toNat_true
set_option maxHeartbeats 800000 in
theorem halve_ret (xs : List Int) (d : Nat) (hx : xs.length ≤ 4194304) (bx : InB 65536 xs) (d0 : 0 < d) (d1 : d < 65536) :
  Ret Try.prog 95 false [.inl (.ints .i64 xs),.inl (.i .i64 d)] (.t [.inl (.ints .i64 (dg 65536 (V 65536 xs / d))),.inl (.i .i64 ((V 65536 xs % d : Nat) : Int))]):=by
 (refine q_H Try.func95 (fun F=>?_); simp only [q_z,q_y,Try.ntmps95,Try.results95])
 repeat' (first|with_reducible refine q_0 ?_|((with_reducible first|refine q_q rf1_ok fun K hK=>?_|refine q_r rf1_ok fun K hK=>?_);simp (maxSteps:=2000000) only [go_sem,↓reduceIte,reduceCtorEq,Nat.reduceLeDiff,Nat.reduceLT,Nat.reduceBEq,Nat.reduceAdd];(repeat1' with_reducible first|apply And.intro|intro _|(refine hK _ ?_;clear hK K))<;>(try (clear hK K;exact q_u)))|(with_reducible refine q_s ?_;(first|apply q_J|apply q_K|apply q_L|apply q_M|apply q_N|apply q_O)<;>try intro _))
 refine q_G (ι:={ p : Nat × List Int × Nat // p.1 ≤ xs.length ∧ p.2.1.length = xs.length ∧ InB 65536 p.2.1 ∧ p.2.2 < d ∧ V 65536 (p.2.1.drop p.1) * d + p.2.2 = V 65536 (xs.drop p.1) }) (fun p=>⟨38,[(0,.c (.ints .i64 xs)),(1,.c (.i .i64 d)),(6,.own 0 0),(7,.c (.i .i64 (p.1.2.2 : Nat))),(8,.c (.i .i64 ((p.1.1 : Int) - 1)))],⟨[],[(0,⟨0,3,1,.ints .i64 p.1.2.1⟩)],[]⟩,1⟩) (fun p=>p.1.1) ⟨(xs.length,List.replicate xs.length 0,0),by simp,by simp,InB_replicate (by omega) _,d0,by simp [V]⟩ ?_ ?_
 ·exact q_D
 rintro ⟨⟨k,o,r⟩,g1,g2,g3,g4,g5⟩
 simp only at g1 g2 g3 g4 g5 ⊢
 have b1:=InB_getD (by omega) bx ((k : Int) - 1).toNat
 obtain ⟨x,hxx⟩ : ∃ x : Nat,xs.getD ((k : Int) - 1).toNat 0 = x:=⟨(xs.getD ((k : Int) - 1).toNat 0).toNat,by omega⟩
 have hx2 : x < 65536:=by omega
 have hq : ((r : Int) * 65536 + xs.getD ((k : Int) - 1).toNat 0).tdiv (d : Int) = (((r * 65536 + x) / d : Nat) : Int):=by
  rw [hxx,Int.tdiv_eq_ediv_of_nonneg (by omega)]; simp
 have hr : ((r : Int) * 65536 + xs.getD ((k : Int) - 1).toNat 0).tmod (d : Int) = (((r * 65536 + x) % d : Nat) : Int):=by
  rw [hxx,Int.tmod_eq_emod_of_nonneg (by omega)]; simp
 have hlt : (r * 65536 + x) / d < 65536:=by
  rw [Nat.div_lt_iff_lt_mul d0]
  have h1 : (r + 1) * 65536 ≤ d * 65536:=Nat.mul_le_mul_right _ g4
  omega
 have hmod:=Nat.mod_lt (r * 65536 + x) d0
 have hdm:=Nat.div_add_mod (r * 65536 + x) d
 generalize (r * 65536 + x) / d = Q at *
 generalize (r * 65536 + x) % d = R at *
 repeat' (first|with_reducible refine q_0 ?_|((with_reducible first|refine q_q rf1_ok fun K hK=>?_|refine q_r rf1_ok fun K hK=>?_);simp (maxSteps:=2000000) only [go_sem,↓reduceIte,reduceCtorEq,Nat.reduceLeDiff,Nat.reduceLT,Nat.reduceBEq,Nat.reduceAdd];(repeat1' with_reducible first|apply And.intro|intro _|(refine hK _ ?_;clear hK K))<;>(try (clear hK K;exact q_u)))|(with_reducible refine q_s ?_;(first|apply q_J|apply q_K|apply q_L|apply q_M|apply q_N|apply q_O)<;>try intro _))
 ·rename_i ha
  have e : ((k : Int) - 1).toNat = k - 1:=by omega
  rw [hq,hr,e]
  rw [e] at hxx
  refine q_F ⟨(k - 1,o.set (k - 1) (Q : Int),R),by simp only; omega,by simp [g2],InB_set g3 _ (by omega) (by omega),hmod,?_⟩ ?_ ?_
  ·simp only
   refine short_step 65536 (k - 1) d o xs r _ _ x (by omega) g2 (by rw [show k - 1 + 1 = k by omega]; exact g5) (by rw [hxx]; simp) ?_
   rw [Nat.mul_comm]; exact hdm
  ·exact q_D
  ·show k - 1 < k
   omega
 ·rename_i ha
  have hk : k = 0:=by omega
  subst hk
  simp only [List.drop_zero] at g5
  refine q_A ?_
  simp only [resAV]
  rw [trimL_eq 65536 (by omega) _ g3,← g5]
  have h1 : (V 65536 o * d + r) / d = V 65536 o:=by rw [Nat.mul_comm,Nat.mul_add_div d0,Nat.div_eq_of_lt g4]; simp
  have h2 : (V 65536 o * d + r) % d = r:=by rw [Nat.mul_comm,Nat.mul_add_mod]; exact Nat.mod_eq_of_lt g4
  rw [h1,h2]

set_option maxHeartbeats 800000 in
theorem double_ret (xs : List Int) (one : Bool) (hx : xs.length ≤ 4194304) (bx : InB 65536 xs) :
  Ret Try.prog 98 false [.inl (.ints .i64 xs),.inl (.b one)] (.c (.ints .i64 (dg 65536 (2 * V 65536 xs + one.toNat)))):=by
 (refine q_H Try.func98 (fun F=>?_); simp only [q_z,q_y,Try.ntmps98,Try.results98])
 refine q_a ?_
 ((first | with_reducible refine q_q rf1_ok (fun K hK=>?_) | with_reducible refine awp_region_draw rf1_ok mixed (by kernel_rfl) (fun K hK=>?_)); (simp (maxSteps:=2000000) only [go_sem,↓reduceIte,reduceCtorEq,Nat.reduceLeDiff,Nat.reduceLT,Nat.reduceBEq,Nat.reduceAdd]); (first | with_reducible apply And.intro | with_reducible intro _ | (with_reducible refine hK _ ?_; clear hK K)) <;> (repeat' (first | with_reducible apply And.intro | with_reducible intro _ | (with_reducible refine hK _ ?_; clear hK K))) <;> (try (clear hK K; first | omega | assumption | ((simp (disch:=omega) only [Int.tdiv_eq_ediv_of_nonneg,Int.tmod_eq_emod_of_nonneg]); omega))))
 refine q_b (q_a ?_)
 ((first | with_reducible refine q_q rf1_ok (fun K hK=>?_) | with_reducible refine awp_region_draw rf1_ok mixed (by kernel_rfl) (fun K hK=>?_)); (simp (maxSteps:=2000000) only [go_sem,↓reduceIte,reduceCtorEq,Nat.reduceLeDiff,Nat.reduceLT,Nat.reduceBEq,Nat.reduceAdd]); (first | with_reducible apply And.intro | with_reducible intro _ | (with_reducible refine hK _ ?_; clear hK K)) <;> (repeat' (first | with_reducible apply And.intro | with_reducible intro _ | (with_reducible refine hK _ ?_; clear hK K))) <;> (try (clear hK K; first | omega | assumption | ((simp (disch:=omega) only [Int.tdiv_eq_ediv_of_nonneg,Int.tmod_eq_emod_of_nonneg]); omega))))
 refine q_b ?_
 refine seq_join (ι:={ c : Nat // c = one.toNat }) (fun c=>⟨38,[(0,.c (.ints .i64 xs)),(5,.c (.i .i64 (c.1 : Nat)))],⟨[],[],[]⟩,0⟩) ?_ ?_
 ·repeat' (first|with_reducible refine q_0 ?_|((with_reducible first|refine q_q rf1_ok fun K hK=>?_|refine q_r rf1_ok fun K hK=>?_);simp (maxSteps:=2000000) only [go_sem,↓reduceIte,reduceCtorEq,Nat.reduceLeDiff,Nat.reduceLT,Nat.reduceBEq,Nat.reduceAdd];(repeat1' with_reducible first|apply And.intro|intro _|(refine hK _ ?_;clear hK K))<;>(try (clear hK K;exact q_u)))|(with_reducible refine q_s ?_;(first|apply q_J|apply q_K|apply q_L|apply q_M|apply q_N|apply q_O)<;>try intro _))
  ·rename_i h
   refine join_n ⟨1,by rw [h]; rfl⟩ ?_
   exact q_D
  ·rename_i h
   refine join_n ⟨0,by cases one <;> simp_all⟩ ?_
   exact q_D
 rintro ⟨c0,hc0⟩
 simp only at hc0 ⊢
 have hc1 : c0 ≤ 1:=by rw [hc0]; cases one <;> decide
 rw [← hc0]
 repeat' (first|with_reducible refine q_0 ?_|((with_reducible first|refine q_q rf1_ok fun K hK=>?_|refine q_r rf1_ok fun K hK=>?_);simp (maxSteps:=2000000) only [go_sem,↓reduceIte,reduceCtorEq,Nat.reduceLeDiff,Nat.reduceLT,Nat.reduceBEq,Nat.reduceAdd];(repeat1' with_reducible first|apply And.intro|intro _|(refine hK _ ?_;clear hK K))<;>(try (clear hK K;exact q_u)))|(with_reducible refine q_s ?_;(first|apply q_J|apply q_K|apply q_L|apply q_M|apply q_N|apply q_O)<;>try intro _))
 refine q_G (ι:={ p : Nat × List Int × Nat // p.1 ≤ xs.length ∧ p.2.1.length = p.1 ∧ InB 65536 p.2.1 ∧ p.2.2 ≤ 1 ∧ V 65536 p.2.1 + 65536 ^ p.1 * p.2.2 = V 65536 (xs.take p.1) * 2 + c0 }) (fun p=>⟨38,[(0,.c (.ints .i64 xs)),(5,.c (.i .i64 (p.1.2.2 : Nat))),(6,.own 0 0),(7,.c (.i .i64 (p.1.1 : Nat)))],⟨[],[(0,⟨0,3,1,.ints .i64 p.1.2.1⟩)],[]⟩,1⟩) (fun p=>xs.length - p.1.1) ⟨(0,[],c0),by simp,rfl,InB_nil _,hc1,by simp [V]⟩ ?_ ?_
 ·exact q_D
 rintro ⟨⟨i,o,c⟩,g1,g2,g3,g4,g5⟩
 simp only at g1 g2 g3 g4 g5 ⊢
 have b1:=InB_getD (by omega) bx i
 obtain ⟨x,hxx⟩ : ∃ x : Nat,xs.getD i 0 = x:=⟨(xs.getD i 0).toNat,by omega⟩
 have hq : (2 * xs.getD i 0 + (c : Int)).tdiv 65536 = (((2 * x + c) / 65536 : Nat) : Int):=by
  rw [hxx,Int.tdiv_eq_ediv_of_nonneg (by omega)]; omega
 have hr : (2 * xs.getD i 0 + (c : Int)).tmod 65536 = (((2 * x + c) % 65536 : Nat) : Int):=by
  rw [hxx,Int.tmod_eq_emod_of_nonneg (by omega)]; omega
 repeat' (first|with_reducible refine q_0 ?_|((with_reducible first|refine q_q rf1_ok fun K hK=>?_|refine q_r rf1_ok fun K hK=>?_);simp (maxSteps:=2000000) only [go_sem,↓reduceIte,reduceCtorEq,Nat.reduceLeDiff,Nat.reduceLT,Nat.reduceBEq,Nat.reduceAdd];(repeat1' with_reducible first|apply And.intro|intro _|(refine hK _ ?_;clear hK K))<;>(try (clear hK K;exact q_u)))|(with_reducible refine q_s ?_;(first|apply q_J|apply q_K|apply q_L|apply q_M|apply q_N|apply q_O)<;>try intro _))
 ·rename_i ha
  rw [hq,hr]
  refine q_F ⟨(i + 1,o ++ [(((2 * x + c) % 65536 : Nat) : Int)],(2 * x + c) / 65536),by simp only; omega,by simp [g2],InB_snoc g3 (by omega) (by omega),by simp only; omega,dbl_step 65536 i o xs c ((2 * x + c) % 65536) ((2 * x + c) / 65536) c0 g5 g2 (by rw [hxx,Int.toNat_natCast]; omega)⟩ ?_ (by simp only; omega)
  exact q_D
 ·rename_i ha hb
  have hi : i = xs.length:=by omega
  refine q_A ?_
  simp only [resAV,q_y]
  rw [trimL_eq 65536 (by omega) _ (InB_snoc g3 (by omega) (by omega)),V_snoc,g2,Int.toNat_natCast,g5,hi,List.take_length,Nat.mul_comm]
 ·rename_i ha hb
  have hi : i = xs.length:=by omega
  have hc : c = 0:=by omega
  refine q_A ?_
  simp only [resAV,q_y]
  rw [hc,Nat.mul_zero,Nat.add_zero,hi,List.take_length] at g5
  rw [trimL_eq 65536 (by omega) _ g3,g5,Nat.mul_comm]

def halveCT : CT:=mkCT [.inl (some (.ints .i64 []))] false fun l K=>match l with
 | [.inl (.ints .i64 xs),.inl (.i .i64 d)]=>(xs.length ≤ 4194304 ∧ InB 65536 xs ∧ 0 < d ∧ d < 65536) ∧ K (.t [.inl (.ints .i64 (dg 65536 (V 65536 xs / d.toNat))),.inl (.i .i64 ((V 65536 xs % d.toNat : Nat) : Int))])
 | _=>False
def rg1 : Cfg:=addT 95 halveCT cf0
theorem rg1_ok : TblOk Try.prog rg1:=q_I cf0_ok Try.func95 fun l K h=>by
 split at h
 ·rename_i xs d
  obtain ⟨d,rfl⟩ : ∃ n : Nat,d = n:=⟨d.toNat,by omega⟩
  exact ⟨_,halve_ret _ d h.1.1 h.1.2.1 (by omega) (by omega),by simpa using h.2⟩
 ·exact h.elim
def doubleCT : CT:=mkCT [.inl (some (.ints .i64 []))] false fun l K=>match l with
 | [.inl (.ints .i64 xs),.inl (.b one)]=>(xs.length ≤ 4194304 ∧ InB 65536 xs) ∧ K (.c (.ints .i64 (dg 65536 (2 * V 65536 xs + one.toNat))))
 | _=>False
def rg2 : Cfg:=addT 98 doubleCT cf0
theorem rg2_ok : TblOk Try.prog rg2:=q_I cf0_ok Try.func98 fun l K h=>by
 split at h
 ·exact ⟨_,double_ret _ _ h.1.1 h.1.2,h.2⟩
 ·exact h.elim
attribute [go_sem] halveCT doubleCT
def tb15 : Cfg:=listT [(95,halveCT),(98,doubleCT),(74,rcmpCT),(97,(rnumCT (fun _ _=>True) (· + ·))),(96,(rnumCT (fun xs ys=>V 65536 ys ≤ V 65536 xs) (· - ·)))] [39]
theorem tb15_ok : TblOk Try.prog tb15:=listE_ok (by simp only [List.mem_singleton,forall_eq]; exact flt) ⟨⟨rg1,rg1_ok,rfl⟩,⟨rg2,rg2_ok,rfl⟩,⟨db7,db7_ok,rfl⟩,⟨db8,db8_ok,rfl⟩,⟨db10,db10_ok,rfl⟩,trivial⟩
attribute [go_sem] tb15
set_option maxRecDepth 100000 in
set_option maxHeartbeats 1600000 in
theorem common_ret (A B : Nat) (hA : (dg 65536 A).length ≤ 1048576) (hB : (dg 65536 B).length ≤ 1048576) :
  Ret Try.prog 89 false [.inl (.ints .i64 (dg 65536 A)),.inl (.ints .i64 (dg 65536 B))] (.c (.ints .i64 (dg 65536 (Nat.gcd A B)))):=by
 have hG : (dg 65536 (Nat.gcd A B)).length ≤ 1048576:=by
  rcases Nat.eq_zero_or_pos A with h | h
  ·subst h; rw [Nat.gcd_zero_left]; exact hB
  ·exact Nat.le_trans (dg_len_mono (by omega) (Nat.gcd_le_left B h)) hA
 (refine q_H Try.func89 (fun F=>?_); simp only [q_z,q_y,Try.ntmps89,Try.results89])
 repeat' (first|with_reducible refine q_0 ?_|((with_reducible first|refine q_q tb15_ok fun K hK=>?_|refine q_r tb15_ok fun K hK=>?_);simp (maxSteps:=2000000) only [go_sem,↓reduceIte,reduceCtorEq,Nat.reduceLeDiff,Nat.reduceLT,Nat.reduceBEq,Nat.reduceAdd];(repeat1' with_reducible first|apply And.intro|intro _|(refine hK _ ?_;clear hK K))<;>(try (clear hK K;exact q_u)))|(with_reducible refine q_s ?_;(first|apply q_J|apply q_K|apply q_L|apply q_M|apply q_N|apply q_O)<;>try intro _))
 refine q_G (ι:={ p : Nat × Nat × Nat // p.1 * 2 ^ p.2.2 ≤ A ∧ p.2.1 ≤ B ∧ Nat.gcd p.1 p.2.1 * 2 ^ p.2.2 = Nat.gcd A B ∧ p.2.2 ≤ 16777216 }) (fun p=>⟨83,[(0,.c (.ints .i64 (dg 65536 p.1.1))),(1,.c (.ints .i64 (dg 65536 p.1.2.1))),(5,.c (.i .i64 (p.1.2.2 : Nat)))],⟨[],[],[]⟩,0⟩) (fun p=>p.1.1 + p.1.2.1) ⟨(A,B,0),by simp,by simp,by simp,by simp⟩ ?_ ?_
 ·exact q_D
 rintro ⟨⟨a,b,t⟩,g1,g2,g3,g4⟩
 simp only at g1 g2 g3 g4 ⊢
 have p0 : 0 < 2 ^ t:=Nat.pow_pos (by omega)
 have ga : a ≤ A:=Nat.le_trans (Nat.le_mul_of_pos_right a p0) g1
 have la:=Nat.le_trans (dg_len_mono (B:=65536) (by omega) ga) hA
 have lb:=Nat.le_trans (dg_len_mono (B:=65536) (by omega) g2) hB
 have ka:=dg_len_pos 65536 a (by omega)
 have kb:=dg_len_pos 65536 b (by omega)
 have kc:=cmp3_ge a b
 have e1 : a % 65536 % 2 = a % 2:=by omega
 have e2 : b % 65536 % 2 = b % 2:=by omega
 have h2 : ∀ x,x % 2 = 0 → x / 2 * 2 ^ (t + 1) = x * 2 ^ t:=fun x hx=>by
  rw [Nat.pow_succ,← Nat.mul_assoc,Nat.mul_right_comm,show x / 2 * 2 = x by omega]
 have h3 : a / 2 * 2 ^ t ≤ A:=Nat.le_trans (Nat.mul_le_mul_right _ (by omega)) g1
 have h4 : (a - b) * 2 ^ t ≤ A:=Nat.le_trans (Nat.mul_le_mul_right _ (by omega)) g1
 have r1 : 0 < a → a % 2 = 0 → b % 2 = 0 → a / 2 * 2 ^ (t + 1) ≤ A ∧ b / 2 ≤ B ∧ Nat.gcd (a / 2) (b / 2) * 2 ^ (t + 1) = Nat.gcd A B ∧ t + 1 ≤ 16777216:=fun h0 ha hb=>by
  refine ⟨by rw [h2 a ha]; exact g1,by omega,?_,?_⟩
  ·rw [← g3,gcd_even2 ha hb,Nat.pow_succ,Nat.mul_assoc,Nat.mul_comm 2]
  ·have h5 : 2 ^ (t + 1) ≤ A:=by
    have h6:=h2 a ha
    have h7 : 1 * 2 ^ (t + 1) ≤ a / 2 * 2 ^ (t + 1):=Nat.mul_le_mul_right _ (by omega)
    omega
   have:=pow_le_len h5 hA
   omega
 have r2 : a % 2 = 0 → b % 2 = 1 → Nat.gcd (a / 2) b * 2 ^ t = Nat.gcd A B:=fun ha hb=>by rw [gcd_even1 ha hb,g3]
 have r3 : a % 2 = 1 → b % 2 = 0 → Nat.gcd a (b / 2) * 2 ^ t = Nat.gcd A B:=fun ha hb=>by rw [Nat.gcd_comm,gcd_even1 hb ha,Nat.gcd_comm,g3]
 have r4 : b ≤ a → Nat.gcd (a - b) b * 2 ^ t = Nat.gcd A B:=fun h=>by rw [Nat.gcd_sub_self_left h,g3]
 have r5 : a ≤ b → Nat.gcd a (b - a) * 2 ^ t = Nat.gcd A B:=fun h=>by rw [Nat.gcd_sub_self_right h,g3]
 have hend : a = 0 ∨ b = 0 → (a + b) * 2 ^ t = Nat.gcd A B:=fun h=>by
  rw [← g3]
  rcases h with h | h
  ·subst h; rw [Nat.gcd_zero_left,Nat.zero_add]
  ·subst h; rw [Nat.gcd_zero_right,Nat.add_zero]
 have lab:=add_len (B:=65536) (by omega) la lb
 repeat' (first|with_reducible refine q_0 ?_|((with_reducible first|refine q_q tb15_ok fun K hK=>?_|refine q_r tb15_ok fun K hK=>?_);simp (maxSteps:=2000000) only [go_sem,↓reduceIte,reduceCtorEq,Nat.reduceLeDiff,Nat.reduceLT,Nat.reduceBEq,Nat.reduceAdd];(repeat1' with_reducible first|apply And.intro|intro _|(refine hK _ ?_;clear hK K))<;>(try (clear hK K;exact q_u)))|(with_reducible refine q_s ?_;(first|apply q_J|apply q_K|apply q_L|apply q_M|apply q_N|apply q_O)<;>try intro _))
 all_goals (first
  | (exfalso; omega)
  | (refine q_F ⟨(a / 2,b / 2,t + 1),r1 (by omega) (by omega) (by omega)⟩ ?_ (by simp only; omega); exact q_D; done)
  | (refine q_F ⟨(a / 2,b,t),h3,g2,r2 (by omega) (by omega),g4⟩ ?_ (by simp only; omega); exact q_D; done)
  | (refine q_F ⟨(a,b / 2,t),g1,by simp only; omega,r3 (by omega) (by omega),g4⟩ ?_ (by simp only; omega); exact q_D; done)
  | (refine q_F ⟨(a - b,b,t),h4,g2,r4 (by omega),g4⟩ ?_ (by simp only; omega); exact q_D; done)
  | (refine q_F ⟨(a,b - a,t),g1,by simp only; omega,r5 (by omega),g4⟩ ?_ (by simp only; omega); exact q_D; done)
  | skip)
 all_goals (
  refine q_G (ι:={ p : Nat × Nat // p.1 ≤ 16777216 ∧ p.2 * 2 ^ p.1 = Nat.gcd A B }) (fun p=>⟨83,[(5,.c (.i .i64 (p.1.1 : Nat))),(6,.c (.ints .i64 (dg 65536 p.1.2)))],⟨[],[],[]⟩,0⟩) (fun p=>p.1.1) ⟨(t,a + b),g4,hend (by omega)⟩ (by exact q_D) ?_
  rintro ⟨⟨u,n⟩,q1,q2⟩
  simp only at q1 q2 ⊢
  have ln : (dg 65536 n).length ≤ 1048576:=Nat.le_trans (dg_len_mono (by omega) (by rw [← q2]; exact Nat.le_mul_of_pos_right _ (Nat.pow_pos (by omega)))) hG
  repeat' (first|with_reducible refine q_0 ?_|((with_reducible first|refine q_q tb15_ok fun K hK=>?_|refine q_r tb15_ok fun K hK=>?_);simp (maxSteps:=2000000) only [go_sem,↓reduceIte,reduceCtorEq,Nat.reduceLeDiff,Nat.reduceLT,Nat.reduceBEq,Nat.reduceAdd];(repeat1' with_reducible first|apply And.intro|intro _|(refine hK _ ?_;clear hK K))<;>(try (clear hK K;exact q_u)))|(with_reducible refine q_s ?_;(first|apply q_J|apply q_K|apply q_L|apply q_M|apply q_N|apply q_O)<;>try intro _))
  ·rename_i hu
   refine q_F ⟨(u - 1,2 * n),by simp only; omega,?_⟩ ?_ (by simp only; omega)
   ·simp only
    rw [← q2,Nat.mul_comm 2,Nat.mul_assoc,← Nat.pow_succ',Nat.succ_eq_add_one,show u - 1 + 1 = u by omega]
   ·exact q_D
  ·rename_i hu
   have hu0 : u = 0:=by omega
   subst hu0
   exact q_A (by simp only [resAV,q_y]; rw [← q2]; simp))

def commonCT : CT:=mkCT [.inl (some (.ints .i64 [])),.inl (some (.ints .i64 []))] false fun l K=>match l with
 | [.inl (.ints .i64 xs),.inl (.ints .i64 ys)]=>(xs.length ≤ 1048576 ∧ ys.length ≤ 1048576 ∧ InB 65536 xs ∧ InB 65536 ys ∧ Trd xs ∧ Trd ys) ∧ K (.c (.ints .i64 (dg 65536 (Nat.gcd (V 65536 xs) (V 65536 ys)))))
 | _=>False
def rg3 : Cfg:=addT 89 commonCT cf0
theorem rg3_ok : TblOk Try.prog rg3:=q_I cf0_ok Try.func89 fun l K h=>by
 split at h
 ·rename_i xs ys
  obtain ⟨⟨h1,h2,h3,h4,h5,h6⟩,h⟩:=h
  have ex:=dg_V 65536 (by omega) xs h3 h5
  have ey:=dg_V 65536 (by omega) ys h4 h6
  have:=common_ret (V 65536 xs) (V 65536 ys) (by rw [ex]; exact h1) (by rw [ey]; exact h2)
  rw [ex,ey] at this
  exact ⟨_,this,h⟩
 ·exact h.elim
attribute [go_sem] commonCT
end Go.Proofs.Ytncededjmcmidaa

namespace Go.Proofs.Ytncededjmcmidaa
set_option linter.unusedSimpArgs false
set_option linter.unusedVariables false
open Go.Abs Go.Proofs.NatL

theorem okN_d (n : Nat) : okN (dg 4294967296 n) = decide ((dg 4294967296 n).length ≤ 600):=by
 unfold okN
 congr 1
 exact propext ⟨fun h=>h.1,fun h=>⟨h,dg_trd 4294967296 (by omega) n⟩⟩
def nt7 : Cfg:=addT 72 smallCT cf0
theorem nt7_ok : TblOk Try.prog nt7:=q_I cf0_ok Try.func72 fun l K h=>by
 split at h
 ·rename_i n
  obtain ⟨m,rfl⟩ : ∃ m : Nat,n = m:=⟨n.toNat,by omega⟩
  exact ⟨_,small_ret m (by omega),by simpa using h.2⟩
 ·exact h.elim
def nt8 : Cfg:=addT 99 onesCT cf0
theorem nt8_ok : TblOk Try.prog nt8:=q_I cf0_ok Try.func99 fun l K h=>by
 split at h
 ·rename_i xs
  obtain ⟨⟨h1,h2,h3⟩,h⟩:=h
  have e:=dg_V 65536 (by omega) xs h2 h3
  have:=ones_ret (V 65536 xs) (by rw [e]; exact h1)
  rw [e] at this
  exact ⟨_,this,h⟩
 ·exact h.elim
def nt9 : Cfg:=addT 88 binaryCT cf0
theorem nt9_ok : TblOk Try.prog nt9:=q_I cf0_ok Try.func88 fun l K h=>by
 split at h
 ·exact ⟨_,binary_ret _ h.1,h.2⟩
 ·exact h.elim
def nt10 : Cfg:=nt9
def nt11 : Cfg:=nt10
def nt12 : Cfg:=nt11
def nt13 : Cfg:=nt12
attribute [go_sem] okN_d V65 I65 T65 V32 I32 T32
end Go.Proofs.Ytncededjmcmidaa

namespace Go.Proofs.NatL
set_option linter.unusedSimpArgs false
set_option linter.unusedVariables false

def sv (B : Nat) (s : Bool) (xs : List Int) : Int:=if s then -(V B xs : Int) else V B xs
def sgz (z : Int) (b : Bool) : Bool:=if z = 0 then b else decide (z < 0)

theorem sv_sgz {B : Nat} (hB : 2 ≤ B) (z : Int) (b : Bool) : sv B (sgz z b) (dg B z.natAbs) = z:=by
 unfold sv sgz
 rw [V_dg B hB]
 by_cases h0 : z = 0
 ·subst h0; simp
 ·rw [if_neg h0]
  by_cases h : z < 0
  ·rw [if_pos (by simpa using h)]; omega
  ·rw [if_neg (by simpa using h)]; omega
theorem sv_sg {B : Nat} (hB : 2 ≤ B) (z : Int) : sv B (decide (z < 0)) (dg B z.natAbs) = z:=by
 have:=sv_sgz hB z false
 unfold sgz at this
 by_cases h0 : z = 0
 ·subst h0; simp [sv,dg_zero,V]
 ·rw [if_neg h0] at this; exact this
theorem sv32 (z : Int) : sv 4294967296 (decide (z < 0)) (dg 4294967296 z.natAbs) = z:=sv_sg (by omega) z
theorem sv65 (z : Int) : sv 65536 (decide (z < 0)) (dg 65536 z.natAbs) = z:=sv_sg (by omega) z
theorem svz65 (z : Int) (b : Bool) : sv 65536 (sgz z b) (dg 65536 z.natAbs) = z:=sv_sgz (by omega) z b
instance decTrd (xs : List Int) : Decidable (Trd xs):=by unfold Trd; infer_instance
def sg (s : Bool) (m : Nat) : Int:=if s then -(m : Int) else m
theorem sv_d {B : Nat} (hB : 2 ≤ B) (s : Bool) (m : Nat) : sv B s (dg B m) = sg s m:=by unfold sv sg; rw [V_dg B hB]
theorem sgt (m : Nat) : sg true m = -(m : Int):=rfl
theorem sgf (m : Nat) : sg false m = m:=rfl
theorem sg_abs (s : Bool) (m : Nat) : (sg s m).natAbs = m:=by cases s <;> simp [sg]
theorem sg_self (a : Int) : sg (decide (a < 0)) a.natAbs = a:=by
 by_cases h : a < 0
 ·rw [decide_eq_true h,sgt]; omega
 ·rw [decide_eq_false h,sgf]; omega
def okZ (s : Bool) (xs : List Int) : Bool:=decide (xs.length ≤ 128 ∧ ((xs = [] ∧ s = false) ∨ (xs ≠ [] ∧ Trd xs)))
theorem okZ_g (z : Int) : okZ (decide (z < 0)) (dg 4294967296 z.natAbs) = decide ((dg 4294967296 z.natAbs).length ≤ 128):=by
 unfold okZ
 congr 1
 refine propext ⟨fun h=>h.1,fun h=>⟨h,?_⟩⟩
 by_cases h0 : z = 0
 ·subst h0; left; exact ⟨rfl,rfl⟩
 ·right
  refine ⟨fun e=>?_,dg_trd _ (by omega) _⟩
  have:=(dg_len_pos 4294967296 z.natAbs (by omega)).2 (by omega)
  rw [e] at this; simp at this
def cl (k : Nat) (z : Int) : Int:=if (dg 4294967296 z.natAbs).length ≤ k then z else 0
end Go.Proofs.NatL

namespace Go.Proofs.Ytncededjmcmidaa
set_option linter.unusedSimpArgs false
set_option linter.unusedVariables false
open Go.Abs Go.Proofs.NatL

def it1 : Cfg:=nt13
def it2 : Cfg:=it1
attribute [go_sem] listT
def it3 : Cfg:=it2
abbrev nP : Option C ⊕ List (Option C):=.inr [none,some (.ints .u32 [])]
def it4 : Cfg:=it3
def it5 : Cfg:=it4
end Go.Proofs.Ytncededjmcmidaa

namespace Go.Proofs.Ytncededjmcmidaa
set_option linter.unusedSimpArgs false
set_option linter.unusedVariables false
open Go.Abs Go.Proofs.NatL

def Nrm (s : Bool) (xs : List Int) : Prop:=InB 4294967296 xs ∧ Trd xs ∧ (xs = [] → s = false)
theorem Nrm_g (z : Int) : Nrm (decide (z < 0)) (dg 4294967296 z.natAbs) = True:=by
 refine eq_true ⟨InB_dg _ (by omega) _,dg_trd _ (by omega) _,fun h=>?_⟩
 have:=dg_len_pos 4294967296 z.natAbs (by omega)
 rw [h] at this
 simp only [List.length_nil,Nat.lt_irrefl,false_iff] at this
 exact decide_eq_false (by omega)
theorem Nrm_0 : Nrm false [] = True:=eq_true ⟨InB_nil _,.inl rfl,fun _=>rfl⟩
abbrev gR (z : Int) : List C:=[.b (decide (z < 0)),.ints .i64 (dg 65536 z.natAbs)]
attribute [go_sem] Nrm_g Nrm_0 gR
end Go.Proofs.Ytncededjmcmidaa

namespace Go.Proofs.NatL
set_option linter.unusedSimpArgs false
set_option linter.unusedVariables false

theorem B2_nil : B2 [] = 0:=rfl
theorem B2_cons (b : Bool) (l : List Bool) : B2 (b :: l) = 2 * B2 l + (if b then 1 else 0):=by
 have h:=group_step (b :: l) 0 l.length (by simp)
 simpa using h
theorem set_zeros (k : Nat) (ls : List Bool) (hk : 0 < k) (b : Bool) : (List.replicate k false ++ ls).set (k - 1) b = List.replicate (k - 1) false ++ b :: ls:=by
 obtain ⟨j,rfl⟩ : ∃ j,k = j + 1:=⟨k - 1,by omega⟩
 rw [show j + 1 - 1 = j by omega,List.replicate_succ',List.append_assoc]
 rw [List.set_append_right _ _ (by simp)]
 simp
theorem drop_bit (l : List Bool) (k : Nat) (hk : 0 < k) (hl : k ≤ l.length) : B2 (l.drop (k - 1)) = 2 * B2 (l.drop k) + (if l.getD (k - 1) false then 1 else 0):=by
 rw [List.drop_eq_getElem_cons (i:=k - 1) (by omega),B2_cons,show k - 1 + 1 = k by omega]
 simp [List.getD_eq_getElem?_getD,List.getElem?_eq_getElem (show k - 1 < l.length by omega)]
theorem drop_bs (m : Nat) : B2 ((bs m).drop 0) = m:=by rw [List.drop_zero,B2_bs]
theorem sgz_sg (s : Bool) (k : Nat) : sgz (sg s k) s = s:=by
 unfold sgz
 by_cases h : sg s k = 0
 ·rw [if_pos h]
 ·rw [if_neg h]
  cases s
  ·rw [sgf] at h ⊢; exact decide_eq_false (by omega)
  ·rw [sgt] at h ⊢; exact decide_eq_true (by omega)
theorem tdiv2_abs (z : Int) : (z.tdiv 2).natAbs = z.natAbs / 2:=by rw [Int.natAbs_tdiv]; rfl
theorem tmod2_ne (z : Int) : decide (¬ z.tmod 2 = 0) = decide (z.natAbs % 2 = 1):=by
 have h1 : (z.tmod 2).natAbs = z.natAbs % 2:=by rw [Int.natAbs_tmod]; rfl
 congr 1
 exact propext ⟨fun h=>by omega,fun h=>by omega⟩

end Go.Proofs.NatL

namespace Go.Proofs.Ytncededjmcmidaa
set_option linter.unusedSimpArgs false
set_option linter.unusedVariables false
open Go.Abs Go.Proofs.NatL

attribute [go_sem] sv32 sv65 svz65
def jb4 : Cfg:=listT [(88,binaryCT)] [39]
theorem jb4_ok : TblOk Try.prog jb4:=listE_ok (by simp only [List.mem_singleton,forall_eq]; exact flt) ⟨⟨nt9,nt9_ok,rfl⟩,trivial⟩
attribute [go_sem] jb4
set_option maxHeartbeats 1600000 in
theorem number_ret (n : Int) (hn : -9223372036854775808 ≤ n ∧ n ≤ 9223372036854775807) : Ret Try.prog 70 false [.inl (.i .i64 n)] (.g (gR n)):=by
 (refine q_H Try.func70 (fun F=>?_); simp only [q_z,q_y,Try.ntmps70,Try.results70])
 repeat' (first|with_reducible refine q_0 ?_|((with_reducible first|refine q_q jb4_ok fun K hK=>?_|refine q_r jb4_ok fun K hK=>?_);simp (maxSteps:=2000000) only [go_sem,↓reduceIte,reduceCtorEq,Nat.reduceLeDiff,Nat.reduceLT,Nat.reduceBEq,Nat.reduceAdd];(repeat1' with_reducible first|apply And.intro|(intro _;try exact q_v)|(refine hK _ ?_;clear hK K))<;>(try (clear hK K;exact q_u)))|(with_reducible refine q_s ?_;(first|apply q_J|apply q_K|apply q_L|apply q_M|apply q_N|apply q_O)<;>try (intro _;try exact q_v)))
 refine q_G (ι:={ p : Int × List Bool // p.1.natAbs ≤ n.natAbs ∧ p.2.length ≤ 64 ∧ B2 p.2 + 2 ^ p.2.length * p.1.natAbs = n.natAbs }) (fun p=>⟨21,[(0,.c (.i .i64 p.1.1)),(2,.bx 0 0),(3,.own 1 0),(4,.c (.b (decide (n < 0))))],⟨[(0,[.c (.b false),.c .nil])],[(1,⟨0,4,1,.bools p.1.2⟩)],[]⟩,2⟩) (fun p=>p.1.1.natAbs) ⟨(n,[]),Nat.le_refl _,by simp,by simp [B2_nil]⟩ ?_ ?_
 ·exact q_D
 rintro ⟨⟨z,l⟩,g1,g2,g3⟩
 simp only at g1 g2 g3 ⊢
 have a1:=tdiv2_abs z
 have a2:=tmod2_ne z
 have b3:=bit_step l l.length z.natAbs n.natAbs rfl g3
 have hlen : z ≠ 0 → l.length + 1 ≤ 64:=fun h=>by
  rcases Nat.lt_or_ge l.length 64 with h1 | h1
  ·omega
  ·have h2 : 2 ^ 64 * 1 ≤ 2 ^ l.length * z.natAbs:=Nat.mul_le_mul (Nat.pow_le_pow_right (by omega) h1) (by omega)
   have h3 : (2 : Nat) ^ 64 = 18446744073709551616:=rfl
   omega
 by_cases hz : z = 0
 ·subst hz
  have e : B2 l = n.natAbs:=by simpa using g3
  repeat' (first|with_reducible refine q_0 ?_|((with_reducible first|refine q_q jb4_ok fun K hK=>?_|refine q_r jb4_ok fun K hK=>?_);simp (maxSteps:=2000000) only [go_sem,↓reduceIte,reduceCtorEq,Nat.reduceLeDiff,Nat.reduceLT,Nat.reduceBEq,Nat.reduceAdd,e];(repeat1' with_reducible first|apply And.intro|(intro _;try exact q_v)|(refine hK _ ?_;clear hK K))<;>(try (clear hK K;exact q_u)))|(with_reducible refine q_s ?_;(first|apply q_J|apply q_K|apply q_L|apply q_M|apply q_N|apply q_O)<;>try (intro _;try exact q_v)))
  exact q_A rfl
 ·have hl2:=hlen hz
  have hlt : (z.tdiv 2).natAbs < z.natAbs:=by rw [a1]; omega
  have hb : -9223372036854775808 ≤ z.tdiv 2 ∧ z.tdiv 2 ≤ 9223372036854775807:=by omega
  have hnn : ¬ z = 0:=hz
  repeat' (first|with_reducible refine q_0 ?_|((with_reducible first|refine q_q jb4_ok fun K hK=>?_|refine q_r jb4_ok fun K hK=>?_);simp (maxSteps:=2000000) only [go_sem,↓reduceIte,reduceCtorEq,Nat.reduceLeDiff,Nat.reduceLT,Nat.reduceBEq,Nat.reduceAdd,a2];(repeat1' with_reducible first|apply And.intro|(intro _;try exact q_v)|(refine hK _ ?_;clear hK K))<;>(try (clear hK K;exact q_u)))|(with_reducible refine q_s ?_;(first|apply q_J|apply q_K|apply q_L|apply q_M|apply q_N|apply q_O)<;>try (intro _;try exact q_v)))
  all_goals first | omega | skip
  refine q_F ⟨(z.tdiv 2,l ++ [decide (z.natAbs % 2 = 1)]),by simp only; omega,by simp; omega,?_⟩ ?_ (by simp only; omega)
  ·simp only [List.length_append,List.length_cons,List.length_nil,Nat.zero_add,a1]; exact b3
  ·exact q_D
def numberCT : CT:=mkCT [] false fun l K=>match l with
 | [.inl (.i .i64 n)]=>(-9223372036854775808 ≤ n ∧ n ≤ 9223372036854775807) ∧ K (.g (gR n))
 | _=>False
def jt7 : Cfg:=addT 70 numberCT cf0
theorem jt7_ok : TblOk Try.prog jt7:=q_I cf0_ok Try.func70 fun l K h=>by
 split at h
 ·exact ⟨_,number_ret _ h.1,h.2⟩
 ·exact h.elim

attribute [go_sem] numberCT
end Go.Proofs.Ytncededjmcmidaa

namespace Go.Proofs.Ytncededjmcmidaa
set_option linter.unusedSimpArgs false
set_option linter.unusedVariables false
open Go.Abs Go.Proofs.NatL

theorem sv_ys {s : Bool} {ys : List Int} (h1 : InB 65536 ys) (h2 : Trd ys) : ys = dg 65536 (V 65536 ys) ∧ sv 65536 s ys = sg s (V 65536 ys):=by
 have e:=dg_V 65536 (by omega) ys h1 h2
 exact ⟨e.symm,by rw [← sv_d (B:=65536) (by omega),e]⟩
def jb6 : Cfg:=listT [(99,onesCT),(88,binaryCT),(98,doubleCT),(74,rcmpCT),(96,(rnumCT (fun xs ys=>V 65536 ys ≤ V 65536 xs) (· - ·)))] [39]
theorem jb6_ok : TblOk Try.prog jb6:=listE_ok (by simp only [List.mem_singleton,forall_eq]; exact flt) ⟨⟨nt8,nt8_ok,rfl⟩,⟨nt9,nt9_ok,rfl⟩,⟨rg2,rg2_ok,rfl⟩,⟨db7,db7_ok,rfl⟩,⟨db10,db10_ok,rfl⟩,trivial⟩
attribute [go_sem] jb6
set_option maxRecDepth 100000 in
set_option maxHeartbeats 3200000 in
theorem divide_ret' (m n : Nat) (hn : 0 < n) (lm : (dg 65536 m).length ≤ 65536) (ln : (dg 65536 n).length ≤ 65536) :
  Ret Try.prog 90 false [.inl (.ints .i64 (dg 65536 m)),.inl (.ints .i64 (dg 65536 n))] (.t [.inl (.ints .i64 (dg 65536 (m / n))),.inl (.ints .i64 (dg 65536 (m % n)))]):=by
 have hbl : bl m ≤ 1048576:=Nat.le_trans (bl_dg lm) (by omega)
 have hL : (bs m).length ≤ 1048576:=by rw [bs_bl]; exact hbl
 (refine q_H Try.func90 (fun F=>?_); simp only [q_z,q_y,Try.ntmps90,Try.results90])
 repeat' (first|with_reducible refine q_0 ?_|((with_reducible first|refine q_q jb6_ok fun K hK=>?_|refine q_r jb6_ok fun K hK=>?_);simp (maxSteps:=2000000) only [go_sem,↓reduceIte,reduceCtorEq,Nat.reduceLeDiff,Nat.reduceLT,Nat.reduceBEq,Nat.reduceAdd];(repeat1' with_reducible first|apply And.intro|(intro _;try exact q_v)|(refine hK _ ?_;clear hK K))<;>(try (clear hK K;exact q_u)))|(with_reducible refine q_s ?_;(first|apply q_J|apply q_K|apply q_L|apply q_M|apply q_N|apply q_O)<;>try (intro _;try exact q_v)))
 all_goals try omega
 refine q_G (ι:={ p : Nat × List Bool × Nat // p.1 ≤ (bs m).length ∧ p.2.1.length = (bs m).length - p.1 ∧ p.2.2 < n ∧ B2 p.2.1 * n + p.2.2 = B2 ((bs m).drop p.1) }) (fun p=>⟨41,[(1,.c (.ints .i64 (dg 65536 n))),(6,.c (.bools (bs m))),(7,.own 0 0),(8,.c (.ints .i64 (dg 65536 p.1.2.2))),(9,.c (.i .i64 ((p.1.1 : Int) - 1)))],⟨[],[(0,⟨0,4,1,.bools (List.replicate p.1.1 false ++ p.1.2.1)⟩)],[]⟩,1⟩) (fun p=>p.1.1) ⟨((bs m).length,[],0),by simp,by simp,hn,by simp [B2_nil]⟩ ?_ ?_
 ·((simp only [go_sem,↓reduceIte,reduceCtorEq,Nat.reduceLeDiff,Nat.reduceLT,Nat.reduceBEq,Nat.reduceAdd])<;>(try (simp;done))<;>(try ((simp only [C.i.injEq,C.b.injEq,C.ints.injEq,C.bools.injEq,List.append_cancel_left_eq,List.cons.injEq,true_and,and_true]);(repeat' with_reducible apply And.intro)<;>(first|rfl|assumption|omega|(simp;omega)|(congr 1;omega)|(congr 2;omega)))))
  all_goals (try simp [dg_zero])
 rintro ⟨⟨k,q,r⟩,g1,g2,g3,g4⟩
 simp only at g1 g2 g3 g4 ⊢
 have lr:=dg_len_mono (B:=65536) (by omega) (Nat.le_of_lt g3)
 rcases Nat.eq_zero_or_pos k with hk | hk
 ·subst hk
  rw [drop_bs] at g4
  have e1 : B2 q = m / n:=by
   rw [← g4,Nat.mul_comm,Nat.mul_add_div hn,Nat.div_eq_of_lt g3]; rfl
  have e2 : r = m % n:=by
   rw [← g4,Nat.mul_comm,Nat.mul_add_mod,Nat.mod_eq_of_lt g3]
  have hq : (List.replicate 0 false ++ q).length ≤ 16777216:=by simp; omega
  repeat' (first|with_reducible refine q_0 ?_|((with_reducible first|refine q_q jb6_ok fun K hK=>?_|refine q_r jb6_ok fun K hK=>?_);simp (maxSteps:=2000000) only [go_sem,↓reduceIte,reduceCtorEq,Nat.reduceLeDiff,Nat.reduceLT,Nat.reduceBEq,Nat.reduceAdd];(repeat1' with_reducible first|apply And.intro|(intro _;try exact q_v)|(refine hK _ ?_;clear hK K))<;>(try (clear hK K;exact q_u)))|(with_reducible refine q_s ?_;(first|apply q_J|apply q_K|apply q_L|apply q_M|apply q_N|apply q_O)<;>try (intro _;try exact q_v)))
  all_goals first | assumption | omega | skip
  exact q_A (by simp only [resAV,List.replicate_zero,List.nil_append,e1,e2])
 ·have hd:=drop_bit (bs m) k hk g1
  have ek : ((k : Int) - 1).toNat = k - 1:=by omega
  have hq : (List.replicate k false ++ q).length = (bs m).length:=by simp; omega
  have hs:=set_zeros k q hk true
  have hx : ∀ b : Bool,(2 * r + b.toNat) < 2 * n:=fun b=>by cases b <;> simp <;> omega
  have lx : ∀ b : Bool,(dg 65536 (2 * r + b.toNat)).length ≤ 65537:=fun b=>by
   refine Nat.le_trans (dg_len_mono (by omega) (Nat.le_of_lt (hx b))) ?_
   rw [Nat.two_mul]; exact add_len (by omega) ln ln
  obtain ⟨c,hc⟩ : ∃ c,(bs m).getD (k - 1) false = c:=⟨_,rfl⟩
  have hx:=hx c
  have lx:=lx c
  rw [hc] at hd
  have hcn : (if c = true then 1 else 0) = c.toNat:=by cases c <;> rfl
  rw [hcn] at hd
  generalize hX : 2 * r + c.toNat = X at *
  by_cases hge : n ≤ X
  ·have h3:=(cmp3_ge X n).2 hge
   repeat' (first|with_reducible refine q_0 ?_|((with_reducible first|refine q_q jb6_ok fun K hK=>?_|refine q_r jb6_ok fun K hK=>?_);simp (maxSteps:=2000000) only [go_sem,↓reduceIte,reduceCtorEq,Nat.reduceLeDiff,Nat.reduceLT,Nat.reduceBEq,Nat.reduceAdd,ek,hc,hX,hs,hq];(repeat1' with_reducible first|apply And.intro|(intro _;try exact q_v)|(refine hK _ ?_;clear hK K))<;>(try (clear hK K;exact q_u)))|(with_reducible refine q_s ?_;(first|apply q_J|apply q_K|apply q_L|apply q_M|apply q_N|apply q_O)<;>try (intro _;try exact q_v)))
   all_goals first | omega | skip
   refine q_F ⟨(k - 1,true :: q,X - n),by simp only; omega,by simp; omega,by simp only; omega,?_⟩ ?_ (by simp only; omega)
   ·simp only
    rw [hd,← g4,B2_cons,if_pos rfl,Nat.add_mul,Nat.mul_assoc]; omega
   ·exact q_D
  ·have h3 : ¬ 0 ≤ cmp3 X n:=fun h=>hge ((cmp3_ge X n).1 h)
   have hs0 : List.replicate (k - 1) false ++ false :: q = List.replicate k false ++ q:=by
    obtain ⟨j,rfl⟩ : ∃ j,k = j + 1:=⟨k - 1,by omega⟩
    rw [show j + 1 - 1 = j by omega,List.replicate_succ',List.append_assoc]; rfl
   repeat' (first|with_reducible refine q_0 ?_|((with_reducible first|refine q_q jb6_ok fun K hK=>?_|refine q_r jb6_ok fun K hK=>?_);simp (maxSteps:=2000000) only [go_sem,↓reduceIte,reduceCtorEq,Nat.reduceLeDiff,Nat.reduceLT,Nat.reduceBEq,Nat.reduceAdd,ek,hc,hX,hq];(repeat1' with_reducible first|apply And.intro|(intro _;try exact q_v)|(refine hK _ ?_;clear hK K))<;>(try (clear hK K;exact q_u)))|(with_reducible refine q_s ?_;(first|apply q_J|apply q_K|apply q_L|apply q_M|apply q_N|apply q_O)<;>try (intro _;try exact q_v)))
   all_goals first | omega | skip
   refine q_F ⟨(k - 1,false :: q,X),by simp only; omega,by simp; omega,by simp only; omega,?_⟩ ?_ (by simp only; omega)
   ·simp only
    rw [hd,← g4,B2_cons,if_neg (by decide),Nat.add_zero,Nat.mul_assoc]; omega
   ·simp only [hs0]
    exact q_D

end Go.Proofs.Ytncededjmcmidaa

namespace Go.Proofs.NatL
set_option linter.unusedSimpArgs false
set_option linter.unusedVariables false
end Go.Proofs.NatL
namespace Go.Proofs.Ytncededjmcmidaa
set_option linter.unusedSimpArgs false
set_option linter.unusedVariables false
open Go.Abs Go.Proofs.NatL
theorem bytes_inj {s t : ByteArray} (h : bytesOf s = bytesOf t) : s = t:=by
 have : s.data.toList = t.data.toList:=by
  have h2:=congrArg (List.map fun x : Int=>UInt8.ofNat x.toNat) h
  have key : ∀ l : List UInt8,(l.map fun b=>(b.toNat : Int)).map (fun x : Int=>UInt8.ofNat x.toNat) = l:=fun l=>by
   induction l with
   | nil=>rfl
   | cons x l ih=>simp only [List.map_cons,ih,Int.toNat_natCast,UInt8.ofNat_toNat]
  simp only [bytesOf,key] at h2
  exact h2
 exact ByteArray.ext (Array.toList_inj.1 this)
theorem str_eq (s t : ByteArray) : (s.toList == t.toList) = decide (bytesOf s = bytesOf t):=by
 rw [ByteArray.toList_eq,ByteArray.toList_eq]
 by_cases h : s = t
 ·subst h; simp
 ·rw [decide_eq_false (fun e=>h (bytes_inj e))]
  exact beq_eq_false_iff_ne.2 fun e=>h (ByteArray.ext (Array.toList_inj.1 e))
end Go.Proofs.Ytncededjmcmidaa

namespace Go.Abs
set_option linter.unusedSimpArgs false
set_option linter.unusedVariables false
open Go.RowKit
variable {P : Program}

def swp : List (Nat × Nat) → Nat → Nat
 | [],i=>i
 | (a,b) :: l,i=>if i == a then b else if i == b then a else swp l i
def swFresh (x : Nat) : List (Nat × Nat) → Bool
 | []=>true
 | (a,b) :: l=>!(a == x) && !(b == x) && swFresh x l
def swOk : List (Nat × Nat) → Bool
 | []=>true
 | (a,b) :: l=>!(a == b) && swFresh a l && swFresh b l && swOk l
def swLt (n : Nat) : List (Nat × Nat) → Bool
 | []=>true
 | (a,b) :: l=>decide (a < n) && decide (b < n) && swLt n l
theorem swp_fresh {x i : Nat} : ∀ {l : List (Nat × Nat)},swFresh x l = true → i ≠ x → swp l i ≠ x
 | [],_,h=>h
 | (a,b) :: l,hf,h=>by
  simp only [swFresh,Bool.and_eq_true,Bool.not_eq_true',beq_eq_false_iff_ne] at hf
  unfold swp
  split
  ·exact hf.1.2
  ·split
   ·exact hf.1.1
   ·exact swp_fresh hf.2 h
theorem swp_swp : ∀ {l : List (Nat × Nat)},swOk l = true → ∀ i,swp l (swp l i) = i
 | [],_,i=>rfl
 | (a,b) :: l,h,i=>by
  simp only [swOk,Bool.and_eq_true,Bool.not_eq_true',beq_eq_false_iff_ne] at h
  obtain ⟨⟨⟨h1,h2⟩,h3⟩,h4⟩:=h
  by_cases ha : i = a
  ·subst ha
   have e : swp ((i,b) :: l) i = b:=by simp [swp]
   rw [e]
   have hb : (b == i) = false:=by simp; omega
   simp [swp,hb]
  ·by_cases hb : i = b
   ·subst hb
    have hia : (i == a) = false:=by simp; omega
    have e : swp ((a,i) :: l) i = a:=by simp [swp,hia]
    rw [e]; simp [swp]
   ·have e : swp ((a,b) :: l) i = swp l i:=by simp [swp,ha,hb]
    rw [e]
    have n1:=swp_fresh h2 ha
    have n2:=swp_fresh h3 hb
    have e2 : swp ((a,b) :: l) (swp l i) = swp l (swp l i):=by simp [swp,n1,n2]
    rw [e2]
    exact swp_swp h4 i
theorem swp_lt {n : Nat} : ∀ {l : List (Nat × Nat)},swLt n l = true → ∀ i,n ≤ i → swp l i = i
 | [],_,i,_=>rfl
 | (a,b) :: l,h,i,hi=>by
  simp only [swLt,Bool.and_eq_true,decide_eq_true_eq] at h
  have h1 : (i == a) = false:=by simp; omega
  have h2 : (i == b) = false:=by simp; omega
  simp only [swp,h1,h2,Bool.false_eq_true,if_false]
  exact swp_lt h.2 i hi

section
variable {f : Nat → Nat} {F : Fr} {H : Hp} {m : Mp} {w : World}
end
theorem fz_makeFunc {cf : Cfg} {st : St} {fn : Fn} {a b : Array Operand} : fzFor cf st (.makeFunc fn a b) = st:=rfl
attribute [go_sem] fz_makeFunc swp id
end Go.Abs

namespace Go.Abs
set_option linter.unusedSimpArgs false
set_option linter.unusedVariables false
open Go.RowKit
variable {P : Program}

def rbT (f : Nat → Nat) : TE → TE
 | .s x=>.s x
 | .own id ver=>.own (f id) ver
 | .bx id off=>.bx id off
 | .mp id=>.mp id
 | .ln x=>.ln x
 | .u=>.u
def rbA (f : Nat → Nat) : AV → AV
 | .c x=>.c x
 | .g x=>.g x
 | .t x=>.t x
 | .bx id off=>.bx id off
 | .mp id=>.mp id
 | .own id ver=>.own (f id) ver
 | .fn g caps=>.fn g (caps.map (rbT f))
 | .tt l=>.tt (l.map (rbT f))
 | .gt _=>.u
 | .lw _=>.u
 | .mc con=>.mc con
 | .oel id ver i off=>.oel (f id) ver i off
 | .win id ver lo len=>.win (f id) ver lo len
 | .bw k lo len=>.bw k lo len
 | .bel k i off=>.bel k i off
 | .el xs=>.el xs
 | .anc id b=>.anc id b
 | .ln x=>.ln x
 | .lk id ver v=>.lk (f id) ver v
 | .vf c=>.vf c
 | .u=>.u
def rbH (f : Nat → Nat) (H : Hp) : Hp:=⟨H.box.map fun p=>(p.1,p.2.map (rbA f)),H.buf.map fun p=>(f p.1,id p.2),H.bor⟩
def rbM (f : Nat → Nat) (m : Mp) : Mp:=⟨m.bx,fun i=>m.bf (f i)⟩
def rbSt (f : Nat → Nat) (st : St) : St:=⟨st.n,st.sl.map fun p=>(p.1,rbA f p.2),rbH f st.H,st.nx⟩
section
variable {f : Nat → Nat} {F : Fr} {H : Hp} {m : Mp} {w : World}
theorem rb_own (hf : ∀ i,f (f i) = i) (b : Nat) : Own (rbM f m) b ↔ Own m b:=by
 unfold Own rbM
 constructor
 ·rintro (⟨i,h⟩ | ⟨i,v,h,h2⟩)
  ·exact .inl ⟨_,h⟩
  ·exact .inr ⟨_,v,h,h2⟩
 ·rintro (⟨i,h⟩ | ⟨i,v,h,h2⟩)
  ·exact .inl ⟨i,h⟩
  ·exact .inr ⟨f i,v,by simpa only [hf] using h,h2⟩
theorem rb_S (hf : ∀ i,f (f i) = i) : F.S (rbM f m) = F.S m:=by
 funext b
 unfold Fr.S
 rw [propext (rb_own hf b)]
theorem rb_inj (hf : ∀ i,f (f i) = i) : ∀ i j,f i = f j → i = j:=fun i j h=>by rw [← hf i,h,hf j]
theorem rb_buf (hf : ∀ i,f (f i) = i) (i : Nat) : look (rbH f H).buf (f i) = look H.buf i:=by
 rw [rbH]
 have:=look_mapk f (fun B : Buf=>id B) (rb_inj hf) H.buf i
 rw [this]
 cases look H.buf i <;> rfl
theorem rb_box (i : Nat) : look (rbH f H).box i = (look H.box i).map (·.map (rbA f)):=look_map (fun cs : List AV=>cs.map (rbA f)) H.box i
theorem rb_bxm (_hf : ∀ i,f (f i) = i) (i : Nat) : (rbM f m).bx i = m.bx i:=rfl
theorem rb_bfm (hf : ∀ i,f (f i) = i) (i : Nat) : (rbM f m).bf (f i) = m.bf i:=by simp only [rbM,hf]
theorem rb_repT (hf : ∀ i,f (f i) = i) {x : TE} {v : Value} (h : RepT F H m w x v) : RepT F (rbH f H) (rbM f m) w (rbT f x) v:=by
 cases x with
 | s x=>simp only [RepT,rbT,rb_S hf] at h ⊢; exact h
 | own id ver=>simp only [RepT,rbT,rb_buf hf,rb_bfm hf] at h ⊢; exact h
 | bx id off=>simp only [RepT,rbT,rb_bxm hf] at h ⊢; exact h
 | mp id=>simp only [RepT,rbT,rb_bxm hf] at h ⊢; exact h
 | ln x=>exact h
 | u=>trivial
theorem rb_get {l : List TE} {j : Nat} {y : TE} (h : (l.map (rbT f))[j]? = some y) : ∃ x,l[j]? = some x ∧ y = rbT f x:=by
 rw [List.getElem?_map] at h
 cases hl : l[j]? with
 | none=>rw [hl] at h; cases h
 | some x=>rw [hl] at h; cases h; exact ⟨x,rfl,rfl⟩
theorem rb_rep (hf : ∀ i,f (f i) = i) {x : AV} {v : Value} (h : RepA F H m w x v) : RepA F (rbH f H) (rbM f m) w (rbA f x) v:=by
 cases x with
 | c x=>simp only [RepA,rbA,rb_S hf] at h ⊢; exact h
 | g x=>simp only [RepA,rbA,rb_S hf] at h ⊢; exact h
 | t x=>simp only [RepA,rbA,rb_S hf] at h ⊢; exact h
 | bx id off=>simp only [RepA,rbA,rb_bxm hf] at h ⊢; exact h
 | mp id=>simp only [RepA,rbA,rb_bxm hf] at h ⊢; exact h
 | own id ver=>simp only [RepA,rbA,rb_buf hf,rb_bfm hf] at h ⊢; exact h
 | oel id ver i off=>simp only [RepA,rbA,rb_buf hf,rb_bfm hf] at h ⊢; exact h
 | win id ver lo len=>simp only [RepA,rbA,rb_buf hf,rb_bfm hf] at h ⊢; exact h
 | bw k lo len=>simp only [RepA,rbA] at h ⊢; exact h
 | bel k i off=>simp only [RepA,rbA] at h ⊢; exact h
 | el xs=>simp only [RepA,rbA,rb_S hf] at h ⊢; exact h
 | anc id b=>simp only [RepA,rbA,rb_bxm hf] at h ⊢; exact h
 | ln x=>exact h
 | vf c=>simp only [RepA,rbA,rb_S hf] at h ⊢; exact h
 | lk id ver v=>simp only [RepA,rbA,rb_buf hf,rb_bfm hf] at h ⊢; exact h
 | mc con=>exact h
 | u=>trivial
 | fn g caps =>
  obtain ⟨vs,h1,h2,h3⟩:=h
  refine ⟨vs,h1,by rw [h2,List.length_map],fun j y u hy hu=>?_⟩
  obtain ⟨x,hx,rfl⟩:=rb_get hy
  exact rb_repT hf (h3 j x u hx hu)
 | gt l=>trivial
 | lw l=>trivial
 | tt l =>
  obtain ⟨vs,h1,h2,h3⟩:=h
  refine ⟨vs,h1,by rw [h2,List.length_map],fun j y u hy hu=>?_⟩
  obtain ⟨x,hx,rfl⟩:=rb_get hy
  exact rb_repT hf (h3 j x u hx hu)
theorem rb_boxIs (hf : ∀ i,f (f i) = i) {b : Nat} {cs : List AV} (h : BoxIs F H m w b cs) : BoxIs F (rbH f H) (rbM f m) w b (cs.map (rbA f)):=by
 cases hm : isM cs with
 | true =>
  obtain ⟨con,rfl⟩:=isM_some hm
  obtain ⟨es,ck,h1,h2⟩:=h
  exact ⟨es,ck,h1,by rw [rb_S hf]; exact h2⟩
 | false =>
  obtain ⟨arr,e,h1,h2,h3⟩:=h.cells hm
  refine BoxIs.of h1 (by rw [h2,List.length_map]) fun j x u hx hu=>?_
  rw [List.getElem?_map] at hx
  cases hl : cs[j]? with
  | none=>rw [hl] at hx; cases hx
  | some y =>
   rw [hl] at hx; cases hx
   exact ⟨(h3 j y u hl hu).1,rb_rep hf (h3 j y u hl hu).2⟩
theorem rb_hrep (hf : ∀ i,f (f i) = i) (h : HRep F H m w) : HRep F (rbH f H) (rbM f m) w where
 os:=h.os
 tape:=h.tape
 output:=h.output
 size:=h.size
 block:=h.block
 fresh:=fun b hb=>h.fresh b ((rb_own hf b).1 hb)
 gB:=h.gB
 brB:=h.brB
 bri:=h.bri
 ibb:=h.ibb
 ibf:=fun i j b v h1 h2=>h.ibf _ _ b v h1 h2
 iff:=fun i j b u v h1 h2 h3 h4=>rb_inj hf i j (h.iff _ _ b u v h1 h2 h3 h4)
 box:=fun i b hb=>by
  obtain ⟨cs,h1,h2⟩:=h.box _ b hb
  refine ⟨cs.map (rbA f),?_,rb_boxIs hf h2⟩
  rw [rb_box,h1]; rfl
 buf:=fun i v hv=>by
  obtain ⟨B,rs,xs,h1,h2⟩:=h.buf _ v hv
  refine ⟨B,rs,xs,?_,?_⟩
  ·have:=rb_buf (H:=H) hf (f i)
   rw [hf] at this
   rw [this]; exact h1
  ·rw [rb_S hf]; exact h2
 bor:=fun k v hv=>by
  obtain ⟨B,rs,xs,h1,h2⟩:=h.bor k v hv
  exact ⟨B,rs,xs,h1,by rw [rb_S hf]; exact h2⟩
theorem rb_look (l : List (Nat × AV)) (t : Nat) : look (l.map fun p=>(p.1,rbA f p.2)) t = (look l t).map (rbA f):=look_map (rbA f) l t
end
theorem fit_rb {l : List (Nat × Nat)} {st st' : St} (ho : swOk l = true) (hl : swLt st.nx l = true) (h : Fit (rbSt (swp l) st) st') : Fit st st':=by
 intro F m a w hs
 have hf:=swp_swp ho
 refine h F (rbM (swp l) m) a w ⟨hs.d,hs.sz,rb_hrep hf hs.h,fun i hi=>?_,fun t=>?_⟩
 ·have e:=swp_lt hl i hi
  obtain ⟨h1,h2⟩:=hs.fr i hi
  exact ⟨h1,by simp only [rbM,e]; exact h2⟩
 ·have e : (rbSt (swp l) st).get t = rbA (swp l) (st.get t):=by
   simp only [St.get,rbSt,rb_look]
   cases look st.sl t <;> rfl
  rw [e]
  exact rb_rep hf (hs.sl t)
def RoundR {ι : Type} (inv : ι → St) (μ : ι → Nat) (i : ι) (Q : Exit → St → Prop) : Exit → St → Prop
 | .normal,st=>∃ j,Fit st (inv j) ∧ μ j < μ i
 | e,st=>Q e st
theorem loop_rb {F : Fr} {Q : Exit → St → Prop} {st : St} {c : Code} {ι : Type} (inv : ι → St) (μ : ι → Nat) (i0 : ι) (h0 : FitP st (inv i0)) (hr : ∀ i,AWp P F c (RoundR inv μ i Q) (inv i)) : AWp P F (.loop c) Q st :=
 awp_loop inv μ i0 (fit_of h0) fun i=>awp_mono (hr i) fun e st' h=>by
  cases e with
  | normal=>exact h
  | _=>exact h
theorem roundr_n {ι : Type} {inv : ι → St} {μ : ι → Nat} {i : ι} {Q : Exit → St → Prop} {st : St} (l : List (Nat × Nat)) (j : ι) (h : FitP (rbSt (swp l) st) (inv j)) (hm : μ j < μ i) (ho : swOk l = true:=by rfl) (hl : swLt st.nx l = true:=by rfl) : RoundR inv μ i Q .normal st:=⟨j,fit_rb ho hl (fit_of h),hm⟩
theorem roundr_ret {ι : Type} {inv : ι → St} {μ : ι → Nat} {i : ι} {Q : Exit → St → Prop} {st : St} (h : Q .ret st) : RoundR inv μ i Q .ret st:=h
theorem roundr_exit {ι : Type} {inv : ι → St} {μ : ι → Nat} {i : ι} {Q : Exit → St → Prop} {st : St} {id : Nat} (h : Q (.exit id) st) : RoundR inv μ i Q (.exit id) st:=h
attribute [go_sem] rbA rbT rbH rbSt
theorem ends_gr {rvs : List ResultVar} {H' : Hp} {rs : List AV} {bs : Nat → Nat} {k : Nat} {st : St} (l : List (Nat × Nat)) (sl : List (Nat × AV)) (nx : Nat) (hfit : FitP (rbSt (swp l) st) ⟨st.n,sl ++ ancs bs k 0,H',nx⟩) (hres : resG P ⟨st.n,sl,H',nx⟩ rvs = some rs)
  (hall : (sl.all fun p=>decide (p.1 < 1000)) = true:=by rfl) (ho : swOk l = true:=by rfl) (hl : swLt st.nx l = true:=by rfl) : EndsG P rvs H' rs bs k .ret st:=⟨.inl rfl,sl,nx,fit_rb ho hl (fit_of hfit),hall,hres⟩
end Go.Abs

namespace Go.Abs
set_option linter.unusedSimpArgs false
set_option linter.unusedVariables false
open Go.RowKit
variable {P : Program}
theorem seq_cut2 {F : Fr} {Q : Exit → St → Prop} {st : St} {a0 a1 Y : Code} {ι : Type} (mid : ι → St) (h1 : ∀ Y',(∀ i,AWp P F Y' Q (mid i)) → AWp P F (.seq a0 (.seq a1 Y')) Q st) (h2 : ∀ i,AWp P F Y Q (mid i)) : AWp P F (.seq a0 (.seq a1 Y)) Q st:=h1 Y h2
theorem seq_cut4 {F : Fr} {Q : Exit → St → Prop} {st : St} {a0 a1 a2 a3 Y : Code} {ι : Type} (mid : ι → St) (h1 : ∀ Y',(∀ i,AWp P F Y' Q (mid i)) → AWp P F (.seq a0 (.seq a1 (.seq a2 (.seq a3 Y')))) Q st) (h2 : ∀ i,AWp P F Y Q (mid i)) : AWp P F (.seq a0 (.seq a1 (.seq a2 (.seq a3 Y)))) Q st:=h1 Y h2
theorem cut_fit {F : Fr} {Q : Exit → St → Prop} {st : St} {Y : Code} {ι : Type} {mid : ι → St} (hY : ∀ i,AWp P F Y Q (mid i)) (i : ι) (h : FitP st (mid i)) : AWp P F Y Q st:=awp_told (mid i) h (hY i)
end Go.Abs

namespace Go.Proofs.Ytncededjmcmidaa
set_option linter.unusedSimpArgs false
set_option linter.unusedVariables false
open Go.Abs Go.Proofs.NatL

abbrev sH (l : List Int) (k : Int) : Hp:=⟨[(0,[.c (.ints .i64 l),.c (.i .i64 k)])],[],[]⟩
theorem tm_facts (x n : Int) (hn : 0 < n) : -n < x.tmod n ∧ x.tmod n < n ∧ 0 ≤ x % n ∧ x % n < n ∧ (x.tmod n < 0 → x.tmod n + n = x % n) ∧ (¬ x.tmod n < 0 → x.tmod n = x % n):=by
 have h1:=Int.emod_nonneg x (show n ≠ 0 by omega)
 have h2:=Int.emod_lt_of_pos x hn
 have h3 : x.tmod n = x % n - if 0 ≤ x ∨ n ∣ x then 0 else (n.natAbs : Int):=by rw [Int.tmod_eq_emod]; split <;> simp_all
 split at h3
 ·omega
 ·rename_i hc
  have h4 : x % n ≠ 0:=fun e=>hc (.inr (Int.dvd_of_emod_eq_zero e))
  omega
theorem next_none (l : List Int) (k : Int) (n : Int) (hc : (l.length : Int) ≤ k) :
  RetG Try.prog 13 (sH l k) [.bx 0 0,.c (.i .i64 n)] (sH l k) [.c (.i .i64 0)]:=by
 (refine ret_ge Try.func13 (fun F bs=>?_); simp only [avSl,ancs,hnx,Nat.reduceAdd,Nat.reduceLeDiff,if_true,if_false,List.length_cons,List.length_nil,List.cons_append,List.nil_append,Try.ntmps13,Try.results13])
 repeat' (first|with_reducible refine q_0 ?_|((with_reducible first|refine q_q cf0_ok fun K hK=>?_|refine q_r cf0_ok fun K hK=>?_);simp (maxSteps:=2000000) only [go_sem,↓reduceIte,reduceCtorEq,Nat.reduceLeDiff,Nat.reduceLT,Nat.reduceBEq,Nat.reduceAdd];(repeat1' with_reducible first|apply And.intro|(intro _;try exact q_v)|(refine hK _ ?_;clear hK K))<;>(try (clear hK K;exact q_u)))|(with_reducible refine q_s ?_;(first|apply q_J|apply q_K|apply q_L|apply q_M|apply q_N|apply q_O)<;>try (intro _;try exact q_v)))
 all_goals first | omega | exact ends_g [(4,.c (.i .i64 0))] 1 (by exact q_D) rfl | skip
theorem next_some (l : List Int) (k : Int) (n : Int) (hn : 0 < n) (hn2 : n ≤ 4611686018427387904) (hk0 : 0 ≤ k) (hk : k < l.length) (hl : l.length ≤ 140737488355328) :
  RetG Try.prog 13 (sH l k) [.bx 0 0,.c (.i .i64 n)] (sH l (k + 1)) [.c (.i .i64 (l.getD k.toNat 0 % n))]:=by
 obtain ⟨t1,t2,_,_,t3,t4⟩:=tm_facts (l.getD k.toNat 0) n hn
 generalize l.getD k.toNat 0 % n = z at *
 (refine ret_ge Try.func13 (fun F bs=>?_); simp only [avSl,ancs,hnx,Nat.reduceAdd,Nat.reduceLeDiff,if_true,if_false,List.length_cons,List.length_nil,List.cons_append,List.nil_append,Try.ntmps13,Try.results13])
 repeat' (first|with_reducible refine q_0 ?_|((with_reducible first|refine q_q cf0_ok fun K hK=>?_|refine q_r cf0_ok fun K hK=>?_);simp (maxSteps:=2000000) only [go_sem,↓reduceIte,reduceCtorEq,Nat.reduceLeDiff,Nat.reduceLT,Nat.reduceBEq,Nat.reduceAdd];(repeat1' with_reducible first|apply And.intro|(intro _;try exact q_v)|(refine hK _ ?_;clear hK K))<;>(try (clear hK K;exact q_u)))|(with_reducible refine q_s ?_;(first|apply q_J|apply q_K|apply q_L|apply q_M|apply q_N|apply q_O)<;>try (intro _;try exact q_v)))
 all_goals first | omega | (rw [t3 (by assumption)]; exact ends_g [(4,.c (.i .i64 z))] 1 (by exact q_D) rfl) | (rw [t4 (by assumption)]; exact ends_g [(4,.c (.i .i64 z))] 1 (by exact q_D) rfl)
def okSd (l : List Int) (k : Int) : Prop:=0 ≤ k ∧ k ≤ l.length ∧ l.length ≤ 140737488355328
def nxV (l : List Int) (k n : Int) : Int:=if (l.length : Int) ≤ k then 0 else l.getD k.toNat 0 % n
def nxK (l : List Int) (k : Int) : Int:=if (l.length : Int) ≤ k then k else k + 1
theorem nxV_in (l : List Int) (k : Int) {n : Int} (hn : 0 < n) : 0 ≤ nxV l k n ∧ nxV l k n < n:=by
 unfold nxV
 have t:=tm_facts (l.getD k.toNat 0) n hn
 split
 ·exact ⟨Int.le_refl _,hn⟩
 ·exact ⟨t.2.2.1,t.2.2.2.1⟩
theorem nxK_ok {l : List Int} {k : Int} (h : okSd l k) : okSd l (nxK l k):=by
 unfold nxK
 obtain ⟨h1,h2,h3⟩:=h
 split
 ·exact ⟨h1,h2,h3⟩
 ·exact ⟨by omega,by omega,h3⟩
theorem next_ret (l : List Int) (k n : Int) (h : okSd l k) (hn : 0 < n) (hn2 : n ≤ 4611686018427387904) :
  RetG Try.prog 13 (sH l k) [.bx 0 0,.c (.i .i64 n)] (sH l (nxK l k)) [.c (.i .i64 (nxV l k n))]:=by
 unfold nxV nxK
 obtain ⟨h1,h2,h3⟩:=h
 by_cases hc : (l.length : Int) ≤ k
 ·rw [if_pos hc,if_pos hc]; exact next_none l k n hc
 ·rw [if_neg hc,if_neg hc]; exact next_some l k n hn hn2 h1 (by omega) h3
def nextCT : CT:=mkCTG fun H al K=>match H,al with
 | ⟨[(0,[.c (.ints .i64 l),.c (.i .i64 k)])],[],[]⟩,[.bx 0 0,.c (.i .i64 n)]=>(okSd l k ∧ 0 < n ∧ n ≤ 4611686018427387904) ∧ (0 ≤ nxV l k n → nxV l k n < n → okSd l (nxK l k) → K (sH l (nxK l k)) [.c (.i .i64 (nxV l k n))])
 | _,_=>False
def h1t : Cfg:=addT 13 nextCT cf0
theorem h1t_ok : TblOk Try.prog h1t:=ctg_ok cf0_ok Try.func13 fun H al K h=>by
 split at h
 ·rename_i l k n
  obtain ⟨⟨h1,h4,h5⟩,hK⟩:=h
  have t:=nxV_in l k h4
  exact ⟨_,_,next_ret l k n h1 h4 h5,hK t.1 t.2 (nxK_ok h1)⟩
 ·exact h.elim
end Go.Proofs.Ytncededjmcmidaa

namespace Go.Proofs.Ytncededjmcmidaa
set_option linter.unusedSimpArgs false
set_option linter.unusedVariables false
open Go.Proofs.NatL

structure BitOp (op : Nat → Nat → Nat) : Prop where
 lt : ∀ k x y,x < 2 ^ k → y < 2 ^ k → op x y < 2 ^ k
 split : ∀ k x y s t,x < 2 ^ k → y < 2 ^ k → op (x + 2 ^ k * s) (y + 2 ^ k * t) = op x y + 2 ^ k * op s t

theorem BitOp.zero {op : Nat → Nat → Nat} (h : BitOp op) : op 0 0 = 0:=by
 have:=h.split 0 0 0 0 0 (by simp) (by simp)
 simp at this; omega

def lo (k : Nat) (a : Int) : Nat:=(a % ((2 ^ k : Nat) : Int)).toNat
def FitK (k : Nat) (a : Int) : Prop := -((2 ^ k : Nat) : Int) ≤ a ∧ a < ((2 ^ k : Nat) : Int)
theorem FitK.mono {k m : Nat} {a : Int} (h : FitK k a) (hm : k ≤ m) : FitK m a:=by
 have:=Nat.pow_le_pow_right (n:=2) (by omega) hm
 unfold FitK at *; omega
end Go.Proofs.Ytncededjmcmidaa

namespace Go.Abs
set_option linter.unusedSimpArgs false
set_option linter.unusedVariables false
variable {P : Program}
end Go.Abs
namespace Go.Proofs.Ytncededjmcmidaa
set_option linter.unusedSimpArgs false
set_option linter.unusedVariables false
open Go.Proofs.NatL

def bits (n v : Nat) : List Bool:=(List.range n).map fun i=>v.testBit i
end Go.Proofs.Ytncededjmcmidaa
