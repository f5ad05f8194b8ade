import Derived.Test.YtgkajjifbcmoeaaGreatDoorP8
namespace Go.Proofs.YtgkajjifbcmoeaaGreatDoor
set_option linter.unusedSimpArgs false
set_option linter.unusedVariables false
open Go.Abs Go.Proofs.NatL
theorem toNat2 : (2 : Int).toNat = 2:=rfl
attribute [go_sem] dg_head tmod2 toNat2 Bool.toNat_false Bool.toNat_true
set_option maxHeartbeats 800000 in
theorem halve_ret (xs : List Int) (d : Nat) (hx : xs.length ≤ 4194304) (bx : InB 65536 xs) (d0 : 0 < d) (d1 : d < 65536) :
  Ret Tryz.prog 121 false [.inl (.ints .i64 xs),.inl (.i .i64 d)] (.t [.inl (.ints .i64 (dg 65536 (V 65536 xs / d))),.inl (.i .i64 ((V 65536 xs % d : Nat) : Int))]):=by
 (refine q_H Tryz.func121 (fun F=>?_); simp only [q_z,q_y,Tryz.ntmps121,Tryz.results121])
 repeat' (first|with_reducible refine q_0 ?_|((with_reducible first|refine q_q rf1_ok fun K hK=>?_|refine q_r rf1_ok fun K hK=>?_);simp (maxSteps:=2000000) only [go_sem,↓reduceIte,reduceCtorEq,Nat.reduceLeDiff,Nat.reduceLT,Nat.reduceBEq,Nat.reduceAdd];(repeat1' with_reducible first|apply And.intro|intro _|(refine hK _ ?_;clear hK K))<;>(try (clear hK K;exact q_u)))|(with_reducible refine q_s ?_;(first|apply q_J|apply q_K|apply q_L|apply q_M|apply q_N|apply q_O)<;>try intro _))
 refine q_G (ι:={ p : Nat × List Int × Nat // p.1 ≤ xs.length ∧ p.2.1.length = xs.length ∧ InB 65536 p.2.1 ∧ p.2.2 < d ∧ V 65536 (p.2.1.drop p.1) * d + p.2.2 = V 65536 (xs.drop p.1) }) (fun p=>⟨38,[(0,.c (.ints .i64 xs)),(1,.c (.i .i64 d)),(6,.own 0 0),(7,.c (.i .i64 (p.1.2.2 : Nat))),(8,.c (.i .i64 ((p.1.1 : Int) - 1)))],⟨[],[(0,⟨0,3,1,.ints .i64 p.1.2.1⟩)],[]⟩,1⟩) (fun p=>p.1.1) ⟨(xs.length,List.replicate xs.length 0,0),by simp,by simp,InB_replicate (by omega) _,d0,by simp [V]⟩ ?_ ?_
 ·exact q_D
 rintro ⟨⟨k,o,r⟩,g1,g2,g3,g4,g5⟩
 simp only at g1 g2 g3 g4 g5 ⊢
 have b1:=InB_getD (by omega) bx ((k : Int) - 1).toNat
 obtain ⟨x,hxx⟩ : ∃ x : Nat,xs.getD ((k : Int) - 1).toNat 0 = x:=⟨(xs.getD ((k : Int) - 1).toNat 0).toNat,by omega⟩
 have hx2 : x < 65536:=by omega
 have hq : ((r : Int) * 65536 + xs.getD ((k : Int) - 1).toNat 0).tdiv (d : Int) = (((r * 65536 + x) / d : Nat) : Int):=by
  rw [hxx,Int.tdiv_eq_ediv_of_nonneg (by omega)]; simp
 have hr : ((r : Int) * 65536 + xs.getD ((k : Int) - 1).toNat 0).tmod (d : Int) = (((r * 65536 + x) % d : Nat) : Int):=by
  rw [hxx,Int.tmod_eq_emod_of_nonneg (by omega)]; simp
 have hlt : (r * 65536 + x) / d < 65536:=by
  rw [Nat.div_lt_iff_lt_mul d0]
  have h1 : (r + 1) * 65536 ≤ d * 65536:=Nat.mul_le_mul_right _ g4
  omega
 have hmod:=Nat.mod_lt (r * 65536 + x) d0
 have hdm:=Nat.div_add_mod (r * 65536 + x) d
 generalize (r * 65536 + x) / d = Q at *
 generalize (r * 65536 + x) % d = R at *
 repeat' (first|with_reducible refine q_0 ?_|((with_reducible first|refine q_q rf1_ok fun K hK=>?_|refine q_r rf1_ok fun K hK=>?_);simp (maxSteps:=2000000) only [go_sem,↓reduceIte,reduceCtorEq,Nat.reduceLeDiff,Nat.reduceLT,Nat.reduceBEq,Nat.reduceAdd];(repeat1' with_reducible first|apply And.intro|intro _|(refine hK _ ?_;clear hK K))<;>(try (clear hK K;exact q_u)))|(with_reducible refine q_s ?_;(first|apply q_J|apply q_K|apply q_L|apply q_M|apply q_N|apply q_O)<;>try intro _))
 ·rename_i ha
  have e : ((k : Int) - 1).toNat = k - 1:=by omega
  rw [hq,hr,e]
  rw [e] at hxx
  refine q_F ⟨(k - 1,o.set (k - 1) (Q : Int),R),by simp only; omega,by simp [g2],InB_set g3 _ (by omega) (by omega),hmod,?_⟩ ?_ ?_
  ·simp only
   refine short_step 65536 (k - 1) d o xs r _ _ x (by omega) g2 (by rw [show k - 1 + 1 = k by omega]; exact g5) (by rw [hxx]; simp) ?_
   rw [Nat.mul_comm]; exact hdm
  ·exact q_D
  ·show k - 1 < k
   omega
 ·rename_i ha
  have hk : k = 0:=by omega
  subst hk
  simp only [List.drop_zero] at g5
  refine q_A ?_
  simp only [resAV]
  rw [trimL_eq 65536 (by omega) _ g3,← g5]
  have h1 : (V 65536 o * d + r) / d = V 65536 o:=by rw [Nat.mul_comm,Nat.mul_add_div d0,Nat.div_eq_of_lt g4]; simp
  have h2 : (V 65536 o * d + r) % d = r:=by rw [Nat.mul_comm,Nat.mul_add_mod]; exact Nat.mod_eq_of_lt g4
  rw [h1,h2]

set_option maxHeartbeats 800000 in
theorem double_ret (xs : List Int) (one : Bool) (hx : xs.length ≤ 4194304) (bx : InB 65536 xs) :
  Ret Tryz.prog 129 false [.inl (.ints .i64 xs),.inl (.b one)] (.c (.ints .i64 (dg 65536 (2 * V 65536 xs + one.toNat)))):=by
 (refine q_H Tryz.func129 (fun F=>?_); simp only [q_z,q_y,Tryz.ntmps129,Tryz.results129])
 refine q_a ?_
 ((first | with_reducible refine q_q rf1_ok (fun K hK=>?_) | with_reducible refine awp_region_draw rf1_ok mixed (by kernel_rfl) (fun K hK=>?_)); (simp (maxSteps:=2000000) only [go_sem,↓reduceIte,reduceCtorEq,Nat.reduceLeDiff,Nat.reduceLT,Nat.reduceBEq,Nat.reduceAdd]); (first | with_reducible apply And.intro | with_reducible intro _ | (with_reducible refine hK _ ?_; clear hK K)) <;> (repeat' (first | with_reducible apply And.intro | with_reducible intro _ | (with_reducible refine hK _ ?_; clear hK K))) <;> (try (clear hK K; first | omega | assumption | ((simp (disch:=omega) only [Int.tdiv_eq_ediv_of_nonneg,Int.tmod_eq_emod_of_nonneg]); omega))))
 refine q_b (q_a ?_)
 ((first | with_reducible refine q_q rf1_ok (fun K hK=>?_) | with_reducible refine awp_region_draw rf1_ok mixed (by kernel_rfl) (fun K hK=>?_)); (simp (maxSteps:=2000000) only [go_sem,↓reduceIte,reduceCtorEq,Nat.reduceLeDiff,Nat.reduceLT,Nat.reduceBEq,Nat.reduceAdd]); (first | with_reducible apply And.intro | with_reducible intro _ | (with_reducible refine hK _ ?_; clear hK K)) <;> (repeat' (first | with_reducible apply And.intro | with_reducible intro _ | (with_reducible refine hK _ ?_; clear hK K))) <;> (try (clear hK K; first | omega | assumption | ((simp (disch:=omega) only [Int.tdiv_eq_ediv_of_nonneg,Int.tmod_eq_emod_of_nonneg]); omega))))
 refine q_b ?_
 refine seq_join (ι:={ c : Nat // c = one.toNat }) (fun c=>⟨38,[(0,.c (.ints .i64 xs)),(5,.c (.i .i64 (c.1 : Nat)))],⟨[],[],[]⟩,0⟩) ?_ ?_
 ·repeat' (first|with_reducible refine q_0 ?_|((with_reducible first|refine q_q rf1_ok fun K hK=>?_|refine q_r rf1_ok fun K hK=>?_);simp (maxSteps:=2000000) only [go_sem,↓reduceIte,reduceCtorEq,Nat.reduceLeDiff,Nat.reduceLT,Nat.reduceBEq,Nat.reduceAdd];(repeat1' with_reducible first|apply And.intro|intro _|(refine hK _ ?_;clear hK K))<;>(try (clear hK K;exact q_u)))|(with_reducible refine q_s ?_;(first|apply q_J|apply q_K|apply q_L|apply q_M|apply q_N|apply q_O)<;>try intro _))
  ·rename_i h
   refine join_n ⟨1,by rw [h]; rfl⟩ ?_
   exact q_D
  ·rename_i h
   refine join_n ⟨0,by cases one <;> simp_all⟩ ?_
   exact q_D
 rintro ⟨c0,hc0⟩
 simp only at hc0 ⊢
 have hc1 : c0 ≤ 1:=by rw [hc0]; cases one <;> decide
 rw [← hc0]
 repeat' (first|with_reducible refine q_0 ?_|((with_reducible first|refine q_q rf1_ok fun K hK=>?_|refine q_r rf1_ok fun K hK=>?_);simp (maxSteps:=2000000) only [go_sem,↓reduceIte,reduceCtorEq,Nat.reduceLeDiff,Nat.reduceLT,Nat.reduceBEq,Nat.reduceAdd];(repeat1' with_reducible first|apply And.intro|intro _|(refine hK _ ?_;clear hK K))<;>(try (clear hK K;exact q_u)))|(with_reducible refine q_s ?_;(first|apply q_J|apply q_K|apply q_L|apply q_M|apply q_N|apply q_O)<;>try intro _))
 refine q_G (ι:={ p : Nat × List Int × Nat // p.1 ≤ xs.length ∧ p.2.1.length = p.1 ∧ InB 65536 p.2.1 ∧ p.2.2 ≤ 1 ∧ V 65536 p.2.1 + 65536 ^ p.1 * p.2.2 = V 65536 (xs.take p.1) * 2 + c0 }) (fun p=>⟨38,[(0,.c (.ints .i64 xs)),(5,.c (.i .i64 (p.1.2.2 : Nat))),(6,.own 0 0),(7,.c (.i .i64 (p.1.1 : Nat)))],⟨[],[(0,⟨0,3,1,.ints .i64 p.1.2.1⟩)],[]⟩,1⟩) (fun p=>xs.length - p.1.1) ⟨(0,[],c0),by simp,rfl,InB_nil _,hc1,by simp [V]⟩ ?_ ?_
 ·exact q_D
 rintro ⟨⟨i,o,c⟩,g1,g2,g3,g4,g5⟩
 simp only at g1 g2 g3 g4 g5 ⊢
 have b1:=InB_getD (by omega) bx i
 obtain ⟨x,hxx⟩ : ∃ x : Nat,xs.getD i 0 = x:=⟨(xs.getD i 0).toNat,by omega⟩
 have hq : (2 * xs.getD i 0 + (c : Int)).tdiv 65536 = (((2 * x + c) / 65536 : Nat) : Int):=by
  rw [hxx,Int.tdiv_eq_ediv_of_nonneg (by omega)]; omega
 have hr : (2 * xs.getD i 0 + (c : Int)).tmod 65536 = (((2 * x + c) % 65536 : Nat) : Int):=by
  rw [hxx,Int.tmod_eq_emod_of_nonneg (by omega)]; omega
 repeat' (first|with_reducible refine q_0 ?_|((with_reducible first|refine q_q rf1_ok fun K hK=>?_|refine q_r rf1_ok fun K hK=>?_);simp (maxSteps:=2000000) only [go_sem,↓reduceIte,reduceCtorEq,Nat.reduceLeDiff,Nat.reduceLT,Nat.reduceBEq,Nat.reduceAdd];(repeat1' with_reducible first|apply And.intro|intro _|(refine hK _ ?_;clear hK K))<;>(try (clear hK K;exact q_u)))|(with_reducible refine q_s ?_;(first|apply q_J|apply q_K|apply q_L|apply q_M|apply q_N|apply q_O)<;>try intro _))
 ·rename_i ha
  rw [hq,hr]
  refine q_F ⟨(i + 1,o ++ [(((2 * x + c) % 65536 : Nat) : Int)],(2 * x + c) / 65536),by simp only; omega,by simp [g2],InB_snoc g3 (by omega) (by omega),by simp only; omega,dbl_step 65536 i o xs c ((2 * x + c) % 65536) ((2 * x + c) / 65536) c0 g5 g2 (by rw [hxx,Int.toNat_natCast]; omega)⟩ ?_ (by simp only; omega)
  exact q_D
 ·rename_i ha hb
  have hi : i = xs.length:=by omega
  refine q_A ?_
  simp only [resAV,q_y]
  rw [trimL_eq 65536 (by omega) _ (InB_snoc g3 (by omega) (by omega)),V_snoc,g2,Int.toNat_natCast,g5,hi,List.take_length,Nat.mul_comm]
 ·rename_i ha hb
  have hi : i = xs.length:=by omega
  have hc : c = 0:=by omega
  refine q_A ?_
  simp only [resAV,q_y]
  rw [hc,Nat.mul_zero,Nat.add_zero,hi,List.take_length] at g5
  rw [trimL_eq 65536 (by omega) _ g3,g5,Nat.mul_comm]

def halveCT : CT:=mkCT [.inl (some (.ints .i64 []))] false fun l K=>match l with
 | [.inl (.ints .i64 xs),.inl (.i .i64 d)]=>(xs.length ≤ 4194304 ∧ InB 65536 xs ∧ 0 < d ∧ d < 65536) ∧ K (.t [.inl (.ints .i64 (dg 65536 (V 65536 xs / d.toNat))),.inl (.i .i64 ((V 65536 xs % d.toNat : Nat) : Int))])
 | _=>False
def rg1 : Cfg:=addT 121 halveCT cf0
theorem rg1_ok : TblOk Tryz.prog rg1:=q_I cf0_ok Tryz.func121 fun l K h=>by
 split at h
 ·rename_i xs d
  obtain ⟨d,rfl⟩ : ∃ n : Nat,d = n:=⟨d.toNat,by omega⟩
  exact ⟨_,halve_ret _ d h.1.1 h.1.2.1 (by omega) (by omega),by simpa using h.2⟩
 ·exact h.elim
def doubleCT : CT:=mkCT [.inl (some (.ints .i64 []))] false fun l K=>match l with
 | [.inl (.ints .i64 xs),.inl (.b one)]=>(xs.length ≤ 4194304 ∧ InB 65536 xs) ∧ K (.c (.ints .i64 (dg 65536 (2 * V 65536 xs + one.toNat))))
 | _=>False
def rg2 : Cfg:=addT 129 doubleCT cf0
theorem rg2_ok : TblOk Tryz.prog rg2:=q_I cf0_ok Tryz.func129 fun l K h=>by
 split at h
 ·exact ⟨_,double_ret _ _ h.1.1 h.1.2,h.2⟩
 ·exact h.elim
attribute [go_sem] halveCT doubleCT
def tb15 : Cfg:=listT [(121,halveCT),(129,doubleCT),(128,rcmpCT),(131,(rnumCT (fun _ _=>True) (· + ·))),(181,(rnumCT (fun xs ys=>V 65536 ys ≤ V 65536 xs) (· - ·)))] [34]
theorem tb15_ok : TblOk Tryz.prog tb15:=listE_ok (by simp only [List.mem_singleton,forall_eq]; exact flt) ⟨⟨rg1,rg1_ok,rfl⟩,⟨rg2,rg2_ok,rfl⟩,⟨db7,db7_ok,rfl⟩,⟨db8,db8_ok,rfl⟩,⟨db10,db10_ok,rfl⟩,trivial⟩
attribute [go_sem] tb15
set_option maxRecDepth 100000 in
set_option maxHeartbeats 1600000 in
theorem common_ret (A B : Nat) (hA : (dg 65536 A).length ≤ 1048576) (hB : (dg 65536 B).length ≤ 1048576) :
  Ret Tryz.prog 133 false [.inl (.ints .i64 (dg 65536 A)),.inl (.ints .i64 (dg 65536 B))] (.c (.ints .i64 (dg 65536 (Nat.gcd A B)))):=by
 have hG : (dg 65536 (Nat.gcd A B)).length ≤ 1048576:=by
  rcases Nat.eq_zero_or_pos A with h | h
  ·subst h; rw [Nat.gcd_zero_left]; exact hB
  ·exact Nat.le_trans (dg_len_mono (by omega) (Nat.gcd_le_left B h)) hA
 (refine q_H Tryz.func133 (fun F=>?_); simp only [q_z,q_y,Tryz.ntmps133,Tryz.results133])
 repeat' (first|with_reducible refine q_0 ?_|((with_reducible first|refine q_q tb15_ok fun K hK=>?_|refine q_r tb15_ok fun K hK=>?_);simp (maxSteps:=2000000) only [go_sem,↓reduceIte,reduceCtorEq,Nat.reduceLeDiff,Nat.reduceLT,Nat.reduceBEq,Nat.reduceAdd];(repeat1' with_reducible first|apply And.intro|intro _|(refine hK _ ?_;clear hK K))<;>(try (clear hK K;exact q_u)))|(with_reducible refine q_s ?_;(first|apply q_J|apply q_K|apply q_L|apply q_M|apply q_N|apply q_O)<;>try intro _))
 refine q_G (ι:={ p : Nat × Nat × Nat // p.1 * 2 ^ p.2.2 ≤ A ∧ p.2.1 ≤ B ∧ Nat.gcd p.1 p.2.1 * 2 ^ p.2.2 = Nat.gcd A B ∧ p.2.2 ≤ 16777216 }) (fun p=>⟨83,[(0,.c (.ints .i64 (dg 65536 p.1.1))),(1,.c (.ints .i64 (dg 65536 p.1.2.1))),(5,.c (.i .i64 (p.1.2.2 : Nat)))],⟨[],[],[]⟩,0⟩) (fun p=>p.1.1 + p.1.2.1) ⟨(A,B,0),by simp,by simp,by simp,by simp⟩ ?_ ?_
 ·exact q_D
 rintro ⟨⟨a,b,t⟩,g1,g2,g3,g4⟩
 simp only at g1 g2 g3 g4 ⊢
 have p0 : 0 < 2 ^ t:=Nat.pow_pos (by omega)
 have ga : a ≤ A:=Nat.le_trans (Nat.le_mul_of_pos_right a p0) g1
 have la:=Nat.le_trans (dg_len_mono (B:=65536) (by omega) ga) hA
 have lb:=Nat.le_trans (dg_len_mono (B:=65536) (by omega) g2) hB
 have ka:=dg_len_pos 65536 a (by omega)
 have kb:=dg_len_pos 65536 b (by omega)
 have kc:=cmp3_ge a b
 have e1 : a % 65536 % 2 = a % 2:=by omega
 have e2 : b % 65536 % 2 = b % 2:=by omega
 have h2 : ∀ x,x % 2 = 0 → x / 2 * 2 ^ (t + 1) = x * 2 ^ t:=fun x hx=>by
  rw [Nat.pow_succ,← Nat.mul_assoc,Nat.mul_right_comm,show x / 2 * 2 = x by omega]
 have h3 : a / 2 * 2 ^ t ≤ A:=Nat.le_trans (Nat.mul_le_mul_right _ (by omega)) g1
 have h4 : (a - b) * 2 ^ t ≤ A:=Nat.le_trans (Nat.mul_le_mul_right _ (by omega)) g1
 have r1 : 0 < a → a % 2 = 0 → b % 2 = 0 → a / 2 * 2 ^ (t + 1) ≤ A ∧ b / 2 ≤ B ∧ Nat.gcd (a / 2) (b / 2) * 2 ^ (t + 1) = Nat.gcd A B ∧ t + 1 ≤ 16777216:=fun h0 ha hb=>by
  refine ⟨by rw [h2 a ha]; exact g1,by omega,?_,?_⟩
  ·rw [← g3,gcd_even2 ha hb,Nat.pow_succ,Nat.mul_assoc,Nat.mul_comm 2]
  ·have h5 : 2 ^ (t + 1) ≤ A:=by
    have h6:=h2 a ha
    have h7 : 1 * 2 ^ (t + 1) ≤ a / 2 * 2 ^ (t + 1):=Nat.mul_le_mul_right _ (by omega)
    omega
   have:=pow_le_len h5 hA
   omega
 have r2 : a % 2 = 0 → b % 2 = 1 → Nat.gcd (a / 2) b * 2 ^ t = Nat.gcd A B:=fun ha hb=>by rw [gcd_even1 ha hb,g3]
 have r3 : a % 2 = 1 → b % 2 = 0 → Nat.gcd a (b / 2) * 2 ^ t = Nat.gcd A B:=fun ha hb=>by rw [Nat.gcd_comm,gcd_even1 hb ha,Nat.gcd_comm,g3]
 have r4 : b ≤ a → Nat.gcd (a - b) b * 2 ^ t = Nat.gcd A B:=fun h=>by rw [Nat.gcd_sub_self_left h,g3]
 have r5 : a ≤ b → Nat.gcd a (b - a) * 2 ^ t = Nat.gcd A B:=fun h=>by rw [Nat.gcd_sub_self_right h,g3]
 have hend : a = 0 ∨ b = 0 → (a + b) * 2 ^ t = Nat.gcd A B:=fun h=>by
  rw [← g3]
  rcases h with h | h
  ·subst h; rw [Nat.gcd_zero_left,Nat.zero_add]
  ·subst h; rw [Nat.gcd_zero_right,Nat.add_zero]
 have lab:=add_len (B:=65536) (by omega) la lb
 repeat' (first|with_reducible refine q_0 ?_|((with_reducible first|refine q_q tb15_ok fun K hK=>?_|refine q_r tb15_ok fun K hK=>?_);simp (maxSteps:=2000000) only [go_sem,↓reduceIte,reduceCtorEq,Nat.reduceLeDiff,Nat.reduceLT,Nat.reduceBEq,Nat.reduceAdd];(repeat1' with_reducible first|apply And.intro|intro _|(refine hK _ ?_;clear hK K))<;>(try (clear hK K;exact q_u)))|(with_reducible refine q_s ?_;(first|apply q_J|apply q_K|apply q_L|apply q_M|apply q_N|apply q_O)<;>try intro _))
 all_goals (first
  | (exfalso; omega)
  | (refine q_F ⟨(a / 2,b / 2,t + 1),r1 (by omega) (by omega) (by omega)⟩ ?_ (by simp only; omega); exact q_D; done)
  | (refine q_F ⟨(a / 2,b,t),h3,g2,r2 (by omega) (by omega),g4⟩ ?_ (by simp only; omega); exact q_D; done)
  | (refine q_F ⟨(a,b / 2,t),g1,by simp only; omega,r3 (by omega) (by omega),g4⟩ ?_ (by simp only; omega); exact q_D; done)
  | (refine q_F ⟨(a - b,b,t),h4,g2,r4 (by omega),g4⟩ ?_ (by simp only; omega); exact q_D; done)
  | (refine q_F ⟨(a,b - a,t),g1,by simp only; omega,r5 (by omega),g4⟩ ?_ (by simp only; omega); exact q_D; done)
  | skip)
 all_goals (
  refine q_G (ι:={ p : Nat × Nat // p.1 ≤ 16777216 ∧ p.2 * 2 ^ p.1 = Nat.gcd A B }) (fun p=>⟨83,[(5,.c (.i .i64 (p.1.1 : Nat))),(6,.c (.ints .i64 (dg 65536 p.1.2)))],⟨[],[],[]⟩,0⟩) (fun p=>p.1.1) ⟨(t,a + b),g4,hend (by omega)⟩ (by exact q_D) ?_
  rintro ⟨⟨u,n⟩,q1,q2⟩
  simp only at q1 q2 ⊢
  have ln : (dg 65536 n).length ≤ 1048576:=Nat.le_trans (dg_len_mono (by omega) (by rw [← q2]; exact Nat.le_mul_of_pos_right _ (Nat.pow_pos (by omega)))) hG
  repeat' (first|with_reducible refine q_0 ?_|((with_reducible first|refine q_q tb15_ok fun K hK=>?_|refine q_r tb15_ok fun K hK=>?_);simp (maxSteps:=2000000) only [go_sem,↓reduceIte,reduceCtorEq,Nat.reduceLeDiff,Nat.reduceLT,Nat.reduceBEq,Nat.reduceAdd];(repeat1' with_reducible first|apply And.intro|intro _|(refine hK _ ?_;clear hK K))<;>(try (clear hK K;exact q_u)))|(with_reducible refine q_s ?_;(first|apply q_J|apply q_K|apply q_L|apply q_M|apply q_N|apply q_O)<;>try intro _))
  ·rename_i hu
   refine q_F ⟨(u - 1,2 * n),by simp only; omega,?_⟩ ?_ (by simp only; omega)
   ·simp only
    rw [← q2,Nat.mul_comm 2,Nat.mul_assoc,← Nat.pow_succ',Nat.succ_eq_add_one,show u - 1 + 1 = u by omega]
   ·exact q_D
  ·rename_i hu
   have hu0 : u = 0:=by omega
   subst hu0
   exact q_A (by simp only [resAV,q_y]; rw [← q2]; simp))

def commonCT : CT:=mkCT [.inl (some (.ints .i64 [])),.inl (some (.ints .i64 []))] false fun l K=>match l with
 | [.inl (.ints .i64 xs),.inl (.ints .i64 ys)]=>(xs.length ≤ 1048576 ∧ ys.length ≤ 1048576 ∧ InB 65536 xs ∧ InB 65536 ys ∧ Trd xs ∧ Trd ys) ∧ K (.c (.ints .i64 (dg 65536 (Nat.gcd (V 65536 xs) (V 65536 ys)))))
 | _=>False
def rg3 : Cfg:=addT 133 commonCT cf0
theorem rg3_ok : TblOk Tryz.prog rg3:=q_I cf0_ok Tryz.func133 fun l K h=>by
 split at h
 ·rename_i xs ys
  obtain ⟨⟨h1,h2,h3,h4,h5,h6⟩,h⟩:=h
  have ex:=dg_V 65536 (by omega) xs h3 h5
  have ey:=dg_V 65536 (by omega) ys h4 h6
  have:=common_ret (V 65536 xs) (V 65536 ys) (by rw [ex]; exact h1) (by rw [ey]; exact h2)
  rw [ex,ey] at this
  exact ⟨_,this,h⟩
 ·exact h.elim
attribute [go_sem] commonCT
end Go.Proofs.YtgkajjifbcmoeaaGreatDoor
