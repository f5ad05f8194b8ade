import Derived.Test.YtgkajjifbcmoeaaGreatDoorP8
namespace Go.Proofs.YtgkajjifbcmoeaaGreatDoor
set_option linter.unusedSimpArgs false
set_option linter.unusedVariables false
open Go.Abs Go.Proofs.NatL

def chunkCT : CT:=mkCT [] true fun l K=>match l with
 | [.inl (.i .i64 b)]=>(2 ≤ b ∧ b ≤ 36) ∧ ∀ n : Nat,0 < n ∧ n ≤ 32 ∧ b.toNat ^ n < 4294967296 → K (.t [.inl (.i .u32 ((b.toNat ^ n : Nat) : Int)),.inl (.i .i64 (n : Int))])
 | _=>False

theorem chunk_ex (b : Nat) (h1 : 2 ≤ b) (h2 : b ≤ 36) : ∀ m,4294967296 ≤ b ^ (m + 2) → ∃ n,b ^ (n + 1) < 4294967296 ∧ 4294967296 ≤ b ^ (n + 2)
 | 0,h=>⟨0,by simp only [Nat.zero_add,Nat.pow_one]; omega,h⟩
 | m + 1,h=>by
  rcases Nat.lt_or_ge (b ^ (m + 2)) 4294967296 with h3 | h3
  ·exact ⟨m + 1,h3,h⟩
  ·exact chunk_ex b h1 h2 m h3

set_option maxHeartbeats 800000 in
theorem chunk_ret (b : Nat) (h1 : 2 ≤ b) (h2 : b ≤ 36) : ∃ n : Nat,(0 < n ∧ n ≤ 32 ∧ b ^ n < 4294967296) ∧ Ret Tryz.prog 193 false [.inl (.i .i64 b)] (.t [.inl (.i .u32 ((b ^ n : Nat) : Int)),.inl (.i .i64 (n : Int))]):=by
 obtain ⟨n,hn1,hn2⟩:=chunk_ex b h1 h2 30 (by
  have : 2 ^ 32 ≤ b ^ 32:=Nat.pow_le_pow_left h1 _
  exact this)
 have hn32 : n + 1 ≤ 32:=by
  have h3 : 2 ^ (n + 1) ≤ b ^ (n + 1):=Nat.pow_le_pow_left h1 _
  have h4 : 2 ^ (n + 1) < 2 ^ 32:=by simp only [show (2 : Nat) ^ 32 = 4294967296 from rfl]; omega
  have:=(Nat.pow_lt_pow_iff_right (a:=2) (by omega)).1 h4
  omega
 refine ⟨n + 1,⟨by omega,hn32,hn1⟩,?_⟩
 (refine q_H Tryz.func193 (fun F=>?_); simp only [q_z,q_y,Tryz.ntmps193,Tryz.results193])
 repeat' (first|with_reducible refine q_0 ?_|((with_reducible first|refine q_q cf0_ok fun K hK=>?_|refine q_r cf0_ok fun K hK=>?_);simp (maxSteps:=2000000) only [go_sem,↓reduceIte,reduceCtorEq,Nat.reduceLeDiff,Nat.reduceLT,Nat.reduceBEq,Nat.reduceAdd];(repeat1' with_reducible first|apply And.intro|intro _|(refine hK _ ?_;clear hK K))<;>(try (clear hK K;exact q_u)))|(with_reducible refine q_s ?_;(first|apply q_J|apply q_K|apply q_L|apply q_M|apply q_N|apply q_O)<;>try intro _))
 refine q_G (ι:={ p : Nat × Nat // p.1 ≤ n ∧ p.2 = b ^ (p.1 + 1) }) (fun p=>⟨22,[(0,.c (.i .i64 b)),(4,.c (.i .u64 (p.1.2 : Nat))),(5,.c (.i .i64 ((p.1.1 : Int) + 1)))],⟨[],[],[]⟩,0⟩) (fun p=>n - p.1.1) ⟨(0,b),by simp,by simp⟩ ?_ ?_
 ·exact q_D
 rintro ⟨⟨k,P⟩,hk,hP⟩
 simp only at hk hP ⊢
 have hPn : P < 4294967296:=Nat.lt_of_le_of_lt (by rw [hP]; exact Nat.pow_le_pow_right (by omega) (by omega)) hn1
 have hQ : P * b = b ^ (k + 2):=by rw [hP,← Nat.pow_succ]
 have hQl : P * b ≤ 4294967295 * 36:=Nat.mul_le_mul (by omega) h2
 have e1 : ((P : Int) * ((b : Int) % 18446744073709551616)) % 18446744073709551616 = ((P * b : Nat) : Int):=by
  rw [show (b : Int) % 18446744073709551616 = b by omega,← Int.natCast_mul]; omega
 have hk1 : P * b < 4294967296 → k + 1 ≤ n:=fun h=>by
  rcases Nat.lt_or_ge k n with h3 | h3
  ·omega
  ·have : k = n:=by omega
   subst this; omega
 have hk2 : ¬ P * b < 4294967296 → k = n:=fun h=>by
  rcases Nat.lt_or_ge k n with h3 | h3
  ·have : b ^ (k + 2) ≤ b ^ (n + 1):=Nat.pow_le_pow_right (by omega) (by omega)
   omega
  ·omega
 generalize P * b = Q at *
 repeat' (first|with_reducible refine q_0 ?_|((with_reducible first|refine q_q cf0_ok fun K hK=>?_|refine q_r cf0_ok fun K hK=>?_);simp (maxSteps:=2000000) only [go_sem,↓reduceIte,reduceCtorEq,Nat.reduceLeDiff,Nat.reduceLT,Nat.reduceBEq,Nat.reduceAdd];(repeat1' with_reducible first|apply And.intro|intro _|(refine hK _ ?_;clear hK K))<;>(try (clear hK K;exact q_u)))|(with_reducible refine q_s ?_;(first|apply q_J|apply q_K|apply q_L|apply q_M|apply q_N|apply q_O)<;>try intro _))
 all_goals (try simp only [e1] at *)
 ·rename_i h
  refine q_F ⟨(k + 1,Q),hk1 (by omega),hQ⟩ ?_ (by simp only; have:=hk1 (by omega); omega)
  exact q_D
 ·rename_i h
  have hkn:=hk2 (by omega)
  subst hkn
  refine q_A ?_
  simp only [resAV,← hP]
  rw [show (P : Int) % 4294967296 = P by omega]; rfl

def ck1 : Cfg:=addT 193 chunkCT cf0
theorem ck1_ok : TblOk Tryz.prog ck1:=q_I cf0_ok Tryz.func193 fun l K h=>by
 split at h
 ·rename_i b
  obtain ⟨⟨h1,h2⟩,h⟩:=h
  obtain ⟨m,rfl⟩ : ∃ m : Nat,b = m:=⟨b.toNat,by omega⟩
  obtain ⟨n,hn,hr⟩:=chunk_ret m (by omega) (by omega)
  exact ⟨_,hr.plain rfl,by simpa using h n hn⟩
 ·exact h.elim
attribute [go_sem] chunkCT
theorem getD_set_self (xs : List Int) (i : Nat) (v : Int) (h : i < xs.length) : (xs.set i v).getD i 0 = v:=by
 simp [List.getD_eq_getElem?_getD,h]

set_option maxHeartbeats 800000 in
theorem reverse_ret (xs : List Int) (hx : xs.length ≤ 16777216) : RetW Tryz.prog 195 3 (.ints .i64 xs) 0 xs.length [] (.ints .i64 xs.reverse) []:=by
 (refine ret_win Tryz.func195 rfl (Nat.le_of_ble_eq_true rfl) rfl (fun F=>?_); simp only [q_z,q_y,Tryz.ntmps195,Tryz.results195])
 repeat' (first|with_reducible refine q_0 ?_|((with_reducible first|refine q_q cf0_ok fun K hK=>?_|refine q_r cf0_ok fun K hK=>?_);simp (maxSteps:=2000000) only [go_sem,↓reduceIte,reduceCtorEq,Nat.reduceLeDiff,Nat.reduceLT,Nat.reduceBEq,Nat.reduceAdd];(repeat1' with_reducible first|apply And.intro|intro _|(refine hK _ ?_;clear hK K))<;>(try (clear hK K;exact q_u)))|(with_reducible refine q_s ?_;(first|apply q_J|apply q_K|apply q_L|apply q_M|apply q_N|apply q_O)<;>try intro _)|with_reducible refine endsW_ret (by ((simp only [go_sem,↓reduceIte,reduceCtorEq,Nat.reduceLeDiff,Nat.reduceLT,Nat.reduceBEq,Nat.reduceAdd,ressO,resO,argsC]);rfl)) (by ((simp (maxSteps:=2000000) only [go_sem,↓reduceIte,reduceCtorEq,Nat.reduceLeDiff,Nat.reduceLT,Nat.reduceBEq,Nat.reduceAdd]);rfl)) rfl rfl rfl ?_ ?_)
 refine q_G (ι:={ p : Nat × List Int // 2 * p.1 ≤ xs.length + 1 ∧ p.2.length = xs.length ∧ ∀ k,k < xs.length → p.2.getD k 0 = if k < p.1 ∨ xs.length - p.1 ≤ k then xs.getD (xs.length - 1 - k) 0 else xs.getD k 0 })
  (fun p=>⟨28,[(0,.bw 0 0 xs.length),(2,.c (.i .i64 (p.1.1 : Nat))),(3,.c (.i .i64 ((xs.length : Int) - 1 - (p.1.1 : Nat))))],⟨[],[],[(0,⟨3,.ints .i64 p.1.2⟩)]⟩,0⟩) (fun p=>xs.length + 1 - 2 * p.1.1) ⟨(0,xs),by simp,rfl,fun k hk=>by simp only [Nat.not_lt_zero,Nat.sub_zero,false_or]; rw [if_neg (by omega)]⟩ ?_ ?_
 ·exact q_D
 rintro ⟨⟨i,c⟩,g1,g2,g3⟩
 simp only at g1 g2 g3 ⊢
 have e1 : ((xs.length : Int) - 1 - (i : Int)).toNat = xs.length - 1 - i:=by omega
 repeat' (first|with_reducible refine q_0 ?_|((with_reducible first|refine q_q cf0_ok fun K hK=>?_|refine q_r cf0_ok fun K hK=>?_);simp (maxSteps:=2000000) only [go_sem,↓reduceIte,reduceCtorEq,Nat.reduceLeDiff,Nat.reduceLT,Nat.reduceBEq,Nat.reduceAdd];(repeat1' with_reducible first|apply And.intro|(intro _;try exact q_v)|(refine hK _ ?_;clear hK K))<;>(try (clear hK K;exact q_u)))|(with_reducible refine q_s ?_;(first|apply q_J|apply q_K|apply q_L|apply q_M|apply q_N|apply q_O)<;>try (intro _;try exact q_v))|with_reducible refine endsW_ret (by ((simp only [go_sem,↓reduceIte,reduceCtorEq,Nat.reduceLeDiff,Nat.reduceLT,Nat.reduceBEq,Nat.reduceAdd,ressO,resO,argsC]);rfl)) (by ((simp (maxSteps:=2000000) only [go_sem,↓reduceIte,reduceCtorEq,Nat.reduceLeDiff,Nat.reduceLT,Nat.reduceBEq,Nat.reduceAdd]);rfl)) rfl rfl rfl ?_ ?_)
 ·rename_i h
  rw [e1]
  refine q_F ⟨(i + 1,(c.set i (c.getD (xs.length - 1 - i) 0)).set (xs.length - 1 - i) (c.getD i 0)),by simp only; omega,by simp [g2],?_⟩ ?_ (by simp only; omega)
  ·intro k hk
   simp only
   have hij : xs.length - 1 - i ≠ i:=by omega
   by_cases hk1 : k = xs.length - 1 - i
   ·subst hk1
    rw [getD_set_self _ _ _ (by simp; omega),g3 i (by omega),if_neg (by omega),if_pos (by omega)]
    congr 1; omega
   ·rw [NatL.getD_set_ne _ _ _ _ (fun e=>hk1 e.symm)]
    by_cases hk2 : k = i
    ·subst hk2
     rw [getD_set_self _ _ _ (by omega),g3 (xs.length - 1 - k) (by omega),if_neg (by omega),if_pos (by omega)]
    ·rw [NatL.getD_set_ne _ _ _ _ (fun e=>hk2 e.symm),g3 k hk]
     by_cases h3 : k < i ∨ xs.length - i ≤ k
     ·rw [if_pos h3,if_pos (by omega)]
     ·rw [if_neg h3,if_neg (by omega)]
  ·exact q_D
 ·rename_i h
  refine endsW_n rfl rfl rfl rfl rfl rfl ?_
  congr 1
  refine List.ext_getElem (by simp [g2]) fun k h1 h2=>?_
  have:=g3 k (by omega)
  rw [getD_eq _ _ h1] at this
  rw [this,List.getElem_reverse,← getD_eq _ _ (by omega)]
  split
  ·rfl
  ·congr 1; omega

def reverseCT : CT:=mkCTW [] 3 fun con lo len l K=>match con,l with
 | .ints .i64 xs,[]=>(lo = 0 ∧ len = xs.length ∧ xs.length ≤ 16777216) ∧ K (.ints .i64 xs.reverse) []
 | _,_=>False
def ck2 : Cfg:=addT 195 reverseCT cf0
theorem ck2_ok : TblOk Tryz.prog ck2:=mkCTW_ok cf0_ok (q_C Tryz.func195 (by kernel_rfl) (by kernel_rfl)) rfl fun con lo len al K h=>by
 split at h
 ·rename_i xs
  obtain ⟨⟨rfl,rfl,h1⟩,h⟩:=h
  exact ⟨0,xs.length,_,_,rfl,rfl,reverse_ret xs h1,h⟩
 ·exact h.elim
attribute [go_sem] reverseCT
end Go.Proofs.YtgkajjifbcmoeaaGreatDoor

namespace Go.Proofs.YtgkajjifbcmoeaaGreatDoor
set_option linter.unusedSimpArgs false
set_option linter.unusedVariables false
open Go.Abs Go.Proofs.NatL

set_option maxHeartbeats 800000 in
theorem small_ret (n : Nat) (hn : n ≤ 9223372036854775807) : Ret Tryz.prog 15 false [.inl (.i .i64 n)] (.c (.ints .i64 (dg 65536 n))):=by
 (refine q_H Tryz.func15 (fun F=>?_); simp only [q_z,q_y,Tryz.ntmps15,Tryz.results15])
 repeat' (first|with_reducible refine q_0 ?_|((with_reducible first|refine q_q rf1_ok fun K hK=>?_|refine q_r rf1_ok fun K hK=>?_);simp (maxSteps:=2000000) only [go_sem,↓reduceIte,reduceCtorEq,Nat.reduceLeDiff,Nat.reduceLT,Nat.reduceBEq,Nat.reduceAdd];(repeat1' with_reducible first|apply And.intro|intro _|(refine hK _ ?_;clear hK K))<;>(try (clear hK K;exact q_u)))|(with_reducible refine q_s ?_;(first|apply q_J|apply q_K|apply q_L|apply q_M|apply q_N|apply q_O)<;>try intro _))
 refine q_G (ι:={ p : List Int × Nat // p.2 ≤ n ∧ p.1 ++ dg 65536 p.2 = dg 65536 n }) (fun p=>⟨14,[(0,.c (.i .i64 (p.1.2 : Nat))),(3,.own 0 0)],⟨[],[(0,⟨0,3,1,.ints .i64 p.1.1⟩)],[]⟩,1⟩) (fun p=>p.1.2) ⟨([],n),Nat.le_refl _,rfl⟩ ?_ ?_
 ·exact q_D
 rintro ⟨⟨o,m⟩,g1,g2⟩
 simp only at g1 g2 ⊢
 have hlen : o.length ≤ 4:=by
  have h1:=congrArg List.length g2
  rw [List.length_append] at h1
  have h2:=dg_len_le (B:=65536) (by omega) n 4 (by omega)
  omega
 repeat' (first|with_reducible refine q_0 ?_|((with_reducible first|refine q_q rf1_ok fun K hK=>?_|refine q_r rf1_ok fun K hK=>?_);simp (maxSteps:=2000000) only [go_sem,↓reduceIte,reduceCtorEq,Nat.reduceLeDiff,Nat.reduceLT,Nat.reduceBEq,Nat.reduceAdd];(repeat1' with_reducible first|apply And.intro|(intro _;try exact q_v)|(refine hK _ ?_;clear hK K))<;>(try (clear hK K;exact q_u)))|(with_reducible refine q_s ?_;(first|apply q_J|apply q_K|apply q_L|apply q_M|apply q_N|apply q_O)<;>try (intro _;try exact q_v)))
 ·rename_i h
  have e1 : ((m : Int)).tdiv 65536 = ((m / 65536 : Nat) : Int):=by rw [Int.tdiv_eq_ediv_of_nonneg (by omega)]; omega
  have e2 : ((m : Int)).tmod 65536 = ((m % 65536 : Nat) : Int):=by rw [Int.tmod_eq_emod_of_nonneg (by omega)]; omega
  rw [e1,e2]
  refine q_F ⟨(o ++ [((m % 65536 : Nat) : Int)],m / 65536),by simp only; omega,?_⟩ ?_ (by simp only; omega)
  ·simp only
   rw [← g2,dg_pos 65536 m (by omega) (by omega)]; simp
  ·exact q_D
 ·rename_i h
  have hm : m = 0:=by omega
  subst hm
  rw [dg_zero,List.append_nil] at g2
  exact q_A (by rw [g2]; rfl)

set_option maxRecDepth 100000 in
set_option maxHeartbeats 1600000 in
theorem ones_ret (n : Nat) (hn : (dg 65536 n).length ≤ 1048576) : Ret Tryz.prog 180 false [.inl (.ints .i64 (dg 65536 n))] (.c (.bools (bs n))):=by
 have bx:=InB_dg 65536 (by omega) n
 have vx:=V_dg 65536 (by omega) n
 generalize dg 65536 n = xs at *
 (refine q_H Tryz.func180 (fun F=>?_); simp only [q_z,q_y,Tryz.ntmps180,Tryz.results180])
 repeat' (first|with_reducible refine q_0 ?_|((with_reducible first|refine q_q rf1_ok fun K hK=>?_|refine q_r rf1_ok fun K hK=>?_);simp (maxSteps:=2000000) only [go_sem,↓reduceIte,reduceCtorEq,Nat.reduceLeDiff,Nat.reduceLT,Nat.reduceBEq,Nat.reduceAdd];(repeat1' with_reducible first|apply And.intro|intro _|(refine hK _ ?_;clear hK K))<;>(try (clear hK K;exact q_u)))|(with_reducible refine q_s ?_;(first|apply q_J|apply q_K|apply q_L|apply q_M|apply q_N|apply q_O)<;>try intro _))
 refine q_G (ι:={ p : Nat × List Bool // p.1 ≤ xs.length ∧ p.2.length = 16 * p.1 ∧ B2 p.2 = V 65536 (xs.take p.1) }) (fun p=>⟨47,[(0,.c (.ints .i64 xs)),(3,.own 0 0),(4,.c (.i .i64 (p.1.1 : Nat)))],⟨[],[(0,⟨0,4,1,.bools p.1.2⟩)],[]⟩,1⟩) (fun p=>xs.length - p.1.1) ⟨(0,[]),by simp,rfl,by simp [B2,bI,V]⟩ ?_ ?_
 ·exact q_D
 rintro ⟨⟨i,o⟩,g1,g2,g3⟩
 simp only at g1 g2 g3 ⊢
 have b1:=InB_getD (by omega) bx i
 obtain ⟨x,hxx⟩ : ∃ x : Nat,xs.getD i 0 = x:=⟨(xs.getD i 0).toNat,by omega⟩
 repeat' (first|with_reducible refine q_0 ?_|((with_reducible first|refine q_q rf1_ok fun K hK=>?_|refine q_r rf1_ok fun K hK=>?_);simp (maxSteps:=2000000) only [go_sem,↓reduceIte,reduceCtorEq,Nat.reduceLeDiff,Nat.reduceLT,Nat.reduceBEq,Nat.reduceAdd];(repeat1' with_reducible first|apply And.intro|(intro _;try exact q_v)|(refine hK _ ?_;clear hK K))<;>(try (clear hK K;exact q_u)))|(with_reducible refine q_s ?_;(first|apply q_J|apply q_K|apply q_L|apply q_M|apply q_N|apply q_O)<;>try (intro _;try exact q_v)))
 ·rename_i hi
  rw [hxx]
  refine q_G (ι:={ p : Nat × List Bool × Nat // p.1 ≤ 16 ∧ p.2.1.length = 16 * i + p.1 ∧ p.2.2 < 2 ^ (16 - p.1) ∧ B2 p.2.1 + 2 ^ (16 * i + p.1) * p.2.2 = V 65536 (xs.take (i + 1)) }) (fun p=>⟨47,[(0,.c (.ints .i64 xs)),(3,.own 0 0),(4,.c (.i .i64 (i : Nat))),(5,.c (.i .i64 (p.1.2.2 : Nat))),(6,.c (.i .i64 (p.1.1 : Nat)))],⟨[],[(0,⟨0,4,1,.bools p.1.2.1⟩)],[]⟩,1⟩) (fun p=>16 - p.1.1) ⟨(0,o,x),by simp,g2,by simp only [show (2 : Nat) ^ (16 - 0) = 65536 from rfl]; omega,by
   simp only
   rw [V_take_getD,g3,hxx,Int.toNat_natCast,Nat.add_zero,show (65536 : Nat) = 2 ^ 16 from rfl,← Nat.pow_mul]⟩ ?_ ?_
  ·exact q_D
  rintro ⟨⟨k,l,y⟩,p1,p2,p3,p4⟩
  simp only at p1 p2 p3 p4 ⊢
  have hy : y < 65536:=Nat.lt_of_lt_of_le p3 (by
   have : (2 : Nat) ^ (16 - k) ≤ 2 ^ 16:=Nat.pow_le_pow_right (by omega) (by omega)
   exact this)
  have e1 : ((y : Int)).tdiv 2 = ((y / 2 : Nat) : Int):=by rw [Int.tdiv_eq_ediv_of_nonneg (by omega)]; omega
  have e2 : ((y : Int)).tmod 2 = ((y % 2 : Nat) : Int):=by rw [Int.tmod_eq_emod_of_nonneg (by omega)]; omega
  have e3 : decide (((y % 2 : Nat) : Int) = 1) = decide (y % 2 = 1):=by
   by_cases h : y % 2 = 1
   ·rw [decide_eq_true h,decide_eq_true (by omega)]
   ·rw [decide_eq_false h,decide_eq_false (by omega)]
  repeat' (first|with_reducible refine q_0 ?_|((with_reducible first|refine q_q rf1_ok fun K hK=>?_|refine q_r rf1_ok fun K hK=>?_);simp (maxSteps:=2000000) only [go_sem,↓reduceIte,reduceCtorEq,Nat.reduceLeDiff,Nat.reduceLT,Nat.reduceBEq,Nat.reduceAdd];(repeat1' with_reducible first|apply And.intro|(intro _;try exact q_v)|(refine hK _ ?_;clear hK K))<;>(try (clear hK K;exact q_u)))|(with_reducible refine q_s ?_;(first|apply q_J|apply q_K|apply q_L|apply q_M|apply q_N|apply q_O)<;>try (intro _;try exact q_v)))
  ·rename_i hk
   rw [e1,e2,e3]
   refine q_F ⟨(k + 1,l ++ [decide (y % 2 = 1)],y / 2),by simp only; omega,by simp [p2]; omega,?_,?_⟩ ?_ (by simp only; omega)
   ·simp only
    rw [show 16 - k = 16 - (k + 1) + 1 by omega,Nat.pow_succ] at p3
    omega
   ·simp only
    exact bit_step l (16 * i + k) y _ p2 p4
   ·exact q_D
  ·rename_i hk
   have hk' : k = 16:=by omega
   subst hk'
   have hy0 : y = 0:=by simp only [Nat.sub_self,Nat.pow_zero] at p3; omega
   subst hy0
   refine q_F ⟨(i + 1,l),by simp only; omega,by simp only; omega,by simpa using p4⟩ ?_ (by simp only; omega)
   exact q_D
 ·rename_i hi
  have hi' : i = xs.length:=by omega
  rw [hi',List.take_length,vx] at g3
  refine q_G (ι:={ l : List Bool // l.length ≤ 16 * xs.length ∧ B2 l = n }) (fun l=>⟨47,[(3,.own 0 0)],⟨[],[(0,⟨0,4,1,.bools l.1⟩)],[]⟩,1⟩) (fun l=>l.1.length) ⟨o,by omega,g3⟩ ?_ ?_
  ·exact q_D
  rintro ⟨l,q1,q2⟩
  simp only at q1 q2 ⊢
  have e1 : ((l.length : Int) - 1).toNat = l.length - 1:=by omega
  repeat' (first|with_reducible refine q_0 ?_|((with_reducible first|refine q_q rf1_ok fun K hK=>?_|refine q_r rf1_ok fun K hK=>?_);simp (maxSteps:=2000000) only [go_sem,↓reduceIte,reduceCtorEq,Nat.reduceLeDiff,Nat.reduceLT,Nat.reduceBEq,Nat.reduceAdd];(repeat1' with_reducible first|apply And.intro|(intro _;try exact q_v)|(refine hK _ ?_;clear hK K))<;>(try (clear hK K;exact q_u)))|(with_reducible refine q_s ?_;(first|apply q_J|apply q_K|apply q_L|apply q_M|apply q_N|apply q_O)<;>try (intro _;try exact q_v)))
  ·rename_i h1 h2
   rw [e1] at h2
   rw [e1]
   refine q_F ⟨l.take (l.length - 1),by simp; omega,by rw [B2_drop_last l (by omega) h2]; exact q2⟩ ?_ (by simp; omega)
   exact q_D
  ·rename_i h1 h2
   rw [e1] at h2
   exact q_A (by rw [← q2,← bs_of l (.inr h2)]; rfl)
  ·rename_i h1
   exact q_A (by rw [← q2,← bs_of l (.inl (by omega))]; rfl)

set_option maxRecDepth 100000 in
set_option maxHeartbeats 1600000 in
theorem binary_ret (l : List Bool) (hl : l.length ≤ 16777216) : Ret Tryz.prog 137 false [.inl (.bools l)] (.c (.ints .i64 (dg 65536 (B2 l)))):=by
 (refine q_H Tryz.func137 (fun F=>?_); simp only [q_z,q_y,Tryz.ntmps137,Tryz.results137])
 repeat' (first|with_reducible refine q_0 ?_|((with_reducible first|refine q_q rf1_ok fun K hK=>?_|refine q_r rf1_ok fun K hK=>?_);simp (maxSteps:=2000000) only [go_sem,↓reduceIte,reduceCtorEq,Nat.reduceLeDiff,Nat.reduceLT,Nat.reduceBEq,Nat.reduceAdd];(repeat1' with_reducible first|apply And.intro|intro _|(refine hK _ ?_;clear hK K))<;>(try (clear hK K;exact q_u)))|(with_reducible refine q_s ?_;(first|apply q_J|apply q_K|apply q_L|apply q_M|apply q_N|apply q_O)<;>try intro _))
 refine q_G (ι:={ p : Nat × List Int // 16 * p.1 ≤ l.length + 15 ∧ p.2.length = p.1 ∧ InB 65536 p.2 ∧ V 65536 p.2 = B2 (l.take (16 * p.1)) }) (fun p=>⟨41,[(0,.c (.bools l)),(3,.own 0 0),(4,.c (.i .i64 ((16 * p.1.1 : Nat) : Int)))],⟨[],[(0,⟨0,3,1,.ints .i64 p.1.2⟩)],[]⟩,1⟩) (fun p=>l.length + 15 - 16 * p.1.1) ⟨(0,[]),by simp,rfl,InB_nil _,by simp [B2,bI,V]⟩ ?_ ?_
 ·exact q_D
 rintro ⟨⟨j,o⟩,g1,g2,g3,g4⟩
 simp only at g1 g2 g3 g4 ⊢
 repeat' (first|with_reducible refine q_0 ?_|((with_reducible first|refine q_q rf1_ok fun K hK=>?_|refine q_r rf1_ok fun K hK=>?_);simp (maxSteps:=2000000) only [go_sem,↓reduceIte,reduceCtorEq,Nat.reduceLeDiff,Nat.reduceLT,Nat.reduceBEq,Nat.reduceAdd];(repeat1' with_reducible first|apply And.intro|(intro _;try exact q_v)|(refine hK _ ?_;clear hK K))<;>(try (clear hK K;exact q_u)))|(with_reducible refine q_s ?_;(first|apply q_J|apply q_K|apply q_L|apply q_M|apply q_N|apply q_O)<;>try (intro _;try exact q_v)))
 ·rename_i hj
  refine q_G (ι:={ p : Nat × Nat // p.1 ≤ 16 ∧ p.2 = B2 ((l.drop (16 * j + p.1)).take (16 - p.1)) }) (fun p=>⟨41,[(0,.c (.bools l)),(3,.own 0 0),(4,.c (.i .i64 ((16 * j : Nat) : Int))),(5,.c (.i .i64 (p.1.2 : Nat))),(6,.c (.i .i64 ((p.1.1 : Int) - 1)))],⟨[],[(0,⟨0,3,1,.ints .i64 o⟩)],[]⟩,1⟩) (fun p=>p.1.1) ⟨(16,0),by simp,by simp [B2,bI,V]⟩ ?_ ?_
  ·exact q_D
  rintro ⟨⟨k,x⟩,q1,q2⟩
  simp only at q1 q2 ⊢
  have hx : x < 65536:=by
   rw [q2]
   refine Nat.lt_of_lt_of_le (B2_lt _) ?_
   have : (2 : Nat) ^ ((l.drop (16 * j + k)).take (16 - k)).length ≤ 2 ^ 16:=Nat.pow_le_pow_right (by omega) (by simp; omega)
   exact this
  have hnx : 0 < k → B2 ((l.drop (16 * j + (k - 1))).take (16 - (k - 1))) = 2 * x + (if l.getD (16 * j + (k - 1)) false then 1 else 0):=fun h=>by
   rcases Nat.lt_or_ge (16 * j + (k - 1)) l.length with h1 | h1
   ·rw [show 16 - (k - 1) = 16 - k + 1 by omega,group_step l _ _ h1,show 16 * j + (k - 1) + 1 = 16 * j + k by omega,← q2]
   ·rw [group_end l _ _ h1,q2,group_end l _ _ (by omega),List.getD_eq_getElem?_getD,List.getElem?_eq_none h1]; simp
  have e1 : 0 < k → (((16 * j : Nat) : Int) + ((k : Int) - 1)).toNat = 16 * j + (k - 1):=fun h=>by omega
  repeat' (first|with_reducible refine q_0 ?_|((with_reducible first|refine q_q rf1_ok fun K hK=>?_|refine q_r rf1_ok fun K hK=>?_);simp (maxSteps:=2000000) only [go_sem,↓reduceIte,reduceCtorEq,Nat.reduceLeDiff,Nat.reduceLT,Nat.reduceBEq,Nat.reduceAdd];(repeat1' with_reducible first|apply And.intro|(intro _;try exact q_v)|(refine hK _ ?_;clear hK K))<;>(try (clear hK K;exact q_u)))|(with_reducible refine q_s ?_;(first|apply q_J|apply q_K|apply q_L|apply q_M|apply q_N|apply q_O)<;>try (intro _;try exact q_v)))
  ·rename_i h1 h2 h3
   rw [e1 (by omega)] at h3
   have h4:=hnx (by omega)
   rw [h3,if_pos rfl] at h4
   refine q_F ⟨(k - 1,2 * x + 1),by simp only; omega,h4.symm⟩ ?_ (by simp only; omega)
   exact q_D
  ·rename_i h1 h2 h3
   rw [e1 (by omega)] at h3
   have h4:=hnx (by omega)
   rw [h3] at h4
   refine q_F ⟨(k - 1,2 * x),by simp only; omega,by simpa using h4.symm⟩ ?_ (by simp only; omega)
   exact q_D
  ·rename_i h1 h2
   have h4:=hnx (by omega)
   rw [List.getD_eq_getElem?_getD,List.getElem?_eq_none (by omega)] at h4
   refine q_F ⟨(k - 1,2 * x),by simp only; omega,by simpa using h4.symm⟩ ?_ (by simp only; omega)
   exact q_D
  ·rename_i h1
   have hk : k = 0:=by omega
   subst hk
   refine q_F ⟨(j + 1,o ++ [(x : Int)]),by simp only; omega,by simp [g2],InB_snoc g3 (by omega) (by omega),digit_group j o l g4 g2 x (by simpa using q2) (by omega)⟩ ?_ (by simp only; omega)
   exact q_D
 ·rename_i hj
  refine q_A ?_
  rw [List.take_of_length_le (by omega)] at g4
  simp only [resAV,q_y]
  rw [trimL_eq 65536 (by omega) _ g3,g4]

def smallCT : CT:=mkCT [] false fun l K=>match l with
 | [.inl (.i .i64 n)]=>(0 ≤ n ∧ n ≤ 9223372036854775807) ∧ K (.c (.ints .i64 (dg 65536 n.toNat)))
 | _=>False
def onesCT : CT:=mkCT [.inl (some (.ints .i64 []))] false fun l K=>match l with
 | [.inl (.ints .i64 xs)]=>(xs.length ≤ 1048576 ∧ InB 65536 xs ∧ Trd xs) ∧ K (.c (.bools (bs (V 65536 xs))))
 | _=>False
def binaryCT : CT:=mkCT [.inl (some (.bools []))] false fun l K=>match l with
 | [.inl (.bools l)]=>l.length ≤ 16777216 ∧ K (.c (.ints .i64 (dg 65536 (B2 l))))
 | _=>False
attribute [go_sem] smallCT onesCT binaryCT V65 I65 T65
theorem bs_bl (n : Nat) : (bs n).length = bl n:=by
 rw [bs_len]
 rcases Nat.eq_zero_or_pos n with h | h
 ·subst h; rfl
 ·obtain ⟨h1,h2,h3⟩:=bl_spec n h
  have g1:=dg_len_le (B:=2) (by omega) n _ h2
  have g2:=dg_len_gt (B:=2) (by omega) n _ h1
  omega

theorem bl_dg {a k : Nat} (h : (dg 65536 a).length ≤ k) : bl a ≤ 16 * k:=by
 have h1:=lt_of_len (B:=65536) (by omega) h
 rw [show (65536 : Nat) = 2 ^ 16 from rfl,← Nat.pow_mul] at h1
 exact bl_lt a _ h1

end Go.Proofs.YtgkajjifbcmoeaaGreatDoor

namespace Go.Proofs.YtgkajjifbcmoeaaGreatDoor
set_option linter.unusedSimpArgs false
set_option linter.unusedVariables false
open Go.Abs Go.Proofs.NatL

def okGCT : CT:=mkCT [.inl (some (.ints .u32 []))] true fun l K=>match l with
 | [.inl (.ints .u32 xs)]=>okN xs = true ∧ K (.c (.b true))
 | _=>False
def ck3 : Cfg:=addT 192 okGCT cf0
theorem ck3_ok : TblOk Tryz.prog ck3:=q_I cf0_ok Tryz.func192 fun l K h=>by
 split at h
 ·obtain ⟨h1,h⟩:=h
  have:=valid_ret _ (okN_LB' h1)
  rw [h1] at this
  exact ⟨_,this.plain rfl,h⟩
 ·exact h.elim
attribute [go_sem] okGCT
def tb21 : Cfg:=listT [(163,atCT),(192,okGCT),(193,chunkCT),(194,shortCT),(195,reverseCT)] [34]
theorem tb21_ok : TblOk Tryz.prog tb21:=listE_ok (by simp only [List.mem_singleton,forall_eq]; exact flt) ⟨⟨cf1,cf1_ok,rfl⟩,⟨ck3,ck3_ok,rfl⟩,⟨ck1,ck1_ok,rfl⟩,⟨cf17,cf17_ok,rfl⟩,⟨ck2,ck2_ok,rfl⟩,trivial⟩
attribute [go_sem] tb21
set_option maxRecDepth 100000 in
set_option maxHeartbeats 1600000 in
theorem Digits_good (xs : List Int) (b : Nat) (bx : InB 4294967296 xs) (ho : okN xs = true) (h1 : 2 ≤ b) (h2 : b ≤ 36) :
  Ret Tryz.prog 152 false [.inl (.ints .u32 xs),.inl (.i .i64 b)] (.t [.inl (.ints .i64 (dg b (V 4294967296 xs)).reverse),.inr [.i .i64 0,.i .i64 0]]):=by
 obtain ⟨lx,tx⟩ : xs.length ≤ 600 ∧ Trd xs:=by simpa [okN] using ho
 have hbl:=bl_ok ho bx
 have hdl:=Nat.le_trans (dg_len_two b _ h1 _ (lt_bl (V 4294967296 xs))) hbl
 have e:=dg_V 4294967296 (by omega) xs bx tx
 generalize hA : V 4294967296 xs = A at *
 subst e
 (refine q_H Tryz.func152 (fun F=>?_); simp only [q_z,q_y,Tryz.ntmps152,Tryz.results152])
 repeat' (first|with_reducible refine q_0 ?_|((with_reducible first|refine q_q tb21_ok fun K hK=>?_|refine q_r tb21_ok fun K hK=>?_);simp (maxSteps:=2000000) only [go_sem,↓reduceIte,reduceCtorEq,Nat.reduceLeDiff,Nat.reduceLT,Nat.reduceBEq,Nat.reduceAdd];(repeat1' with_reducible first|apply And.intro|(intro _;try exact q_v)|(refine hK _ ?_;clear hK K))<;>(try (clear hK K;exact q_u)))|(with_reducible refine q_s ?_;(first|apply q_J|apply q_K|apply q_L|apply q_M|apply q_N|apply q_O)<;>try (intro _;try exact q_v)))
 rename_i n hn
 obtain ⟨n0,n32,hP⟩:=hn
 have hP2 : 2 ≤ b ^ n:=by
  have : b ^ 1 ≤ b ^ n:=Nat.pow_le_pow_right (by omega) n0
  rw [Nat.pow_one] at this
  omega
 refine q_G (ι:={ p : Nat × List Int // p.1 ≤ A ∧ p.2 ++ dg b p.1 = dg b A }) (fun p=>⟨67,[(0,.c (.ints .u32 (dg 4294967296 p.1.1))),(1,.c (.i .i64 b)),(5,.bx 0 0),(6,.c (.i .u32 ((b ^ n : Nat) : Int))),(7,.c (.i .i64 n)),(8,.own 1 0)],⟨[(0,[.c (.i .i64 0),.c (.i .i64 0)])],[(1,⟨0,3,1,.ints .i64 p.1.2⟩)],[]⟩,2⟩) (fun p=>p.1.1) ⟨(A,[]),Nat.le_refl _,by simp⟩ ?_ ?_
 ·exact q_D
 rintro ⟨⟨m,o⟩,g1,g2⟩
 simp only at g1 g2 ⊢
 have lm:=Nat.le_trans (dg_len_mono (B:=4294967296) (by omega) g1) lx
 have pm:=dg_len_pos 4294967296 m (by omega)
 have lo : o.length ≤ 19200:=by
  have:=congrArg List.length g2
  rw [List.length_append] at this
  omega
 repeat' (first|with_reducible refine q_0 ?_|((with_reducible first|refine q_q tb21_ok fun K hK=>?_|refine q_r tb21_ok fun K hK=>?_);simp (maxSteps:=2000000) only [go_sem,↓reduceIte,reduceCtorEq,Nat.reduceLeDiff,Nat.reduceLT,Nat.reduceBEq,Nat.reduceAdd];(repeat1' with_reducible first|apply And.intro|(intro _;try exact q_v)|(refine hK _ ?_;clear hK K))<;>(try (clear hK K;exact q_u)))|(with_reducible refine q_s ?_;(first|apply q_J|apply q_K|apply q_L|apply q_M|apply q_N|apply q_O)<;>try (intro _;try exact q_v)))
 ·rename_i hm
  have hm0 : 0 < m:=pm.1 (by omega)
  have hsp : m / b ^ n * b ^ n + m % b ^ n = m:=by rw [Nat.mul_comm]; exact Nat.div_add_mod _ _
  have hr0 : m % b ^ n < b ^ n:=Nat.mod_lt _ (by omega)
  have hlt : m / b ^ n < m:=Nat.div_lt_self hm0 hP2
  have pm':=dg_len_pos 4294967296 (m / b ^ n) (by omega)
  generalize m / b ^ n = m' at *
  generalize m % b ^ n = r0 at *
  refine q_G (ι:={ p : Nat × List Int × Nat // p.1 ≤ n ∧ p.2.2 < b ^ (n - p.1) ∧ p.2.1 ++ dg b (m' * b ^ (n - p.1) + p.2.2) = dg b A }) (fun p=>⟨67,[(0,.c (.ints .u32 (dg 4294967296 m'))),(1,.c (.i .i64 b)),(5,.bx 0 0),(6,.c (.i .u32 ((b ^ n : Nat) : Int))),(7,.c (.i .i64 n)),(8,.own 1 0),(9,.c (.i .u32 (p.1.2.2 : Nat))),(10,.c (.i .i64 (p.1.1 : Nat)))],⟨[(0,[.c (.i .i64 0),.c (.i .i64 0)])],[(1,⟨0,3,1,.ints .i64 p.1.2.1⟩)],[]⟩,2⟩) (fun p=>n - p.1.1) ⟨(0,o,r0),by simp,hr0,by simp only [Nat.sub_zero]; rw [hsp]; exact g2⟩ ?_ ?_
  ·exact q_D
  rintro ⟨⟨k,l,r⟩,p1,p2,p3⟩
  simp only at p1 p2 p3 ⊢
  have hrW : r < 4294967296:=Nat.lt_of_lt_of_le p2 (Nat.le_trans (Nat.pow_le_pow_right (by omega) (by omega)) (Nat.le_of_lt hP))
  have ll : l.length ≤ 19200:=by
   have:=congrArg List.length p3
   rw [List.length_append] at this
   omega
  have hbm : (b : Int) % 4294967296 = b:=by omega
  have e1 : ((r : Int)).tmod (b : Int) = ((r % b : Nat) : Int):=by rw [Int.tmod_eq_emod_of_nonneg (by omega)]; simp
  have e2 : (r : Int) / ((b : Int) % 4294967296) = ((r / b : Nat) : Int):=by rw [hbm]; simp
  have hst : k < n → 0 < m' ∨ 0 < r → r / b < b ^ (n - (k + 1)) ∧ (l ++ [((r % b : Nat) : Int)]) ++ dg b (m' * b ^ (n - (k + 1)) + r / b) = dg b A:=fun hk hp=>by
   have ek : n - k = n - (k + 1) + 1:=by omega
   rw [ek] at p2 p3
   refine ⟨Nat.div_lt_of_lt_mul (by rw [Nat.pow_succ,Nat.mul_comm] at p2; exact p2),?_⟩
   rw [dg_digit b m' (n - (k + 1)) r h1 (by
    rcases hp with hp | hp
    ·exact Nat.lt_of_lt_of_le (Nat.mul_pos hp (Nat.pow_pos (by omega))) (Nat.le_add_right _ _)
    ·omega)] at p3
   rw [List.append_assoc]; exact p3
  have hen : k = n ∨ (m' = 0 ∧ r = 0) → l ++ dg b m' = dg b A:=fun h=>by
   rcases h with h | ⟨h,h'⟩
   ·subst h
    rw [Nat.sub_self,Nat.pow_zero] at p2 p3
    have : r = 0:=by omega
    subst this
    simpa using p3
   ·subst h; subst h'
    simpa using p3
  generalize r / b = rq at *
  generalize r % b = rm at *
  repeat' (first|with_reducible refine q_0 ?_|((with_reducible first|refine q_q tb21_ok fun K hK=>?_|refine q_r tb21_ok fun K hK=>?_);simp (maxSteps:=2000000) only [go_sem,↓reduceIte,reduceCtorEq,Nat.reduceLeDiff,Nat.reduceLT,Nat.reduceBEq,Nat.reduceAdd];(repeat1' with_reducible first|apply And.intro|(intro _;try exact q_v)|(refine hK _ ?_;clear hK K))<;>(try (clear hK K;exact q_u)))|(with_reducible refine q_s ?_;(first|apply q_J|apply q_K|apply q_L|apply q_M|apply q_N|apply q_O)<;>try (intro _;try exact q_v)))
  all_goals (try simp only [hbm] at *)
  all_goals (try omega)
  all_goals (first
   | (rw [e1,e2]; obtain ⟨q1,q2⟩:=hst (by omega) (by omega); refine q_F ⟨(k + 1,l ++ [(rm : Int)],rq),by simp only; omega,q1,q2⟩ ?_ (by simp only; omega); exact q_D; done)
   | (refine q_F ⟨(m',l),by simp only; omega,hen (by omega)⟩ ?_ (by simp only; omega); exact q_D; done)
   | skip)
  all_goals trace_state
 ·rename_i hm
  have hm0 : m = 0:=by
   rcases Nat.eq_zero_or_pos m with h | h
   ·exact h
   ·exact absurd (pm.2 h) (by omega)
  subst hm0
  rw [dg_zero,List.append_nil] at g2
  exact q_A (by rw [g2]; rfl)

end Go.Proofs.YtgkajjifbcmoeaaGreatDoor

namespace Go.Proofs.YtgkajjifbcmoeaaGreatDoor
set_option linter.unusedSimpArgs false
set_option linter.unusedVariables false
open Go.Abs Go.Proofs.NatL

theorem trim1 (d : Nat) (h : d < 4294967296) : trimL [(d : Int)] = dg 4294967296 d:=by
 rw [trimL_eq 4294967296 (by omega) _ (InB_one (by omega) (by omega)),V_one,Int.toNat_natCast]
theorem one_len (d : Nat) (h : d < 4294967296) : (dg 4294967296 d).length ≤ 1:=dg_len_le (by omega) _ _ (by omega)
theorem mulN1 (m d : Nat) : mulN (dg 4294967296 m) [(d : Int)] = dg 4294967296 (m * d):=by
 unfold mulN; rw [V32,V_one,Int.toNat_natCast]
theorem addNd (m d : Nat) : addN (dg 4294967296 m) (dg 4294967296 d) = dg 4294967296 (m + d):=by
 unfold addN; rw [V32,V32]
theorem fitN_big {xs ys : List Int} (h : xs = ys ∨ 600 < xs.length ∧ 600 < ys.length) (tx : Trd xs) (ty : Trd ys) : fitN xs = fitN ys ∧ fitC xs = fitC ys ∧ fitI xs = fitI ys:=by
 rcases h with h | ⟨h1,h2⟩
 ·subst h; exact ⟨rfl,rfl,rfl⟩
 ·have e1 : trimL xs = xs:=trimL_stop xs (tx.imp_left (by simp_all))
  have e2 : trimL ys = ys:=trimL_stop ys (ty.imp_left (by simp_all))
  have g1 : ¬ xs.length ≤ 600:=by omega
  have g2 : ¬ ys.length ≤ 600:=by omega
  simp [fitN,fitC,fitI,e1,e2,h1,h2,g1,g2]

def tb22 : Cfg:=listT [(163,atCT),(202,trimCT),(166,fitCT),(187,(numCT (fun _ _=>True) addN)),(167,(numCT (fun _ _=>True) mulN))] [34]
theorem tb22_ok : TblOk Tryz.prog tb22:=listE_ok (by simp only [List.mem_singleton,forall_eq]; exact flt) ⟨⟨cf1,cf1_ok,rfl⟩,⟨cf3,cf3_ok,rfl⟩,⟨cf8,cf8_ok,rfl⟩,⟨cf12,cf12_ok,rfl⟩,⟨cf14,cf14_ok,rfl⟩,trivial⟩
attribute [go_sem] tb22
set_option maxRecDepth 100000 in
set_option maxHeartbeats 1600000 in
theorem From_good (ds : List Int) (b : Nat) (hd : InB b ds) (h1 : 2 ≤ b) (h2 : b ≤ 36) (hl : ds.length ≤ 140737488355328) :
  Ret Tryz.prog 177 false [.inl (.ints .i64 ds),.inl (.i .i64 b)] (.t [.inl (.ints .u32 (fitN (dg 4294967296 (rdv b ds)))),.inr [.i .i64 (fitC (dg 4294967296 (rdv b ds))),.i .i64 (fitI (dg 4294967296 (rdv b ds)))]]):=by
 (refine q_H Tryz.func177 (fun F=>?_); simp only [q_z,q_y,Tryz.ntmps177,Tryz.results177])
 repeat' (first|with_reducible refine q_0 ?_|((with_reducible first|refine q_q tb22_ok fun K hK=>?_|refine q_r tb22_ok fun K hK=>?_);simp (maxSteps:=2000000) only [go_sem,↓reduceIte,reduceCtorEq,Nat.reduceLeDiff,Nat.reduceLT,Nat.reduceBEq,Nat.reduceAdd];(repeat1' with_reducible first|apply And.intro|(intro _;try exact q_v)|(refine hK _ ?_;clear hK K))<;>(try (clear hK K;exact q_u)))|(with_reducible refine q_s ?_;(first|apply q_J|apply q_K|apply q_L|apply q_M|apply q_N|apply q_O)<;>try (intro _;try exact q_v)))
 refine q_G (ι:={ p : Nat × Nat // p.1 ≤ ds.length ∧ (dg 4294967296 p.2).length ≤ 601 ∧ (p.2 = rdv b (ds.take p.1) ∨ 600 < (dg 4294967296 p.2).length ∧ 600 < (dg 4294967296 (rdv b (ds.take p.1))).length) }) (fun p=>⟨50,[(0,.c (.ints .i64 ds)),(1,.c (.i .i64 b)),(5,.bx 0 0),(6,.c (.ints .u32 (dg 4294967296 p.1.2))),(16,.c (.ints .i64 ds)),(17,.c (.i .i64 ds.length)),(18,.c (.i .i64 (p.1.1 : Nat)))],⟨[(0,[.c (.i .i64 0),.c (.i .i64 0)])],[],[]⟩,1⟩) (fun p=>ds.length - p.1.1) ⟨(0,0),by simp,by simp [dg_zero],by simp [rdv_nil]⟩ ?_ ?_
 ·((simp only [go_sem,↓reduceIte,reduceCtorEq,Nat.reduceLeDiff,Nat.reduceLT,Nat.reduceBEq,Nat.reduceAdd])<;>(try (simp;done))<;>(try ((simp only [C.i.injEq,C.b.injEq,C.ints.injEq,C.bools.injEq,List.append_cancel_left_eq,List.cons.injEq,true_and,and_true]);(repeat' with_reducible apply And.intro)<;>(first|rfl|assumption|omega|(simp;omega)|(congr 1;omega)|(congr 2;omega)))))
  simp [dg_zero]
 rintro ⟨⟨i,m⟩,g1,g2,g3⟩
 simp only at g1 g2 g3 ⊢
 have b1:=InB_getD (by omega) hd i
 obtain ⟨d,hdd⟩ : ∃ d : Nat,ds.getD i 0 = d:=⟨(ds.getD i 0).toNat,by omega⟩
 rw [hdd] at b1
 have hdb : d < b:=by omega
 have bm:=InB_dg 4294967296 (by omega) m
 have bb : InB 4294967296 [(b : Int)]:=InB_one (by omega) (by omega)
 have hbm : (b : Int) % 4294967296 = b:=by omega
 have hdm : (d : Int) % 4294967296 = d:=by omega
 have tr:=trim1 d (by omega)
 have mu:=mulN1 m b
 have ad:=addNd (m * b) d
 have tl : (dg 4294967296 d).length ≤ 1:=dg_len_le (by omega) _ _ (by omega)
 have ml : (dg 4294967296 (m * b)).length ≤ 602:=mul_len (by omega) g2 (one_len b (by omega))
 have al : (dg 4294967296 m).length ≤ 600 → (dg 4294967296 (m * b + d)).length ≤ 601:=fun h=>snoc_len (by omega) h (by omega) (by omega) hdb
 have hstep : i < ds.length → rdv b (ds.take (i + 1)) = rdv b (ds.take i) * b + d:=fun h=>by rw [rdv_take _ _ _ h,hdd,Int.toNat_natCast]
 have hgrow : (dg 4294967296 (rdv b (ds.take i))).length ≤ (dg 4294967296 (rdv b (ds.take i) * b + d)).length:=dg_len_mono (by omega) (rdv_grows b (by omega) _ _)
 repeat' (first|with_reducible refine q_0 ?_|((with_reducible first|refine q_q tb22_ok fun K hK=>?_|refine q_r tb22_ok fun K hK=>?_);simp (maxSteps:=2000000) only [go_sem,↓reduceIte,reduceCtorEq,Nat.reduceLeDiff,Nat.reduceLT,Nat.reduceBEq,Nat.reduceAdd,hdd,hbm,hdm,tr,mu,ad];(repeat1' with_reducible first|apply And.intro|(intro _;try exact q_v)|(refine hK _ ?_;clear hK K))<;>(try (clear hK K;exact q_u)))|(with_reducible refine q_s ?_;(first|apply q_J|apply q_K|apply q_L|apply q_M|apply q_N|apply q_O)<;>try (intro _;try exact q_v)))
 ·rename_i q1 q2 q3 q4
  refine q_F ⟨(i + 1,m),by simp only; omega,g2,.inr ⟨by simp only; omega,?_⟩⟩ ?_ (by simp only; omega)
  ·rw [hstep (by omega)]
   rcases g3 with g3 | g3
   ·rw [← g3] at hgrow ⊢; omega
   ·omega
  ·exact q_D
 ·rename_i q1 q2 q3 q4
  refine q_F ⟨(i + 1,m * b + d),by simp only; omega,al (by omega),.inl ?_⟩ ?_ (by simp only; omega)
  ·simp only
   rcases g3 with g3 | g3
   ·rw [hstep (by omega),← g3]
   ·omega
  ·exact q_D
 ·rename_i q1
  have hi : i = ds.length:=by omega
  rw [hi,List.take_length] at g3
  obtain ⟨e1,e2,e3⟩:=fitN_big (xs:=dg 4294967296 m) (ys:=dg 4294967296 (rdv b ds)) (g3.imp_left (fun h=>by rw [h])) (dg_trd 4294967296 (by omega) _) (dg_trd 4294967296 (by omega) _)
  exact q_A (by rw [e1,e2,e3]; rfl)

end Go.Proofs.YtgkajjifbcmoeaaGreatDoor
