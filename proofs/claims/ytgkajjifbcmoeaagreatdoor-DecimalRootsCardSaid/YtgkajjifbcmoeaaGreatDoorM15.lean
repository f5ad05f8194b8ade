import Derived.Test.YtgkajjifbcmoeaaGreatDoorM14
import Derived.Test.YtgkajjifbcmoeaaGreatDoorM7
namespace Go.Proofs.YtgkajjifbcmoeaaGreatDoor
set_option linter.unusedSimpArgs false
set_option linter.unusedVariables false
open Go.Abs Go.Proofs.NatL

theorem bl_V (xs : List Int) (h0 : 0 < xs.length) (bx : InB 4294967296 xs) (tx : Trd xs) : 32 * (xs.length - 1) + bl (xs.getD (xs.length - 1) 0).toNat = bl (V 4294967296 xs):=by
 have h1:=V_ge_of_trd (by omega) xs bx tx h0
 have e : (4294967296 : Nat) ^ (xs.length - 1) = 2 ^ (32 * (xs.length - 1)):=by rw [show (4294967296 : Nat) = 2 ^ 32 from rfl,← Nat.pow_mul]
 rw [e] at h1
 rw [bl_shr _ _ h1,← e,← V_drop_div 4294967296 (by omega) xs bx,V_drop 4294967296 xs _ (by omega),List.drop_eq_nil_of_le (by omega)]
 simp [V]

set_option maxHeartbeats 1600000 in
theorem Bits_ret (xs : List Int) (hx : xs.length ≤ 140737488355328) (bx : InB 4294967296 xs) :
  Ret Tryz.prog 184 false [.inl (.ints .u32 xs)] (.t [.inl (.i .i64 ((if okN xs then bl (V 4294967296 xs) else 0 : Nat) : Int)),.inr [.i .i64 (if okN xs then 0 else 6),.i .i64 (if okN xs then 0 else -1)]]):=by
 by_cases ho : okN xs = true
 ·have ox' : xs.length ≤ 600 ∧ Trd xs:=by simpa [okN] using ho
  have b1:=InB_getD (by omega) bx (xs.length - 1)
  have hl : bl (xs.getD (xs.length - 1) 0).toNat ≤ 32:=bl_lt _ _ (by simp only [show (2 : Nat) ^ 32 = 4294967296 from rfl]; omega)
  have e0 : ((xs.length : Int) - 1).toNat = xs.length - 1:=by omega
  (refine q_H Tryz.func184 (fun F=>?_); simp only [q_z,q_y,Tryz.ntmps184,Tryz.results184])
  repeat' (first|(with_reducible first|apply q_a|apply q_b|apply q_c|apply q_d|apply q_e|apply q_f|apply q_g|apply q_h|apply q_i|apply q_j|apply q_k|apply q_m|apply q_n|apply q_o|apply q_p|refine q_l ?_)|((with_reducible first|refine q_q cf21_ok fun K hK=>?_|refine q_r cf21_ok fun K hK=>?_);simp (maxSteps:=2000000) only [go_sem,↓reduceIte,reduceCtorEq,Nat.reduceLeDiff,Nat.reduceLT,Nat.reduceBEq,Nat.reduceAdd];(repeat1' with_reducible first|apply And.intro|intro _|(refine hK _ ?_;clear hK K))<;>(try (clear hK K;exact q_u)))|(with_reducible refine q_s ?_;(first|apply q_J|apply q_K|apply q_L|apply q_M|apply q_N|apply q_O)<;>try intro _)|with_reducible refine q_t ?_)
  all_goals try (rw [e0])
  all_goals try (exact b1.1)
  all_goals try (exact b1.2)
  all_goals try omega
  ·exfalso; simp_all
  ·rename_i h0
   have : xs = []:=List.eq_nil_of_length_eq_zero (by omega)
   subst this
   exact q_A (by simp [resAV,okN,Trd,V,bl])
  ·rename_i h0
   have h1:=bl_V xs (by omega) bx ox'.2
   refine q_A ?_
   simp only [resAV,if_pos ho,AV.t.injEq,List.cons.injEq,Sum.inl.injEq,C.i.injEq,true_and,and_true]
   omega
 ·(refine q_H Tryz.func184 (fun F=>?_); simp only [q_z,q_y,Tryz.ntmps184,Tryz.results184])
  repeat' (first|(with_reducible first|apply q_a|apply q_b|apply q_c|apply q_d|apply q_e|apply q_f|apply q_g|apply q_h|apply q_i|apply q_j|apply q_k|apply q_m|apply q_n|apply q_o|apply q_p|refine q_l ?_)|((with_reducible first|refine q_q cf21_ok fun K hK=>?_|refine q_r cf21_ok fun K hK=>?_);simp (maxSteps:=2000000) only [go_sem,↓reduceIte,reduceCtorEq,Nat.reduceLeDiff,Nat.reduceLT,Nat.reduceBEq,Nat.reduceAdd];(repeat1' with_reducible first|apply And.intro|intro _|(refine hK _ ?_;clear hK K))<;>(try (clear hK K;exact q_u)))|(with_reducible refine q_s ?_;(first|apply q_J|apply q_K|apply q_L|apply q_M|apply q_N|apply q_O)<;>try intro _)|with_reducible refine q_t ?_)
  ·exact q_A (by simp [resAV,ho])
  all_goals (exfalso; simp_all)

end Go.Proofs.YtgkajjifbcmoeaaGreatDoor

namespace Go.Proofs.YtgkajjifbcmoeaaGreatDoor
set_option linter.unusedSimpArgs false
set_option linter.unusedVariables false
open Go.Abs Go.Proofs.NatL

def bitsGoodCT : CT:=mkCT [.inl (some (.ints .u32 []))] true fun l K=>match l with
 | [.inl (.ints .u32 xs)]=>(okN xs = true ∧ InB 4294967296 xs) ∧ K (.t [.inl (.i .i64 (bl (V 4294967296 xs) : Nat)),.inr [.i .i64 0,.i .i64 0]])
 | _=>False
def cf25 : Cfg:=addT 184 bitsGoodCT cf0
theorem cf25_ok : TblOk Tryz.prog cf25:=q_I cf0_ok Tryz.func184 fun l K h=>by
 split at h
 ·obtain ⟨⟨h1,h2⟩,h⟩:=h
  have:=Bits_ret _ (okN_LB' h1) h2
  simp only [if_pos h1] at this
  exact ⟨_,this.plain rfl,h⟩
 ·exact h.elim
attribute [go_sem] bitsGoodCT
def tb17 : Cfg:=listT [(163,atCT),(184,bitsGoodCT),(185,leftCT),(186,rightCT),(162,divModCT),(188,compareCT),(187,(numCT (fun _ _=>True) addN))] [34]
theorem tb17_ok : TblOk Tryz.prog tb17:=listE_ok (by simp only [List.mem_singleton,forall_eq]; exact flt) ⟨⟨cf1,cf1_ok,rfl⟩,⟨cf25,cf25_ok,rfl⟩,⟨cf20,cf20_ok,rfl⟩,⟨cf21,cf21_ok,rfl⟩,⟨cf24,cf24_ok,rfl⟩,⟨cf9,cf9_ok,rfl⟩,⟨cf12,cf12_ok,rfl⟩,trivial⟩
attribute [go_sem] tb17
theorem bl_zero {n : Nat} (h : bl n = 0) : n = 0:=by
 unfold bl at h
 split at h
 ·assumption
 ·omega
theorem pow_sq (k A : Nat) (h : A < 2 ^ k) : A < 2 ^ ((k + 1) / 2) * 2 ^ ((k + 1) / 2):=by
 rw [← Nat.pow_add]
 exact Nat.lt_of_lt_of_le h (Nat.pow_le_pow_right (by omega) (by omega))
theorem two_len (n k : Nat) (h : n ≤ 2 ^ k) : (dg 4294967296 n).length ≤ k + 1:=by
 refine dg_len_le (by omega) _ _ ?_
 have h1 : 2 ^ k < 2 ^ (k + 1):=Nat.pow_lt_pow_right (by omega) (by omega)
 have h2 : (2 : Nat) ^ (k + 1) ≤ 4294967296 ^ (k + 1):=Nat.pow_le_pow_left (by omega) _
 omega

set_option maxHeartbeats 1600000 in
theorem Sqrt_good (xs : List Int) (bx : InB 4294967296 xs) (ho : okN xs = true) :
  Ret Tryz.prog 123 false [.inl (.ints .u32 xs)] (.t [.inl (.ints .u32 (dg 4294967296 (rt (V 4294967296 xs)))),.inr [.i .i64 0,.i .i64 0]]):=by
 obtain ⟨lx,tx⟩ : xs.length ≤ 600 ∧ Trd xs:=by simpa [okN] using ho
 have hbl:=bl_ok ho bx
 have e:=dg_V 4294967296 (by omega) xs bx tx
 have hb1 : InB 4294967296 [1]:=fun x hx=>by rw [List.mem_singleton] at hx; subst hx; omega
 have htd : (((bl (V 4294967296 xs) : Nat) : Int) + 1).tdiv 2 = (((bl (V 4294967296 xs) + 1) / 2 : Nat) : Int):=by
  rw [Int.tdiv_eq_ediv_of_nonneg (by omega)]; omega
 have hlt:=lt_bl (V 4294967296 xs)
 have hz : bl (V 4294967296 xs) = 0 → V 4294967296 xs = 0:=bl_zero
 have h1:=pow_sq _ _ hlt
 (refine q_H Tryz.func123 (fun F=>?_); simp only [q_z,q_y,Tryz.ntmps123,Tryz.results123])
 repeat' (first|(with_reducible first|apply q_a|apply q_b|apply q_c|apply q_d|apply q_e|apply q_f|apply q_g|apply q_h|apply q_i|apply q_j|apply q_k|apply q_m|apply q_n|apply q_o|apply q_p|refine q_l ?_)|((with_reducible first|refine q_q tb17_ok fun K hK=>?_|refine q_r tb17_ok fun K hK=>?_);simp (maxSteps:=2000000) only [go_sem,↓reduceIte,reduceCtorEq,Nat.reduceLeDiff,Nat.reduceLT,Nat.reduceBEq,Nat.reduceAdd];(repeat1' with_reducible first|apply And.intro|(intro _;try exact q_w)|(refine hK _ ?_;clear hK K))<;>(try (clear hK K;exact q_u)))|(with_reducible refine q_s ?_;(first|apply q_J|apply q_K|apply q_L|apply q_M|apply q_N|apply q_O)<;>try (intro _;try exact q_w))|with_reducible refine q_t ?_)
 ·rename_i h
  have h0:=hz (by omega)
  exact q_B [.inl (some (.ints .u32 []))] rfl (by simp [resAV,norm,nz,h0,rt_zero,dg_zero])
 rename_i h
 have hA0 : 0 < V 4294967296 xs:=by
  rcases Nat.eq_zero_or_pos (V 4294967296 xs) with h2 | h2
  ·rw [h2] at h; exact absurd (by decide) h
  ·exact h2
 simp only [htd,Int.toNat_natCast,Nat.one_mul]
 generalize hA : V 4294967296 xs = A at *
 generalize hk : (bl A + 1) / 2 = k at *
 have hk' : k ≤ 9600:=by omega
 refine q_G (ι:={ x : Nat // 0 < x ∧ x ≤ 2 ^ k ∧ A < (x + 1) * (x + 1) }) (fun x=>⟨45,[(0,.c (.ints .u32 xs)),(3,.bx 0 0),(6,.c (.ints .u32 (dg 4294967296 x.1)))],⟨[(0,[.c (.i .i64 0),.c (.i .i64 0)])],[],[]⟩,3⟩) (fun x=>x.1) ⟨2 ^ k,Nat.pow_pos (by omega),Nat.le_refl _,Nat.lt_of_lt_of_le h1 (Nat.mul_le_mul (by omega) (by omega))⟩ ?_ ?_
 ·exact q_D
 rintro ⟨x,x0,x1,x2⟩
 simp only at x0 x1 x2 ⊢
 have ex:=two_len x k x1
 have bxx:=InB_dg 4294967296 (by omega) x
 have txx:=dg_trd 4294967296 (by omega) x
 have vxx:=V_dg 4294967296 (by omega) x
 have l0:=(dg_len_pos 4294967296 x (by omega)).2 x0
 have hq : (dg 4294967296 (A / x)).length ≤ 600:=by
  have:=dg_len_mono (B:=4294967296) (by omega) (Nat.div_le_self A x)
  rw [e] at this; omega
 have bq:=InB_dg 4294967296 (by omega) (A / x)
 have vq:=V_dg 4294967296 (by omega) (A / x)
 have vs:=V_dg 4294967296 (by omega) (x + A / x)
 have bs':=InB_dg 4294967296 (by omega) (x + A / x)
 have ls : (dg 4294967296 (x + A / x)).length ≤ 10002:=add_len (by omega) (Nat.le_trans ex (by omega)) (Nat.le_trans hq (by omega))
 have bn:=InB_dg 4294967296 (by omega) ((x + A / x) / 2)
 have tn:=dg_trd 4294967296 (by omega) ((x + A / x) / 2)
 have vn:=V_dg 4294967296 (by omega) ((x + A / x) / 2)
 have ln:=dg_len_mono (B:=4294967296) (by omega) (Nat.div_le_self (x + A / x) 2)
 obtain ⟨c1, -, -⟩:=cmpL_le bn bxx tn txx
 rw [vn,vxx] at c1
 have p1 : (2 : Nat) ^ Int.toNat 1 = 2:=rfl
 have nst:=newton_step A x x0
 have nen:=newton_end A x x0
 have eadd : addN (dg 4294967296 x) (dg 4294967296 (A / x)) = dg 4294967296 (x + A / x):=by unfold addN; rw [vxx,vq]
 have haddV : V 4294967296 (addN (dg 4294967296 x) (dg 4294967296 (A / x))) = x + A / x:=by rw [eadd,V32]
 have haddI : InB 4294967296 (addN (dg 4294967296 x) (dg 4294967296 (A / x))):=by rw [eadd]; exact bs'
 have haddL : (addN (dg 4294967296 x) (dg 4294967296 (A / x))).length ≤ 10002:=by rw [eadd]; exact ls
 repeat' (first|(with_reducible first|apply q_a|apply q_b|apply q_c|apply q_d|apply q_e|apply q_f|apply q_g|apply q_h|apply q_i|apply q_j|apply q_k|apply q_m|apply q_n|apply q_o|apply q_p|refine q_l ?_)|((with_reducible first|refine q_q tb17_ok fun K hK=>?_|refine q_r tb17_ok fun K hK=>?_);simp (maxSteps:=2000000) only [go_sem,↓reduceIte,reduceCtorEq,Nat.reduceLeDiff,Nat.reduceLT,Nat.reduceBEq,Nat.reduceAdd];(repeat1' with_reducible first|apply And.intro|(intro _;try exact q_w)|(refine hK _ ?_;clear hK K))<;>(try (clear hK K;exact q_u)))|(with_reducible refine q_s ?_;(first|apply q_J|apply q_K|apply q_L|apply q_M|apply q_N|apply q_O)<;>try (intro _;try exact q_w))|with_reducible refine q_t ?_)
 all_goals (try simp only [hA,haddV,p1] at *)
 all_goals (try first | assumption | omega)
 ·rename_i h2
  have hx' : x ≤ (x + A / x) / 2:=by
   have : ¬ (x + A / x) / 2 < x:=fun h3=>by have:=c1.2 h3; omega
   omega
  rw [rt_eq (nen hx') x2]
  exact q_A rfl
 ·rename_i h2
  have hx' : (x + A / x) / 2 < x:=c1.1 (by omega)
  refine q_F ⟨(x + A / x) / 2,?_,by omega,nst⟩ ?_ hx'
  ·rcases Nat.eq_zero_or_pos ((x + A / x) / 2) with h3 | h3
   ·rw [h3] at nst; omega
   ·exact h3
  ·exact q_D

end Go.Proofs.YtgkajjifbcmoeaaGreatDoor
