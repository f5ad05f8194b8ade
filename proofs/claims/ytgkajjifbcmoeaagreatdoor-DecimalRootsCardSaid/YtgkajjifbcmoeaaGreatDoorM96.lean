import Derived.Test.YtgkajjifbcmoeaaGreatDoorM49
import Derived.Test.YtgkajjifbcmoeaaGreatDoorM95
namespace Go.Proofs.NatL
set_option linter.unusedSimpArgs false
set_option linter.unusedVariables false
theorem and1 (x : Int) : Go.Abs.bitI .and .i64 x 1 = x % 2:=by
 have h1 : (BitVec.ofInt 64 x &&& BitVec.ofInt 64 1).toNat = (x % 2).toNat:=by
  rw [BitVec.toNat_and,show (BitVec.ofInt 64 1).toNat = 1 from rfl,Nat.and_one_is_mod,BitVec.toNat_ofInt]
  omega
 show Go.IntKind.wrap .i64 ((BitVec.ofInt 64 x &&& BitVec.ofInt 64 1).toNat : Int) = x % 2
 rw [h1]
 have h2 : (((x % 2).toNat : Nat) : Int) = x % 2:=by omega
 rw [h2]
 rcases (by omega : x % 2 = 0 ∨ x % 2 = 1) with h | h <;> rw [h] <;> rfl
def hfE (e : Int) : Int:=(e - e % 2) / 2
theorem hf_go (e : Int) : (e - (e.tmod 2 + 2).tmod 2).tdiv 2 = hfE e:=by
 unfold hfE
 rw [Int.tmod_eq_emod (a:=e),Int.tmod_eq_emod,Int.tdiv_eq_ediv]
 have s2 : Int.sign 2 = 1:=rfl
 have n2 : Int.natAbs 2 = 2:=rfl
 (repeat' split) <;> simp only [s2,n2] at * <;> omega
theorem hf_ref (e : Int) : (e - e % 2).tdiv 2 = hfE e:=by
 unfold hfE
 rw [Int.tdiv_eq_ediv,if_pos (.inr (by omega)),Int.add_zero]
theorem tm_bd (e : Int) : -1 ≤ e.tmod 2 ∧ e.tmod 2 ≤ 1:=by
 rw [Int.tmod_eq_emod]
 have n2 : Int.natAbs 2 = 2:=rfl
 split <;> omega
theorem hf_is (e : Int) : 2 * hfE e ≤ e ∧ e ≤ 2 * hfE e + 1:=by unfold hfE; omega
def sqN (A : Dc) (c : Cx) : Nat:=A.coef * 10 ^ (A.exp - 2 * (hfE A.exp - c.p - 2)).toNat
noncomputable def sqX (A : Dc) (c : Cx) : Nat:=rtX (rt (sqN A c)) (sqN A c)
noncomputable def sqE (A : Dc) (c : Cx) : Int:=rtE (rt (sqN A c)) (sqN A c) (hfE A.exp - c.p - 2)
noncomputable def sqD (A : Dc) (c : Cx) : Dc :=
 if A.kind = 2 then dNone else if A.neg = true ∧ ¬ (A.kind = 0 ∧ A.coef = 0) then dNone else if A.kind = 1 then dInf false
 else fitD A.neg (sqX A c) 1 (sqE A c) (hfE A.exp) c.p c.r c.mn c.mx
noncomputable def sqS (A : Dc) (c : Cx) : Int :=
 if A.kind = 2 then 0 else if A.neg = true ∧ ¬ (A.kind = 0 ∧ A.coef = 0) then 32 else if A.kind = 1 then 0
 else fitS A.neg (sqX A c) 1 (sqE A c) (hfE A.exp) c.p c.r c.mn c.mx
theorem sq_ok {A : Dc} {c : Cx} (hA : OkD A) (hc : OkC c) : OkD (sqD A c):=by
 unfold sqD
 split
 ·exact none_ok
 split
 ·exact none_ok
 split
 ·exact inf_ok _
 ·exact fit_ok (by omega) hc
theorem sq_len {A : Dc} {c : Cx} (hA : OkD A) (hc : OkC c) : ds (sqN A c) ≤ 250 ∧ ds (rt (sqN A c)) ≤ 250 ∧ ds (sqX A c) ≤ 251 ∧ -700 ≤ sqE A c ∧ sqE A c ≤ 700:=by
 obtain ⟨a1,a2,a3⟩:=okd_exp hA
 obtain ⟨c1,c2,_⟩:=hc
 obtain ⟨h1,h2⟩:=hf_is A.exp
 have l1 : ds (sqN A c) ≤ 250:=by unfold sqN; exact ds_mul10 (by omega)
 have l2:=ds_le_of_le (rt_le (sqN A c)) l1
 refine ⟨l1,l2,?_,?_,?_⟩
 ·unfold sqX rtX
  split
  ·have:=ds_div10 (rt (sqN A c) * 10 + 1)
   rw [show (rt (sqN A c) * 10 + 1) / 10 = rt (sqN A c) by omega] at this
   omega
  ·omega
 ·unfold sqE rtE; split <;> omega
 ·unfold sqE rtE; split <;> omega
end Go.Proofs.NatL
namespace Go.Proofs.YtgkajjifbcmoeaaGreatDoor
set_option linter.unusedSimpArgs false
set_option linter.unusedVariables false
open Go.Abs Go.Proofs.NatL

def dbl : Cfg:=listT [(71,dcheckCT),(72,noneDCT),(74,infiniteCT),(73,isZeroCT),(82,timesTCT),(123,sqGoodCT),(88,(nat6CT pMul rMulN)),(125,(nat6CT pAdd rAddN)),(124,lessCT),(77,fitXCT)] [34]
theorem dbl_ok : TblOk Tryz.prog dbl:=listE_ok (by simp only [List.mem_singleton,forall_eq]; exact flt) ⟨⟨de7,de7_ok,rfl⟩,⟨df3,df3_ok,rfl⟩,⟨de2,de2_ok,rfl⟩,⟨df4,df4_ok,rfl⟩,⟨dc4,dc4_ok,rfl⟩,⟨nt4,nt4_ok,rfl⟩,⟨dn2,dn2_ok,rfl⟩,⟨dn1,dn1_ok,rfl⟩,⟨dc2,dc2_ok,rfl⟩,⟨de3d,de3d_ok,rfl⟩,trivial⟩
attribute [go_sem] dbl
set_option maxHeartbeats 3200000 in
theorem dSqrt_bad (k : Int) (s a : Bool) (xs : List Int) (e p r mn mx : Int) (h1 : xs.length ≤ 140737488355328) (h3 : InB 4294967296 xs) :
   (okCx p r mn mx = false → Ret Tryz.prog 48 false [.inr [.i .i64 k,.b s,.b a,.ints .u32 xs,.i .i64 e],.inr [.i .i64 p,.i .i64 r,.i .i64 mn,.i .i64 mx]] (rBad 4 (-9))) ∧
   (okCx p r mn mx = true → okD k s a xs e = false → Ret Tryz.prog 48 false [.inr [.i .i64 k,.b s,.b a,.ints .u32 xs,.i .i64 e],.inr [.i .i64 p,.i .i64 r,.i .i64 mn,.i .i64 mx]] (rBad 6 (-1))):=by
 refine ⟨fun o0=>?_,fun o0 o1=>?_⟩
 ·(refine q_H Tryz.func48 (fun F=>?_); simp only [q_z,q_y,Tryz.ntmps48,Tryz.results48])
  repeat' (first|(with_reducible first|apply q_a|apply q_b|apply q_c|apply q_d|apply q_e|apply q_f|apply q_g|apply q_h|apply q_i|apply q_j|apply q_k|apply q_m|apply q_n|apply q_o|apply q_p|refine q_l ?_)|((with_reducible first|refine q_q dbl_ok fun K hK=>?_|refine q_r dbl_ok fun K hK=>?_);simp (maxSteps:=2000000) only [go_sem,↓reduceIte,reduceCtorEq,Nat.reduceLeDiff,Nat.reduceLT,Nat.reduceBEq,Nat.reduceAdd,o0];(repeat1' with_reducible first|apply And.intro|(intro _;try exact q_v)|(refine hK _ ?_;clear hK K))<;>(try (clear hK K;exact q_u)))|(with_reducible refine q_s ?_;(first|apply q_J|apply q_K|apply q_L|apply q_M|apply q_N|apply q_O)<;>try (intro _;try exact q_v))|with_reducible refine q_t ?_)
  all_goals first | omega | assumption | exact q_B [nDc] rfl rfl | exact q_A rfl | skip
 ·(refine q_H Tryz.func48 (fun F=>?_); simp only [q_z,q_y,Tryz.ntmps48,Tryz.results48])
  repeat' (first|(with_reducible first|apply q_a|apply q_b|apply q_c|apply q_d|apply q_e|apply q_f|apply q_g|apply q_h|apply q_i|apply q_j|apply q_k|apply q_m|apply q_n|apply q_o|apply q_p|refine q_l ?_)|((with_reducible first|refine q_q dbl_ok fun K hK=>?_|refine q_r dbl_ok fun K hK=>?_);simp (maxSteps:=2000000) only [go_sem,↓reduceIte,reduceCtorEq,Nat.reduceLeDiff,Nat.reduceLT,Nat.reduceBEq,Nat.reduceAdd,o0,o1];(repeat1' with_reducible first|apply And.intro|(intro _;try exact q_v)|(refine hK _ ?_;clear hK K))<;>(try (clear hK K;exact q_u)))|(with_reducible refine q_s ?_;(first|apply q_J|apply q_K|apply q_L|apply q_M|apply q_N|apply q_O)<;>try (intro _;try exact q_v))|with_reducible refine q_t ?_)
  all_goals first | omega | assumption | exact q_B [nDc] rfl rfl | exact q_A rfl | skip
set_option maxRecDepth 100000 in
set_option maxHeartbeats 6400000 in
theorem dSqrt_ok (A : Dc) (c : Cx) (hA : OkD A) (hc : OkC c) : Ret Tryz.prog 48 false [.inr (gDc A),.inr (gCx c)] (rDS (sqD A c) (sqS A c)):=by
 have o0:=okCx_c hc
 have o1:=okD_g hA
 have ka:=OkD_kind hA
 obtain ⟨a1,a2,a3⟩:=okd_exp hA
 have l1:=coef_len a1
 have z1:=dg_nil_iff A.coef
 obtain ⟨n1,n2,n3,n4,n5⟩:=sq_len hA hc
 obtain ⟨c1,c2,_⟩:=hc
 obtain ⟨h1,h2⟩:=hf_is A.exp
 have hg:=hf_go A.exp
 obtain ⟨u1,u2⟩:=tm_bd A.exp
 obtain ⟨u3,u4⟩:=tm_bd (A.exp.tmod 2 + 2)
 have d1 : (dg 4294967296 1).length ≤ 1:=by decide
 have hNN : sqN A c = A.coef * 10 ^ (A.exp - 2 * hfE A.exp + 2 * (c.p + 2)).toNat:=by
  unfold sqN; rw [show A.exp - 2 * (hfE A.exp - c.p - 2) = A.exp - 2 * hfE A.exp + 2 * (c.p + 2) by omega]
 have hX : sqX A c = rtX (rt (sqN A c)) (sqN A c):=rfl
 have hE : sqE A c = rtE (rt (sqN A c)) (sqN A c) (hfE A.exp - c.p - 2):=rfl
 unfold sqD sqS
 generalize sqX A c = X at *
 generalize sqE A c = E at *
 generalize hN : sqN A c = NUM at *
 generalize hR : rt NUM = R at *
 generalize hH : hfE A.exp = H at *
 obtain ⟨k,s,m,e⟩:=A
 obtain ⟨p,r,mn,mx⟩:=c
 simp only at o0 o1 ka a1 a2 a3 l1 z1 c1 c2 h1 h2 hg hNN hE u1 u2 u3 u4 ⊢
 clear hA hN hH
 have hNN:=hNN.symm
 by_cases k2 : k = 2
 ·rw [if_pos k2,if_pos k2]
  (refine q_H Tryz.func48 (fun F=>?_); simp only [q_z,q_y,Tryz.ntmps48,Tryz.results48])
  repeat' (first|(with_reducible first|apply q_a|apply q_b|apply q_c|apply q_d|apply q_e|apply q_f|apply q_g|apply q_h|apply q_i|apply q_j|apply q_k|apply q_m|apply q_n|apply q_o|apply q_p|refine q_l ?_)|((with_reducible first|refine q_q dbl_ok fun K hK=>?_|refine q_r dbl_ok fun K hK=>?_);simp (maxSteps:=2000000) only [go_sem,↓reduceIte,reduceCtorEq,Nat.reduceLeDiff,Nat.reduceLT,Nat.reduceBEq,Nat.reduceAdd,o0,o1,V32];(repeat1' with_reducible first|apply And.intro|(intro _;try exact q_v)|(refine hK _ ?_;clear hK K))<;>(try (clear hK K;exact q_u)))|(with_reducible refine q_s ?_;(first|apply q_J|apply q_K|apply q_L|apply q_M|apply q_N|apply q_O)<;>try (intro _;try exact q_v))|with_reducible refine q_t ?_)
  all_goals first | omega | assumption | exact q_A rfl | skip
 rw [if_neg k2,if_neg k2]
 by_cases kn : s = true ∧ ¬ (k = 0 ∧ m = 0)
 ·rw [if_pos kn,if_pos kn]
  obtain ⟨rfl,kn⟩:=kn
  (refine q_H Tryz.func48 (fun F=>?_); simp only [q_z,q_y,Tryz.ntmps48,Tryz.results48])
  repeat' (first|(with_reducible first|apply q_a|apply q_b|apply q_c|apply q_d|apply q_e|apply q_f|apply q_g|apply q_h|apply q_i|apply q_j|apply q_k|apply q_m|apply q_n|apply q_o|apply q_p|refine q_l ?_)|((with_reducible first|refine q_q dbl_ok fun K hK=>?_|refine q_r dbl_ok fun K hK=>?_);simp (maxSteps:=2000000) only [go_sem,↓reduceIte,reduceCtorEq,Nat.reduceLeDiff,Nat.reduceLT,Nat.reduceBEq,Nat.reduceAdd,o0,o1,V32];(repeat1' with_reducible first|apply And.intro|(intro _;try exact q_v)|(refine hK _ ?_;clear hK K))<;>(try (clear hK K;exact q_u)))|(with_reducible refine q_s ?_;(first|apply q_J|apply q_K|apply q_L|apply q_M|apply q_N|apply q_O)<;>try (intro _;try exact q_v))|with_reducible refine q_t ?_)
  all_goals first | omega | assumption | exact q_A rfl | skip
 rw [if_neg kn,if_neg kn]
 by_cases k1 : k = 1
 ·rw [if_pos k1,if_pos k1]
  have hs : s = false:=by
   cases s
   ·rfl
   ·exact absurd ⟨rfl,fun h=>by omega⟩ kn
  subst hs
  (refine q_H Tryz.func48 (fun F=>?_); simp only [q_z,q_y,Tryz.ntmps48,Tryz.results48])
  repeat' (first|(with_reducible first|apply q_a|apply q_b|apply q_c|apply q_d|apply q_e|apply q_f|apply q_g|apply q_h|apply q_i|apply q_j|apply q_k|apply q_m|apply q_n|apply q_o|apply q_p|refine q_l ?_)|((with_reducible first|refine q_q dbl_ok fun K hK=>?_|refine q_r dbl_ok fun K hK=>?_);simp (maxSteps:=2000000) only [go_sem,↓reduceIte,reduceCtorEq,Nat.reduceLeDiff,Nat.reduceLT,Nat.reduceBEq,Nat.reduceAdd,o0,o1,V32];(repeat1' with_reducible first|apply And.intro|(intro _;try exact q_v)|(refine hK _ ?_;clear hK K))<;>(try (clear hK K;exact q_u)))|(with_reducible refine q_s ?_;(first|apply q_J|apply q_K|apply q_L|apply q_M|apply q_N|apply q_O)<;>try (intro _;try exact q_v))|with_reducible refine q_t ?_)
  all_goals first | omega | assumption | exact q_A rfl | skip
 rw [if_neg k1,if_neg k1]
 have k0 : k = 0:=by omega
 subst k0
 have hsz : s = true → m = 0:=fun h=>by
  rcases Nat.eq_zero_or_pos m with h0 | h0
  ·exact h0
  ·exact absurd ⟨h,fun g=>by omega⟩ kn
 have e1 : ([1] : List Int) = dg 4294967296 1:=rfl
 have ten1 : 10 ^ (1 : Int).toNat = 10:=rfl
 have q1:=ds_600 (n:=NUM) (by omega)
 have q2:=ds_600 (n:=R) (by omega)
 have okn : okN (dg 4294967296 NUM) = true:=okN_dg' q1
 have hm2:=ds_mul n2 n2
 have q3:=ds_600 (n:=R * R) (by omega)
 have hP : PF X 1 E:=⟨by omega,by omega,by decide,by omega,by omega⟩
 clear k1 k2 ka
 by_cases hl : R * R < NUM
 ·have x1 : X = R * 10 + 1:=by rw [hX]; exact if_pos hl
  have x2 : E = H - p - 2 - 1:=by rw [hE]; exact if_pos hl
  subst x1 x2
  clear hX hE
  have q4:=ds_600 (n:=R * 10) (by have:=ds_mul10 (a:=R) (n:=1) (k:=251) (by omega); rw [Nat.pow_one] at this; omega)
  have q5:=ds_600 (n:=R * 10 + 1) (by omega)
  cases s
  ·(refine q_H Tryz.func48 (fun F=>?_); simp only [q_z,q_y,Tryz.ntmps48,Tryz.results48])
   repeat' (first|(with_reducible first|apply q_a|apply q_b|apply q_c|apply q_d|apply q_e|apply q_f|apply q_g|apply q_h|apply q_i|apply q_j|apply q_k|apply q_m|apply q_n|apply q_o|apply q_p|refine q_l ?_)|((with_reducible first|refine q_q dbl_ok fun K hK=>?_|refine q_r dbl_ok fun K hK=>?_);simp (maxSteps:=2000000) only [go_sem,↓reduceIte,reduceCtorEq,Nat.reduceLeDiff,Nat.reduceLT,Nat.reduceBEq,Nat.reduceAdd,o0,o1,V32,hg,hNN,hR,e1,ten1];(repeat1' with_reducible first|apply And.intro|(intro _;try exact q_v)|(refine hK _ ?_;clear hK K))<;>(try (clear hK K;exact q_u)))|(with_reducible refine q_s ?_;(first|apply q_J|apply q_K|apply q_L|apply q_M|apply q_N|apply q_O)<;>try (intro _;try exact q_v))|with_reducible refine q_t ?_)
   all_goals first | omega | assumption | exact q_A rfl | skip
  ·have:=hsz rfl
   subst this
   rw [Nat.zero_mul] at hNN
   omega
 ·have x1 : X = R:=by rw [hX]; exact if_neg hl
  have x2 : E = H - p - 2:=by rw [hE]; exact if_neg hl
  subst x1 x2
  clear hX hE
  cases s
  ·(refine q_H Tryz.func48 (fun F=>?_); simp only [q_z,q_y,Tryz.ntmps48,Tryz.results48])
   repeat' (first|(with_reducible first|apply q_a|apply q_b|apply q_c|apply q_d|apply q_e|apply q_f|apply q_g|apply q_h|apply q_i|apply q_j|apply q_k|apply q_m|apply q_n|apply q_o|apply q_p|refine q_l ?_)|((with_reducible first|refine q_q dbl_ok fun K hK=>?_|refine q_r dbl_ok fun K hK=>?_);simp (maxSteps:=2000000) only [go_sem,↓reduceIte,reduceCtorEq,Nat.reduceLeDiff,Nat.reduceLT,Nat.reduceBEq,Nat.reduceAdd,o0,o1,V32,hg,hNN,hR,e1,ten1];(repeat1' with_reducible first|apply And.intro|(intro _;try exact q_v)|(refine hK _ ?_;clear hK K))<;>(try (clear hK K;exact q_u)))|(with_reducible refine q_s ?_;(first|apply q_J|apply q_K|apply q_L|apply q_M|apply q_N|apply q_O)<;>try (intro _;try exact q_v))|with_reducible refine q_t ?_)
   all_goals first | omega | assumption | exact q_A rfl | skip
  ·have:=hsz rfl
   subst this
   (refine q_H Tryz.func48 (fun F=>?_); simp only [q_z,q_y,Tryz.ntmps48,Tryz.results48])
   repeat' (first|(with_reducible first|apply q_a|apply q_b|apply q_c|apply q_d|apply q_e|apply q_f|apply q_g|apply q_h|apply q_i|apply q_j|apply q_k|apply q_m|apply q_n|apply q_o|apply q_p|refine q_l ?_)|((with_reducible first|refine q_q dbl_ok fun K hK=>?_|refine q_r dbl_ok fun K hK=>?_);simp (maxSteps:=2000000) only [go_sem,↓reduceIte,reduceCtorEq,Nat.reduceLeDiff,Nat.reduceLT,Nat.reduceBEq,Nat.reduceAdd,o0,o1,V32,hg,hNN,hR,e1,ten1];(repeat1' with_reducible first|apply And.intro|(intro _;try exact q_v)|(refine hK _ ?_;clear hK K))<;>(try (clear hK K;exact q_u)))|(with_reducible refine q_s ?_;(first|apply q_J|apply q_K|apply q_L|apply q_M|apply q_N|apply q_O)<;>try (intro _;try exact q_v))|with_reducible refine q_t ?_)
   all_goals first | omega | assumption | exact q_A rfl | skip
def sqrtCT : CT:=mkCT [nDc,nC] false fun l K=>match l with
 | [.inr [.i .i64 k,.b s,.b a,.ints .u32 xs,.i .i64 e],.inr [.i .i64 p,.i .i64 r,.i .i64 mn,.i .i64 mx]] =>
   (xs.length ≤ 140737488355328 ∧ InB 4294967296 xs) ∧
   (if okCx p r mn mx = true then (if okD k s a xs e = true then K (rDS (sqD ⟨k,s,V 4294967296 xs,e⟩ ⟨p,r,mn,mx⟩) (sqS ⟨k,s,V 4294967296 xs,e⟩ ⟨p,r,mn,mx⟩)) else K (rBad 6 (-1))) else K (rBad 4 (-9)))
 | _=>False
def dk2 : Cfg:=addT 48 sqrtCT cf0
theorem dk2_ok : TblOk Tryz.prog dk2:=q_I cf0_ok Tryz.func48 fun l K h =>
 op1_tr (f:=sqD) (g:=sqS) (fun A c hA hc=>dSqrt_ok A c hA hc) (fun k s a xs e p r mn mx h1 h3=>dSqrt_bad k s a xs e p r mn mx h1 h3) l K h
attribute [go_sem] sqrtCT
end Go.Proofs.YtgkajjifbcmoeaaGreatDoor
