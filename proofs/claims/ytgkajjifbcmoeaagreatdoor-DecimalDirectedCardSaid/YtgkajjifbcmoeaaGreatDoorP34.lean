import Derived.LaidMore
import Derived.Lay
import Derived.SevenTiedAt
import Derived.Stop.Joined
import Derived.Test.YtgkajjifbcmoeaaGreatDoorP29
import Derived.Test.YtgkajjifbcmoeaaGreatDoorP33
namespace Go.Proofs.NatL
set_option linter.unusedSimpArgs false
set_option linter.unusedVariables false
theorem and3 (x : Int) : Go.Abs.bitI .and .i64 x 3 = x % 4:=by
 have h1 : (BitVec.ofInt 64 x &&& BitVec.ofInt 64 3).toNat = (x % 4).toNat:=by
  rw [BitVec.toNat_and,show (BitVec.ofInt 64 3).toNat = 2 ^ 2 - 1 from rfl,Nat.and_two_pow_sub_one_eq_mod,BitVec.toNat_ofInt]
  omega
 show Go.IntKind.wrap .i64 ((BitVec.ofInt 64 x &&& BitVec.ofInt 64 3).toNat : Int) = x % 4
 rw [h1]
 have h2 : (((x % 4).toNat : Nat) : Int) = x % 4:=by omega
 rw [h2]
 rcases (by omega : x % 4 = 0 ∨ x % 4 = 1 ∨ x % 4 = 2 ∨ x % 4 = 3) with h | h | h | h <;> rw [h] <;> rfl
theorem ds_lim {n : Nat} (h : ds n ≤ 1100) : (dg 4294967296 n).length ≤ 120:=Nat.le_trans (len_ds h) (by omega)
theorem ds_lim65 {n : Nat} (h : ds n ≤ 1100) : (dg 65536 n).length ≤ 240:=Nat.le_trans (len_ds65 h) (by omega)
end Go.Proofs.NatL
namespace Go.Proofs.YtgkajjifbcmoeaaGreatDoor
set_option linter.unusedSimpArgs false
set_option linter.unusedVariables false
open Go.Abs Go.Proofs.NatL

theorem fq9 {z : Int} {d k : Nat} (h1 : (dg 4294967296 z.natAbs).length ≤ k) (h2 : (dg 4294967296 d).length ≤ k) (hk : k ≤ 128) : fQ z d:=⟨Nat.le_trans h1 hk,Nat.le_trans h2 hk⟩
abbrev aR9 (z : Int) (d : Nat) : List AV:=[.c (.b (decide (z < 0))),.c (.ints .u32 (dg 4294967296 z.natAbs)),.c (.b false),.c (.ints .u32 (dg 4294967296 d))]
attribute [go_sem] aR9
def dlj : Cfg:=listT [(50,validQCT),(51,checkCCT),(28,ofQCT),(52,finiteDCT),(19,ratDCT),(53,ratioOfCT),(54,(qT2 20000 dany2 ordT)),(57,(qT2 20000 dpos2 lesT)),(35,sameDecCT),(55,numberCT),(15,smallCT),(56,rtenCT),(31,tenthsCT)] [34]
theorem dlj_ok : TblOk Tryz.prog dlj:=listE_ok (by simp only [List.mem_singleton,forall_eq]; exact flt) ⟨⟨rq1,rq1_ok,rfl⟩,⟨er8,er8_ok,rfl⟩,⟨di1,di1_ok,rfl⟩,⟨ew1,ew1_ok,rfl⟩,⟨di2,di2_ok,rfl⟩,⟨rq2,rq2_ok,rfl⟩,⟨rq6,rq6_ok,rfl⟩,⟨rq7,rq7_ok,rfl⟩,⟨eu2,eu2_ok,rfl⟩,⟨jt7,jt7_ok,rfl⟩,⟨nt7,nt7_ok,rfl⟩,⟨er1,er1_ok,rfl⟩,⟨dh5,dh5_ok,rfl⟩,trivial⟩
attribute [go_sem] dlj
set_option maxRecDepth 100000 in
set_option maxHeartbeats 25600000 in
theorem ddirected_ok (z : Int) (d : Nat) (p r mn mx half : Int) (hx : RT z d) (o0 : okCx p r mn mx = true) (hmn : mn ≤ -900) (hmx : 900 ≤ mx) (l1 : (dg 4294967296 z.natAbs).length ≤ 60) (l2 : (dg 4294967296 d).length ≤ 60) :
  Ret Tryz.prog 10 false [.inr (gQ z d),.inr [.i .i64 p,.i .i64 r,.i .i64 mn,.i .i64 mx],.inl (.i .i64 half)] (.c (.b true)):=by
 have o1:=okQ_g hx
 obtain ⟨hd,_,_⟩:=RT_parts hx
 have hx0:=okCx_p o0
 obtain ⟨c1,c2,c3,c4,c5,c6,c7,c8⟩:=hx0
 have hF : Far p mn mx:=⟨c1,c2,c5,hmn,hmx,c8⟩
 have hsh:=sh_of hd l1 l2
 have ha3:=and3 half
 have h4 : 0 ≤ half % 4 ∧ half % 4 ≤ 3:=by omega
 have h3 : (half % 4).tmod 3 = half % 4 % 3:=Int.tmod_eq_emod_of_nonneg h4.1
 generalize half % 4 = hf at *
 have h5 : 0 ≤ hf % 3 ∧ hf % 3 ≤ 2:=by omega
 generalize hf % 3 = r3 at *
 obtain ⟨h4,h4'⟩:=h4
 obtain ⟨h5,h5'⟩:=h5
 have oc2 : okCx p 2 mn mx = true:=okCx_c (c:=⟨p,2,mn,mx⟩) ⟨c1,c2,by simp only; omega,by simp only; omega,c5,c6,c7,c8⟩
 have oc3 : okCx p 3 mn mx = true:=okCx_c (c:=⟨p,3,mn,mx⟩) ⟨c1,c2,by simp only; omega,by simp only; omega,c5,c6,c7,c8⟩
 have oc4 : okCx p (4 + r3) mn mx = true:=okCx_c (c:=⟨p,4 + r3,mn,mx⟩) ⟨c1,c2,by simp only; omega,by simp only; omega,c5,c6,c7,c8⟩
 obtain ⟨A,B,E,n,fA,fB,fE,sA,sB,sE,kA,kB,kE,hE,hcase⟩:=far_facts (r:=4 + r3) hsh hF
 have iA:=fit_is (decide (z < 0)) (n:=z.natAbs) 0 0 2 hd c1 c6 c7 (d:=d) (p:=p) (mn:=mn) (mx:=mx)
 have iB:=fit_is (decide (z < 0)) (n:=z.natAbs) 0 0 3 hd c1 c6 c7 (d:=d) (p:=p) (mn:=mn) (mx:=mx)
 rw [fA] at iA
 rw [fB] at iB
 obtain ⟨m1,m2,m3,m4,m5⟩:=dr_small iA kA hF
 obtain ⟨w1,w2,w3,w4,w5⟩:=dr_small iB kB hF
 have okA : OkD A:=.inl ⟨kA,by omega,by omega,m3⟩
 have okB : OkD B:=.inl ⟨kB,by omega,by omega,w3⟩
 have hnn : n = 0 ∨ n = 1:=by rcases hcase with ⟨h,_⟩ | ⟨h,_⟩ <;> omega
 -- the ratios of the two
 have pA:=drD_pos A
 have pB:=drD_pos B
 have lA1:=rdN_len (B:=4294967296) (by omega) (sg A.neg (drN A)) pA (k:=120) (by rw [sg_abs]; exact ds_lim m1)
 have lA2:=rdD_len (B:=4294967296) (by omega) (sg A.neg (drN A)) (ds_lim m2)
 have lB1:=rdN_len (B:=4294967296) (by omega) (sg B.neg (drN B)) pB (k:=120) (by rw [sg_abs]; exact ds_lim w1)
 have lB2:=rdD_len (B:=4294967296) (by omega) (sg B.neg (drN B)) (ds_lim w2)
 have tA1:=rdN_len (B:=65536) (by omega) (sg A.neg (drN A)) pA (k:=240) (by rw [sg_abs]; exact ds_lim65 m1)
 have tA2:=rdD_len (B:=65536) (by omega) (sg A.neg (drN A)) (ds_lim65 m2)
 have tB1:=rdN_len (B:=65536) (by omega) (sg B.neg (drN B)) pB (k:=240) (by rw [sg_abs]; exact ds_lim65 w1)
 have tB2:=rdD_len (B:=65536) (by omega) (sg B.neg (drN B)) (ds_lim65 w2)
 have qA:=rdD_pos (sg A.neg (drN A)) pA
 have qB:=rdD_pos (sg B.neg (drN B)) pB
 obtain ⟨gA1,gA2,gA3,gA4⟩:=f_fit (fq9 (k:=120) lA1 lA2 (by omega))
 obtain ⟨gB1,gB2,gB3,gB4⟩:=f_fit (fq9 (k:=120) lB1 lB2 (by omega))
 have oQA:=okQ_g (z:=rdN (sg A.neg (drN A)) (drD A)) (d:=rdD (sg A.neg (drN A)) (drD A)) ⟨qA,rd_gcd _ pA,Nat.le_trans lA1 (by omega),Nat.le_trans lA2 (by omega)⟩
 have oQB:=okQ_g (z:=rdN (sg B.neg (drN B)) (drD B)) (d:=rdD (sg B.neg (drN B)) (drD B)) ⟨qB,rd_gcd _ pB,Nat.le_trans lB1 (by omega),Nat.le_trans lB2 (by omega)⟩
 have od1:=ord_rd (N:=sg A.neg (drN A)) (z:=z) (D:=drD A) (d:=d) pA
 have od2:=ord_rd (N:=sg B.neg (drN B)) (z:=z) (D:=drD B) (d:=d) pB
 have hle : cmpZ (rdN (sg A.neg (drN A)) (drD A) * d) (z * rdD (sg A.neg (drN A)) (drD A)) ≤ 0:=by
  rw [od1]
  rcases hcase with ⟨_,_,h⟩ | ⟨_,h,_⟩
  ·exact Int.le_of_eq (cmpZ_eq h)
  ·exact cmpZ_le h
 have hge : 0 ≤ cmpZ (rdN (sg B.neg (drN B)) (drD B) * d) (z * rdD (sg B.neg (drN B)) (drD B)):=by
  rw [od2]
  rcases hcase with ⟨_,rfl,h⟩ | ⟨_,_,h,_⟩
  ·exact Int.le_of_eq (cmpZ_eq h).symm
  ·exact cmpZ_ge h
 have hex : n = 0 → A = B ∧ cmpZ (rdN (sg A.neg (drN A)) (drD A) * d) (z * rdD (sg A.neg (drN A)) (drD A)) = 0:=fun h=>by
  rcases hcase with ⟨_,h1,h2⟩ | ⟨h1,_⟩
  ·exact ⟨h1,od1.trans (cmpZ_eq h2)⟩
  ·omega
 have hun : n = 1 → cmpZ (rdN (rdN (sg B.neg (drN B)) (drD B) * rdD (sg A.neg (drN A)) (drD A) - rdN (sg A.neg (drN A)) (drD A) * rdD (sg B.neg (drN B)) (drD B)) (rdD (sg B.neg (drN B)) (drD B) * rdD (sg A.neg (drN A)) (drD A)) * (10 ^ (-min A.exp B.exp).toNat : Nat)) ((10 ^ (min A.exp B.exp).toNat : Nat) * rdD (rdN (sg B.neg (drN B)) (drD B) * rdD (sg A.neg (drN A)) (drD A) - rdN (sg A.neg (drN A)) (drD A) * rdD (sg B.neg (drN B)) (drD B)) (rdD (sg B.neg (drN B)) (drD B) * rdD (sg A.neg (drN A)) (drD A))) = 0:=fun h=>by
  rcases hcase with ⟨h1,_⟩ | ⟨_,_,_,h1⟩
  ·omega
  ·exact unit_rd pA pB h1
 have okE : OkD E:=by rcases hE with rfl | rfl <;> assumption
 have oA:=okD_g okA
 have oB:=okD_g okB
 have oE:=okD_g okE
 have lcA:=okd_len okA
 have lcB:=okd_len okB
 have lcE:=okd_len okE
 have gf1 : ofD (decide (z < 0)) z.natAbs d ⟨p,2,mn,mx⟩ = A:=fA
 have gf2 : ofD (decide (z < 0)) z.natAbs d ⟨p,3,mn,mx⟩ = B:=fB
 have gf3 : ofD (decide (z < 0)) z.natAbs d ⟨p,4 + r3,mn,mx⟩ = E:=fE
 have gs1 : ofS (decide (z < 0)) z.natAbs d ⟨p,2,mn,mx⟩ = n:=sA
 have gs2 : ofS (decide (z < 0)) z.natAbs d ⟨p,3,mn,mx⟩ = n:=sB
 have gs3 : ofS (decide (z < 0)) z.natAbs d ⟨p,4 + r3,mn,mx⟩ = n:=sE
 clear od1 od2 hcase iA iB hsh hF okA okB okE fA fB fE sA sB sE hx m1 m2 m3 w1 w2 w3 pA pB
 have hlD : 0 < rdD (sg A.neg (drN A)) (drD A):=qA
 have hhD : 0 < rdD (sg B.neg (drN B)) (drD B):=qB
 generalize hN1 : rdN (sg A.neg (drN A)) (drD A) = lN at *
 generalize hD1 : rdD (sg A.neg (drN A)) (drD A) = lD at *
 generalize hN2 : rdN (sg B.neg (drN B)) (drD B) = hN at *
 generalize hD2 : rdD (sg B.neg (drN B)) (drD B) = hD at *
 have hRA : rQ (sg A.neg (drN A)) (drD A) = rF lN lD:=by unfold rQ; rw [hN1,hD1]
 have hRB : rQ (sg B.neg (drN B)) (drD B) = rF hN hD:=by unfold rQ; rw [hN2,hD2]
 obtain ⟨ak,as',ac,ae⟩:=A
 obtain ⟨bk,bs,bc,be⟩:=B
 obtain ⟨ek,es,ec,ee⟩:=E
 simp only at kA kB kE oA oB oE lcA lcB lcE m4 m5 w4 w5
 subst kA kB kE
 simp only [Dc.mk.injEq,true_and] at hE
 have zx1:=(dg_half' z.natAbs 60).2 l1
 have zx2:=(dg_half' d 60).2 l2
 have n00 : ((0 : Int) ≠ 0) = False:=eq_false (fun h=>h rfl)
 (refine q_H Tryz.func10 (fun F=>?_); simp only [q_z,q_y,Tryz.ntmps10,Tryz.results10])
 refine seq_cut10 (ι:=Unit) (fun _=>⟨211,[(3,.bx 0 0),(6,.c (.b false)),(7,.bx 2 0),(8,.c (.i .i64 n)),(10,.bx 4 0),(13,.bx 6 0)],⟨[(6,aD 0 es false (dg 4294967296 ec) ee),(4,aD 0 bs false (dg 4294967296 bc) be),(2,aD 0 as' false (dg 4294967296 ac) ae),(0,aR9 z d)],[],[]⟩,8⟩) (fun Y hY=>?_) ?_
 ·clear hle hge hex hun hRA hRB oQA oQB
  repeat' (first|with_reducible refine q_0 ?_|((with_reducible first|refine q_q dlj_ok fun K hK=>?_|refine q_r dlj_ok fun K hK=>?_);simp (maxSteps:=2000000) only [go_sem,↓reduceIte,reduceCtorEq,Nat.reduceLeDiff,Nat.reduceLT,Nat.reduceBEq,Nat.reduceAdd,o0,o1,oc2,oc3,oc4,ha3,h3,oA,oB,oE,V32,gf1,gf2,gf3,gs1,gs2,gs3];(repeat1' with_reducible first|apply And.intro|(intro _;try exact q_v)|(refine hK _ ?_;clear hK K))<;>(try (clear hK K;exact q_u)))|(with_reducible refine q_s ?_;(first|apply q_J|apply q_K|apply q_L|apply q_M|apply q_N|apply q_O)<;>try (intro _;try exact q_v)))
  all_goals first | omega | assumption | exact cut_fit hY () q_D | skip
 intro _
 clear gf1 gf2 gf3 gs1 gs2 gs3 oc2 oc3 oc4 ha3 h3 oE
 refine seq_cut5 (ι:=Unit) (fun _=>⟨211,[(6,.c (.b false)),(7,.bx 2 0),(8,.c (.i .i64 n)),(10,.bx 4 0),(16,.bx 8 0),(18,.bx 10 0),(20,.bx 12 0)],⟨[(12,[.c (.b (decide (z < 0))),.c (.ints .i64 (dg 65536 z.natAbs)),.c (.ints .i64 (dg 65536 d))]),(10,aR9 hN hD),(8,aR9 lN lD),(4,aD 0 bs false (dg 4294967296 bc) be),(2,aD 0 as' false (dg 4294967296 ac) ae)],[],[]⟩,13⟩) (fun Y hY=>?_) ?_
 ·clear hex hun
  rcases hE with ⟨rfl,rfl,rfl⟩ | ⟨rfl,rfl,rfl⟩
  all_goals
   repeat' (first|with_reducible refine q_0 ?_|((with_reducible first|refine q_q dlj_ok fun K hK=>?_|refine q_r dlj_ok fun K hK=>?_);simp (maxSteps:=2000000) only [go_sem,↓reduceIte,reduceCtorEq,Nat.reduceLeDiff,Nat.reduceLT,Nat.reduceBEq,Nat.reduceAdd,oA,oB,n00,hN1,hD1,hN2,hD2,gA1,gA2,gA3,gA4,gB1,gB2,gB3,gB4,oQA,oQB,V32,sv32,V65,sv65,svz65,sv65d];(repeat1' with_reducible first|apply And.intro|(intro _;try exact q_v)|(refine hK _ ?_;clear hK K))<;>(try (clear hK K;exact q_u)))|(with_reducible refine q_s ?_;(first|apply q_J|apply q_K|apply q_L|apply q_M|apply q_N|apply q_O)<;>try (intro _;try exact q_v)))
   all_goals first | omega | assumption | exact cut_fit hY () q_D | skip
 intro _
 clear hle hge hE gA1 gA2 gA3 gA4 gB1 gB2 gB3 gB4 oQA oQB hRA hRB
 have d1f : decide ((1 : Int) < 0) = false:=rfl
 have na1 : (1 : Int).natAbs = 1:=rfl
 have t0 : (1 : Int).toNat = 1:=rfl
 have dg1 : (dg 65536 1).length ≤ 1:=by decide
 rcases hnn with rfl | rfl
 ·obtain ⟨hAB,h0⟩:=hex rfl
  simp only [Dc.mk.injEq,true_and] at hAB
  obtain ⟨rfl,rfl,rfl⟩:=hAB
  repeat' (first|with_reducible refine q_0 ?_|((with_reducible first|refine q_q dlj_ok fun K hK=>?_|refine q_r dlj_ok fun K hK=>?_);simp (maxSteps:=2000000) only [go_sem,↓reduceIte,reduceCtorEq,Nat.reduceLeDiff,Nat.reduceLT,Nat.reduceBEq,Nat.reduceAdd,oA,V32,sv32,V65,sv65,svz65,sv65d,sgf,h0];(repeat1' with_reducible first|apply And.intro|(intro _;try exact q_v)|(refine hK _ ?_;clear hK K))<;>(try (clear hK K;exact q_u)))|(with_reducible refine q_s ?_;(first|apply q_J|apply q_K|apply q_L|apply q_M|apply q_N|apply q_O)<;>try (intro _;try exact q_v)))
  all_goals first | omega | assumption | exact q_A rfl | skip
 ·have hu:=hun rfl
  have x1:=zmul_len (B:=65536) (a:=hN) (b:=(lD : Int)) (by omega) tB1 (by rw [Int.natAbs_natCast]; exact tA2)
  have x2:=zmul_len (B:=65536) (a:=lN) (b:=(hD : Int)) (by omega) tA1 (by rw [Int.natAbs_natCast]; exact tB2)
  have x3:=zadd_len (B:=65536) (a:=hN * (lD : Int)) (b := -(lN * (hD : Int))) (k:=480) (by omega) (Nat.le_trans x1 (by omega)) (by rw [Int.natAbs_neg]; exact Nat.le_trans x2 (by omega))
  rw [← Int.sub_eq_add_neg] at x3
  have x4:=mul_len (B:=65536) (by omega) tB2 tA2
  have x5:=Nat.mul_pos hhD hlD
  have x6:=rdN_len (B:=65536) (by omega) (hN * (lD : Int) - lN * (hD : Int)) x5 x3
  have x7:=rdD_len (B:=65536) (by omega) (hN * (lD : Int) - lN * (hD : Int)) x4
  have x8:=rdD_pos (hN * (lD : Int) - lN * (hD : Int)) x5
  clear hex hun x1 x2 x3 x4 x5 hN1 hD1 hN2 hD2
  generalize hXX : rdN (hN * (lD : Int) - lN * (hD : Int)) (hD * lD) = X at *
  generalize hYY : rdD (hN * (lD : Int) - lN * (hD : Int)) (hD * lD) = Y at *
  by_cases he : be < ae
  ·have hm : min ae be = be:=by omega
   simp only [hm] at hu
   by_cases hp : 0 ≤ be
   ·rw [show (-be).toNat = 0 by omega,Nat.pow_zero] at hu
    have hw:=ds_lim65 (n:=10 ^ be.toNat) (by rw [ds_ten]; omega)
    generalize hW : 10 ^ be.toNat = W at *
    repeat' (first|with_reducible refine q_0 ?_|((with_reducible first|refine q_q dlj_ok fun K hK=>?_|refine q_r dlj_ok fun K hK=>?_);simp (maxSteps:=2000000) only [go_sem,↓reduceIte,reduceCtorEq,Nat.reduceLeDiff,Nat.reduceLT,Nat.reduceBEq,Nat.reduceAdd,d1f,na1,t0,oA,oB,V32,sv32,V65,sv65,svz65,sv65d,sgf,hXX,hYY,hW,hu];(repeat1' with_reducible first|apply And.intro|(intro _;try exact q_v)|(refine hK _ ?_;clear hK K))<;>(try (clear hK K;exact q_u)))|(with_reducible refine q_s ?_;(first|apply q_J|apply q_K|apply q_L|apply q_M|apply q_N|apply q_O)<;>try (intro _;try exact q_v)))
    all_goals first | omega | assumption | exact q_A rfl | skip
   ·rw [show be.toNat = 0 by omega,Nat.pow_zero,← Int.zero_sub] at hu
    have hw:=ds_lim65 (n:=10 ^ (0 - be).toNat) (by rw [ds_ten]; omega)
    generalize hW : 10 ^ (0 - be).toNat = W at *
    repeat' (first|with_reducible refine q_0 ?_|((with_reducible first|refine q_q dlj_ok fun K hK=>?_|refine q_r dlj_ok fun K hK=>?_);simp (maxSteps:=2000000) only [go_sem,↓reduceIte,reduceCtorEq,Nat.reduceLeDiff,Nat.reduceLT,Nat.reduceBEq,Nat.reduceAdd,d1f,na1,t0,oA,oB,V32,sv32,V65,sv65,svz65,sv65d,sgf,hXX,hYY,hW,hu];(repeat1' with_reducible first|apply And.intro|(intro _;try exact q_v)|(refine hK _ ?_;clear hK K))<;>(try (clear hK K;exact q_u)))|(with_reducible refine q_s ?_;(first|apply q_J|apply q_K|apply q_L|apply q_M|apply q_N|apply q_O)<;>try (intro _;try exact q_v)))
    all_goals first | omega | assumption | exact q_A rfl | skip
  ·have hm : min ae be = ae:=by omega
   simp only [hm] at hu
   by_cases hp : 0 ≤ ae
   ·rw [show (-ae).toNat = 0 by omega,Nat.pow_zero] at hu
    have hw:=ds_lim65 (n:=10 ^ ae.toNat) (by rw [ds_ten]; omega)
    generalize hW : 10 ^ ae.toNat = W at *
    repeat' (first|with_reducible refine q_0 ?_|((with_reducible first|refine q_q dlj_ok fun K hK=>?_|refine q_r dlj_ok fun K hK=>?_);simp (maxSteps:=2000000) only [go_sem,↓reduceIte,reduceCtorEq,Nat.reduceLeDiff,Nat.reduceLT,Nat.reduceBEq,Nat.reduceAdd,d1f,na1,t0,oA,oB,V32,sv32,V65,sv65,svz65,sv65d,sgf,hXX,hYY,hW,hu];(repeat1' with_reducible first|apply And.intro|(intro _;try exact q_v)|(refine hK _ ?_;clear hK K))<;>(try (clear hK K;exact q_u)))|(with_reducible refine q_s ?_;(first|apply q_J|apply q_K|apply q_L|apply q_M|apply q_N|apply q_O)<;>try (intro _;try exact q_v)))
    all_goals first | omega | assumption | exact q_A rfl | skip
   ·rw [show ae.toNat = 0 by omega,Nat.pow_zero,← Int.zero_sub] at hu
    have hw:=ds_lim65 (n:=10 ^ (0 - ae).toNat) (by rw [ds_ten]; omega)
    generalize hW : 10 ^ (0 - ae).toNat = W at *
    repeat' (first|with_reducible refine q_0 ?_|((with_reducible first|refine q_q dlj_ok fun K hK=>?_|refine q_r dlj_ok fun K hK=>?_);simp (maxSteps:=2000000) only [go_sem,↓reduceIte,reduceCtorEq,Nat.reduceLeDiff,Nat.reduceLT,Nat.reduceBEq,Nat.reduceAdd,d1f,na1,t0,oA,oB,V32,sv32,V65,sv65,svz65,sv65d,sgf,hXX,hYY,hW,hu];(repeat1' with_reducible first|apply And.intro|(intro _;try exact q_v)|(refine hK _ ?_;clear hK K))<;>(try (clear hK K;exact q_u)))|(with_reducible refine q_s ?_;(first|apply q_J|apply q_K|apply q_L|apply q_M|apply q_N|apply q_O)<;>try (intro _;try exact q_v)))
    all_goals first | omega | assumption | exact q_A rfl | skip
set_option maxRecDepth 100000 in
set_option maxHeartbeats 12800000 in
theorem ddirected_ret (s t : Bool) (xs ys : List Int) (p r mn mx half : Int) (h0 : xs.length ≤ 140737488355328 ∧ ys.length ≤ 140737488355328) (b0 : InB 4294967296 xs ∧ InB 4294967296 ys) :
  Ret Tryz.prog 10 false [.inr [.b s,.ints .u32 xs,.b t,.ints .u32 ys],.inr [.i .i64 p,.i .i64 r,.i .i64 mn,.i .i64 mx],.inl (.i .i64 half)] (.c (.b true)):=by
 obtain ⟨h0,h0'⟩:=h0
 obtain ⟨b0,b0'⟩:=b0
 cases o1 : okQ s xs t ys
 ·(refine q_H Tryz.func10 (fun F=>?_); simp only [q_z,q_y,Tryz.ntmps10,Tryz.results10])
  repeat' (first|with_reducible refine q_0 ?_|((with_reducible first|refine q_q dlj_ok fun K hK=>?_|refine q_r dlj_ok fun K hK=>?_);simp (maxSteps:=2000000) only [go_sem,↓reduceIte,reduceCtorEq,Nat.reduceLeDiff,Nat.reduceLT,Nat.reduceBEq,Nat.reduceAdd,o1];(repeat1' with_reducible first|apply And.intro|(intro _;try exact q_v)|(refine hK _ ?_;clear hK K))<;>(try (clear hK K;exact q_u)))|(with_reducible refine q_s ?_;(first|apply q_J|apply q_K|apply q_L|apply q_M|apply q_N|apply q_O)<;>try (intro _;try exact q_v)))
  all_goals first | omega | assumption | exact q_A rfl | skip
 cases o0 : okCx p r mn mx
 ·(refine q_H Tryz.func10 (fun F=>?_); simp only [q_z,q_y,Tryz.ntmps10,Tryz.results10])
  repeat' (first|with_reducible refine q_0 ?_|((with_reducible first|refine q_q dlj_ok fun K hK=>?_|refine q_r dlj_ok fun K hK=>?_);simp (maxSteps:=2000000) only [go_sem,↓reduceIte,reduceCtorEq,Nat.reduceLeDiff,Nat.reduceLT,Nat.reduceBEq,Nat.reduceAdd,o1,o0];(repeat1' with_reducible first|apply And.intro|(intro _;try exact q_v)|(refine hK _ ?_;clear hK K))<;>(try (clear hK K;exact q_u)))|(with_reducible refine q_s ?_;(first|apply q_J|apply q_K|apply q_L|apply q_M|apply q_N|apply q_O)<;>try (intro _;try exact q_v)))
  all_goals first | omega | assumption | exact q_A rfl | skip
 by_cases hb : -900 < mn ∨ mx < 900 ∨ (60 : Int) < xs.length ∨ (60 : Int) < ys.length
 ·(refine q_H Tryz.func10 (fun F=>?_); simp only [q_z,q_y,Tryz.ntmps10,Tryz.results10])
  repeat' (first|with_reducible refine q_0 ?_|((with_reducible first|refine q_q dlj_ok fun K hK=>?_|refine q_r dlj_ok fun K hK=>?_);simp (maxSteps:=2000000) only [go_sem,↓reduceIte,reduceCtorEq,Nat.reduceLeDiff,Nat.reduceLT,Nat.reduceBEq,Nat.reduceAdd,o1,o0];(repeat1' with_reducible first|apply And.intro|(intro _;try exact q_v)|(refine hK _ ?_;clear hK K))<;>(try (clear hK K;exact q_u)))|(with_reducible refine q_s ?_;(first|apply q_J|apply q_K|apply q_L|apply q_M|apply q_N|apply q_O)<;>try (intro _;try exact q_v)))
  all_goals first | omega | assumption | exact q_A rfl | skip
 obtain ⟨z,d,e1,e2,e3,e4,e5,e6,hR⟩:=okQ_eq o1 b0 b0'
 subst e3 e4 e5 e6
 exact ddirected_ok z d p r mn mx half hR o0 (by omega) (by omega) (by omega) (by omega)
end Go.Proofs.YtgkajjifbcmoeaaGreatDoor

namespace Go.Proofs.YtgkajjifbcmoeaaGreatDoor
set_option linter.unusedSimpArgs false
set_option linter.unusedVariables false
open Go.Abs Go.Proofs.NatL Go.ChangeShapes Go.WideShapes Go.ChangeAt Go.RowKit

set_option maxRecDepth 100000 in
theorem decimalDirected_contract (H : Type) (enc : TypeId × Value → H) (W : World) (base : Nat) (args : Array Value) (ds gs : List (DataW H)) (before : List MemPlace)
  (hval : ∀ (j : Nat) t v,Tryz.f10.params[j]? = some t → args[j]? = some v → Value.okWide Tryz.prog W .any base t v)
  (hW : DataW.Whole enc Tryz.prog Tryz.f10.params.toList Rows.decimalDirectedSpec.vars false W args.toList ds gs before)
  (hz : (DataW.weightsEach Tryz.prog (Tryz.f10.params.toList ++ Rows.decimalDirectedSpec.plain.varTypes Tryz.prog) (ds ++ gs)).all (· ≤ reachBytes) = true) :
  Calls Tryz.prog 10 args W fun e W'=>∃ v,e = .returned v ∧ Rows.decimalDirectedSpec.post enc Tryz.prog Tryz.f10 false true false false W args v W':=by
 have hW':=hW
 obtain ⟨p,q,hA0,hV,rfl,hfz,hnd⟩:=hW
 have hA : DataW.TrodAll enc Tryz.prog W 0 (fun _=>true) true Tryz.f10.params.toList args.toList ds p:=hA0
 rw [Tryz.params10] at hA hval hz
 obtain ⟨v0,vs0,d0,ds0,p0,q0,hargs,rfl,rfl,h0,r'0⟩:=trodAll_cons hA
 obtain ⟨v1,vs1,d1,ds1,p1,q1,rfl,rfl,rfl,h1,r'1⟩:=trodAll_cons r'0
 obtain ⟨v2,vs2,d2,ds2,p2,q2,rfl,rfl,rfl,h2,r'2⟩:=trodAll_cons r'1
 obtain ⟨rfl,rfl,rfl⟩:=trodAll_nil r'2
 obtain rfl : args = #[v0,v1,v2]:=by cases args; simp_all
 obtain ⟨rfl,rfl⟩:=trodVars_none hV
 obtain ⟨s0,hz⟩:=szd_cons hz
 obtain ⟨s1,hz⟩:=szd_cons hz
 obtain ⟨s2,hz⟩:=szd_cons hz
 obtain ⟨s_0a,x0a,s_0b,x0b,r0,l0,b0⟩:=open_Ratio (hval 0 _ v0 rfl rfl) h0 s0
 obtain ⟨p_1,r_1,m_1,n_1,r1⟩:=open_Context (hval 1 _ v1 rfl rfl) h1
 obtain ⟨x2,rfl,rfl,rfl,w2⟩:=open_int Tryz.underlying3 (hval 2 _ v2 rfl rfl) h2
 have b2:=bounds_i64 w2
 refine law_post [.inr [.b s_0a,.ints .u32 x0a,.b s_0b,.ints .u32 x0b],.inr [.i .i64 p_1,.i .i64 r_1,.i .i64 m_1,.i .i64 n_1],.inl (.i .i64 x2)] kids full (by rw [Tryz.params10]; decide +kernel) rfl rfl Tryz.underlying4 rfl hW' rfl ?_ (ddirected_ret s_0a s_0b x0a x0b p_1 r_1 m_1 n_1 x2 l0 b0)
 intro j y u hy hu
 match j with
 | 0=>cases hy; cases hu; exact r0
 | 1=>cases hy; cases hu; exact r1
 | 2=>cases hy; cases hu; exact Rd.i .i64 x2
 | _ + 3=>simp at hy

set_option maxRecDepth 100000 in
theorem decimalDirected_lifted (os : Os) (started : os.Started) (H : Type) (enc : TypeId × Value → H) :
  ReturnsInHanded {} Tryz.checked os 10 .any (fun w args=>(Rows.decimalDirectedSpec.pre enc Tryz.prog Tryz.f10 Rows.decimalDirectedRow.domain false w args ∧ laidMetH Tryz.prog Rows.decimalDirectedRow.laid w) ∧ sizedMet enc Tryz.prog Tryz.f10 (OpenSpec.ofChange Rows.decimalDirectedSpec) false w args) (Rows.decimalDirectedSpec.post enc Tryz.prog Tryz.f10 false true false false):=by
 refine returnsInHanded_of_change_and (C:=Tryz.checked) (X:=fun w _=>laidMetH Tryz.prog Rows.decimalDirectedRow.laid w) (fun _ _ _ hh h=>h.of_heap hh) own_knob started (by kernel_rfl) Tryz.func10
  (ChangeSpec.witness_shaped (enc:=enc) (C:=Tryz.checked) (os:=os) (X:=fun w _=>laidMetH Tryz.prog Rows.decimalDirectedRow.laid w) false (World.laidAll Tryz.prog os Rows.decimalDirectedRow.laid) #[.agg #[.bool false,.slice none 0 0,.bool false,.slice none 0 0],.agg #[.int .i64 0,.int .i64 0,.int .i64 0,.int .i64 0],.int .i64 0] 8 (World.laidAll_os _ _ _)
   (World.shaped_of_ZipB (by kernel_rfl) (by kernel_rfl)) (by kernel_rfl) (by kernel_rfl) (by kernel_rfl)
   (by rw [MakeChecks.laidMetH_plain _ _ _ (by kernel_rfl)]; exact laidMet_laidAll _ (by kernel_rfl) (by kernel_rfl))) ?_
 intro W base args ds gs before hval hW _ hz _ _
 exact decimalDirected_contract H enc W base args ds gs before hval hW hz

theorem decimalDirected_h1 : Rows.decimalDirectedRow.wf (OpenSpec.ofChange Rows.decimalDirectedSpec) = true:=by kernel_rfl
theorem decimalDirected_h2 : laidOutB Tryz.pinned.checked.prog = true:=by kernel_rfl
theorem decimalDirected_h3 : mapsRowed Tryz.pinned.checked.prog = true:=by kernel_rfl
theorem decimalDirected_h4 : (Rows.decimalDirectedRow.inPlace == Tryz.pinned.checked.prog.inPlace 10) = true:=by kernel_rfl
theorem decimalDirected_h5 : (Rows.decimalDirectedRow.unfollowed == Tryz.pinned.checked.prog.unfollowed 10) = true:=by kernel_rfl
theorem decimalDirected_h6 : (Rows.decimalDirectedRow.recurses == Tryz.pinned.checked.prog.recurses 10) = true:=by kernel_rfl
theorem decimalDirected_h7 : (Rows.decimalDirectedRow.named == Tryz.pinned.checked.prog.varsNamed 10) = true:=by kernel_rfl
theorem decimalDirected_h8 : (Rows.decimalDirectedRow.plainKeys == Tryz.pinned.checked.prog.plainKeys) = true:=by kernel_rfl
theorem decimalDirected_and {a b : Bool} (ha : a = true) (hb : b = true) : (a && b) = true:=by rw [ha,hb]; rfl
theorem decimalDirected_facts : joinedFacts Tryz.pinned.checked.prog 10 Tryz.f10 Rows.decimalDirectedSpec Rows.decimalDirectedRow = true:=by
 unfold joinedFacts
 repeat' (with_reducible refine decimalDirected_and ?_ ?_)
 all_goals first
  | with_reducible exact decimalDirected_h1
  | with_reducible exact decimalDirected_h2
  | with_reducible exact decimalDirected_h3
  | with_reducible exact decimalDirected_h4
  | with_reducible exact decimalDirected_h5
  | with_reducible exact decimalDirected_h6
  | with_reducible exact decimalDirected_h7
  | with_reducible exact decimalDirected_h8
  | kernel_rfl

theorem decimalDirected_holds : Rows.DecimalDirectedSaid :=
 OpenClaim.holds_of_wide 10 Tryz.f10 rfl rfl rfl rfl rfl rfl rfl ⟨rfl,rfl,rfl,rfl,rfl⟩ rfl rfl rfl rfl rfl (by kernel_rfl) Tryz.func10 decimalDirected_facts
  (of_decide_eq_true (by kernel_rfl)) (by unfold Func.isWrapper; first | (rw [if_pos (by decide +kernel)]; kernel_rfl) | (rw [if_neg (by decide +kernel)]; exact ⟨rfl,rfl⟩))
  (fun os started H enc _=>decimalDirected_lifted os started H enc)

end Go.Proofs.YtgkajjifbcmoeaaGreatDoor
