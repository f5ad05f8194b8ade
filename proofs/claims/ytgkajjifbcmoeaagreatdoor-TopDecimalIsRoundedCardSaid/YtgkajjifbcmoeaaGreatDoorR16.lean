import Derived.LaidMore
import Derived.Lay
import Derived.SevenTiedAt
import Derived.Stop.Joined
import Derived.Test.YtgkajjifbcmoeaaGreatDoorR15
namespace Go.Proofs.NatL
set_option linter.unusedSimpArgs false
set_option linter.unusedVariables false
theorem dr_200 {A : Dc} (h : OkD A) (g1 : -200 ≤ A.exp) (g2 : A.exp ≤ 200) : ds (drN A) ≤ 320 ∧ ds (drD A) ≤ 201:=by
 obtain ⟨h1,h2,h3⟩:=okd_exp h
 refine ⟨ds_mul10 (by omega),?_⟩
 unfold drD; rw [ds_ten]; omega
def TopF (P : Dc) (n : Int) (N : Int) (D : Nat) (c : Cx) : Prop :=
 (0 < rdD N D ∧ Nat.gcd (rdN N D).natAbs (rdD N D) = 1) ∧ ((dg 4294967296 (rdN N D).natAbs).length ≤ 128 ∧ (dg 4294967296 (rdD N D)).length ≤ 128) ∧ OkD P ∧ P.kind ≠ 2 ∧
 OkD (ofD (decide (rdN N D < 0)) (rdN N D).natAbs (rdD N D) c) ∧ (ofD (decide (rdN N D < 0)) (rdN N D).natAbs (rdD N D) c).kind ≠ 2 ∧
 cmpD P (ofD (decide (rdN N D < 0)) (rdN N D).natAbs (rdD N D) c) = 0 ∧ ofS (decide (rdN N D < 0)) (rdN N D).natAbs (rdD N D) c = n
theorem topF_mk {P : Dc} {n : Int} {N : Int} {D : Nat} {c : Cx} (hc : OkC c) (hD : 0 < D) (l1 : (dg 4294967296 N.natAbs).length ≤ 128) (l2 : (dg 4294967296 D).length ≤ 128) (hP : OkD P) (kP : P.kind ≠ 2)
  (h : cmpD P (ofD (decide (rdN N D < 0)) (rdN N D).natAbs (rdD N D) c) = 0 ∧ n = ofS (decide (rdN N D < 0)) (rdN N D).natAbs (rdD N D) c) : TopF P n N D c :=
 ⟨⟨rdD_pos _ hD,rd_gcd _ hD⟩,⟨rdN_len (by omega) _ hD l1,rdD_len (by omega) _ l2⟩,hP,kP,fit_ok (rdD_pos _ hD) hc,fit_kind _ _ _ _ _ _ _ _ _,h.1,h.2.symm⟩
theorem top_facts {A B : Dc} {c : Cx} {x y : Int} {a b : Nat} (hc : OkC c) (hA : OkD A) (hB : OkD B) (ka : A.kind = 0) (kb : B.kind = 0) (rA : isR A x a) (rB : isR B y b)
  (lx : (dg 4294967296 x.natAbs).length ≤ 40) (ly : (dg 4294967296 y.natAbs).length ≤ 40) (la : (dg 4294967296 a).length ≤ 40) (lb : (dg 4294967296 b).length ≤ 40) :
  TopF (addD A B c) (addS A B c) (x * b + y * a) (a * b) c ∧ TopF (addD A (opD B) c) (addS A (opD B) c) (x * b - y * a) (a * b) c ∧ TopF (mulD A B c) (mulS A B c) (x * y) (a * b) c ∧
  (0 < B.coef → y ≠ 0 ∧ TopF (divD A B c) (divS A B c) (x * tn y b) (a * y.natAbs) c):=by
 have hab:=Nat.mul_pos rA.1 rB.1
 have lab:=mul_len (B:=4294967296) (by omega) la lb
 have lxb:=zmul_len (B:=4294967296) (a:=x) (b:=(b : Int)) (by omega) lx (by rw [Int.natAbs_natCast]; exact lb)
 have lya:=zmul_len (B:=4294967296) (a:=y) (b:=(a : Int)) (by omega) ly (by rw [Int.natAbs_natCast]; exact la)
 have lxy:=zmul_len (B:=4294967296) (a:=x) (b:=y) (by omega) lx ly
 have ls:=zadd_len (B:=4294967296) (a:=x * b) (b:=y * a) (k:=80) (by omega) (Nat.le_trans lxb (by omega)) (Nat.le_trans lya (by omega))
 have lm:=zadd_len (B:=4294967296) (a:=x * b) (b := -(y * a)) (k:=80) (by omega) (Nat.le_trans lxb (by omega)) (by rw [Int.natAbs_neg]; exact Nat.le_trans lya (by omega))
 rw [← Int.sub_eq_add_neg] at lm
 have k1 : (addD A B c).kind ≠ 2:=by rw [(add_fin c ka kb).1]; exact fit_kind _ _ _ _ _ _ _ _ _
 have k2 : (addD A (opD B) c).kind ≠ 2:=by
  rw [(add_fin (A:=A) (B:=opD B) c ka ((op_k B).1.trans kb)).1]; exact fit_kind _ _ _ _ _ _ _ _ _
 have k3 : (mulD A B c).kind ≠ 2:=by rw [(mul_fin c ka kb).1]; exact fit_kind _ _ _ _ _ _ _ _ _
 refine ⟨topF_mk hc hab (Nat.le_trans ls (by omega)) (Nat.le_trans lab (by omega)) (add_ok hc) k1 (top_add hc hA hB ka kb rA rB),
  topF_mk hc hab (Nat.le_trans lm (by omega)) (Nat.le_trans lab (by omega)) (add_ok (A:=A) (B:=opD B) hc) k2 (top_sub hc hA hB ka kb rA rB),
  topF_mk hc hab (Nat.le_trans lxy (by omega)) (Nat.le_trans lab (by omega)) (mul_ok hc) k3 (top_mul hc hA hB ka kb rA rB),fun hb0=>?_⟩
 obtain ⟨y0,hd⟩:=top_div hc hA hB ka kb hb0 rA rB
 have hay:=Nat.mul_pos rA.1 (show 0 < y.natAbs by omega)
 have lay:=mul_len (B:=4294967296) (by omega) la ly
 have lxt:=zmul_len (B:=4294967296) (a:=x) (b:=tn y b) (by omega) lx (by unfold tn; rw [sg_abs]; exact lb)
 have k4 : (divD A B c).kind ≠ 2:=by rw [(div_fin (A:=A) (B:=B) c ka kb (by omega)).1]; exact fit_kind _ _ _ _ _ _ _ _ _
 exact ⟨y0,topF_mk hc hay (Nat.le_trans lxt (by omega)) (Nat.le_trans lay (by omega)) (div_ok hc) k4 hd⟩
end Go.Proofs.NatL
namespace Go.Proofs.YtgkajjifbcmoeaaGreatDoor
set_option linter.unusedSimpArgs false
set_option linter.unusedVariables false
open Go.Abs Go.Proofs.NatL

def dlk : Cfg:=listT [(15,smallCT),(14,rfiniteCT),(16,(op2CT divD divS)),(24,(op2CT addD addS)),(25,(op2CT subD subS)),(26,(op2CT mulD mulS)),(17,thirdTextCT),(18,dcheckCT),(19,ratDCT),(20,(qtot2 qgAdd [zQ])),(21,(qtot2 qgSub [zQ])),(22,(qtot2 qgMul [zQ])),(23,(qtot2 qgDiv [zQ])),(28,ofQCT),(29,cmpCT),(27,noIntACT)] [34]
theorem dlk_ok : TblOk Tryz.prog dlk:=listE_ok (by simp only [List.mem_singleton,forall_eq]; exact flt) ⟨⟨nt7,nt7_ok,rfl⟩,⟨es2,es2_ok,rfl⟩,⟨dg4x,dg4x_ok,rfl⟩,⟨dg1x,dg1x_ok,rfl⟩,⟨dg2x,dg2x_ok,rfl⟩,⟨dg3x,dg3x_ok,rfl⟩,⟨do2,do2_ok,rfl⟩,⟨er9,er9_ok,rfl⟩,⟨di2,di2_ok,rfl⟩,⟨qt6,qt6_ok,rfl⟩,⟨qt7,qt7_ok,rfl⟩,⟨qt8,qt8_ok,rfl⟩,⟨qt10,qt10_ok,rfl⟩,⟨di1,di1_ok,rfl⟩,⟨dj2,dj2_ok,rfl⟩,⟨er6,er6_ok,rfl⟩,trivial⟩
attribute [go_sem] dlk
theorem ok_ex : okCx 4 0 (-9) 9 = true:=by rfl
theorem dg_1 : dg 4294967296 1 = [1]:=by rfl
theorem dg_3 : dg 4294967296 3 = [3]:=by rfl
theorem dg6_1 : dg 65536 1 = [1]:=by rfl
theorem dg6_3 : dg 65536 3 = [3]:=by rfl
theorem ok_one : okD 0 false false [1] 0 = true:=by rfl
theorem ok_three : okD 0 false false [3] 0 = true:=by rfl
theorem V_one : V 4294967296 [1] = 1:=by rfl
theorem V_three : V 4294967296 [3] = 3:=by rfl
theorem V6_one : V 65536 [1] = 1:=by rfl
theorem V6_three : V 65536 [3] = 3:=by rfl
theorem szf44 : szO Tryz.prog 44 = some 1:=by kernel_rfl
theorem byf44 : byO Tryz.prog 44 = some 8:=by kernel_rfl
theorem zef44 : (zeroO Tryz.prog 44).isSome = true:=by kernel_rfl
theorem agf44 : aggO Tryz.prog 44 = some false:=by kernel_rfl
theorem elf44 : elO Tryz.prog 44 = none:=by kernel_rfl
theorem stf44 : strO Tryz.prog 44 = false:=by kernel_rfl
theorem u8f44 : u8O Tryz.prog 44 = false:=by kernel_rfl
theorem lif44 (xs : List AV) : litO Tryz.prog 44 xs = (rowsOf 1 xs).map (.sl 1):=by simp only [litO,Tryz.underlying44,szf44]
theorem szf36 : szO Tryz.prog 36 = some 1:=by kernel_rfl
theorem byf36 : byO Tryz.prog 36 = some 8:=by kernel_rfl
theorem zef36 : (zeroO Tryz.prog 36).isSome = true:=by kernel_rfl
theorem agf36 : aggO Tryz.prog 36 = some false:=by kernel_rfl
theorem elf36 : elO Tryz.prog 36 = none:=by kernel_rfl
theorem stf36 : strO Tryz.prog 36 = false:=by kernel_rfl
theorem u8f36 : u8O Tryz.prog 36 = false:=by kernel_rfl
theorem lif36 (xs : List AV) : litO Tryz.prog 36 xs = (rowsOf 1 xs).map (.sl 1):=by simp only [litO,Tryz.underlying36,szf36]
theorem s_third : (ByteArray.mk #[48,46,51,51,51,51]) = strOf [48,46,51,51,51,51]:=rfl
attribute [go_sem] Tryz.underlying44 Tryz.underlying36 szf44 byf44 zef44 agf44 elf44 stf44 u8f44 lif44 szf36 byf36 zef36 agf36 elf36 stf36 u8f36 lif36
theorem i_1 : InB 4294967296 [1]:=by simp [InB]
theorem i_3 : InB 4294967296 [3]:=by simp [InB]
theorem i6_1 : InB 65536 [1]:=by simp [InB]
theorem i6_3 : InB 65536 [3]:=by simp [InB]
theorem t_1 : Trd [1]:=by simp [Trd]
theorem t_3 : Trd [3]:=by simp [Trd]
theorem noI_d (n : Nat) : noI false (dg 4294967296 n) = decide (n = 0):=by
 have h:=dg_nil_iff n
 have h2 : dg 4294967296 n = [] ↔ n = 0:=⟨fun e=>h.1 (by rw [e]; rfl),fun e=>List.eq_nil_of_length_eq_zero (by have:=h.2 e; omega)⟩
 unfold noI
 simp [h2]
set_option maxRecDepth 100000 in
set_option maxHeartbeats 12800000 in
theorem topDec_ok (s t : Bool) (m n : Nat) (e f p r mn mx : Int) (hA : OkD ⟨0,s,m,e⟩) (hB : OkD ⟨0,t,n,f⟩) (o0 : okCx p r mn mx = true) (he : -200 ≤ e ∧ e ≤ 200) (hf : -200 ≤ f ∧ f ≤ 200) :
  Ret Tryz.prog 3 false [.inr [.i .i64 0,.b s,.b false,.ints .u32 (dg 4294967296 m),.i .i64 e],.inr [.i .i64 0,.b t,.b false,.ints .u32 (dg 4294967296 n),.i .i64 f],.inr [.i .i64 p,.i .i64 r,.i .i64 mn,.i .i64 mx]] (.c (.b true)):=by
 have t1 : (1 : Int).toNat = 1:=rfl
 have t2 : (2 : Int).toNat = 2:=rfl
 have t3 : (3 : Int).toNat = 3:=rfl
 have i1:=i_1
 have i2:=i_3
 have i3:=i6_1
 have i4:=i6_3
 have i5:=t_1
 have i6:=t_3
 have oA:=okD_g hA
 have oB:=okD_g hB
 have lA:=okd_len hA
 have lB:=okd_len hB
 obtain ⟨u1,u2⟩:=dr_200 hA he.1 he.2
 obtain ⟨w1,w2⟩:=dr_200 hB hf.1 hf.2
 have pA:=drD_pos ⟨0,s,m,e⟩
 have pB:=drD_pos ⟨0,t,n,f⟩
 have lx:=rdN_len (B:=4294967296) (by omega) (sg s (drN ⟨0,s,m,e⟩)) pA (k:=40) (by rw [sg_abs]; exact Nat.le_trans (len_ds u1) (by omega))
 have la:=rdD_len (B:=4294967296) (k:=40) (by omega) (sg s (drN ⟨0,s,m,e⟩)) (Nat.le_trans (len_ds u2) (by omega))
 have ly:=rdN_len (B:=4294967296) (by omega) (sg t (drN ⟨0,t,n,f⟩)) pB (k:=40) (by rw [sg_abs]; exact Nat.le_trans (len_ds w1) (by omega))
 have lb:=rdD_len (B:=4294967296) (k:=40) (by omega) (sg t (drN ⟨0,t,n,f⟩)) (Nat.le_trans (len_ds w2) (by omega))
 obtain ⟨F1,F2,F3,F4⟩:=top_facts (OkC_b o0) hA hB rfl rfl (isR_rd ⟨0,s,m,e⟩) (isR_rd ⟨0,t,n,f⟩) lx ly la lb
 obtain ⟨gx1,gx2,gx3,gx4⟩:=f_fit (show fQ _ _ from ⟨Nat.le_trans lx (by omega),Nat.le_trans la (by omega)⟩)
 obtain ⟨gy1,gy2,gy3,gy4⟩:=f_fit (show fQ _ _ from ⟨Nat.le_trans ly (by omega),Nat.le_trans lb (by omega)⟩)
 have oX:=okQ_g (z:=rdN (sg s (drN ⟨0,s,m,e⟩)) (drD ⟨0,s,m,e⟩)) (d:=rdD (sg s (drN ⟨0,s,m,e⟩)) (drD ⟨0,s,m,e⟩)) ⟨rdD_pos _ pA,rd_gcd _ pA,Nat.le_trans lx (by omega),Nat.le_trans la (by omega)⟩
 have oY:=okQ_g (z:=rdN (sg t (drN ⟨0,t,n,f⟩)) (drD ⟨0,t,n,f⟩)) (d:=rdD (sg t (drN ⟨0,t,n,f⟩)) (drD ⟨0,t,n,f⟩)) ⟨rdD_pos _ pB,rd_gcd _ pB,Nat.le_trans ly (by omega),Nat.le_trans lb (by omega)⟩
 clear u1 u2 w1 w2 hA hB
 simp only at lA lB F1 F2 F3 F4
 have qA:=rdD_pos (sg s (drN ⟨0,s,m,e⟩)) pA
 have qB:=rdD_pos (sg t (drN ⟨0,t,n,f⟩)) pB
 clear pA pB
 generalize hN1 : rdN (sg s (drN ⟨0,s,m,e⟩)) (drD ⟨0,s,m,e⟩) = x at *
 generalize hD1 : rdD (sg s (drN ⟨0,s,m,e⟩)) (drD ⟨0,s,m,e⟩) = c at *
 generalize hN2 : rdN (sg t (drN ⟨0,t,n,f⟩)) (drD ⟨0,t,n,f⟩) = y at *
 generalize hD2 : rdD (sg t (drN ⟨0,t,n,f⟩)) (drD ⟨0,t,n,f⟩) = d at *
 have n00 : ((0 : Int) ≠ 0) = False:=eq_false (fun h=>h rfl)
 obtain ⟨he1,he2⟩:=he
 obtain ⟨hf1,hf2⟩:=hf
 (refine q_H Tryz.func3 (fun F=>?_); simp only [q_z,q_y,Tryz.ntmps3,Tryz.results3])
 repeat' (first|with_reducible refine q_0 ?_|((with_reducible first|refine q_q dlk_ok fun K hK=>?_|refine q_r dlk_ok fun K hK=>?_);simp (maxSteps:=2000000) only [go_sem,↓reduceIte,reduceCtorEq,Nat.reduceLeDiff,Nat.reduceLT,Nat.reduceBEq,Nat.reduceAdd,t1,t3,dg6_1,dg6_3,dg_1,dg_3,V6_one,V6_three,ok_ex,ok_one,ok_three,V_one,V_three,thirdD,thirdS,s_third,beq_self_eq_true,o0,oA,oB,n00,V32,hN1,hD1,hN2,hD2,gx1,gx2,gx3,gx4,gy1,gy2,gy3,gy4];(repeat1' with_reducible first|apply And.intro|(intro _;try exact q_v)|(refine hK _ ?_;clear hK K))<;>(try (clear hK K;exact q_u)))|(with_reducible refine q_s ?_;(first|apply q_J|apply q_K|apply q_L|apply q_M|apply q_N|apply q_O)<;>try (intro _;try exact q_v)))
 all_goals first | omega | assumption | exact q_A rfl | skip
 have no0:=noI_d n
 refine q_G (ι:={ i : Int // 0 ≤ i ∧ i ≤ 4 }) (fun i=>⟨191,[(3,.bx 0 0),(4,.bx 1 0),(5,.bx 2 0),(13,.bx 7 0),(14,.bx 8 0),(16,.c (.sl 1 [[.a (.func (.func 20) #[] #[])],[.a (.func (.func 21) #[] #[])],[.a (.func (.func 22) #[] #[])],[.a (.func (.func 23) #[] #[])]])),(17,.c (.sl 1 [[.a (.func (.func 24) #[] #[])],[.a (.func (.func 25) #[] #[])],[.a (.func (.func 26) #[] #[])],[.a (.func (.func 16) #[] #[])]])),(18,.c (.i .i64 i.1))],⟨[(8,[.c (.b (decide (y < 0))),.c (.ints .u32 (dg 4294967296 y.natAbs)),.c (.b false),.c (.ints .u32 (dg 4294967296 d))]),(7,[.c (.b (decide (x < 0))),.c (.ints .u32 (dg 4294967296 x.natAbs)),.c (.b false),.c (.ints .u32 (dg 4294967296 c))]),(2,[.c (.i .i64 p),.c (.i .i64 r),.c (.i .i64 mn),.c (.i .i64 mx)]),(1,[.c (.i .i64 0),.c (.b t),.c (.b false),.c (.ints .u32 (dg 4294967296 n)),.c (.i .i64 f)]),(0,[.c (.i .i64 0),.c (.b s),.c (.b false),.c (.ints .u32 (dg 4294967296 m)),.c (.i .i64 e)])],[],[]⟩,10⟩) (fun i=>(4 - i.1).toNat) ⟨0,by omega,by omega⟩ ?_ ?_
 ·exact q_D
 rintro ⟨i,j1,j2⟩
 simp only at j1 j2 ⊢
 clear gx1 gx2 gx3 gx4 gy1 gy2 gy3 gy4 hN1 hD1 hN2 hD2
 rcases (by omega : i = 0 ∨ i = 1 ∨ i = 2 ∨ i = 3 ∨ i = 4) with rfl | rfl | rfl | rfl | rfl
 ·clear F2 F3 F4
  obtain ⟨⟨r1,r2⟩,⟨r3,r4⟩,oP,kP,oQ,kQ,hc,hs⟩:=F1
  obtain ⟨v1,v2,v3,v4⟩:=f_fit (show fQ _ _ from ⟨r3,r4⟩)
  have oz:=okQ_g (z:=rdN (x * (d : Int) + y * (c : Int)) (c * d)) (d:=rdD (x * (d : Int) + y * (c : Int)) (c * d)) ⟨r1,r2,r3,r4⟩
  have oP1:=okD_g oP
  have oQ1:=okD_g oQ
  have lP:=okd_len oP
  have lQ:=okd_len oQ
  clear r2 oP oQ
  generalize hz : rdN (x * (d : Int) + y * (c : Int)) (c * d) = z at *
  generalize hw : rdD (x * (d : Int) + y * (c : Int)) (c * d) = w at *
  generalize hP : addD ⟨0,s,m,e⟩ ⟨0,t,n,f⟩ ⟨p,r,mn,mx⟩ = P at *
  generalize hS : addS ⟨0,s,m,e⟩ ⟨0,t,n,f⟩ ⟨p,r,mn,mx⟩ = S at *
  generalize hQ : ofD (decide (z < 0)) z.natAbs w ⟨p,r,mn,mx⟩ = Q at *
  obtain ⟨pk,ps,pc,pe⟩:=P
  obtain ⟨qk,qs,qc,qe⟩:=Q
  simp only at kP kQ oP1 oQ1 lP lQ
  have kP1 : (pk = 2) = False:=eq_false kP
  have kQ1 : (qk = 2) = False:=eq_false kQ
  repeat' (first|with_reducible refine q_0 ?_|((with_reducible first|refine q_q dlk_ok fun K hK=>?_|refine q_r dlk_ok fun K hK=>?_);simp (maxSteps:=2000000) only [go_sem,↓reduceIte,reduceCtorEq,Nat.reduceLeDiff,Nat.reduceLT,Nat.reduceBEq,Nat.reduceAdd,List.getD_cons_zero,List.getD_cons_succ,t1,t2,t3,o0,oA,oB,oX,oY,n00,V32,sv32,hz,hw,v1,v2,v3,v4,oz,hP,hS,hQ,hs,oP1,oQ1,kP1,kQ1,hc,no0];(repeat1' with_reducible first|apply And.intro|(intro _;try exact q_v)|(refine hK _ ?_;clear hK K))<;>(try (clear hK K;exact q_u)))|(with_reducible refine q_s ?_;(first|apply q_J|apply q_K|apply q_L|apply q_M|apply q_N|apply q_O)<;>try (intro _;try exact q_v)))
  all_goals first | omega | assumption | exact q_A rfl | skip
  refine q_F ⟨1,by omega⟩ ?_ (by simp only; omega)
  exact q_D
 ·clear F1 F3 F4
  obtain ⟨⟨r1,r2⟩,⟨r3,r4⟩,oP,kP,oQ,kQ,hc,hs⟩:=F2
  obtain ⟨v1,v2,v3,v4⟩:=f_fit (show fQ _ _ from ⟨r3,r4⟩)
  have oz:=okQ_g (z:=rdN (x * (d : Int) - y * (c : Int)) (c * d)) (d:=rdD (x * (d : Int) - y * (c : Int)) (c * d)) ⟨r1,r2,r3,r4⟩
  have oP1:=okD_g oP
  have oQ1:=okD_g oQ
  have lP:=okd_len oP
  have lQ:=okd_len oQ
  clear r2 oP oQ
  have hp2 : subD ⟨0,s,m,e⟩ ⟨0,t,n,f⟩ ⟨p,r,mn,mx⟩ = addD ⟨0,s,m,e⟩ (opD ⟨0,t,n,f⟩) ⟨p,r,mn,mx⟩:=rfl
  have hs2 : subS ⟨0,s,m,e⟩ ⟨0,t,n,f⟩ ⟨p,r,mn,mx⟩ = addS ⟨0,s,m,e⟩ (opD ⟨0,t,n,f⟩) ⟨p,r,mn,mx⟩:=rfl
  generalize hz : rdN (x * (d : Int) - y * (c : Int)) (c * d) = z at *
  generalize hw : rdD (x * (d : Int) - y * (c : Int)) (c * d) = w at *
  generalize hP : addD ⟨0,s,m,e⟩ (opD ⟨0,t,n,f⟩) ⟨p,r,mn,mx⟩ = P at *
  generalize hS : addS ⟨0,s,m,e⟩ (opD ⟨0,t,n,f⟩) ⟨p,r,mn,mx⟩ = S at *
  generalize hQ : ofD (decide (z < 0)) z.natAbs w ⟨p,r,mn,mx⟩ = Q at *
  obtain ⟨pk,ps,pc,pe⟩:=P
  obtain ⟨qk,qs,qc,qe⟩:=Q
  simp only at kP kQ oP1 oQ1 lP lQ
  have kP1 : (pk = 2) = False:=eq_false kP
  have kQ1 : (qk = 2) = False:=eq_false kQ
  repeat' (first|with_reducible refine q_0 ?_|((with_reducible first|refine q_q dlk_ok fun K hK=>?_|refine q_r dlk_ok fun K hK=>?_);simp (maxSteps:=2000000) only [go_sem,↓reduceIte,reduceCtorEq,Nat.reduceLeDiff,Nat.reduceLT,Nat.reduceBEq,Nat.reduceAdd,List.getD_cons_zero,List.getD_cons_succ,t1,t2,t3,o0,oA,oB,oX,oY,n00,V32,sv32,hz,hw,v1,v2,v3,v4,oz,hP,hS,hQ,hs,oP1,oQ1,kP1,kQ1,hc,no0,hp2,hs2];(repeat1' with_reducible first|apply And.intro|(intro _;try exact q_v)|(refine hK _ ?_;clear hK K))<;>(try (clear hK K;exact q_u)))|(with_reducible refine q_s ?_;(first|apply q_J|apply q_K|apply q_L|apply q_M|apply q_N|apply q_O)<;>try (intro _;try exact q_v)))
  all_goals first | omega | assumption | exact q_A rfl | skip
  refine q_F ⟨2,by omega⟩ ?_ (by simp only; omega)
  exact q_D
 ·clear F1 F2 F4
  obtain ⟨⟨r1,r2⟩,⟨r3,r4⟩,oP,kP,oQ,kQ,hc,hs⟩:=F3
  obtain ⟨v1,v2,v3,v4⟩:=f_fit (show fQ _ _ from ⟨r3,r4⟩)
  have oz:=okQ_g (z:=rdN (x * y) (c * d)) (d:=rdD (x * y) (c * d)) ⟨r1,r2,r3,r4⟩
  have oP1:=okD_g oP
  have oQ1:=okD_g oQ
  have lP:=okd_len oP
  have lQ:=okd_len oQ
  clear r2 oP oQ
  generalize hz : rdN (x * y) (c * d) = z at *
  generalize hw : rdD (x * y) (c * d) = w at *
  generalize hP : mulD ⟨0,s,m,e⟩ ⟨0,t,n,f⟩ ⟨p,r,mn,mx⟩ = P at *
  generalize hS : mulS ⟨0,s,m,e⟩ ⟨0,t,n,f⟩ ⟨p,r,mn,mx⟩ = S at *
  generalize hQ : ofD (decide (z < 0)) z.natAbs w ⟨p,r,mn,mx⟩ = Q at *
  obtain ⟨pk,ps,pc,pe⟩:=P
  obtain ⟨qk,qs,qc,qe⟩:=Q
  simp only at kP kQ oP1 oQ1 lP lQ
  have kP1 : (pk = 2) = False:=eq_false kP
  have kQ1 : (qk = 2) = False:=eq_false kQ
  repeat' (first|with_reducible refine q_0 ?_|((with_reducible first|refine q_q dlk_ok fun K hK=>?_|refine q_r dlk_ok fun K hK=>?_);simp (maxSteps:=2000000) only [go_sem,↓reduceIte,reduceCtorEq,Nat.reduceLeDiff,Nat.reduceLT,Nat.reduceBEq,Nat.reduceAdd,List.getD_cons_zero,List.getD_cons_succ,t1,t2,t3,o0,oA,oB,oX,oY,n00,V32,sv32,hz,hw,v1,v2,v3,v4,oz,hP,hS,hQ,hs,oP1,oQ1,kP1,kQ1,hc,no0];(repeat1' with_reducible first|apply And.intro|(intro _;try exact q_v)|(refine hK _ ?_;clear hK K))<;>(try (clear hK K;exact q_u)))|(with_reducible refine q_s ?_;(first|apply q_J|apply q_K|apply q_L|apply q_M|apply q_N|apply q_O)<;>try (intro _;try exact q_v)))
  all_goals first | omega | assumption | exact q_A rfl | skip
  refine q_F ⟨3,by omega⟩ ?_ (by simp only; omega)
  exact q_D
 ·clear F1 F2 F3
  by_cases hn : n = 0
  ·clear F4
   have no1 : noI false (dg 4294967296 n) = true:=no0.trans (decide_eq_true hn)
   repeat' (first|with_reducible refine q_0 ?_|((with_reducible first|refine q_q dlk_ok fun K hK=>?_|refine q_r dlk_ok fun K hK=>?_);simp (maxSteps:=2000000) only [go_sem,↓reduceIte,reduceCtorEq,Nat.reduceLeDiff,Nat.reduceLT,Nat.reduceBEq,Nat.reduceAdd,t1,t2,t3,no1];(repeat1' with_reducible first|apply And.intro|(intro _;try exact q_v)|(refine hK _ ?_;clear hK K))<;>(try (clear hK K;exact q_u)))|(with_reducible refine q_s ?_;(first|apply q_J|apply q_K|apply q_L|apply q_M|apply q_N|apply q_O)<;>try (intro _;try exact q_v)))
   all_goals first | omega | assumption | exact q_A rfl | skip
  ·obtain ⟨hy0,F4⟩:=F4 (by omega)
   have y0 : (y = 0) = False:=eq_false hy0
   have no1 : noI false (dg 4294967296 n) = false:=no0.trans (decide_eq_false hn)
   clear no0
   obtain ⟨⟨r1,r2⟩,⟨r3,r4⟩,oP,kP,oQ,kQ,hc,hs⟩:=F4
   obtain ⟨v1,v2,v3,v4⟩:=f_fit (show fQ _ _ from ⟨r3,r4⟩)
   have oz:=okQ_g (z:=rdN (x * tn y d) (c * y.natAbs)) (d:=rdD (x * tn y d) (c * y.natAbs)) ⟨r1,r2,r3,r4⟩
   have oP1:=okD_g oP
   have oQ1:=okD_g oQ
   have lP:=okd_len oP
   have lQ:=okd_len oQ
   clear r2 oP oQ
   generalize hz : rdN (x * tn y d) (c * y.natAbs) = z at *
   generalize hw : rdD (x * tn y d) (c * y.natAbs) = w at *
   generalize hP : divD ⟨0,s,m,e⟩ ⟨0,t,n,f⟩ ⟨p,r,mn,mx⟩ = P at *
   generalize hS : divS ⟨0,s,m,e⟩ ⟨0,t,n,f⟩ ⟨p,r,mn,mx⟩ = S at *
   generalize hQ : ofD (decide (z < 0)) z.natAbs w ⟨p,r,mn,mx⟩ = Q at *
   obtain ⟨pk,ps,pc,pe⟩:=P
   obtain ⟨qk,qs,qc,qe⟩:=Q
   simp only at kP kQ oP1 oQ1 lP lQ
   have kP1 : (pk = 2) = False:=eq_false kP
   have kQ1 : (qk = 2) = False:=eq_false kQ
   repeat' (first|with_reducible refine q_0 ?_|((with_reducible first|refine q_q dlk_ok fun K hK=>?_|refine q_r dlk_ok fun K hK=>?_);simp (maxSteps:=2000000) only [go_sem,↓reduceIte,reduceCtorEq,Nat.reduceLeDiff,Nat.reduceLT,Nat.reduceBEq,Nat.reduceAdd,List.getD_cons_zero,List.getD_cons_succ,t1,t2,t3,o0,oA,oB,oX,oY,n00,V32,sv32,hz,hw,v1,v2,v3,v4,oz,hP,hS,hQ,hs,oP1,oQ1,kP1,kQ1,hc,no1,y0];(repeat1' with_reducible first|apply And.intro|(intro _;try exact q_v)|(refine hK _ ?_;clear hK K))<;>(try (clear hK K;exact q_u)))|(with_reducible refine q_s ?_;(first|apply q_J|apply q_K|apply q_L|apply q_M|apply q_N|apply q_O)<;>try (intro _;try exact q_v)))
   all_goals first | omega | assumption | exact q_A rfl | skip
   refine q_F ⟨4,by omega⟩ ?_ (by simp only; omega)
   exact q_D
 ·clear F1 F2 F3 F4
  repeat' (first|with_reducible refine q_0 ?_|((with_reducible first|refine q_q dlk_ok fun K hK=>?_|refine q_r dlk_ok fun K hK=>?_);simp (maxSteps:=2000000) only [go_sem,↓reduceIte,reduceCtorEq,Nat.reduceLeDiff,Nat.reduceLT,Nat.reduceBEq,Nat.reduceAdd,t1];(repeat1' with_reducible first|apply And.intro|(intro _;try exact q_v)|(refine hK _ ?_;clear hK K))<;>(try (clear hK K;exact q_u)))|(with_reducible refine q_s ?_;(first|apply q_J|apply q_K|apply q_L|apply q_M|apply q_N|apply q_O)<;>try (intro _;try exact q_v)))
  all_goals first | omega | assumption | exact q_A rfl | skip
set_option maxRecDepth 100000 in
set_option maxHeartbeats 12800000 in
theorem topDec_ret (k l : Int) (s t a b : Bool) (xs ys : List Int) (e f p r mn mx : Int) (h1 : xs.length ≤ 140737488355328) (h2 : ys.length ≤ 140737488355328) (b1 : InB 4294967296 xs) (b2 : InB 4294967296 ys) :
  Ret Tryz.prog 3 false [.inr [.i .i64 k,.b s,.b a,.ints .u32 xs,.i .i64 e],.inr [.i .i64 l,.b t,.b b,.ints .u32 ys,.i .i64 f],.inr [.i .i64 p,.i .i64 r,.i .i64 mn,.i .i64 mx]] (.c (.b true)):=by
 have t1 : (1 : Int).toNat = 1:=rfl
 have t3 : (3 : Int).toNat = 3:=rfl
 have i1:=i_1
 have i2:=i_3
 have i3:=i6_1
 have i4:=i6_3
 have i5:=t_1
 have i6:=t_3
 by_cases hb : okCx p r mn mx = false ∨ okD k s a xs e = false ∨ okD l t b ys f = false ∨ k ≠ 0 ∨ l ≠ 0 ∨ e < -200 ∨ 200 < e ∨ f < -200 ∨ 200 < f
 ·cases o0 : okCx p r mn mx
  ·(refine q_H Tryz.func3 (fun F=>?_); simp only [q_z,q_y,Tryz.ntmps3,Tryz.results3])
   repeat' (first|with_reducible refine q_0 ?_|((with_reducible first|refine q_q dlk_ok fun K hK=>?_|refine q_r dlk_ok fun K hK=>?_);simp (maxSteps:=2000000) only [go_sem,↓reduceIte,reduceCtorEq,Nat.reduceLeDiff,Nat.reduceLT,Nat.reduceBEq,Nat.reduceAdd,t1,t3,dg6_1,dg6_3,dg_1,dg_3,V6_one,V6_three,ok_ex,ok_one,ok_three,V_one,V_three,thirdD,thirdS,s_third,beq_self_eq_true,o0];(repeat1' with_reducible first|apply And.intro|(intro _;try exact q_v)|(refine hK _ ?_;clear hK K))<;>(try (clear hK K;exact q_u)))|(with_reducible refine q_s ?_;(first|apply q_J|apply q_K|apply q_L|apply q_M|apply q_N|apply q_O)<;>try (intro _;try exact q_v)))
   all_goals first | omega | assumption | exact q_A rfl | skip
  cases o1 : okD k s a xs e
  ·(refine q_H Tryz.func3 (fun F=>?_); simp only [q_z,q_y,Tryz.ntmps3,Tryz.results3])
   repeat' (first|with_reducible refine q_0 ?_|((with_reducible first|refine q_q dlk_ok fun K hK=>?_|refine q_r dlk_ok fun K hK=>?_);simp (maxSteps:=2000000) only [go_sem,↓reduceIte,reduceCtorEq,Nat.reduceLeDiff,Nat.reduceLT,Nat.reduceBEq,Nat.reduceAdd,t1,t3,dg6_1,dg6_3,dg_1,dg_3,V6_one,V6_three,ok_ex,ok_one,ok_three,V_one,V_three,thirdD,thirdS,s_third,beq_self_eq_true,o0,o1];(repeat1' with_reducible first|apply And.intro|(intro _;try exact q_v)|(refine hK _ ?_;clear hK K))<;>(try (clear hK K;exact q_u)))|(with_reducible refine q_s ?_;(first|apply q_J|apply q_K|apply q_L|apply q_M|apply q_N|apply q_O)<;>try (intro _;try exact q_v)))
   all_goals first | omega | assumption | exact q_A rfl | skip
  cases o2 : okD l t b ys f
  ·(refine q_H Tryz.func3 (fun F=>?_); simp only [q_z,q_y,Tryz.ntmps3,Tryz.results3])
   repeat' (first|with_reducible refine q_0 ?_|((with_reducible first|refine q_q dlk_ok fun K hK=>?_|refine q_r dlk_ok fun K hK=>?_);simp (maxSteps:=2000000) only [go_sem,↓reduceIte,reduceCtorEq,Nat.reduceLeDiff,Nat.reduceLT,Nat.reduceBEq,Nat.reduceAdd,t1,t3,dg6_1,dg6_3,dg_1,dg_3,V6_one,V6_three,ok_ex,ok_one,ok_three,V_one,V_three,thirdD,thirdS,s_third,beq_self_eq_true,o0,o1,o2];(repeat1' with_reducible first|apply And.intro|(intro _;try exact q_v)|(refine hK _ ?_;clear hK K))<;>(try (clear hK K;exact q_u)))|(with_reducible refine q_s ?_;(first|apply q_J|apply q_K|apply q_L|apply q_M|apply q_N|apply q_O)<;>try (intro _;try exact q_v)))
   all_goals first | omega | assumption | exact q_A rfl | skip
  have hb : k ≠ 0 ∨ l ≠ 0 ∨ e < -200 ∨ 200 < e ∨ f < -200 ∨ 200 < f:=by
   rcases hb with h | h | h | h
   ·exact absurd (o0.symm.trans h) (by decide)
   ·exact absurd (o1.symm.trans h) (by decide)
   ·exact absurd (o2.symm.trans h) (by decide)
   ·exact h
  have hf : ¬ (okD k s a xs e = true ∧ k = 0 ∧ okD l t b ys f = true ∧ l = 0 ∧ ¬ e < -200 ∧ ¬ 200 < e ∧ ¬ f < -200 ∧ ¬ 200 < f):=by omega
  (refine q_H Tryz.func3 (fun F=>?_); simp only [q_z,q_y,Tryz.ntmps3,Tryz.results3])
  repeat' (first|with_reducible refine q_0 ?_|((with_reducible first|refine q_q dlk_ok fun K hK=>?_|refine q_r dlk_ok fun K hK=>?_);simp (maxSteps:=2000000) only [go_sem,↓reduceIte,reduceCtorEq,Nat.reduceLeDiff,Nat.reduceLT,Nat.reduceBEq,Nat.reduceAdd,t1,t3,dg6_1,dg6_3,dg_1,dg_3,V6_one,V6_three,ok_ex,ok_one,ok_three,V_one,V_three,thirdD,thirdS,s_third,beq_self_eq_true,o0,o1,o2];(repeat1' with_reducible first|apply And.intro|(intro _;try exact q_v)|(refine hK _ ?_;clear hK K))<;>(try (clear hK K;exact q_u)))|(with_reducible refine q_s ?_;(first|apply q_J|apply q_K|apply q_L|apply q_M|apply q_N|apply q_O)<;>try (intro _;try exact q_v)))
  all_goals first | omega | assumption | exact q_A rfl | skip
 ·simp only [not_or,Bool.not_eq_false,ne_eq,Decidable.not_not,Int.not_lt] at hb
  obtain ⟨o0,o1,o2,rfl,rfl,e1,e2,f1,f2⟩:=hb
  obtain ⟨g1,r1⟩:=gDc_of o1 b1
  obtain ⟨g2,r2⟩:=gDc_of o2 b2
  rw [g1,g2]
  exact topDec_ok s t _ _ e f p r mn mx r1 r2 o0 ⟨e1,e2⟩ ⟨f1,f2⟩
end Go.Proofs.YtgkajjifbcmoeaaGreatDoor

namespace Go.Proofs.YtgkajjifbcmoeaaGreatDoor
set_option linter.unusedSimpArgs false
set_option linter.unusedVariables false
open Go.Abs Go.Proofs.NatL Go.ChangeShapes Go.WideShapes Go.ChangeAt Go.RowKit

theorem own_knob : ownKnob Tryz.prog.godebug = none:=by kernel_rfl
theorem kids : Kids Tryz.prog (· < Tryz.prog.types.size):=kids_rows (by kernel_rfl) (by kernel_rfl)
theorem full : ∀ t e,t < Tryz.prog.types.size → Tryz.prog.underlying t = some (.slice e) → 0 < Tryz.prog.cellsOf e:=slices_full_of Tryz.prog (by kernel_rfl)
theorem cells_u32 : Tryz.prog.cellsOf 105 = 1:=by kernel_rfl
theorem bytes_u32 : Tryz.prog.bytesOf 105 = 4:=by kernel_rfl

theorem u32_in {xs : List Int} (h : ∀ n ∈ xs,(Lit.int .u32 n).wf = true) : InB 4294967296 xs:=fun x hx=>by
 have:=bounds_u32 (h x hx)
 omega

end Go.Proofs.YtgkajjifbcmoeaaGreatDoor

namespace Go.Proofs.YtgkajjifbcmoeaaGreatDoor
set_option linter.unusedSimpArgs false
set_option linter.unusedVariables false
open Go.Abs Go.Proofs.NatL Go.ChangeShapes Go.WideShapes Go.ChangeAt Go.RowKit

theorem cells_bool : Tryz.prog.cellsOf 4 = 1:=by kernel_rfl
theorem cells_limbs : Tryz.prog.cellsOf 22 = 1:=by kernel_rfl

end Go.Proofs.YtgkajjifbcmoeaaGreatDoor

namespace Go.Proofs.YtgkajjifbcmoeaaGreatDoor
set_option linter.unusedSimpArgs false
set_option linter.unusedVariables false
open Go.Abs Go.Proofs.NatL Go.ChangeShapes Go.WideShapes Go.ChangeAt Go.RowKit

set_option maxRecDepth 100000 in
theorem int_cells {H : Type} {enc : TypeId × Value → H} {W : World} {fuel : Nat} {cs : List Value} {x : DataW H × List MemPlace} (h : DataW.trod enc Tryz.prog W 0 (fun _=>true) true fuel 24 cs = some x) (hs : Sized Tryz.prog 24 x.1) :
  ∃ (s : Bool) (xs : List Int),RdL W Top [.b s,.ints .u32 xs] cs ∧ xs.length ≤ 140737488355328 ∧ InB 4294967296 xs:=by
 obtain ⟨y0,y1,n,rfl,hl,h0,h1⟩:=trod_struct2 Tryz.underlying24 h
 simp only at h0 h1 hl
 rw [cells_bool] at h0
 rw [cells_limbs] at h1
 obtain ⟨s,e0,rfl⟩:=DataW.trod_bool Tryz.underlying4 h0
 obtain ⟨xs,u,e1,ho,hrd,hm,hw,hd⟩:=rd_ints Tryz.underlying22 Tryz.underlying105 cells_u32 h1
 obtain ⟨s0,hs'⟩:=szd_cons (szd_struct Tryz.underlying24 hs)
 obtain ⟨s1, -⟩:=szd_cons hs'
 have hl2:=szd_slice (n:=xs.length) Tryz.underlying22 s1 (by
  rcases hd with ⟨h1,h2⟩ | h1
  ·exact .inl ⟨h1,by rw [h2]; rfl⟩
  ·exact .inr h1)
 rw [bytes_u32] at hl2
 have hcells : cs = [.bool s,u]:=by
  have hlen : cs.length = 2:=by rw [hl]; kernel_rfl
  match cs,hlen with
  | [a,b],_ =>
   simp at e0 e1
   rw [e0,e1]
 refine ⟨s,xs,?_,by simp only [reachBytes] at hl2; omega,u32_in hw⟩
 rw [hcells]
 exact rdL_append (rdL_one (.b s)) (rdL_one hrd)

theorem cells_Int : Tryz.prog.cellsOf 24 = 2:=by kernel_rfl

end Go.Proofs.YtgkajjifbcmoeaaGreatDoor

namespace Go.Proofs.YtgkajjifbcmoeaaGreatDoor
set_option linter.unusedSimpArgs false
set_option linter.unusedVariables false
open Go.Abs Go.Proofs.NatL Go.ChangeShapes Go.WideShapes Go.ChangeAt Go.RowKit

theorem cells_int : Tryz.prog.cellsOf 3 = 1:=by kernel_rfl
set_option maxRecDepth 100000 in
theorem open_Decimal {H : Type} {enc : TypeId × Value → H} {W : World} {base : Nat} {v : Value} {d : DataW H} {p : List MemPlace} (hval : Value.okWide Tryz.prog W .any base 26 v) (h : DataW.Trod enc Tryz.prog W 0 (fun _=>true) true 26 v d p) (hs : Sized Tryz.prog 26 d) :
  ∃ (k : Int) (s a : Bool) (xs : List Int) (e : Int),RdS W Top (.inr [.i .i64 k,.b s,.b a,.ints .u32 xs,.i .i64 e]) v ∧ xs.length ≤ 140737488355328 ∧ InB 4294967296 xs:=by
 obtain ⟨cs,rfl,hcs⟩:=okWide_struct Tryz.underlying26 hval
 obtain ⟨fuel,hf⟩:=h
 obtain ⟨ys,n,_,hy,hl,hlen,hfs⟩:=DataW.trod_struct Tryz.underlying26 hf
 cases hy
 match ys,hlen with
 | [y0,y1,y2,y3],_ =>
 have f0 : DataW.trod enc Tryz.prog W 0 (fun _=>true) true n 3 ((cs.toList.drop 0).take (Tryz.prog.cellsOf 3)) = some y0:=hfs 0 _ rfl
 rw [cells_int] at f0
 have f1 : DataW.trod enc Tryz.prog W 0 (fun _=>true) true n 4 ((cs.toList.drop 1).take (Tryz.prog.cellsOf 4)) = some y1:=hfs 1 _ rfl
 rw [cells_bool] at f1
 have f2 : DataW.trod enc Tryz.prog W 0 (fun _=>true) true n 24 ((cs.toList.drop 2).take (Tryz.prog.cellsOf 24)) = some y2:=hfs 2 _ rfl
 rw [cells_Int] at f2
 have f3 : DataW.trod enc Tryz.prog W 0 (fun _=>true) true n 3 ((cs.toList.drop 4).take (Tryz.prog.cellsOf 3)) = some y3:=hfs 3 _ rfl
 rw [cells_int] at f3
 have hl : cs.toList.length = Tryz.prog.cellsOf 26:=hl
 obtain ⟨z0,hs⟩:=szd_cons (szd_struct Tryz.underlying26 hs)
 obtain ⟨z1,hs⟩:=szd_cons hs
 obtain ⟨z2,hs⟩:=szd_cons hs
 obtain ⟨k,e0,_,_⟩:=DataW.trod_int Tryz.underlying3 f0
 obtain ⟨s,e1,_⟩:=DataW.trod_bool Tryz.underlying4 f1
 obtain ⟨a,xs,r2,l2,b2⟩:=int_cells f2 z2
 obtain ⟨e,e3,_,_⟩:=DataW.trod_int Tryz.underlying3 f3
 refine ⟨k,s,a,xs,e,⟨cs,rfl,?_⟩,l2,b2⟩
 have hlen : cs.toList.length = 5:=by rw [hl]; kernel_rfl
 match hq : cs.toList,hlen with
 | [a0,a1,a2,a3,a4],_ =>
 rw [hq] at e0 e1 r2 e3
 simp only [List.drop_zero,List.drop_succ_cons,List.take_succ_cons,List.take_zero,List.cons.injEq,and_true] at e0 e1 r2 e3
 subst e0; subst e1; subst e3
 exact rdL_append (rdL_one (.i .i64 k)) (rdL_append (rdL_one (.b s)) (rdL_append r2 (rdL_one (.i .i64 e))))
set_option maxRecDepth 100000 in
theorem open_Context {H : Type} {enc : TypeId × Value → H} {W : World} {base : Nat} {v : Value} {d : DataW H} {p : List MemPlace} (hval : Value.okWide Tryz.prog W .any base 28 v) (h : DataW.Trod enc Tryz.prog W 0 (fun _=>true) true 28 v d p) :
  ∃ (k l m n : Int),RdS W Top (.inr [.i .i64 k,.i .i64 l,.i .i64 m,.i .i64 n]) v:=by
 obtain ⟨cs,rfl,hcs⟩:=okWide_struct Tryz.underlying28 hval
 obtain ⟨fuel,hf⟩:=h
 obtain ⟨ys,n,_,hy,hl,hlen,hfs⟩:=DataW.trod_struct Tryz.underlying28 hf
 cases hy
 match ys,hlen with
 | [y0,y1,y2,y3],_ =>
 have f0 : DataW.trod enc Tryz.prog W 0 (fun _=>true) true n 3 ((cs.toList.drop 0).take (Tryz.prog.cellsOf 3)) = some y0:=hfs 0 _ rfl
 rw [cells_int] at f0
 have f1 : DataW.trod enc Tryz.prog W 0 (fun _=>true) true n 3 ((cs.toList.drop 1).take (Tryz.prog.cellsOf 3)) = some y1:=hfs 1 _ rfl
 rw [cells_int] at f1
 have f2 : DataW.trod enc Tryz.prog W 0 (fun _=>true) true n 3 ((cs.toList.drop 2).take (Tryz.prog.cellsOf 3)) = some y2:=hfs 2 _ rfl
 rw [cells_int] at f2
 have f3 : DataW.trod enc Tryz.prog W 0 (fun _=>true) true n 3 ((cs.toList.drop 3).take (Tryz.prog.cellsOf 3)) = some y3:=hfs 3 _ rfl
 rw [cells_int] at f3
 have hl : cs.toList.length = Tryz.prog.cellsOf 28:=hl
 obtain ⟨k0,e0,_,_⟩:=DataW.trod_int Tryz.underlying3 f0
 obtain ⟨k1,e1,_,_⟩:=DataW.trod_int Tryz.underlying3 f1
 obtain ⟨k2,e2,_,_⟩:=DataW.trod_int Tryz.underlying3 f2
 obtain ⟨k3,e3,_,_⟩:=DataW.trod_int Tryz.underlying3 f3
 refine ⟨k0,k1,k2,k3,⟨cs,rfl,?_⟩⟩
 have hlen : cs.toList.length = 4:=by rw [hl]; kernel_rfl
 match hq : cs.toList,hlen with
 | [a0,a1,a2,a3],_ =>
 rw [hq] at e0 e1 e2 e3
 simp only [List.drop_zero,List.drop_succ_cons,List.take_succ_cons,List.take_zero,List.cons.injEq,and_true] at e0 e1 e2 e3
 subst e0; subst e1; subst e2; subst e3
 exact rdL_append (rdL_one (.i .i64 _)) (rdL_append (rdL_one (.i .i64 _)) (rdL_append (rdL_one (.i .i64 _)) (rdL_one (.i .i64 _))))
end Go.Proofs.YtgkajjifbcmoeaaGreatDoor

namespace Go.Proofs.YtgkajjifbcmoeaaGreatDoor
set_option linter.unusedSimpArgs false
set_option linter.unusedVariables false
open Go.Abs Go.Proofs.NatL Go.ChangeShapes Go.WideShapes Go.ChangeAt Go.RowKit

set_option maxRecDepth 100000 in
theorem topDecimalIsRounded_contract (H : Type) (enc : TypeId × Value → H) (W : World) (base : Nat) (args : Array Value) (ds gs : List (DataW H)) (before : List MemPlace)
  (hval : ∀ (j : Nat) t v,Tryz.f3.params[j]? = some t → args[j]? = some v → Value.okWide Tryz.prog W .any base t v)
  (hW : DataW.Whole enc Tryz.prog Tryz.f3.params.toList Rows.topDecimalIsRoundedSpec.vars false W args.toList ds gs before)
  (hz : (DataW.weightsEach Tryz.prog (Tryz.f3.params.toList ++ Rows.topDecimalIsRoundedSpec.plain.varTypes Tryz.prog) (ds ++ gs)).all (· ≤ reachBytes) = true) :
  Calls Tryz.prog 3 args W fun e W'=>∃ v,e = .returned v ∧ Rows.topDecimalIsRoundedSpec.post enc Tryz.prog Tryz.f3 false true false false W args v W':=by
 have hW':=hW
 obtain ⟨p,q,hA0,hV,rfl,hfz,hnd⟩:=hW
 have hA : DataW.TrodAll enc Tryz.prog W 0 (fun _=>true) true Tryz.f3.params.toList args.toList ds p:=hA0
 rw [Tryz.params3] at hA hval hz
 obtain ⟨v0,vs0,d0,ds0,p0,q0,hargs,rfl,rfl,h0,r'0⟩:=trodAll_cons hA
 obtain ⟨v1,vs1,d1,ds1,p1,q1,rfl,rfl,rfl,h1,r'1⟩:=trodAll_cons r'0
 obtain ⟨v2,vs2,d2,ds2,p2,q2,rfl,rfl,rfl,h2,r'2⟩:=trodAll_cons r'1
 obtain ⟨rfl,rfl,rfl⟩:=trodAll_nil r'2
 obtain rfl : args = #[v0,v1,v2]:=by cases args; simp_all
 obtain ⟨rfl,rfl⟩:=trodVars_none hV
 obtain ⟨s0,hz⟩:=szd_cons hz
 obtain ⟨s1,hz⟩:=szd_cons hz
 obtain ⟨s2,hz⟩:=szd_cons hz
 obtain ⟨k_0,s_0,a_0,x0,e_0,r0,l0,b0⟩:=open_Decimal (hval 0 _ v0 rfl rfl) h0 s0
 obtain ⟨k_1,s_1,a_1,x1,e_1,r1,l1,b1⟩:=open_Decimal (hval 1 _ v1 rfl rfl) h1 s1
 obtain ⟨p_2,r_2,m_2,n_2,r2⟩:=open_Context (hval 2 _ v2 rfl rfl) h2
 refine law_post [.inr [.i .i64 k_0,.b s_0,.b a_0,.ints .u32 x0,.i .i64 e_0],.inr [.i .i64 k_1,.b s_1,.b a_1,.ints .u32 x1,.i .i64 e_1],.inr [.i .i64 p_2,.i .i64 r_2,.i .i64 m_2,.i .i64 n_2]] kids full (by rw [Tryz.params3]; decide +kernel) rfl rfl Tryz.underlying4 rfl hW' rfl ?_ (topDec_ret k_0 k_1 s_0 s_1 a_0 a_1 x0 x1 e_0 e_1 p_2 r_2 m_2 n_2 l0 l1 b0 b1)
 intro j y u hy hu
 match j with
 | 0=>cases hy; cases hu; exact r0
 | 1=>cases hy; cases hu; exact r1
 | 2=>cases hy; cases hu; exact r2
 | _ + 3=>simp at hy

set_option maxRecDepth 100000 in
theorem topDecimalIsRounded_lifted (os : Os) (started : os.Started) (H : Type) (enc : TypeId × Value → H) :
  ReturnsInHanded {} Tryz.checked os 3 .any (fun w args=>(Rows.topDecimalIsRoundedSpec.pre enc Tryz.prog Tryz.f3 Rows.topDecimalIsRoundedRow.domain false w args ∧ laidMetH Tryz.prog Rows.topDecimalIsRoundedRow.laid w) ∧ sizedMet enc Tryz.prog Tryz.f3 (OpenSpec.ofChange Rows.topDecimalIsRoundedSpec) false w args) (Rows.topDecimalIsRoundedSpec.post enc Tryz.prog Tryz.f3 false true false false):=by
 refine returnsInHanded_of_change_and (C:=Tryz.checked) (X:=fun w _=>laidMetH Tryz.prog Rows.topDecimalIsRoundedRow.laid w) (fun _ _ _ hh h=>h.of_heap hh) own_knob started (by kernel_rfl) Tryz.func3
  (ChangeSpec.witness_shaped (enc:=enc) (C:=Tryz.checked) (os:=os) (X:=fun w _=>laidMetH Tryz.prog Rows.topDecimalIsRoundedRow.laid w) false (World.laidAll Tryz.prog os Rows.topDecimalIsRoundedRow.laid) #[.agg #[.int .i64 0,.bool false,.bool false,.slice none 0 0,.int .i64 0],.agg #[.int .i64 0,.bool false,.bool false,.slice none 0 0,.int .i64 0],.agg #[.int .i64 0,.int .i64 0,.int .i64 0,.int .i64 0]] 8 (World.laidAll_os _ _ _)
   (World.shaped_of_ZipB (by kernel_rfl) (by kernel_rfl)) (by kernel_rfl) (by kernel_rfl) (by kernel_rfl)
   (by rw [MakeChecks.laidMetH_plain _ _ _ (by kernel_rfl)]; exact laidMet_laidAll _ (by kernel_rfl) (by kernel_rfl))) ?_
 intro W base args ds gs before hval hW _ hz _ _
 exact topDecimalIsRounded_contract H enc W base args ds gs before hval hW hz

theorem topDecimalIsRounded_h1 : Rows.topDecimalIsRoundedRow.wf (OpenSpec.ofChange Rows.topDecimalIsRoundedSpec) = true:=by kernel_rfl
theorem topDecimalIsRounded_h2 : laidOutB Tryz.pinned.checked.prog = true:=by kernel_rfl
theorem topDecimalIsRounded_h3 : mapsRowed Tryz.pinned.checked.prog = true:=by kernel_rfl
theorem topDecimalIsRounded_h4 : (Rows.topDecimalIsRoundedRow.inPlace == Tryz.pinned.checked.prog.inPlace 3) = true:=by kernel_rfl
theorem topDecimalIsRounded_h5 : (Rows.topDecimalIsRoundedRow.unfollowed == Tryz.pinned.checked.prog.unfollowed 3) = true:=by kernel_rfl
theorem topDecimalIsRounded_h6 : (Rows.topDecimalIsRoundedRow.recurses == Tryz.pinned.checked.prog.recurses 3) = true:=by kernel_rfl
theorem topDecimalIsRounded_h7 : (Rows.topDecimalIsRoundedRow.named == Tryz.pinned.checked.prog.varsNamed 3) = true:=by kernel_rfl
theorem topDecimalIsRounded_h8 : (Rows.topDecimalIsRoundedRow.plainKeys == Tryz.pinned.checked.prog.plainKeys) = true:=by kernel_rfl
theorem topDecimalIsRounded_and {a b : Bool} (ha : a = true) (hb : b = true) : (a && b) = true:=by rw [ha,hb]; rfl
theorem topDecimalIsRounded_facts : joinedFacts Tryz.pinned.checked.prog 3 Tryz.f3 Rows.topDecimalIsRoundedSpec Rows.topDecimalIsRoundedRow = true:=by
 unfold joinedFacts
 repeat' (with_reducible refine topDecimalIsRounded_and ?_ ?_)
 all_goals first
  | with_reducible exact topDecimalIsRounded_h1
  | with_reducible exact topDecimalIsRounded_h2
  | with_reducible exact topDecimalIsRounded_h3
  | with_reducible exact topDecimalIsRounded_h4
  | with_reducible exact topDecimalIsRounded_h5
  | with_reducible exact topDecimalIsRounded_h6
  | with_reducible exact topDecimalIsRounded_h7
  | with_reducible exact topDecimalIsRounded_h8
  | kernel_rfl

theorem topDecimalIsRounded_holds : Rows.TopDecimalIsRoundedSaid :=
 OpenClaim.holds_of_wide 3 Tryz.f3 rfl rfl rfl rfl rfl rfl rfl ⟨rfl,rfl,rfl,rfl,rfl⟩ rfl rfl rfl rfl rfl (by kernel_rfl) Tryz.func3 topDecimalIsRounded_facts
  (of_decide_eq_true (by kernel_rfl)) (by unfold Func.isWrapper; first | (rw [if_pos (by decide +kernel)]; kernel_rfl) | (rw [if_neg (by decide +kernel)]; exact ⟨rfl,rfl⟩))
  (fun os started H enc _=>topDecimalIsRounded_lifted os started H enc)

end Go.Proofs.YtgkajjifbcmoeaaGreatDoor
