import Derived.Test.YtgkajjifbcmoeaaGreatDoorM61
import Derived.Test.YtgkajjifbcmoeaaGreatDoorM63
import Derived.Test.YtgkajjifbcmoeaaGreatDoorM75
import Derived.Test.YtgkajjifbcmoeaaGreatDoorM79
import Derived.Test.YtgkajjifbcmoeaaGreatDoorM88
namespace Go.Proofs.YtgkajjifbcmoeaaGreatDoor
set_option linter.unusedSimpArgs false
set_option linter.unusedVariables false
open Go.Abs Go.Proofs.NatL

theorem cmpZ_anti (a b : Int) : cmpZ b a = - cmpZ a b:=by unfold cmpZ; (repeat' split) <;> omega
theorem cmpZ_rg (a b : Int) : (cmpZ a b = -1 ∧ a < b) ∨ (cmpZ a b = 0 ∧ a = b) ∨ (cmpZ a b = 1 ∧ b < a):=by unfold cmpZ; (repeat' split) <;> omega
theorem order_facts {A B : Dc} {c : Cx} (hA : OkD A) (hB : OkD B) (hc : OkC c) (ka : A.kind ≠ 2) (kb : B.kind ≠ 2) :
  cmpD B A = - cmpD A B ∧ 0 ≤ cmpD A B * cmpD (rndD A c) (rndD B c) ∧ (cmpD A B ≠ 0 ∨ cmpD (rndD A c) (rndD B c) = 0) ∧ -1 ≤ cmpD A B ∧ cmpD A B ≤ 1 ∧ -1 ≤ cmpD (rndD A c) (rndD B c) ∧ cmpD (rndD A c) (rndD B c) ≤ 1:=by
 have nk : ∀ {D : Dc},D.kind ≠ 2 → (rndD D c).kind ≠ 2:=fun {D} h=>by
  unfold rndD; split
  ·exact h
  ·exact fit_kind _ _ _ _ _ _ _ _ _
 have q1:=cmp_xv hA hB ka kb (Nat.le_refl 1200)
 have q2:=cmp_xv hB hA kb ka (Nat.le_refl 1200)
 have q3:=cmp_xv (rnd_ok hA hc) (rnd_ok hB hc) (nk ka) (nk kb) (Nat.le_refl 1200)
 have m1:=rnd_mono hA hB hc ka kb (Nat.le_refl 1200)
 have m2:=rnd_mono hB hA hc kb ka (Nat.le_refl 1200)
 rw [q1,q2,q3]
 generalize xv A 1200 = a at *
 generalize xv B 1200 = b at *
 generalize xv (rndD A c) 1200 = u at *
 generalize xv (rndD B c) 1200 = v at *
 rcases cmpZ_rg a b with ⟨e1,h1⟩ | ⟨e1,h1⟩ | ⟨e1,h1⟩ <;> rcases cmpZ_rg u v with ⟨e2,h2⟩ | ⟨e2,h2⟩ | ⟨e2,h2⟩ <;> rw [cmpZ_anti,e1,e2] <;> omega
def dlf : Cfg:=listT [(18,dcheckCT),(41,(op1CT rndD rndS)),(29,cmpCT),(35,sameDecCT),(31,tenthsCT)] [34]
theorem dlf_ok : TblOk Tryz.prog dlf:=listE_ok (by simp only [List.mem_singleton,forall_eq]; exact flt) ⟨⟨er9,er9_ok,rfl⟩,⟨dg6x,dg6x_ok,rfl⟩,⟨dj2,dj2_ok,rfl⟩,⟨eu2,eu2_ok,rfl⟩,⟨dh5,dh5_ok,rfl⟩,trivial⟩
attribute [go_sem] dlf
set_option maxRecDepth 100000 in
set_option maxHeartbeats 6400000 in
theorem dordered_ret (k l : Int) (s t a b : Bool) (xs ys : List Int) (e f p r mn mx : Int) (h1 : xs.length ≤ 140737488355328) (h2 : ys.length ≤ 140737488355328) (b1 : InB 4294967296 xs) (b2 : InB 4294967296 ys) :
  Ret Tryz.prog 7 false [.inr [.i .i64 k,.b s,.b a,.ints .u32 xs,.i .i64 e],.inr [.i .i64 l,.b t,.b b,.ints .u32 ys,.i .i64 f],.inr [.i .i64 p,.i .i64 r,.i .i64 mn,.i .i64 mx]] (.c (.b true)):=by
 cases o0 : okCx p r mn mx
 ·(refine q_H Tryz.func7 (fun F=>?_); simp only [q_z,q_y,Tryz.ntmps7,Tryz.results7])
  repeat' (first|(with_reducible first|apply q_a|apply q_b|apply q_c|apply q_d|apply q_e|apply q_f|apply q_g|apply q_h|apply q_i|apply q_j|apply q_k|apply q_m|apply q_n|apply q_o|apply q_p|refine q_l ?_)|((with_reducible first|refine q_q dlf_ok fun K hK=>?_|refine q_r dlf_ok fun K hK=>?_);simp (maxSteps:=2000000) only [go_sem,↓reduceIte,reduceCtorEq,Nat.reduceLeDiff,Nat.reduceLT,Nat.reduceBEq,Nat.reduceAdd,o0];(repeat1' with_reducible first|apply And.intro|(intro _;try exact q_v)|(refine hK _ ?_;clear hK K))<;>(try (clear hK K;exact q_u)))|(with_reducible refine q_s ?_;(first|apply q_J|apply q_K|apply q_L|apply q_M|apply q_N|apply q_O)<;>try (intro _;try exact q_v))|with_reducible refine q_t ?_)
  all_goals first | omega | assumption | exact q_A rfl | skip
 cases o1 : okD k s a xs e
 ·(refine q_H Tryz.func7 (fun F=>?_); simp only [q_z,q_y,Tryz.ntmps7,Tryz.results7])
  repeat' (first|(with_reducible first|apply q_a|apply q_b|apply q_c|apply q_d|apply q_e|apply q_f|apply q_g|apply q_h|apply q_i|apply q_j|apply q_k|apply q_m|apply q_n|apply q_o|apply q_p|refine q_l ?_)|((with_reducible first|refine q_q dlf_ok fun K hK=>?_|refine q_r dlf_ok fun K hK=>?_);simp (maxSteps:=2000000) only [go_sem,↓reduceIte,reduceCtorEq,Nat.reduceLeDiff,Nat.reduceLT,Nat.reduceBEq,Nat.reduceAdd,o0,o1];(repeat1' with_reducible first|apply And.intro|(intro _;try exact q_v)|(refine hK _ ?_;clear hK K))<;>(try (clear hK K;exact q_u)))|(with_reducible refine q_s ?_;(first|apply q_J|apply q_K|apply q_L|apply q_M|apply q_N|apply q_O)<;>try (intro _;try exact q_v))|with_reducible refine q_t ?_)
  all_goals first | omega | assumption | exact q_A rfl | skip
 cases o2 : okD l t b ys f
 ·(refine q_H Tryz.func7 (fun F=>?_); simp only [q_z,q_y,Tryz.ntmps7,Tryz.results7])
  repeat' (first|(with_reducible first|apply q_a|apply q_b|apply q_c|apply q_d|apply q_e|apply q_f|apply q_g|apply q_h|apply q_i|apply q_j|apply q_k|apply q_m|apply q_n|apply q_o|apply q_p|refine q_l ?_)|((with_reducible first|refine q_q dlf_ok fun K hK=>?_|refine q_r dlf_ok fun K hK=>?_);simp (maxSteps:=2000000) only [go_sem,↓reduceIte,reduceCtorEq,Nat.reduceLeDiff,Nat.reduceLT,Nat.reduceBEq,Nat.reduceAdd,o0,o1,o2];(repeat1' with_reducible first|apply And.intro|(intro _;try exact q_v)|(refine hK _ ?_;clear hK K))<;>(try (clear hK K;exact q_u)))|(with_reducible refine q_s ?_;(first|apply q_J|apply q_K|apply q_L|apply q_M|apply q_N|apply q_O)<;>try (intro _;try exact q_v))|with_reducible refine q_t ?_)
  all_goals first | omega | assumption | exact q_A rfl | skip
 by_cases k2 : k = 2
 ·(refine q_H Tryz.func7 (fun F=>?_); simp only [q_z,q_y,Tryz.ntmps7,Tryz.results7])
  repeat' (first|(with_reducible first|apply q_a|apply q_b|apply q_c|apply q_d|apply q_e|apply q_f|apply q_g|apply q_h|apply q_i|apply q_j|apply q_k|apply q_m|apply q_n|apply q_o|apply q_p|refine q_l ?_)|((with_reducible first|refine q_q dlf_ok fun K hK=>?_|refine q_r dlf_ok fun K hK=>?_);simp (maxSteps:=2000000) only [go_sem,↓reduceIte,reduceCtorEq,Nat.reduceLeDiff,Nat.reduceLT,Nat.reduceBEq,Nat.reduceAdd,o0,o1,o2];(repeat1' with_reducible first|apply And.intro|(intro _;try exact q_v)|(refine hK _ ?_;clear hK K))<;>(try (clear hK K;exact q_u)))|(with_reducible refine q_s ?_;(first|apply q_J|apply q_K|apply q_L|apply q_M|apply q_N|apply q_O)<;>try (intro _;try exact q_v))|with_reducible refine q_t ?_)
  all_goals first | omega | assumption | exact q_A rfl | skip
 by_cases l2 : l = 2
 ·(refine q_H Tryz.func7 (fun F=>?_); simp only [q_z,q_y,Tryz.ntmps7,Tryz.results7])
  repeat' (first|(with_reducible first|apply q_a|apply q_b|apply q_c|apply q_d|apply q_e|apply q_f|apply q_g|apply q_h|apply q_i|apply q_j|apply q_k|apply q_m|apply q_n|apply q_o|apply q_p|refine q_l ?_)|((with_reducible first|refine q_q dlf_ok fun K hK=>?_|refine q_r dlf_ok fun K hK=>?_);simp (maxSteps:=2000000) only [go_sem,↓reduceIte,reduceCtorEq,Nat.reduceLeDiff,Nat.reduceLT,Nat.reduceBEq,Nat.reduceAdd,o0,o1,o2];(repeat1' with_reducible first|apply And.intro|(intro _;try exact q_v)|(refine hK _ ?_;clear hK K))<;>(try (clear hK K;exact q_u)))|(with_reducible refine q_s ?_;(first|apply q_J|apply q_K|apply q_L|apply q_M|apply q_N|apply q_O)<;>try (intro _;try exact q_v))|with_reducible refine q_t ?_)
  all_goals first | omega | assumption | exact q_A rfl | skip
 have hc:=OkC_b o0
 obtain ⟨_,r1⟩:=gDc_of o1 b1
 obtain ⟨_,r2⟩:=gDc_of o2 b2
 obtain ⟨f1,f2,f3,f4,f5,f6,f7⟩:=order_facts r1 r2 hc k2 l2
 obtain ⟨g1,g2⟩:=rnd_twice r1 hc
 have x1:=rnd_ok r1 hc
 have y1:=rnd_ok r2 hc
 have lx:=okd_len x1
 have ly:=okd_len y1
 have ox:=okD_g x1
 have oy:=okD_g y1
 have kx : (rndD ⟨k,s,V 4294967296 xs,e⟩ ⟨p,r,mn,mx⟩).kind ≠ 2:=by
  unfold rndD; split
  ·exact k2
  ·exact fit_kind _ _ _ _ _ _ _ _ _
 have ky : (rndD ⟨l,t,V 4294967296 ys,f⟩ ⟨p,r,mn,mx⟩).kind ≠ 2:=by
  unfold rndD; split
  ·exact l2
  ·exact fit_kind _ _ _ _ _ _ _ _ _
 clear r1 r2 x1 y1 hc
 generalize hX : rndD ⟨k,s,V 4294967296 xs,e⟩ ⟨p,r,mn,mx⟩ = X at *
 generalize hY : rndD ⟨l,t,V 4294967296 ys,f⟩ ⟨p,r,mn,mx⟩ = Y at *
 generalize hC : cmpD ⟨k,s,V 4294967296 xs,e⟩ ⟨l,t,V 4294967296 ys,f⟩ = C1 at *
 generalize hD : cmpD X Y = C2 at *
 generalize hS : rndS X ⟨p,r,mn,mx⟩ = S at *
 obtain ⟨xk,xs',xc,xe⟩:=X
 obtain ⟨yk,ys',yc,ye⟩:=Y
 simp only at lx ly ox oy kx ky
 have c1 : C1 = -1 ∨ C1 = 0 ∨ C1 = 1:=by omega
 have c2 : C2 = -1 ∨ C2 = 0 ∨ C2 = 1:=by omega
 (refine q_H Tryz.func7 (fun F=>?_); simp only [q_z,q_y,Tryz.ntmps7,Tryz.results7])
 rcases g2 with g2 | g2 <;> rcases c1 with h | h | h <;> rcases c2 with h' | h' | h' <;> subst g2 h h' <;> first | (exfalso; omega) | skip
 all_goals
  repeat' (first|(with_reducible first|apply q_a|apply q_b|apply q_c|apply q_d|apply q_e|apply q_f|apply q_g|apply q_h|apply q_i|apply q_j|apply q_k|apply q_m|apply q_n|apply q_o|apply q_p|refine q_l ?_)|((with_reducible first|refine q_q dlf_ok fun K hK=>?_|refine q_r dlf_ok fun K hK=>?_);simp (maxSteps:=2000000) only [go_sem,↓reduceIte,reduceCtorEq,Nat.reduceLeDiff,Nat.reduceLT,Nat.reduceBEq,Nat.reduceAdd,o0,o1,o2,ox,oy,k2,l2,kx,ky,hX,hY,hC,hD,hS,g1,f1,V32];(repeat1' with_reducible first|apply And.intro|(intro _;try exact q_v)|(refine hK _ ?_;clear hK K))<;>(try (clear hK K;exact q_u)))|(with_reducible refine q_s ?_;(first|apply q_J|apply q_K|apply q_L|apply q_M|apply q_N|apply q_O)<;>try (intro _;try exact q_v))|with_reducible refine q_t ?_)
  all_goals first | omega | assumption | exact q_A rfl | skip
end Go.Proofs.YtgkajjifbcmoeaaGreatDoor
