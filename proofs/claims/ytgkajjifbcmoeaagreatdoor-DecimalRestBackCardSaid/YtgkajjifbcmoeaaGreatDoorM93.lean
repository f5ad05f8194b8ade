import Derived.LaidMore
import Derived.Lay
import Derived.SevenTiedAt
import Derived.Stop.Joined
import Derived.Test.YtgkajjifbcmoeaaGreatDoorM63
import Derived.Test.YtgkajjifbcmoeaaGreatDoorM79
import Derived.Test.YtgkajjifbcmoeaaGreatDoorM92
namespace Go.Proofs.YtgkajjifbcmoeaaGreatDoor
set_option linter.unusedSimpArgs false
set_option linter.unusedVariables false
open Go.Abs Go.Proofs.NatL

def dlg : Cfg:=listT [(52,finiteDCT),(27,noIntACT),(37,(op2CT remD remS)),(16,(op2CT divD divS)),(43,(opICT qtD qtS)),(58,(op3CT fmaD fmaS)),(29,cmpCT),(31,tenthsCT)] [34]
theorem dlg_ok : TblOk Tryz.prog dlg:=listE_ok (by simp only [List.mem_singleton,forall_eq]; exact flt) ⟨⟨ew1,ew1_ok,rfl⟩,⟨er6,er6_ok,rfl⟩,⟨dg5x,dg5x_ok,rfl⟩,⟨dg4x,dg4x_ok,rfl⟩,⟨dg8x,dg8x_ok,rfl⟩,⟨dg9x,dg9x_ok,rfl⟩,⟨dj2,dj2_ok,rfl⟩,⟨dh5,dh5_ok,rfl⟩,trivial⟩
attribute [go_sem] dlg
set_option maxRecDepth 100000 in
set_option maxHeartbeats 12800000 in
theorem dback_ok (s t : Bool) (m n : Nat) (e f : Int) (hm : m < 2 ^ 64) (hn : n < 2 ^ 64) (hn0 : 0 < n) (lm : (dg 4294967296 m).length ≤ 2) (ln : (dg 4294967296 n).length ≤ 2) (he : -10 ≤ e ∧ e ≤ 10) (hf : -10 ≤ f ∧ f ≤ 10) (o1 : okD 0 s false (dg 4294967296 m) e = true) (o2 : okD 0 t false (dg 4294967296 n) f = true) (hfin : finB [(0,s,false,dg 4294967296 m,e),(0,t,false,dg 4294967296 n,f)] = true) (hz : noI false (dg 4294967296 n) = false) :
  Ret Tryz.prog 13 false [.inr (gDc ⟨0,s,m,e⟩),.inr (gDc ⟨0,t,n,f⟩)] (.c (.b true)):=by
 obtain ⟨a1,a2⟩:=back_rem (s:=s) (t:=t) hm hn0 he hf
 obtain ⟨b1,b2⟩:=back_div (s:=s) (t:=t) hm hn hn0 he hf
 obtain ⟨c1,c2⟩:=back_fma (s:=s) (t:=t) (n:=n) hm hn0 he hf
 have d1:=back_cmp (s:=s) hm he hf
 have hRl : m * 10 ^ (e - min e f).toNat % (n * 10 ^ (f - min e f).toNat) < n * 10 ^ (f - min e f).toNat:=Nat.mod_lt _ (Nat.mul_pos hn0 (Nat.pow_pos (by omega)))
 have d2:=back_less hn he hf hRl
 have k0 : okCx 60 0 (-900) 900 = true:=rfl
 have x1:=rem_ok (A:=⟨0,s,m,e⟩) (B:=⟨0,t,n,f⟩) cW_ok
 have x2:=div_ok (A:=⟨0,s,m,e⟩) (B:=⟨0,t,n,f⟩) cW_ok
 have lM:=wide_len hm
 have hl : ds (m * 10 ^ (e - min e f).toNat) ≤ 40:=ds_mul10 (by omega)
 have hq:=ds_le_of_le (Nat.div_le_self (m * 10 ^ (e - min e f).toNat) (n * 10 ^ (f - min e f).toNat)) hl
 have hr:=ds_le_of_le (Nat.mod_le (m * 10 ^ (e - min e f).toNat) (n * 10 ^ (f - min e f).toNat)) hl
 have x3:=back_okM (s:=s) (f:=f) hm he hf
 rw [a1] at x1
 obtain ⟨he1,he2⟩:=he
 obtain ⟨hf1,hf2⟩:=hf
 have w1 : -10 ≤ min e f ∧ min e f ≤ 10:=by omega
 obtain ⟨w1,w2⟩:=w1
 generalize m * 10 ^ (e - min e f).toNat % (n * 10 ^ (f - min e f).toNat) = R at *
 generalize m * 10 ^ (e - min e f).toNat / (n * 10 ^ (f - min e f).toNat) = Q at *
 generalize m * 10 ^ (e - min e f).toNat = M at *
 generalize min e f = μ at *
 clear hRl
 have x4 : OkD ⟨0,s != t,Q,0⟩:=.inl ⟨rfl,by simp only; omega,by simp only; omega,lt120.2 (by simp only; omega)⟩
 have x5 : OkD ⟨0,false,R,μ⟩:=.inl ⟨rfl,by simp only; omega,by simp only; omega,lt120.2 (by simp only; omega)⟩
 have lr:=okd_len x1
 have lq:=okd_len x4
 have lS:=okd_len x3
 have ld:=okd_len x2
 have y1:=okD_g x1
 have y2:=okD_g x2
 have y3:=okD_g x3
 have y4:=okD_g x4
 have y5:=okD_g x5
 have y6 : okD 0 false false (dg 4294967296 n) f = true:=okD_g (D:=⟨0,false,n,f⟩) (.inl ⟨rfl,by simp only; omega,by simp only; omega,lt120.2 (by have:=wide_len hn; simp only; omega)⟩)
 clear x1 x2 x3 x4 x5
 generalize hD : divD ⟨0,s,m,e⟩ ⟨0,t,n,f⟩ cW = D at *
 generalize hDS : divS ⟨0,s,m,e⟩ ⟨0,t,n,f⟩ cW = DS at *
 obtain ⟨dk,dn,dc,de⟩:=D
 simp only at lr lq lS ld y1 y2 y3 y4 y5
 have zn : ¬ n = 0:=by omega
 have n02 : ((0 : Int) = 2) = False:=by simp
 (refine q_H Tryz.func13 (fun F=>?_); simp only [q_z,q_y,Tryz.ntmps13,Tryz.results13])
 rcases b1 with rfl | rfl
 all_goals
  repeat' (first|(with_reducible first|apply q_a|apply q_b|apply q_c|apply q_d|apply q_e|apply q_f|apply q_g|apply q_h|apply q_i|apply q_j|apply q_k|apply q_m|apply q_n|apply q_o|apply q_p|refine q_l ?_)|((with_reducible first|refine q_q dlg_ok fun K hK=>?_|refine q_r dlg_ok fun K hK=>?_);simp (maxSteps:=2000000) only [go_sem,↓reduceIte,reduceCtorEq,Nat.reduceLeDiff,Nat.reduceLT,Nat.reduceBEq,Nat.reduceAdd,n02,k0,o1,o2,hfin,hz,y1,y2,y3,y4,y5,y6,a1,a2,b2,c1,c2,d1,d2,hD,hDS,V32];(repeat1' with_reducible first|apply And.intro|(intro _;try exact q_v)|(refine hK _ ?_;clear hK K))<;>(try (clear hK K;exact q_u)))|(with_reducible refine q_s ?_;(first|apply q_J|apply q_K|apply q_L|apply q_M|apply q_N|apply q_O)<;>try (intro _;try exact q_v))|with_reducible refine q_t ?_)
  all_goals first | omega | assumption | exact q_A rfl | skip
set_option maxRecDepth 100000 in
set_option maxHeartbeats 6400000 in
theorem dback_ret (k l : Int) (s t a b : Bool) (xs ys : List Int) (e f : Int) (h1 : xs.length ≤ 140737488355328) (h2 : ys.length ≤ 140737488355328) (b1 : InB 4294967296 xs) (b2 : InB 4294967296 ys) :
  Ret Tryz.prog 13 false [.inr [.i .i64 k,.b s,.b a,.ints .u32 xs,.i .i64 e],.inr [.i .i64 l,.b t,.b b,.ints .u32 ys,.i .i64 f]] (.c (.b true)):=by
 have hfin0 : finB [(k,s,a,xs,e),(l,t,b,ys,f)] = (okD k s a xs e && decide (k = 0) && (okD l t b ys f && decide (l = 0))):=by simp only [finB,okD5,Bool.and_true]
 cases hfin : (okD k s a xs e && decide (k = 0) && (okD l t b ys f && decide (l = 0)))
 ·(refine q_H Tryz.func13 (fun F=>?_); simp only [q_z,q_y,Tryz.ntmps13,Tryz.results13])
  repeat' (first|(with_reducible first|apply q_a|apply q_b|apply q_c|apply q_d|apply q_e|apply q_f|apply q_g|apply q_h|apply q_i|apply q_j|apply q_k|apply q_m|apply q_n|apply q_o|apply q_p|refine q_l ?_)|((with_reducible first|refine q_q dlg_ok fun K hK=>?_|refine q_r dlg_ok fun K hK=>?_);simp (maxSteps:=2000000) only [go_sem,↓reduceIte,reduceCtorEq,Nat.reduceLeDiff,Nat.reduceLT,Nat.reduceBEq,Nat.reduceAdd,hfin];(repeat1' with_reducible first|apply And.intro|(intro _;try exact q_v)|(refine hK _ ?_;clear hK K))<;>(try (clear hK K;exact q_u)))|(with_reducible refine q_s ?_;(first|apply q_J|apply q_K|apply q_L|apply q_M|apply q_N|apply q_O)<;>try (intro _;try exact q_v))|with_reducible refine q_t ?_)
  all_goals first | omega | assumption | exact q_A rfl | skip
 cases hz : noI b ys
 case true =>
  (refine q_H Tryz.func13 (fun F=>?_); simp only [q_z,q_y,Tryz.ntmps13,Tryz.results13])
  repeat' (first|(with_reducible first|apply q_a|apply q_b|apply q_c|apply q_d|apply q_e|apply q_f|apply q_g|apply q_h|apply q_i|apply q_j|apply q_k|apply q_m|apply q_n|apply q_o|apply q_p|refine q_l ?_)|((with_reducible first|refine q_q dlg_ok fun K hK=>?_|refine q_r dlg_ok fun K hK=>?_);simp (maxSteps:=2000000) only [go_sem,↓reduceIte,reduceCtorEq,Nat.reduceLeDiff,Nat.reduceLT,Nat.reduceBEq,Nat.reduceAdd,hfin,hz];(repeat1' with_reducible first|apply And.intro|(intro _;try exact q_v)|(refine hK _ ?_;clear hK K))<;>(try (clear hK K;exact q_u)))|(with_reducible refine q_s ?_;(first|apply q_J|apply q_K|apply q_L|apply q_M|apply q_N|apply q_O)<;>try (intro _;try exact q_v))|with_reducible refine q_t ?_)
  all_goals first | omega | assumption | exact q_A rfl | skip
 by_cases hb : (2 : Int) < xs.length ∨ (2 : Int) < ys.length ∨ 10 < e ∨ e < -10 ∨ 10 < f ∨ f < -10
 ·(refine q_H Tryz.func13 (fun F=>?_); simp only [q_z,q_y,Tryz.ntmps13,Tryz.results13])
  repeat' (first|(with_reducible first|apply q_a|apply q_b|apply q_c|apply q_d|apply q_e|apply q_f|apply q_g|apply q_h|apply q_i|apply q_j|apply q_k|apply q_m|apply q_n|apply q_o|apply q_p|refine q_l ?_)|((with_reducible first|refine q_q dlg_ok fun K hK=>?_|refine q_r dlg_ok fun K hK=>?_);simp (maxSteps:=2000000) only [go_sem,↓reduceIte,reduceCtorEq,Nat.reduceLeDiff,Nat.reduceLT,Nat.reduceBEq,Nat.reduceAdd,hfin,hz];(repeat1' with_reducible first|apply And.intro|(intro _;try exact q_v)|(refine hK _ ?_;clear hK K))<;>(try (clear hK K;exact q_u)))|(with_reducible refine q_s ?_;(first|apply q_J|apply q_K|apply q_L|apply q_M|apply q_N|apply q_O)<;>try (intro _;try exact q_v))|with_reducible refine q_t ?_)
  all_goals first | omega | assumption | exact q_A rfl | skip
 simp only [Bool.and_eq_true,decide_eq_true_eq] at hfin
 obtain ⟨⟨o1,rfl⟩,o2,rfl⟩:=hfin
 clear hfin0
 obtain ⟨rfl,rx,r1⟩:=okD_eq o1 b1
 obtain ⟨rfl,ry,r2⟩:=okD_eq o2 b2
 have ex : dg 4294967296 (V 4294967296 xs) = xs:=rx.symm
 have ey : dg 4294967296 (V 4294967296 ys) = ys:=ry.symm
 have hm : V 4294967296 xs < 2 ^ 64:=by
  have : (dg 4294967296 (V 4294967296 xs)).length ≤ 2:=by rw [ex]; omega
  exact Nat.lt_of_lt_of_le (lt_of_len (by omega) this) (by decide)
 have hn : V 4294967296 ys < 2 ^ 64:=by
  have : (dg 4294967296 (V 4294967296 ys)).length ≤ 2:=by rw [ey]; omega
  exact Nat.lt_of_lt_of_le (lt_of_len (by omega) this) (by decide)
 have hn0 : 0 < V 4294967296 ys:=by
  rcases Nat.eq_zero_or_pos (V 4294967296 ys) with h | h
  ·exfalso
   rw [h] at ey
   rw [← ey] at hz
   exact absurd hz (by decide)
  ·exact h
 have:=dback_ok s t _ _ e f hm hn hn0 (by rw [ex]; omega) (by rw [ey]; omega) ⟨by omega,by omega⟩ ⟨by omega,by omega⟩ (by rw [ex]; exact o1) (by rw [ey]; exact o2) (by rw [ex,ey]; simp [finB,okD5,o1,o2]) (by rw [ey]; exact hz)
 rw [gDc,gDc] at this
 simp only [ex,ey] at this
 exact this
end Go.Proofs.YtgkajjifbcmoeaaGreatDoor

namespace Go.Proofs.YtgkajjifbcmoeaaGreatDoor
set_option linter.unusedSimpArgs false
set_option linter.unusedVariables false
open Go.Abs Go.Proofs.NatL Go.ChangeShapes Go.WideShapes Go.ChangeAt Go.RowKit

set_option maxRecDepth 100000 in
theorem decimalRestBack_contract (H : Type) (enc : TypeId × Value → H) (W : World) (base : Nat) (args : Array Value) (ds gs : List (DataW H)) (before : List MemPlace)
  (hval : ∀ (j : Nat) t v,Tryz.f13.params[j]? = some t → args[j]? = some v → Value.okWide Tryz.prog W .any base t v)
  (hW : DataW.Whole enc Tryz.prog Tryz.f13.params.toList Rows.decimalRestBackSpec.vars false W args.toList ds gs before)
  (hz : (DataW.weightsEach Tryz.prog (Tryz.f13.params.toList ++ Rows.decimalRestBackSpec.plain.varTypes Tryz.prog) (ds ++ gs)).all (· ≤ reachBytes) = true) :
  Calls Tryz.prog 13 args W fun e W'=>∃ v,e = .returned v ∧ Rows.decimalRestBackSpec.post enc Tryz.prog Tryz.f13 false true false false W args v W':=by
 have hW':=hW
 obtain ⟨p,q,hA0,hV,rfl,hfz,hnd⟩:=hW
 have hA : DataW.TrodAll enc Tryz.prog W 0 (fun _=>true) true Tryz.f13.params.toList args.toList ds p:=hA0
 rw [Tryz.params13] at hA hval hz
 obtain ⟨v0,vs0,d0,ds0,p0,q0,hargs,rfl,rfl,h0,r'0⟩:=trodAll_cons hA
 obtain ⟨v1,vs1,d1,ds1,p1,q1,rfl,rfl,rfl,h1,r'1⟩:=trodAll_cons r'0
 obtain ⟨rfl,rfl,rfl⟩:=trodAll_nil r'1
 obtain rfl : args = #[v0,v1]:=by cases args; simp_all
 obtain ⟨rfl,rfl⟩:=trodVars_none hV
 obtain ⟨s0,hz⟩:=szd_cons hz
 obtain ⟨s1,hz⟩:=szd_cons hz
 obtain ⟨k_0,s_0,a_0,x0,e_0,r0,l0,b0⟩:=open_Decimal (hval 0 _ v0 rfl rfl) h0 s0
 obtain ⟨k_1,s_1,a_1,x1,e_1,r1,l1,b1⟩:=open_Decimal (hval 1 _ v1 rfl rfl) h1 s1
 refine law_post [.inr [.i .i64 k_0,.b s_0,.b a_0,.ints .u32 x0,.i .i64 e_0],.inr [.i .i64 k_1,.b s_1,.b a_1,.ints .u32 x1,.i .i64 e_1]] kids full (by rw [Tryz.params13]; decide +kernel) rfl rfl Tryz.underlying4 rfl hW' rfl ?_ (dback_ret k_0 k_1 s_0 s_1 a_0 a_1 x0 x1 e_0 e_1 l0 l1 b0 b1)
 intro j y u hy hu
 match j with
 | 0=>cases hy; cases hu; exact r0
 | 1=>cases hy; cases hu; exact r1
 | _ + 2=>simp at hy

set_option maxRecDepth 100000 in
theorem decimalRestBack_lifted (os : Os) (started : os.Started) (H : Type) (enc : TypeId × Value → H) :
  ReturnsInHanded {} Tryz.checked os 13 .any (fun w args=>(Rows.decimalRestBackSpec.pre enc Tryz.prog Tryz.f13 Rows.decimalRestBackRow.domain false w args ∧ laidMetH Tryz.prog Rows.decimalRestBackRow.laid w) ∧ sizedMet enc Tryz.prog Tryz.f13 (OpenSpec.ofChange Rows.decimalRestBackSpec) false w args) (Rows.decimalRestBackSpec.post enc Tryz.prog Tryz.f13 false true false false):=by
 refine returnsInHanded_of_change_and (C:=Tryz.checked) (X:=fun w _=>laidMetH Tryz.prog Rows.decimalRestBackRow.laid w) (fun _ _ _ hh h=>h.of_heap hh) own_knob started (by kernel_rfl) Tryz.func13
  (ChangeSpec.witness_shaped (enc:=enc) (C:=Tryz.checked) (os:=os) (X:=fun w _=>laidMetH Tryz.prog Rows.decimalRestBackRow.laid w) false (World.laidAll Tryz.prog os Rows.decimalRestBackRow.laid) #[.agg #[.int .i64 0,.bool false,.bool false,.slice none 0 0,.int .i64 0],.agg #[.int .i64 0,.bool false,.bool false,.slice none 0 0,.int .i64 0]] 8 (World.laidAll_os _ _ _)
   (World.shaped_of_ZipB (by kernel_rfl) (by kernel_rfl)) (by kernel_rfl) (by kernel_rfl) (by kernel_rfl)
   (by rw [MakeChecks.laidMetH_plain _ _ _ (by kernel_rfl)]; exact laidMet_laidAll _ (by kernel_rfl) (by kernel_rfl))) ?_
 intro W base args ds gs before hval hW _ hz _ _
 exact decimalRestBack_contract H enc W base args ds gs before hval hW hz

theorem decimalRestBack_h1 : Rows.decimalRestBackRow.wf (OpenSpec.ofChange Rows.decimalRestBackSpec) = true:=by kernel_rfl
theorem decimalRestBack_h2 : laidOutB Tryz.pinned.checked.prog = true:=by kernel_rfl
theorem decimalRestBack_h3 : mapsRowed Tryz.pinned.checked.prog = true:=by kernel_rfl
theorem decimalRestBack_h4 : (Rows.decimalRestBackRow.inPlace == Tryz.pinned.checked.prog.inPlace 13) = true:=by kernel_rfl
theorem decimalRestBack_h5 : (Rows.decimalRestBackRow.unfollowed == Tryz.pinned.checked.prog.unfollowed 13) = true:=by kernel_rfl
theorem decimalRestBack_h6 : (Rows.decimalRestBackRow.recurses == Tryz.pinned.checked.prog.recurses 13) = true:=by kernel_rfl
theorem decimalRestBack_h7 : (Rows.decimalRestBackRow.named == Tryz.pinned.checked.prog.varsNamed 13) = true:=by kernel_rfl
theorem decimalRestBack_h8 : (Rows.decimalRestBackRow.plainKeys == Tryz.pinned.checked.prog.plainKeys) = true:=by kernel_rfl
theorem decimalRestBack_and {a b : Bool} (ha : a = true) (hb : b = true) : (a && b) = true:=by rw [ha,hb]; rfl
theorem decimalRestBack_facts : joinedFacts Tryz.pinned.checked.prog 13 Tryz.f13 Rows.decimalRestBackSpec Rows.decimalRestBackRow = true:=by
 unfold joinedFacts
 repeat' (with_reducible refine decimalRestBack_and ?_ ?_)
 all_goals first
  | with_reducible exact decimalRestBack_h1
  | with_reducible exact decimalRestBack_h2
  | with_reducible exact decimalRestBack_h3
  | with_reducible exact decimalRestBack_h4
  | with_reducible exact decimalRestBack_h5
  | with_reducible exact decimalRestBack_h6
  | with_reducible exact decimalRestBack_h7
  | with_reducible exact decimalRestBack_h8
  | kernel_rfl

theorem decimalRestBack_holds : Rows.DecimalRestBackSaid :=
 OpenClaim.holds_of_wide 13 Tryz.f13 rfl rfl rfl rfl rfl rfl rfl ⟨rfl,rfl,rfl,rfl,rfl⟩ rfl rfl rfl rfl rfl (by kernel_rfl) Tryz.func13 decimalRestBack_facts
  (of_decide_eq_true (by kernel_rfl)) (by unfold Func.isWrapper; first | (rw [if_pos (by decide +kernel)]; kernel_rfl) | (rw [if_neg (by decide +kernel)]; exact ⟨rfl,rfl⟩))
  (fun os started H enc _=>decimalRestBack_lifted os started H enc)

end Go.Proofs.YtgkajjifbcmoeaaGreatDoor
