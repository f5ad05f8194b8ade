import Derived.LaidMore
import Derived.Lay
import Derived.SevenTiedAt
import Derived.Stop.Joined
import Derived.Test.YtgkajjifbcmoeaaGreatDoorM65
import Derived.Test.YtgkajjifbcmoeaaGreatDoorM89
namespace Go.Proofs.YtgkajjifbcmoeaaGreatDoor
set_option linter.unusedSimpArgs false
set_option linter.unusedVariables false
open Go.Abs Go.Proofs.NatL Go.ChangeShapes Go.WideShapes Go.ChangeAt Go.RowKit

set_option maxRecDepth 100000 in
theorem decimalOrdered_contract (H : Type) (enc : TypeId × Value → H) (W : World) (base : Nat) (args : Array Value) (ds gs : List (DataW H)) (before : List MemPlace)
  (hval : ∀ (j : Nat) t v,Tryz.f7.params[j]? = some t → args[j]? = some v → Value.okWide Tryz.prog W .any base t v)
  (hW : DataW.Whole enc Tryz.prog Tryz.f7.params.toList Rows.decimalOrderedSpec.vars false W args.toList ds gs before)
  (hz : (DataW.weightsEach Tryz.prog (Tryz.f7.params.toList ++ Rows.decimalOrderedSpec.plain.varTypes Tryz.prog) (ds ++ gs)).all (· ≤ reachBytes) = true) :
  Calls Tryz.prog 7 args W fun e W'=>∃ v,e = .returned v ∧ Rows.decimalOrderedSpec.post enc Tryz.prog Tryz.f7 false true false false W args v W':=by
 have hW':=hW
 obtain ⟨p,q,hA0,hV,rfl,hfz,hnd⟩:=hW
 have hA : DataW.TrodAll enc Tryz.prog W 0 (fun _=>true) true Tryz.f7.params.toList args.toList ds p:=hA0
 rw [Tryz.params7] at hA hval hz
 obtain ⟨v0,vs0,d0,ds0,p0,q0,hargs,rfl,rfl,h0,r'0⟩:=trodAll_cons hA
 obtain ⟨v1,vs1,d1,ds1,p1,q1,rfl,rfl,rfl,h1,r'1⟩:=trodAll_cons r'0
 obtain ⟨v2,vs2,d2,ds2,p2,q2,rfl,rfl,rfl,h2,r'2⟩:=trodAll_cons r'1
 obtain ⟨rfl,rfl,rfl⟩:=trodAll_nil r'2
 obtain rfl : args = #[v0,v1,v2]:=by cases args; simp_all
 obtain ⟨rfl,rfl⟩:=trodVars_none hV
 obtain ⟨s0,hz⟩:=szd_cons hz
 obtain ⟨s1,hz⟩:=szd_cons hz
 obtain ⟨s2,hz⟩:=szd_cons hz
 obtain ⟨k_0,s_0,a_0,x0,e_0,r0,l0,b0⟩:=open_Decimal (hval 0 _ v0 rfl rfl) h0 s0
 obtain ⟨k_1,s_1,a_1,x1,e_1,r1,l1,b1⟩:=open_Decimal (hval 1 _ v1 rfl rfl) h1 s1
 obtain ⟨p_2,r_2,m_2,n_2,r2⟩:=open_Context (hval 2 _ v2 rfl rfl) h2
 refine law_post [.inr [.i .i64 k_0,.b s_0,.b a_0,.ints .u32 x0,.i .i64 e_0],.inr [.i .i64 k_1,.b s_1,.b a_1,.ints .u32 x1,.i .i64 e_1],.inr [.i .i64 p_2,.i .i64 r_2,.i .i64 m_2,.i .i64 n_2]] kids full (by rw [Tryz.params7]; decide +kernel) rfl rfl Tryz.underlying4 rfl hW' rfl ?_ (dordered_ret k_0 k_1 s_0 s_1 a_0 a_1 x0 x1 e_0 e_1 p_2 r_2 m_2 n_2 l0 l1 b0 b1)
 intro j y u hy hu
 match j with
 | 0=>cases hy; cases hu; exact r0
 | 1=>cases hy; cases hu; exact r1
 | 2=>cases hy; cases hu; exact r2
 | _ + 3=>simp at hy

set_option maxRecDepth 100000 in
theorem decimalOrdered_lifted (os : Os) (started : os.Started) (H : Type) (enc : TypeId × Value → H) :
  ReturnsInHanded {} Tryz.checked os 7 .any (fun w args=>(Rows.decimalOrderedSpec.pre enc Tryz.prog Tryz.f7 Rows.decimalOrderedRow.domain false w args ∧ laidMetH Tryz.prog Rows.decimalOrderedRow.laid w) ∧ sizedMet enc Tryz.prog Tryz.f7 (OpenSpec.ofChange Rows.decimalOrderedSpec) false w args) (Rows.decimalOrderedSpec.post enc Tryz.prog Tryz.f7 false true false false):=by
 refine returnsInHanded_of_change_and (C:=Tryz.checked) (X:=fun w _=>laidMetH Tryz.prog Rows.decimalOrderedRow.laid w) (fun _ _ _ hh h=>h.of_heap hh) own_knob started (by kernel_rfl) Tryz.func7
  (ChangeSpec.witness_shaped (enc:=enc) (C:=Tryz.checked) (os:=os) (X:=fun w _=>laidMetH Tryz.prog Rows.decimalOrderedRow.laid w) false (World.laidAll Tryz.prog os Rows.decimalOrderedRow.laid) #[.agg #[.int .i64 0,.bool false,.bool false,.slice none 0 0,.int .i64 0],.agg #[.int .i64 0,.bool false,.bool false,.slice none 0 0,.int .i64 0],.agg #[.int .i64 0,.int .i64 0,.int .i64 0,.int .i64 0]] 8 (World.laidAll_os _ _ _)
   (World.shaped_of_ZipB (by kernel_rfl) (by kernel_rfl)) (by kernel_rfl) (by kernel_rfl) (by kernel_rfl)
   (by rw [MakeChecks.laidMetH_plain _ _ _ (by kernel_rfl)]; exact laidMet_laidAll _ (by kernel_rfl) (by kernel_rfl))) ?_
 intro W base args ds gs before hval hW _ hz _ _
 exact decimalOrdered_contract H enc W base args ds gs before hval hW hz

theorem decimalOrdered_h1 : Rows.decimalOrderedRow.wf (OpenSpec.ofChange Rows.decimalOrderedSpec) = true:=by kernel_rfl
theorem decimalOrdered_h2 : laidOutB Tryz.pinned.checked.prog = true:=by kernel_rfl
theorem decimalOrdered_h3 : mapsRowed Tryz.pinned.checked.prog = true:=by kernel_rfl
theorem decimalOrdered_h4 : (Rows.decimalOrderedRow.inPlace == Tryz.pinned.checked.prog.inPlace 7) = true:=by kernel_rfl
theorem decimalOrdered_h5 : (Rows.decimalOrderedRow.unfollowed == Tryz.pinned.checked.prog.unfollowed 7) = true:=by kernel_rfl
theorem decimalOrdered_h6 : (Rows.decimalOrderedRow.recurses == Tryz.pinned.checked.prog.recurses 7) = true:=by kernel_rfl
theorem decimalOrdered_h7 : (Rows.decimalOrderedRow.named == Tryz.pinned.checked.prog.varsNamed 7) = true:=by kernel_rfl
theorem decimalOrdered_h8 : (Rows.decimalOrderedRow.plainKeys == Tryz.pinned.checked.prog.plainKeys) = true:=by kernel_rfl
theorem decimalOrdered_and {a b : Bool} (ha : a = true) (hb : b = true) : (a && b) = true:=by rw [ha,hb]; rfl
theorem decimalOrdered_facts : joinedFacts Tryz.pinned.checked.prog 7 Tryz.f7 Rows.decimalOrderedSpec Rows.decimalOrderedRow = true:=by
 unfold joinedFacts
 repeat' (with_reducible refine decimalOrdered_and ?_ ?_)
 all_goals first
  | with_reducible exact decimalOrdered_h1
  | with_reducible exact decimalOrdered_h2
  | with_reducible exact decimalOrdered_h3
  | with_reducible exact decimalOrdered_h4
  | with_reducible exact decimalOrdered_h5
  | with_reducible exact decimalOrdered_h6
  | with_reducible exact decimalOrdered_h7
  | with_reducible exact decimalOrdered_h8
  | kernel_rfl

theorem decimalOrdered_holds : Rows.DecimalOrderedSaid :=
 OpenClaim.holds_of_wide 7 Tryz.f7 rfl rfl rfl rfl rfl rfl rfl ⟨rfl,rfl,rfl,rfl,rfl⟩ rfl rfl rfl rfl rfl (by kernel_rfl) Tryz.func7 decimalOrdered_facts
  (of_decide_eq_true (by kernel_rfl)) (by unfold Func.isWrapper; first | (rw [if_pos (by decide +kernel)]; kernel_rfl) | (rw [if_neg (by decide +kernel)]; exact ⟨rfl,rfl⟩))
  (fun os started H enc _=>decimalOrdered_lifted os started H enc)

end Go.Proofs.YtgkajjifbcmoeaaGreatDoor
