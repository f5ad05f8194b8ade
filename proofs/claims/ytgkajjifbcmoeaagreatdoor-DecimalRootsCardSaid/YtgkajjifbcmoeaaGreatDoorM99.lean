import Derived.LaidMore
import Derived.Lay
import Derived.SevenTiedAt
import Derived.Stop.Joined
import Derived.Test.YtgkajjifbcmoeaaGreatDoorM65
import Derived.Test.YtgkajjifbcmoeaaGreatDoorM98
namespace Go.Proofs.YtgkajjifbcmoeaaGreatDoor
set_option linter.unusedSimpArgs false
set_option linter.unusedVariables false
open Go.Abs Go.Proofs.NatL Go.ChangeShapes Go.WideShapes Go.ChangeAt Go.RowKit

set_option maxRecDepth 100000 in
theorem decimalRoots_contract (H : Type) (enc : TypeId × Value → H) (W : World) (base : Nat) (args : Array Value) (ds gs : List (DataW H)) (before : List MemPlace)
  (hval : ∀ (j : Nat) t v,Tryz.f9.params[j]? = some t → args[j]? = some v → Value.okWide Tryz.prog W .any base t v)
  (hW : DataW.Whole enc Tryz.prog Tryz.f9.params.toList Rows.decimalRootsSpec.vars false W args.toList ds gs before)
  (hz : (DataW.weightsEach Tryz.prog (Tryz.f9.params.toList ++ Rows.decimalRootsSpec.plain.varTypes Tryz.prog) (ds ++ gs)).all (· ≤ reachBytes) = true) :
  Calls Tryz.prog 9 args W fun e W'=>∃ v,e = .returned v ∧ Rows.decimalRootsSpec.post enc Tryz.prog Tryz.f9 false true false false W args v W':=by
 have hW':=hW
 obtain ⟨p,q,hA0,hV,rfl,hfz,hnd⟩:=hW
 have hA : DataW.TrodAll enc Tryz.prog W 0 (fun _=>true) true Tryz.f9.params.toList args.toList ds p:=hA0
 rw [Tryz.params9] at hA hval hz
 obtain ⟨v0,vs0,d0,ds0,p0,q0,hargs,rfl,rfl,h0,r'0⟩:=trodAll_cons hA
 obtain ⟨v1,vs1,d1,ds1,p1,q1,rfl,rfl,rfl,h1,r'1⟩:=trodAll_cons r'0
 obtain ⟨rfl,rfl,rfl⟩:=trodAll_nil r'1
 obtain rfl : args = #[v0,v1]:=by cases args; simp_all
 obtain ⟨rfl,rfl⟩:=trodVars_none hV
 obtain ⟨s0,hz⟩:=szd_cons hz
 obtain ⟨s1,hz⟩:=szd_cons hz
 obtain ⟨k_0,s_0,a_0,x0,e_0,r0,l0,b0⟩:=open_Decimal (hval 0 _ v0 rfl rfl) h0 s0
 obtain ⟨p_1,r_1,m_1,n_1,r1⟩:=open_Context (hval 1 _ v1 rfl rfl) h1
 refine law_post [.inr [.i .i64 k_0,.b s_0,.b a_0,.ints .u32 x0,.i .i64 e_0],.inr [.i .i64 p_1,.i .i64 r_1,.i .i64 m_1,.i .i64 n_1]] kids full (by rw [Tryz.params9]; decide +kernel) rfl rfl Tryz.underlying4 rfl hW' rfl ?_ (droots_ret k_0 s_0 a_0 x0 e_0 p_1 r_1 m_1 n_1 l0 b0)
 intro j y u hy hu
 match j with
 | 0=>cases hy; cases hu; exact r0
 | 1=>cases hy; cases hu; exact r1
 | _ + 2=>simp at hy

set_option maxRecDepth 100000 in
theorem decimalRoots_lifted (os : Os) (started : os.Started) (H : Type) (enc : TypeId × Value → H) :
  ReturnsInHanded {} Tryz.checked os 9 .any (fun w args=>(Rows.decimalRootsSpec.pre enc Tryz.prog Tryz.f9 Rows.decimalRootsRow.domain false w args ∧ laidMetH Tryz.prog Rows.decimalRootsRow.laid w) ∧ sizedMet enc Tryz.prog Tryz.f9 (OpenSpec.ofChange Rows.decimalRootsSpec) false w args) (Rows.decimalRootsSpec.post enc Tryz.prog Tryz.f9 false true false false):=by
 refine returnsInHanded_of_change_and (C:=Tryz.checked) (X:=fun w _=>laidMetH Tryz.prog Rows.decimalRootsRow.laid w) (fun _ _ _ hh h=>h.of_heap hh) own_knob started (by kernel_rfl) Tryz.func9
  (ChangeSpec.witness_shaped (enc:=enc) (C:=Tryz.checked) (os:=os) (X:=fun w _=>laidMetH Tryz.prog Rows.decimalRootsRow.laid w) false (World.laidAll Tryz.prog os Rows.decimalRootsRow.laid) #[.agg #[.int .i64 0,.bool false,.bool false,.slice none 0 0,.int .i64 0],.agg #[.int .i64 0,.int .i64 0,.int .i64 0,.int .i64 0]] 8 (World.laidAll_os _ _ _)
   (World.shaped_of_ZipB (by kernel_rfl) (by kernel_rfl)) (by kernel_rfl) (by kernel_rfl) (by kernel_rfl)
   (by rw [MakeChecks.laidMetH_plain _ _ _ (by kernel_rfl)]; exact laidMet_laidAll _ (by kernel_rfl) (by kernel_rfl))) ?_
 intro W base args ds gs before hval hW _ hz _ _
 exact decimalRoots_contract H enc W base args ds gs before hval hW hz

theorem decimalRoots_h1 : Rows.decimalRootsRow.wf (OpenSpec.ofChange Rows.decimalRootsSpec) = true:=by kernel_rfl
theorem decimalRoots_h2 : laidOutB Tryz.pinned.checked.prog = true:=by kernel_rfl
theorem decimalRoots_h3 : mapsRowed Tryz.pinned.checked.prog = true:=by kernel_rfl
theorem decimalRoots_h4 : (Rows.decimalRootsRow.inPlace == Tryz.pinned.checked.prog.inPlace 9) = true:=by kernel_rfl
theorem decimalRoots_h5 : (Rows.decimalRootsRow.unfollowed == Tryz.pinned.checked.prog.unfollowed 9) = true:=by kernel_rfl
theorem decimalRoots_h6 : (Rows.decimalRootsRow.recurses == Tryz.pinned.checked.prog.recurses 9) = true:=by kernel_rfl
theorem decimalRoots_h7 : (Rows.decimalRootsRow.named == Tryz.pinned.checked.prog.varsNamed 9) = true:=by kernel_rfl
theorem decimalRoots_h8 : (Rows.decimalRootsRow.plainKeys == Tryz.pinned.checked.prog.plainKeys) = true:=by kernel_rfl
theorem decimalRoots_and {a b : Bool} (ha : a = true) (hb : b = true) : (a && b) = true:=by rw [ha,hb]; rfl
theorem decimalRoots_facts : joinedFacts Tryz.pinned.checked.prog 9 Tryz.f9 Rows.decimalRootsSpec Rows.decimalRootsRow = true:=by
 unfold joinedFacts
 repeat' (with_reducible refine decimalRoots_and ?_ ?_)
 all_goals first
  | with_reducible exact decimalRoots_h1
  | with_reducible exact decimalRoots_h2
  | with_reducible exact decimalRoots_h3
  | with_reducible exact decimalRoots_h4
  | with_reducible exact decimalRoots_h5
  | with_reducible exact decimalRoots_h6
  | with_reducible exact decimalRoots_h7
  | with_reducible exact decimalRoots_h8
  | kernel_rfl

theorem decimalRoots_holds : Rows.DecimalRootsSaid :=
 OpenClaim.holds_of_wide 9 Tryz.f9 rfl rfl rfl rfl rfl rfl rfl ⟨rfl,rfl,rfl,rfl,rfl⟩ rfl rfl rfl rfl rfl (by kernel_rfl) Tryz.func9 decimalRoots_facts
  (of_decide_eq_true (by kernel_rfl)) (by unfold Func.isWrapper; first | (rw [if_pos (by decide +kernel)]; kernel_rfl) | (rw [if_neg (by decide +kernel)]; exact ⟨rfl,rfl⟩))
  (fun os started H enc _=>decimalRoots_lifted os started H enc)

end Go.Proofs.YtgkajjifbcmoeaaGreatDoor
