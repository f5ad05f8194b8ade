import Derived.Test.YtncededjmcmidaaX12
namespace Go.Proofs.Ytncededjmcmidaa
set_option linter.unusedSimpArgs false
set_option linter.unusedVariables false
open Go.Abs Go.Proofs.NatL Go.ChangeShapes Go.WideShapes Go.ChangeAt Go.RowKit

set_option maxRecDepth 100000 in
theorem setsTwo_contract (H : Type) (enc : TypeId × Value → H) (W : World) (base : Nat) (args : Array Value) (ds gs : List (DataW H)) (before : List MemPlace)
  (hval : ∀ (j : Nat) t v,Try.f7.params[j]? = some t → args[j]? = some v → Value.okWide Try.prog W .any base t v)
  (hW : DataW.Whole enc Try.prog Try.f7.params.toList Rows.setsTwoSpec.vars false W args.toList ds gs before)
  (hz : (DataW.weightsEach Try.prog (Try.f7.params.toList ++ Rows.setsTwoSpec.plain.varTypes Try.prog) (ds ++ gs)).all (· ≤ reachBytes) = true) :
  Calls Try.prog 7 args W fun e W'=>∃ v,e = .returned v ∧ Rows.setsTwoSpec.post enc Try.prog Try.f7 false true false false W args v W':=by
 have hW':=hW
 obtain ⟨p,q,hA0,hV,rfl,hfz,hnd⟩:=hW
 have hA : DataW.TrodAll enc Try.prog W 0 (fun _=>true) true Try.f7.params.toList args.toList ds p:=hA0
 rw [Try.params7] at hA hval hz
 obtain ⟨v0,vs0,d0,ds0,p0,q0,hargs,rfl,rfl,h0,r'0⟩:=trodAll_cons hA
 obtain ⟨rfl,rfl,rfl⟩:=trodAll_nil r'0
 obtain rfl : args = #[v0]:=by cases args; simp_all
 obtain ⟨rfl,rfl⟩:=trodVars_none hV
 obtain ⟨s0,hz⟩:=szd_cons hz
 obtain ⟨x0,r0,l0,b0⟩:=open_ints (hval 0 _ v0 rfl rfl) h0 s0
 refine law_post [.inl (.ints .i64 x0)] kids full (by rw [Try.params7]; decide +kernel) rfl rfl Try.underlying4 rfl hW' rfl ?_ (setsTwo_ret x0 l0)
 intro j y u hy hu
 match j with
 | 0=>cases hy; cases hu; exact r0
 | _ + 1=>simp at hy

set_option maxRecDepth 100000 in
theorem setsTwo_lifted (os : Os) (started : os.Started) (H : Type) (enc : TypeId × Value → H) :
  ReturnsInHanded {} Try.checked os 7 .any (Rows.setsTwoSpec.pre6 enc Try.prog Try.f7 Rows.setsTwoRow.domain false) (Rows.setsTwoSpec.post enc Try.prog Try.f7 false true false false):=by
 refine returnsInHanded_of_change_sized (C:=Try.checked) own_knob started (by kernel_rfl) Try.func7
  (ChangeSpec.witness6 false ⟨#[],#[.slice none 0 0],[]⟩ 8 (by kernel_rfl) (by kernel_rfl) (by kernel_rfl) (by kernel_rfl)) ?_
 intro W base args ds gs before hval hW _ hz _
 exact setsTwo_contract H enc W base args ds gs before hval hW hz

theorem setsTwo_h1 : Rows.setsTwoRow.wf (OpenSpec.ofChange Rows.setsTwoSpec) = true:=by kernel_rfl
theorem setsTwo_h2 : laidOutB Try.pinned.checked.prog = true:=by kernel_rfl
theorem setsTwo_h3 : mapsRowed Try.pinned.checked.prog = true:=by kernel_rfl
theorem setsTwo_h4 : (Rows.setsTwoRow.inPlace == Try.pinned.checked.prog.inPlace 7) = true:=by kernel_rfl
theorem setsTwo_h5 : (Rows.setsTwoRow.unfollowed == Try.pinned.checked.prog.unfollowed 7) = true:=by kernel_rfl
theorem setsTwo_h6 : (Rows.setsTwoRow.recurses == Try.pinned.checked.prog.recurses 7) = true:=by kernel_rfl
theorem setsTwo_h7 : (Rows.setsTwoRow.named == Try.pinned.checked.prog.varsNamed 7) = true:=by kernel_rfl
theorem setsTwo_h8 : (Rows.setsTwoRow.plainKeys == Try.pinned.checked.prog.plainKeys) = true:=by kernel_rfl
theorem setsTwo_and {a b : Bool} (ha : a = true) (hb : b = true) : (a && b) = true:=by rw [ha,hb]; rfl
theorem setsTwo_facts : joinedFacts Try.pinned.checked.prog 7 Try.f7 Rows.setsTwoSpec Rows.setsTwoRow = true:=by
 unfold joinedFacts
 repeat' (with_reducible refine setsTwo_and ?_ ?_)
 all_goals first
  | with_reducible exact setsTwo_h1
  | with_reducible exact setsTwo_h2
  | with_reducible exact setsTwo_h3
  | with_reducible exact setsTwo_h4
  | with_reducible exact setsTwo_h5
  | with_reducible exact setsTwo_h6
  | with_reducible exact setsTwo_h7
  | with_reducible exact setsTwo_h8
  | kernel_rfl

theorem setsTwo_holds : Rows.SetsTwoSaid :=
 OpenClaim.holds_of_wide 7 Try.f7 rfl rfl rfl rfl rfl rfl rfl ⟨rfl,rfl,rfl,rfl,rfl⟩ rfl rfl rfl rfl rfl (by kernel_rfl) Try.func7 setsTwo_facts
  (of_decide_eq_true (by kernel_rfl)) (by unfold Func.isWrapper; first | (rw [if_pos (by decide +kernel)]; kernel_rfl) | (rw [if_neg (by decide +kernel)]; exact ⟨rfl,rfl⟩))
  (fun os started H enc _=>setsTwo_lifted os started H enc)

end Go.Proofs.Ytncededjmcmidaa
