import Derived.Test.YtmcjojbffidlbaaA10
namespace Go.Proofs.Ytmcjojbffidlbaa
set_option linter.unusedSimpArgs false
set_option linter.unusedVariables false
open Go.Abs Go.Proofs.NatL Go.ChangeShapes Go.WideShapes Go.ChangeAt Go.RowKit

theorem inserted_ret (l m : List Int) (x : Int) (hl : l.length ≤ 17592186044416) (hm : m.length ≤ 17592186044416) :
  Ret Try.prog 7 false [.inl (.ints .i64 l),.inl (.ints .i64 m),.inl (.i .i64 x)] (.c (.b true)):=by
 by_cases h : 1000 < l.length ∨ 1000 < m.length
 ·exact inserted_long l m x hl hm h
 ·exact inserted_ok l m x (by omega) (by omega)

set_option maxRecDepth 100000 in
theorem orderingInserted_contract (H : Type) (enc : TypeId × Value → H) (W : World) (base : Nat) (args : Array Value) (ds gs : List (DataW H)) (before : List MemPlace)
  (hval : ∀ (j : Nat) t v,Try.f7.params[j]? = some t → args[j]? = some v → Value.okWide Try.prog W .any base t v)
  (hW : DataW.Whole enc Try.prog Try.f7.params.toList Rows.orderingInsertedSpec.vars false W args.toList ds gs before)
  (hz : (DataW.weightsEach Try.prog (Try.f7.params.toList ++ Rows.orderingInsertedSpec.plain.varTypes Try.prog) (ds ++ gs)).all (· ≤ reachBytes) = true) :
  Calls Try.prog 7 args W fun e W'=>∃ v,e = .returned v ∧ Rows.orderingInsertedSpec.post enc Try.prog Try.f7 false true false false W args v W':=by
 have hW':=hW
 obtain ⟨p,q,hA0,hV,rfl,hfz,hnd⟩:=hW
 have hA : DataW.TrodAll enc Try.prog W 0 (fun _=>true) true Try.f7.params.toList args.toList ds p:=hA0
 rw [Try.params7] at hA hval hz
 obtain ⟨v0,vs0,d0,ds0,p0,q0,hargs,rfl,rfl,h0,r'0⟩:=trodAll_cons hA
 obtain ⟨v1,vs1,d1,ds1,p1,q1,rfl,rfl,rfl,h1,r'1⟩:=trodAll_cons r'0
 obtain ⟨v2,vs2,d2,ds2,p2,q2,rfl,rfl,rfl,h2,r'2⟩:=trodAll_cons r'1
 obtain ⟨rfl,rfl,rfl⟩:=trodAll_nil r'2
 obtain rfl : args = #[v0,v1,v2]:=by cases args; simp_all
 obtain ⟨rfl,rfl⟩:=trodVars_none hV
 obtain ⟨s0,hz⟩:=szd_cons hz
 obtain ⟨s1,hz⟩:=szd_cons hz
 obtain ⟨s2,hz⟩:=szd_cons hz
 obtain ⟨x0,r0,l0,b0⟩:=open_ints (hval 0 _ v0 rfl rfl) h0 s0
 obtain ⟨x1,r1,l1,b1⟩:=open_ints (hval 1 _ v1 rfl rfl) h1 s1
 obtain ⟨x2,rfl,rfl,rfl,w2⟩:=open_int Try.underlying3 (hval 2 _ v2 rfl rfl) h2
 have b2:=bounds_i64 w2
 refine law_post [.inl (.ints .i64 x0),.inl (.ints .i64 x1),.inl (.i .i64 x2)] kids full (by rw [Try.params7]; decide +kernel) rfl rfl Try.underlying4 rfl hW' rfl ?_ (inserted_ret x0 x1 x2 l0 l1)
 intro j y u hy hu
 match j with
 | 0=>cases hy; cases hu; exact r0
 | 1=>cases hy; cases hu; exact r1
 | 2=>cases hy; cases hu; exact Rd.i .i64 x2
 | _ + 3=>simp at hy

set_option maxRecDepth 100000 in
theorem orderingInserted_lifted (os : Os) (started : os.Started) (H : Type) (enc : TypeId × Value → H) :
  ReturnsInHanded {} Try.checked os 7 .any (Rows.orderingInsertedSpec.pre6 enc Try.prog Try.f7 Rows.orderingInsertedRow.domain false) (Rows.orderingInsertedSpec.post enc Try.prog Try.f7 false true false false):=by
 refine returnsInHanded_of_change_sized (C:=Try.checked) own_knob started (by kernel_rfl) Try.func7
  (ChangeSpec.witness6 false ⟨#[],#[.slice none 0 0,.slice none 0 0,.int .i64 0],[]⟩ 8 (by kernel_rfl) (by kernel_rfl) (by kernel_rfl) (by kernel_rfl)) ?_
 intro W base args ds gs before hval hW _ hz _
 exact orderingInserted_contract H enc W base args ds gs before hval hW hz

theorem orderingInserted_h1 : Rows.orderingInsertedRow.wf (OpenSpec.ofChange Rows.orderingInsertedSpec) = true:=by kernel_rfl
theorem orderingInserted_h2 : laidOutB Try.pinned.checked.prog = true:=by kernel_rfl
theorem orderingInserted_h3 : mapsRowed Try.pinned.checked.prog = true:=by kernel_rfl
theorem orderingInserted_h4 : (Rows.orderingInsertedRow.inPlace == Try.pinned.checked.prog.inPlace 7) = true:=by kernel_rfl
theorem orderingInserted_h5 : (Rows.orderingInsertedRow.unfollowed == Try.pinned.checked.prog.unfollowed 7) = true:=by kernel_rfl
theorem orderingInserted_h6 : (Rows.orderingInsertedRow.recurses == Try.pinned.checked.prog.recurses 7) = true:=by kernel_rfl
theorem orderingInserted_h7 : (Rows.orderingInsertedRow.named == Try.pinned.checked.prog.varsNamed 7) = true:=by kernel_rfl
theorem orderingInserted_h8 : (Rows.orderingInsertedRow.plainKeys == Try.pinned.checked.prog.plainKeys) = true:=by kernel_rfl
theorem orderingInserted_and {a b : Bool} (ha : a = true) (hb : b = true) : (a && b) = true:=by rw [ha,hb]; rfl
theorem orderingInserted_facts : joinedFacts Try.pinned.checked.prog 7 Try.f7 Rows.orderingInsertedSpec Rows.orderingInsertedRow = true:=by
 unfold joinedFacts
 repeat' (with_reducible refine orderingInserted_and ?_ ?_)
 all_goals first
  | with_reducible exact orderingInserted_h1
  | with_reducible exact orderingInserted_h2
  | with_reducible exact orderingInserted_h3
  | with_reducible exact orderingInserted_h4
  | with_reducible exact orderingInserted_h5
  | with_reducible exact orderingInserted_h6
  | with_reducible exact orderingInserted_h7
  | with_reducible exact orderingInserted_h8
  | kernel_rfl

theorem orderingInserted_holds : Rows.OrderingInsertedSaid :=
 OpenClaim.holds_of_wide 7 Try.f7 rfl rfl rfl rfl rfl rfl rfl ⟨rfl,rfl,rfl,rfl,rfl⟩ rfl rfl rfl rfl rfl (by kernel_rfl) Try.func7 orderingInserted_facts
  (of_decide_eq_true (by kernel_rfl)) (by unfold Func.isWrapper; first | (rw [if_pos (by decide +kernel)]; kernel_rfl) | (rw [if_neg (by decide +kernel)]; exact ⟨rfl,rfl⟩))
  (fun os started H enc _=>orderingInserted_lifted os started H enc)

end Go.Proofs.Ytmcjojbffidlbaa
