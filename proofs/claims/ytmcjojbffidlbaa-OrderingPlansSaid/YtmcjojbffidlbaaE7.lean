import Derived.Test.YtmcjojbffidlbaaE6
namespace Go.Proofs.Ytmcjojbffidlbaa
set_option linter.unusedSimpArgs false
set_option linter.unusedVariables false
open Go.Abs Go.Proofs.NatL Go.ChangeShapes Go.WideShapes Go.ChangeAt Go.RowKit

theorem cells_bool : Try.prog.cellsOf 4 = 1:=by kernel_rfl
theorem bytes_bool : Try.prog.bytesOf 4 = 1:=by kernel_rfl
set_option maxRecDepth 100000 in
theorem open_bools {H : Type} {enc : TypeId × Value → H} {W : World} {base : Nat} {v : Value} {d : DataW H} {p : List MemPlace} (hval : Value.okWide Try.prog W .any base 22 v) (h : DataW.Trod enc Try.prog W 0 (fun _=>true) true 22 v d p) (hs : Sized Try.prog 22 d) :
  ∃ xs : List Bool,Rd W Top (.bools xs) v ∧ xs.length ≤ 140737488355328:=by
 obtain ⟨fuel,hf⟩:=h
 obtain ⟨xs,u,hu,ho,hrd,hm,hd⟩:=rd_bools Try.underlying22 Try.underlying4 cells_bool hf
 obtain rfl:=one_of Try.underlying22 rfl hval hu ho
 have hl:=szd_slice (n:=xs.length) Try.underlying22 hs (by
  rcases hd with ⟨h1,h2⟩ | h1
  ·exact .inl ⟨h1,by rw [h2]; rfl⟩
  ·exact .inr h1)
 rw [bytes_bool] at hl
 exact ⟨xs,hrd,by simp only [reachBytes] at hl; omega⟩
theorem plans_ret (n a : Int) (bz : List Bool) (hbz : bz.length ≤ 140737488355328) :
  Ret Try.prog 3 false [.inl (.i .i64 n),.inl (.bools bz),.inl (.i .i64 a)] (.c (.b true)):=by
 by_cases h : n < 0 ∨ 1000 < n
 ·exact plans_bad n a bz hbz h
 ·obtain ⟨k,rfl⟩:=Int.eq_ofNat_of_zero_le (show 0 ≤ n by omega)
  exact plans_good k a bz hbz (by omega)

set_option maxRecDepth 100000 in
theorem orderingPlans_contract (H : Type) (enc : TypeId × Value → H) (W : World) (base : Nat) (args : Array Value) (ds gs : List (DataW H)) (before : List MemPlace)
  (hval : ∀ (j : Nat) t v,Try.f3.params[j]? = some t → args[j]? = some v → Value.okWide Try.prog W .any base t v)
  (hW : DataW.Whole enc Try.prog Try.f3.params.toList Rows.orderingPlansSpec.vars false W args.toList ds gs before)
  (hz : (DataW.weightsEach Try.prog (Try.f3.params.toList ++ Rows.orderingPlansSpec.plain.varTypes Try.prog) (ds ++ gs)).all (· ≤ reachBytes) = true) :
  Calls Try.prog 3 args W fun e W'=>∃ v,e = .returned v ∧ Rows.orderingPlansSpec.post enc Try.prog Try.f3 false true false false W args v W':=by
 have hW':=hW
 obtain ⟨p,q,hA0,hV,rfl,hfz,hnd⟩:=hW
 have hA : DataW.TrodAll enc Try.prog W 0 (fun _=>true) true Try.f3.params.toList args.toList ds p:=hA0
 rw [Try.params3] at hA hval hz
 obtain ⟨v0,vs0,d0,ds0,p0,q0,hargs,rfl,rfl,h0,r'0⟩:=trodAll_cons hA
 obtain ⟨v1,vs1,d1,ds1,p1,q1,rfl,rfl,rfl,h1,r'1⟩:=trodAll_cons r'0
 obtain ⟨v2,vs2,d2,ds2,p2,q2,rfl,rfl,rfl,h2,r'2⟩:=trodAll_cons r'1
 obtain ⟨rfl,rfl,rfl⟩:=trodAll_nil r'2
 obtain rfl : args = #[v0,v1,v2]:=by cases args; simp_all
 obtain ⟨rfl,rfl⟩:=trodVars_none hV
 obtain ⟨s0,hz⟩:=szd_cons hz
 obtain ⟨s1,hz⟩:=szd_cons hz
 obtain ⟨s2,hz⟩:=szd_cons hz
 obtain ⟨x0,rfl,rfl,rfl,w0⟩:=open_int Try.underlying3 (hval 0 _ v0 rfl rfl) h0
 have b0:=bounds_i64 w0
 obtain ⟨x1,r1,l1⟩:=open_bools (hval 1 _ v1 rfl rfl) h1 s1
 obtain ⟨x2,rfl,rfl,rfl,w2⟩:=open_int Try.underlying3 (hval 2 _ v2 rfl rfl) h2
 have b2:=bounds_i64 w2
 refine law_post [.inl (.i .i64 x0),.inl (.bools x1),.inl (.i .i64 x2)] kids full (by rw [Try.params3]; decide +kernel) rfl rfl Try.underlying4 rfl hW' rfl ?_ (plans_ret x0 x2 x1 l1)
 intro j y u hy hu
 match j with
 | 0=>cases hy; cases hu; exact Rd.i .i64 x0
 | 1=>cases hy; cases hu; exact r1
 | 2=>cases hy; cases hu; exact Rd.i .i64 x2
 | _ + 3=>simp at hy

set_option maxRecDepth 100000 in
theorem orderingPlans_lifted (os : Os) (started : os.Started) (H : Type) (enc : TypeId × Value → H) :
  ReturnsInHanded {} Try.checked os 3 .any (Rows.orderingPlansSpec.pre6 enc Try.prog Try.f3 Rows.orderingPlansRow.domain false) (Rows.orderingPlansSpec.post enc Try.prog Try.f3 false true false false):=by
 refine returnsInHanded_of_change_sized (C:=Try.checked) own_knob started (by kernel_rfl) Try.func3
  (ChangeSpec.witness6 false ⟨#[],#[.int .i64 0,.slice none 0 0,.int .i64 0],[]⟩ 8 (by kernel_rfl) (by kernel_rfl) (by kernel_rfl) (by kernel_rfl)) ?_
 intro W base args ds gs before hval hW _ hz _
 exact orderingPlans_contract H enc W base args ds gs before hval hW hz

theorem orderingPlans_h1 : Rows.orderingPlansRow.wf (OpenSpec.ofChange Rows.orderingPlansSpec) = true:=by kernel_rfl
theorem orderingPlans_h2 : laidOutB Try.pinned.checked.prog = true:=by kernel_rfl
theorem orderingPlans_h3 : mapsRowed Try.pinned.checked.prog = true:=by kernel_rfl
theorem orderingPlans_h4 : (Rows.orderingPlansRow.inPlace == Try.pinned.checked.prog.inPlace 3) = true:=by kernel_rfl
theorem orderingPlans_h5 : (Rows.orderingPlansRow.unfollowed == Try.pinned.checked.prog.unfollowed 3) = true:=by kernel_rfl
theorem orderingPlans_h6 : (Rows.orderingPlansRow.recurses == Try.pinned.checked.prog.recurses 3) = true:=by kernel_rfl
theorem orderingPlans_h7 : (Rows.orderingPlansRow.named == Try.pinned.checked.prog.varsNamed 3) = true:=by kernel_rfl
theorem orderingPlans_h8 : (Rows.orderingPlansRow.plainKeys == Try.pinned.checked.prog.plainKeys) = true:=by kernel_rfl
theorem orderingPlans_and {a b : Bool} (ha : a = true) (hb : b = true) : (a && b) = true:=by rw [ha,hb]; rfl
theorem orderingPlans_facts : joinedFacts Try.pinned.checked.prog 3 Try.f3 Rows.orderingPlansSpec Rows.orderingPlansRow = true:=by
 unfold joinedFacts
 repeat' (with_reducible refine orderingPlans_and ?_ ?_)
 all_goals first
  | with_reducible exact orderingPlans_h1
  | with_reducible exact orderingPlans_h2
  | with_reducible exact orderingPlans_h3
  | with_reducible exact orderingPlans_h4
  | with_reducible exact orderingPlans_h5
  | with_reducible exact orderingPlans_h6
  | with_reducible exact orderingPlans_h7
  | with_reducible exact orderingPlans_h8
  | kernel_rfl

theorem orderingPlans_holds : Rows.OrderingPlansSaid :=
 OpenClaim.holds_of_wide 3 Try.f3 rfl rfl rfl rfl rfl rfl rfl ⟨rfl,rfl,rfl,rfl,rfl⟩ rfl rfl rfl rfl rfl (by kernel_rfl) Try.func3 orderingPlans_facts
  (of_decide_eq_true (by kernel_rfl)) (by unfold Func.isWrapper; first | (rw [if_pos (by decide +kernel)]; kernel_rfl) | (rw [if_neg (by decide +kernel)]; exact ⟨rfl,rfl⟩))
  (fun os started H enc _=>orderingPlans_lifted os started H enc)

end Go.Proofs.Ytmcjojbffidlbaa
