import Derived.Deep.CondSized
import Derived.Test.YtmcjojbffidlbaaG9
namespace Go.Proofs.Ytmcjojbffidlbaa
set_option linter.unusedSimpArgs false
set_option linter.unusedVariables false
open Go.Abs Go.Proofs.NatL Go.ChangeShapes Go.WideShapes Go.ChangeAt Go.RowKit

theorem bulk_one {H : Type} (d : DataW H) : 1 ≤ Rows.uptoBulk d:=by
 cases d with
 | lit l=>cases l <;> simp [Rows.uptoBulk]
 | _=>simp [Rows.uptoBulk]
theorem bulk_len {H : Type} (l : List (DataW H)) : l.length ≤ Rows.uptoBulkAll l:=by
 induction l with
 | nil=>simp [Rows.uptoBulkAll]
 | cons x r ih =>
  have:=bulk_one x
  simp only [Rows.uptoBulkAll,List.length_cons]
  omega
set_option maxRecDepth 100000 in
theorem open_intsK {H : Type} {enc : TypeId × Value → H} {W : World} {base : Nat} {v : Value} {d : DataW H} {p : List MemPlace} (hval : Value.okWide Try.prog W .any base 23 v) (h : DataW.Trod enc Try.prog W 0 (fun _=>true) true 23 v d p) (hs : Sized Try.prog 23 d) :
  ∃ xs : List Int,Rd W Top (.ints .i64 xs) v ∧ xs.length ≤ 17592186044416 ∧ (∀ x ∈ xs, -9223372036854775808 ≤ x ∧ x ≤ 9223372036854775807) ∧ xs.length ≤ Rows.uptoBulk d:=by
 obtain ⟨fuel,hf⟩:=h
 obtain ⟨xs,u,hu,ho,hrd,hm,hw,hd⟩:=rd_ints Try.underlying23 Try.underlying3 cells_int hf
 obtain rfl:=one_of Try.underlying23 rfl hval hu ho
 have hl:=szd_slice (n:=xs.length) Try.underlying23 hs (by
  rcases hd with ⟨h1,h2⟩ | h1
  ·exact .inl ⟨h1,by rw [h2]; rfl⟩
  ·exact .inr h1)
 rw [bytes_int] at hl
 refine ⟨xs,hrd,by simp only [reachBytes] at hl; omega,fun x hx=>bounds_i64 (hw x hx),?_⟩
 rcases hd with ⟨_,h2⟩ | ⟨ds,sp,h1,h2⟩
 ·rw [h2]; simp
 ·simp only at h1
  rw [h1]
  have:=bulk_len ds
  simp only [Rows.uptoBulk]
  omega
theorem sorts_law (l m : List Int) (x kd : Int) (beh : Bool) (hl : l.length + m.length ≤ 17592186044416) : Ret Try.prog 6 false [.inl (.ints .i64 l),.inl (.ints .i64 m),.inl (.i .i64 x),.inl (.i .i64 kd),.inl (.b beh)] (.c (.b true)):=by
 by_cases h0 : kd = 0
 ·subst h0; exact law_J l m x beh hl
 ·by_cases h1 : kd = 1
  ·subst h1; exact law_K l m x beh hl
  ·exact law_M kd ⟨h0,h1⟩ l m x beh hl

set_option maxRecDepth 100000 in
theorem orderingSorts_contract (H : Type) (enc : TypeId × Value → H) (W : World) (base : Nat) (args : Array Value) (ds gs : List (DataW H)) (before : List MemPlace)
  (hval : ∀ (j : Nat) t v,Try.f6.params[j]? = some t → args[j]? = some v → Value.okWide Try.prog W .any base t v)
  (hW : DataW.Whole enc Try.prog Try.f6.params.toList Rows.orderingSortsSpec.vars false W args.toList ds gs before)
  (hz : (DataW.weightsEach Try.prog (Try.f6.params.toList ++ Rows.orderingSortsSpec.plain.varTypes Try.prog) (ds ++ gs)).all (· ≤ reachBytes) = true)
  (hk : Rows.uptoSmall H (ds ++ gs) = true) :
  Calls Try.prog 6 args W fun e W'=>∃ v,e = .returned v ∧ Rows.orderingSortsSpec.post enc Try.prog Try.f6 false true false false W args v W':=by
 have hW':=hW
 obtain ⟨p,q,hA0,hV,rfl,hfz,hnd⟩:=hW
 have hA : DataW.TrodAll enc Try.prog W 0 (fun _=>true) true Try.f6.params.toList args.toList ds p:=hA0
 rw [Try.params6] at hA hval hz
 obtain ⟨v0,vs0,d0,ds0,p0,q0,hargs,rfl,rfl,h0,r'0⟩:=trodAll_cons hA
 obtain ⟨v1,vs1,d1,ds1,p1,q1,rfl,rfl,rfl,h1,r'1⟩:=trodAll_cons r'0
 obtain ⟨v2,vs2,d2,ds2,p2,q2,rfl,rfl,rfl,h2,r'2⟩:=trodAll_cons r'1
 obtain ⟨v3,vs3,d3,ds3,p3,q3,rfl,rfl,rfl,h3,r'3⟩:=trodAll_cons r'2
 obtain ⟨v4,vs4,d4,ds4,p4,q4,rfl,rfl,rfl,h4,r'4⟩:=trodAll_cons r'3
 obtain ⟨rfl,rfl,rfl⟩:=trodAll_nil r'4
 obtain rfl : args = #[v0,v1,v2,v3,v4]:=by cases args; simp_all
 obtain ⟨rfl,rfl⟩:=trodVars_none hV
 obtain ⟨s0,hz⟩:=szd_cons hz
 obtain ⟨s1,hz⟩:=szd_cons hz
 obtain ⟨s2,hz⟩:=szd_cons hz
 obtain ⟨s3,hz⟩:=szd_cons hz
 obtain ⟨s4,hz⟩:=szd_cons hz
 obtain ⟨x0,r0,l0,b0,k0⟩:=open_intsK (hval 0 _ v0 rfl rfl) h0 s0
 obtain ⟨x1,r1,l1,b1,k1⟩:=open_intsK (hval 1 _ v1 rfl rfl) h1 s1
 obtain ⟨x2,rfl,rfl,rfl,w2⟩:=open_int Try.underlying3 (hval 2 _ v2 rfl rfl) h2
 have b2:=bounds_i64 w2
 obtain ⟨x3,rfl,rfl,rfl,w3⟩:=open_int Try.underlying3 (hval 3 _ v3 rfl rfl) h3
 have b3:=bounds_i64 w3
 obtain ⟨x4,rfl,rfl,rfl⟩:=open_bool Try.underlying4 (hval 4 _ v4 rfl rfl) h4
 have hb:=of_decide_eq_true hk
 simp only [List.cons_append,List.nil_append,List.append_nil,Rows.uptoBulkAll] at hb
 refine law_post [.inl (.ints .i64 x0),.inl (.ints .i64 x1),.inl (.i .i64 x2),.inl (.i .i64 x3),.inl (.b x4)] kids full (by rw [Try.params6]; decide +kernel) rfl rfl Try.underlying4 rfl hW' rfl ?_ (sorts_law x0 x1 x2 x3 x4 (by omega))
 intro j y u hy hu
 match j with
 | 0=>cases hy; cases hu; exact r0
 | 1=>cases hy; cases hu; exact r1
 | 2=>cases hy; cases hu; exact Rd.i .i64 x2
 | 3=>cases hy; cases hu; exact Rd.i .i64 x3
 | 4=>cases hy; cases hu; exact Rd.b x4
 | _ + 5=>simp at hy

set_option maxRecDepth 100000 in
theorem orderingSorts_lifted (os : Os) (started : os.Started) (H : Type) (enc : TypeId × Value → H) (F : Stop.Interp) :
  ReturnsInHanded {} Try.checked os 6 .any ((Rows.OpenSpec.upto Rows.orderingSortsSpec).pre6 enc Try.prog Try.f6 Rows.orderingSortsUptoRow.domain false) (((Rows.OpenSpec.upto Rows.orderingSortsSpec).at F).post enc Try.prog Try.f6 false true false false):=by
 refine returnsInHanded_of_cond_sized (C:=Try.checked) (s:=Rows.OpenSpec.upto Rows.orderingSortsSpec) (k:=Rows.uptoSmall) rfl own_knob started (by kernel_rfl) Try.func6
  (OpenSpec.witness (enc:=enc) (C:=Try.checked) (s:=Rows.OpenSpec.upto Rows.orderingSortsSpec) (k:=Rows.uptoSmall) rfl false ⟨#[],#[.slice none 0 0,.slice none 0 0,.int .i64 0,.int .i64 0,.bool false],[]⟩ 8 (by kernel_rfl) (by kernel_rfl) (by kernel_rfl)
   (x:=([.nil,.nil,.lit (.int .i64 0),.lit (.int .i64 0),.lit (.bool false)],[],[])) (by kernel_rfl) rfl (by kernel_rfl)) ?_
 intro W base args ds gs before hval hW _ hk hz _
 exact orderingSorts_contract H enc W base args ds gs before hval hW hz hk

theorem orderingSorts_h1 : Rows.orderingSortsUptoRow.wf (OpenSpec.ofChange Rows.orderingSortsSpec) = true:=by kernel_rfl
theorem orderingSorts_h2 : laidOutB Try.pinned.checked.prog = true:=by kernel_rfl
theorem orderingSorts_h3 : mapsRowed Try.pinned.checked.prog = true:=by kernel_rfl
theorem orderingSorts_h4 : (Rows.orderingSortsUptoRow.inPlace == Try.pinned.checked.prog.inPlace 6) = true:=by kernel_rfl
theorem orderingSorts_h5 : (Rows.orderingSortsUptoRow.unfollowed == Try.pinned.checked.prog.unfollowed 6) = true:=by kernel_rfl
theorem orderingSorts_h6 : (Rows.orderingSortsUptoRow.recurses == Try.pinned.checked.prog.recurses 6) = true:=by kernel_rfl
theorem orderingSorts_h7 : (Rows.orderingSortsUptoRow.named == Try.pinned.checked.prog.varsNamed 6) = true:=by kernel_rfl
theorem orderingSorts_h8 : (Rows.orderingSortsUptoRow.plainKeys == Try.pinned.checked.prog.plainKeys) = true:=by kernel_rfl
theorem orderingSorts_and {a b : Bool} (ha : a = true) (hb : b = true) : (a && b) = true:=by rw [ha,hb]; rfl
theorem orderingSorts_facts : joinedFacts Try.pinned.checked.prog 6 Try.f6 (Rows.OpenSpec.upto Rows.orderingSortsSpec).bare Rows.orderingSortsUptoRow = true:=by
 unfold joinedFacts
 repeat' (with_reducible refine orderingSorts_and ?_ ?_)
 all_goals first
  | with_reducible exact orderingSorts_h1
  | with_reducible exact orderingSorts_h2
  | with_reducible exact orderingSorts_h3
  | with_reducible exact orderingSorts_h4
  | with_reducible exact orderingSorts_h5
  | with_reducible exact orderingSorts_h6
  | with_reducible exact orderingSorts_h7
  | with_reducible exact orderingSorts_h8
  | kernel_rfl

theorem orderingSorts_holds : Rows.OrderingSortsUptoSaid :=
 OpenClaim.holds_of_cond 6 Try.f6 rfl rfl rfl rfl rfl rfl rfl ⟨rfl,rfl,rfl,rfl,rfl⟩ rfl rfl rfl rfl rfl (by kernel_rfl) Try.func6 orderingSorts_facts
  (of_decide_eq_true (by kernel_rfl)) (by unfold Func.isWrapper; first | (rw [if_pos (by decide +kernel)]; kernel_rfl) | (rw [if_neg (by decide +kernel)]; exact ⟨rfl,rfl⟩))
  (fun os started H enc _ F=>orderingSorts_lifted os started H enc F)

end Go.Proofs.Ytmcjojbffidlbaa
