/-
  A struct of two ints compared; contracts out of contracts.
-/
import Derived.Test.YtggehgnmfjdkhaaAbsQ
import Derived.Laws.StructEq
namespace Go.Abs
set_option linter.unusedSimpArgs false
set_option linter.unusedVariables false
open Go.RowKit

variable {P : Program}

/-- closed facts on a struct of two ints -/
structure TwoInts (P : Program) (t : TypeId) (e : TypeId) : Prop where
  f : ∃ f0 f1 : Field, P.underlying t = some (.struct #[f0, f1]) ∧ f0.type = e ∧ f1.type = e ∧ f0.offset = 0 ∧ f1.offset = 1 ∧ (f0.name == "_") = false ∧ (f1.name == "_") = false
  i : P.underlying e = some (.int .i64)
  s : P.stoodInHeld t = false
  g : P.eqGuardType P.depth t = false

theorem flt_of {t e : TypeId} (h : TwoInts P t e) : FltOk P t := by
  intro op a b c d x y w hop
  obtain ⟨⟨f0, f1, hu, rfl, h1, o0, o1, n0, n1⟩, hi, hs, hg⟩ := h
  have hn0 : f0.name ≠ "_" := by simpa using n0
  have hn1 : f1.name ≠ "_" := by simpa using n1
  have hfo : P.fieldsOf t = #[f0, f1] := by simp [Program.fieldsOf, hu]
  have hag : (isAgg f0.type).run P w = .ok false w := by simp [isAgg, run_underlying hi]
  have heq : (Op.equal t (.agg #[.int .i64 a, .int .i64 b]) (.agg #[.int .i64 c, .int .i64 d])).run P w = .ok (decide (a = c ∧ b = d)) w := by
    obtain ⟨k, hk⟩ : ∃ k, Op.maxDepth = k + 1 + 1 := ⟨9998, rfl⟩
    rw [Op.equal, hk, run_equalIn_struct w (k + 1) t _ _ (by rw [hfo]; exact hu) hs, hfo]
    have hp0 : ∀ v0 v1 : Value, (part f0.type #[v0, v1] f0.offset).run P w = .ok v0 w := fun v0 v1 => by simp [part, hag, o0]
    have hp1 : ∀ v0 v1 : Value, (part f0.type #[v0, v1] f1.offset).run P w = .ok v1 w := fun v0 v1 => by simp [part, hag, o1]
    simp only [Op.eqFields, hn0, hn1, h1, ne_eq, not_false_eq_true, if_true, Sem.run_bind, hp0, hp1, Result.andThen_ok, run_equalIn_int w k f0.type .i64 .i64 _ _ hi]
    by_cases hac : a = c <;> by_cases hbd : b = d <;> simp [hac, hbd, hp1, run_equalIn_int w k f0.type .i64 .i64 _ _ hi]
  have hguard : (eqGuard op t x y (.agg #[.int .i64 a, .int .i64 b]) (.agg #[.int .i64 c, .int .i64 d])).run P w = .ok () w := by
    rcases hop with rfl | rfl <;> simp [eqGuard, program, Sem.run, hg]
  rcases hop with rfl | rfl <;> simp [hguard, binOp, heq]

/-- a table of callees with one more -/
def addT (f : FuncId) (ct : CT) (cf : Cfg) : Cfg := { cf with tbl := fun g => if g == f then some ct else cf.tbl g }

theorem addT_ok {cf : Cfg} (h : TblOk P cf) {f : FuncId} {ct : CT} (he : Enters P f) (hr : (ct.own = none → ct.win = none → ∀ as K, ct.tr as K → ∃ r, Ret P f ct.fresh as r ∧ K r) ∧ (∀ e z, ct.own = some (e, z) → ct.win = none → ∀ as K, ct.tr as K → ∃ con, RetO P f as e z con ∧ K (.c con)) ∧
      (∀ e, ct.win = some e → ∀ as K, ct.tr as K → ∃ con lo len as' con' l, as = .inl con :: .inl (.i .i64 (lo : Nat)) :: .inl (.i .i64 (len : Nat)) :: as' ∧ RetW P f e con lo len as' con' l ∧ K (.t (.inl con' :: l))) ∧
      (∀ e, ct.cut = some e → ∀ con K, ct.ctr con K → ∃ con', RetC P f e con con' ∧ K con')) : TblOk P (addT f ct cf) := by
  refine ⟨h.1, fun g ct' hg => ?_⟩
  simp only [addT] at hg
  split at hg
  · rename_i hgf
    simp at hgf; subst hgf; cases hg
    exact ⟨he, hr⟩
  · exact h.2 g ct' hg


/-- a nil slice told as an empty one -/
def nz : Option C → C → C
  | some e, .nil => e
  | _, c => c
def nzL : List (Option C) → List C → List C
  | e :: es, c :: cs => nz e c :: nzL es cs
  | _, cs => cs
def norm : List (Option C ⊕ List (Option C)) → List (C ⊕ List C) → List (C ⊕ List C)
  | .inl e :: ps, .inl c :: as => .inl (nz e c) :: norm ps as
  | .inr es :: ps, .inr cs :: as => .inr (nzL es cs) :: norm ps as
  | _ :: ps, a :: as => a :: norm ps as
  | _, as => as

def emptyC (e : Option C) : Bool := match e with
  | some (.ints _ []) | some (.bools []) | some (.sl _ []) | none => true
  | _ => false

theorem nz_rd {w : World} {S : Nat → Prop} {e : Option C} {c : C} {v : Value} (he : emptyC e = true) (h : Rd w S c v) : Rd w S (nz e c) v := by
  unfold nz
  split
  · rename_i e
    have := rd_nil h
    subst this
    unfold emptyC at he
    split at he
    · rename_i h; cases h; exact .emp _ 1 none 0 rfl (fun _ => rfl)
    · rename_i h; cases h; exact .emp _ 1 none 0 rfl (fun _ => rfl)
    · rename_i h; cases h; exact .emp _ _ none 0 rfl (fun _ => rfl)
    · rename_i h; cases h
    · cases he
  · exact h

theorem nzL_rd {w : World} {S : Nat → Prop} : ∀ {es : List (Option C)} {cs : List C} {vs : List Value}, es.all emptyC = true → RdL w S cs vs → RdL w S (nzL es cs) vs
  | [], cs, vs, _, h => by cases cs <;> exact h
  | _ :: _, [], vs, _, h => h
  | e :: es, c :: cs, [], _, h => by have := h.1; simp at this
  | e :: es, c :: cs, v :: vs, he, h => by
    simp only [List.all_cons, Bool.and_eq_true] at he
    have ih := nzL_rd (es := es) (cs := cs) (vs := vs) he.2 ⟨by have := h.1; simpa using this, fun j y u hy hu => h.2 (j + 1) y u (by simpa using hy) (by simpa using hu)⟩
    refine ⟨by simp only [nzL, List.length_cons, ih.1], fun j y u hy hu => ?_⟩
    match j with
    | 0 => simp [nzL] at hy hu; subst hy; subst hu; exact nz_rd he.1 (h.2 0 c v rfl rfl)
    | j + 1 => exact ih.2 j y u (by simpa [nzL] using hy) (by simpa using hu)

def emptyP : Option C ⊕ List (Option C) → Bool
  | .inl e => emptyC e
  | .inr es => es.all emptyC

theorem norm_len : ∀ (ps : List (Option C ⊕ List (Option C))) (as : List (C ⊕ List C)), (norm ps as).length = as.length
  | [], as => by cases as <;> rfl
  | p :: ps, [] => by cases p <;> rfl
  | .inl e :: ps, .inl c :: as => by simp [norm, norm_len ps as]
  | .inr e :: ps, .inr c :: as => by simp [norm, norm_len ps as]
  | .inl e :: ps, .inr c :: as => by simp [norm, norm_len ps as]
  | .inr e :: ps, .inl c :: as => by simp [norm, norm_len ps as]

theorem norm_rd {w : World} {S : Nat → Prop} : ∀ {ps : List (Option C ⊕ List (Option C))} {as : List (C ⊕ List C)}, ps.all emptyP = true → ∀ (j : Nat) y x v, as[j]? = some x → (norm ps as)[j]? = some y → RdS w S x v → RdS w S y v
  | [], as, _, j, y, x, v, hx, hy, h => by
    have : norm [] as = as := by cases as <;> rfl
    rw [this, hx] at hy; cases hy; exact h
  | p :: ps, [], _, j, y, x, v, hx, hy, h => by simp at hx
  | p :: ps, a :: as, hp, j, y, x, v, hx, hy, h => by
    simp only [List.all_cons, Bool.and_eq_true] at hp
    match j with
    | 0 =>
      simp at hx; subst hx
      cases p <;> cases a <;> simp [norm] at hy <;> subst hy
      · exact nz_rd hp.1 h
      · exact h
      · exact h
      · obtain ⟨vs, rfl, hl⟩ := h; exact ⟨vs, rfl, nzL_rd hp.1 hl⟩
    | j + 1 =>
      have ih := norm_rd (w := w) (S := S) (ps := ps) (as := as) hp.2 j y x v (by simpa using hx)
      refine ih ?_ h
      cases p <;> cases a <;> simpa [norm] using hy

theorem ret_norm {f : FuncId} {fr : Bool} {ps : List (Option C ⊕ List (Option C))} {as : List (C ⊕ List C)} {r : AV} (hp : ps.all emptyP = true) (h : Ret P f fr (norm ps as) r) : Ret P f fr as r := by
  intro w S vs hsz hvs
  refine h w S vs (by rw [norm_len]; exact hsz) fun j y u hy hu => ?_
  have hj := (List.getElem?_eq_some_iff.1 hy).1
  rw [norm_len] at hj
  exact norm_rd hp j y _ u (List.getElem?_eq_getElem hj) hy (hvs j _ u (List.getElem?_eq_getElem hj) hu)

/-- what is known of a callee, nil slices told as empty ones first -/
def mkCT (ps : List (Option C ⊕ List (Option C))) (fresh : Bool) (tr : List (C ⊕ List C) → (AV → Prop) → Prop) : CT := ⟨fresh, none, none, none, fun as K => tr (norm ps as) K, fun _ _ => False⟩

theorem mkCT_ok {cf : Cfg} (h : TblOk P cf) {f : FuncId} {ps : List (Option C ⊕ List (Option C))} {fresh : Bool} {tr : List (C ⊕ List C) → (AV → Prop) → Prop} (he : Enters P f) (hp : ps.all emptyP = true)
    (hr : ∀ as K, tr as K → ∃ r, Ret P f fresh as r ∧ K r) : TblOk P (addT f (mkCT ps fresh tr) cf) :=
  addT_ok h he ⟨fun _ _ as K hk => let ⟨r, h1, h2⟩ := hr (norm ps as) K hk; ⟨r, ret_norm hp h1, h2⟩, fun _ _ ho => by simp [mkCT] at ho, fun _ ho => by simp [mkCT] at ho, fun _ ho => by simp [mkCT] at ho⟩

theorem retO_norm {f : FuncId} {ps : List (Option C ⊕ List (Option C))} {as : List (C ⊕ List C)} {e : TypeId} {z : Nat} {con : C} (hp : ps.all emptyP = true) (h : RetO P f (norm ps as) e z con) : RetO P f as e z con := by
  intro w S vs hsz hvs
  refine h w S vs (by rw [norm_len]; exact hsz) fun j y u hy hu => ?_
  have hj := (List.getElem?_eq_some_iff.1 hy).1
  rw [norm_len] at hj
  exact norm_rd hp j y _ u (List.getElem?_eq_getElem hj) hy (hvs j _ u (List.getElem?_eq_getElem hj) hu)

/-- what is known of a callee that hands out a row of its own -/
def mkCTO (ps : List (Option C ⊕ List (Option C))) (e : TypeId) (z : Nat) (tr : List (C ⊕ List C) → (AV → Prop) → Prop) : CT := ⟨true, some (e, z), none, none, fun as K => tr (norm ps as) K, fun _ _ => False⟩

theorem mkCTO_ok {cf : Cfg} (h : TblOk P cf) {f : FuncId} {ps : List (Option C ⊕ List (Option C))} {e : TypeId} {z : Nat} {tr : List (C ⊕ List C) → (AV → Prop) → Prop} (he : Enters P f) (hp : ps.all emptyP = true)
    (hr : ∀ as K, tr as K → ∃ con, RetO P f as e z con ∧ K (.c con)) : TblOk P (addT f (mkCTO ps e z tr) cf) :=
  addT_ok h he ⟨fun ho => by simp [mkCTO] at ho, fun e' z' ho _ as K hk => by
    simp [mkCTO] at ho
    obtain ⟨rfl, rfl⟩ := ho
    obtain ⟨con, h1, h2⟩ := hr (norm ps as) K hk
    exact ⟨con, retO_norm hp h1, h2⟩, fun _ ho => by simp [mkCTO] at ho, fun _ ho => by simp [mkCTO] at ho⟩

theorem retW_norm {f : FuncId} {ps : List (Option C ⊕ List (Option C))} {as : List (C ⊕ List C)} {e : TypeId} {con con' : C} {lo len : Nat} {l : List (C ⊕ List C)} (hp : ps.all emptyP = true) (h : RetW P f e con lo len (norm ps as) con' l) : RetW P f e con lo len as con' l := by
  intro w S sv v0 vs rs xs hsz hv0 hvs
  refine h w S sv v0 vs rs xs (by rw [norm_len]; exact hsz) hv0 fun j y u hy hu => ?_
  have hj := (List.getElem?_eq_some_iff.1 hy).1
  rw [norm_len] at hj
  exact norm_rd hp j y _ u (List.getElem?_eq_getElem hj) hy (hvs j _ u (List.getElem?_eq_getElem hj) hu)

/-- what is known of a callee that is handed a window -/
def mkCTW (ps : List (Option C ⊕ List (Option C))) (e : TypeId) (tr : C → Int → Int → List (C ⊕ List C) → (C → List (C ⊕ List C) → Prop) → Prop) : CT := ⟨true, none, some e, none, fun as K => match as with
  | .inl con :: .inl (.i .i64 lo) :: .inl (.i .i64 len) :: rest => tr con lo len (norm ps rest) (fun con' l => K (.t (.inl con' :: l)))
  | _ => False, fun _ _ => False⟩

theorem mkCTW_ok {cf : Cfg} (h : TblOk P cf) {f : FuncId} {ps : List (Option C ⊕ List (Option C))} {e : TypeId} {tr : C → Int → Int → List (C ⊕ List C) → (C → List (C ⊕ List C) → Prop) → Prop} (he : Enters P f) (hp : ps.all emptyP = true)
    (hr : ∀ con lo len as K, tr con lo len as K → ∃ (a b : Nat) (con' : C) (l : List (C ⊕ List C)), lo = a ∧ len = b ∧ RetW P f e con a b as con' l ∧ K con' l) : TblOk P (addT f (mkCTW ps e tr) cf) :=
  addT_ok h he ⟨fun _ ho => by simp [mkCTW] at ho, fun _ _ ho => by simp [mkCTW] at ho, fun e' ho as K hk => by
    simp [mkCTW] at ho
    subst ho
    simp only [mkCTW] at hk
    split at hk
    · rename_i con lo len rest
      obtain ⟨a, b, con', l, rfl, rfl, h1, h2⟩ := hr con lo len _ _ hk
      exact ⟨con, a, b, rest, con', l, rfl, retW_norm hp h1, h2⟩
    · exact hk.elim, fun _ ho => by simp [mkCTW] at ho⟩

/-- the same callee, that cuts a row that it is handed whole -/
def mkCTC (ps : List (Option C ⊕ List (Option C))) (fresh : Bool) (e : TypeId) (ctr : C → (C → Prop) → Prop) (tr : List (C ⊕ List C) → (AV → Prop) → Prop) : CT := ⟨fresh, none, none, some e, fun as K => tr (norm ps as) K, ctr⟩

theorem mkCTC_ok {cf : Cfg} (h : TblOk P cf) {f : FuncId} {ps : List (Option C ⊕ List (Option C))} {fresh : Bool} {e : TypeId} {ctr : C → (C → Prop) → Prop} {tr : List (C ⊕ List C) → (AV → Prop) → Prop} (he : Enters P f) (hp : ps.all emptyP = true)
    (hc : ∀ con K, ctr con K → ∃ con', RetC P f e con con' ∧ K con') (hr : ∀ as K, tr as K → ∃ r, Ret P f fresh as r ∧ K r) : TblOk P (addT f (mkCTC ps fresh e ctr tr) cf) :=
  addT_ok h he ⟨fun _ _ as K hk => let ⟨r, h1, h2⟩ := hr (norm ps as) K hk; ⟨r, ret_norm hp h1, h2⟩, fun _ _ ho => by simp [mkCTC] at ho, fun _ ho => by simp [mkCTC] at ho, fun e' ho con K hk => by
    simp only [mkCTC, Option.some.injEq] at ho
    subst ho
    exact hc con K hk⟩

/-- an empty slice is nil or not -/
theorem retO_split {f : FuncId} {e : TypeId} {z : Nat} {con c : C} (hc : c.rows = some (c.z, [])) (h1 : RetO P f [.inl .nil] e z con) (h2 : RetO P f [.inl .e0] e z con) : RetO P f [.inl c] e z con := by
  intro w S vs hsz hvs
  match vs, hsz, hvs with
  | ⟨[v]⟩, hsz, hvs =>
    have hv : Rd w S c v := hvs 0 _ _ rfl rfl
    have hcase : Rd w S .nil v ∨ Rd w S .e0 v := by
      cases hv with
      | emp _ z p cap h hp =>
        cases p with
        | none => left; rw [hp rfl]; exact .nil
        | some a => right; exact .e0 a cap
      | sl _ z rs b off cap us h hne => rw [hc] at h; cases h; exact absurd rfl hne
      | _ => simp [C.rows] at hc
    rcases hcase with hv | hv
    · exact h1 w S ⟨[v]⟩ rfl fun j y u hy hu => by
        match j with
        | 0 => simp at hy hu; subst hy; subst hu; exact hv
        | j + 1 => simp at hy
    · exact h2 w S ⟨[v]⟩ rfl fun j y u hy hu => by
        match j with
        | 0 => simp at hy hu; subst hy; subst hu; exact hv
        | j + 1 => simp at hy

theorem enters_of {f : FuncId} {fn : Func} (hf : P.funcs[f]? = some fn) (hn : (fn.name == "runtime.NumGoroutine") = false) (hb : fn.body.isNone = false) : Enters P f := ⟨fn, hf, hn, hb⟩


theorem tells_norm {l l' : List (C ⊕ List C)} (ps : List (Option C ⊕ List (Option C))) (hp : ps.all emptyP = true) (h : norm ps l = l') : Tells (resAV l) (resAV l') := by
  subst h
  intro w S v hv
  have hl := norm_len ps l
  match l, hv with
  | [], hv => cases ps with
    | nil => exact hv
    | cons p ps => cases p <;> exact hv
  | [x], hv =>
    obtain ⟨y, hy⟩ : ∃ y, norm ps [x] = [y] := by
      match hq : norm ps [x], hl with
      | [y], _ => exact ⟨y, rfl⟩
    rw [hy]
    have := norm_rd (w := w) (S := S) (ps := ps) (as := [x]) hp 0 y x v rfl (by rw [hy]; rfl) (by cases x <;> exact hv)
    cases y <;> exact this
  | x1 :: x2 :: l, hv =>
    obtain ⟨vs, rfl, hs, hc⟩ := hv
    match hq : norm ps (x1 :: x2 :: l), hl with
    | y1 :: y2 :: l', hl' =>
      refine ⟨vs, rfl, by rw [hs]; exact hl'.symm, fun j y u hy hu => ?_⟩
      have hj := (List.getElem?_eq_some_iff.1 hy).1
      rw [hl'] at hj
      exact norm_rd (w := w) (S := S) (ps := ps) (as := x1 :: x2 :: l) hp j y _ u (List.getElem?_eq_getElem hj) (by rw [hq]; exact hy) (hc j _ u (List.getElem?_eq_getElem hj) hu)

theorem tells_n {l : List (C ⊕ List C)} {r : AV} (ps : List (Option C ⊕ List (Option C))) (hp : ps.all emptyP = true) (h : resAV (norm ps l) = r) : Tells (resAV l) r := h ▸ tells_norm ps hp rfl

end Go.Abs
