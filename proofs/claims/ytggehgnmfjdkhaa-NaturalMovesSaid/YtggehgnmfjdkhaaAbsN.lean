/-
  Functions: from their code's rule to their contract.
-/
import Derived.Test.YtggehgnmfjdkhaaAbsS
namespace Go.Abs
set_option linter.unusedSimpArgs false
set_option linter.unusedVariables false
open Go.RowKit

variable {P : Program}

/-- cells of a result -/
def argsC (H : Hp) : List AV → Option (List C)
  | [] => some []
  | x :: l => match argO H x, argsC H l with | some (.inl y), some ys => some (y :: ys) | _, _ => none

def resO (P : Program) (st : St) : ResultVar → Option (C ⊕ List C)
  | .tmp t => argO st.H (st.get t)
  | .cell a t => match st.get a, aggO P t, szO P t with
    | .bx id off, some true, some z => match look st.H.box id with
      | some cs => match argsC st.H ((cs.drop off).take z) with | some l => if l.length = z then some (.inr l) else none | none => none
      | none => none
    | .bx id off, some false, _ => match look st.H.box id with
      | some cs => match cs[off]? with
        | some x => match argO st.H x with | some (.inl y) => some (.inl y) | _ => none
        | none => none
      | none => none
    | _, _, _ => none

def ressO (P : Program) (st : St) : List ResultVar → Option (List (C ⊕ List C))
  | [] => some []
  | x :: l => match resO P st x, ressO P st l with | some y, some ys => some (y :: ys) | _, _ => none


/-- what stands at a function's end -/
def Ends (P : Program) (rs : List ResultVar) (post : AV → Prop) (e : Exit) (st : St) : Prop := (e = .ret ∨ e = .normal) ∧ ∃ l, ressO P st rs = some l ∧ post (resAV l)

/-- what a result may look at -/
def outS (F : Fr) (b : Nat) : Prop := (F.S0 b ∧ b < F.w0.heap.size) ∨ F.w0.heap.size ≤ b

theorem callS_out {F : Fr} {H : Hp} {m : Mp} {w : World} (h : HRep F H m w) (own : Bool) : Stays (callS F m own) (outS F) w w := by
  intro b hb _
  refine ⟨?_, rfl⟩
  rcases hb with (⟨h1, h2, _⟩ | ⟨h1, _⟩) | ⟨_, i, v, hv, hvb⟩
  · exact .inl ⟨h1, h2⟩
  · exact .inr h1
  · exact .inr (h.fresh b (.inr ⟨i, v, hv, hvb⟩))

theorem argsC_spec {H : Hp} : ∀ {l : List AV} {cs : List C}, argsC H l = some cs → cs.length = l.length ∧ ∀ (j : Nat) x y, l[j]? = some x → cs[j]? = some y → argO H x = some (.inl y)
  | [], as, h => by simp [argsC] at h; subst h; simp
  | x :: l, as, h => by
    simp only [argsC] at h
    split at h
    · rename_i y ys hy hys
      cases h
      obtain ⟨h1, h2⟩ := argsC_spec hys
      refine ⟨by simp [h1], fun j a b ha hb => ?_⟩
      match j with
      | 0 => simp at ha hb; subst ha; subst hb; exact hy
      | j + 1 => exact h2 j a b (by simpa using ha) (by simpa using hb)
    · cases h

theorem resO_sound {F : Fr} {st : St} {m : Mp} {a : Act} {w : World} (hs : StRep F st m a w) {x : ResultVar} {y : C ⊕ List C} (h : resO P st x = some y) :
    ∃ v, ((match x with | .tmp t => pure (a.tmps.getD t undef) | .cell q t => do loadVar t (← asAddr (a.tmps.getD q undef))) : Sem Value).run P w = .ok v w ∧ RdS w (outS F) y v := by
  have out : ∀ {z : AV} {y : C ⊕ List C} {v : Value}, argO st.H z = some y → RepA F st.H m w z v → RdS w (outS F) y v := fun ha hr =>
    (argO_rep (own := true) rfl hs.h ha (fun _ => rfl) hr).mono (callS_out hs.h true)
  cases x with
  | tmp t => exact ⟨_, rfl, out h (hs.sl t)⟩
  | cell q t =>
    simp only [resO] at h
    split at h
    · rename_i id off z hq hag hsz
      split at h
      · rename_i cs hcs
        split at h
        · rename_i l hl
          split at h
          · rename_i hlen
            cases h
            have hb := hs.sl q
            rw [hq] at hb
            obtain ⟨b, hb, hv⟩ := hb
            obtain ⟨cs', arr, e, h1, h2, h3, h4⟩ := hs.h.box id b hb
            rw [hcs] at h1; cases h1
            obtain ⟨d, hd, hrow⟩ := aggO_row hag
            obtain ⟨g1, g2⟩ := argsC_spec hl
            have hlen2 : ((cs.drop off).take z).length = z := by omega
            have hvl : ((arr.toList.drop off).take z).length = z := by
              simp only [List.length_take, List.length_drop, Array.length_toList] at hlen2 ⊢
              omega
            have hget : ∀ (j : Nat) v, ((arr.toList.drop off).take z)[j]? = some v → j < z ∧ arr[off + j]? = some v := by
              intro j v hj
              have hjz := (List.getElem?_eq_some_iff.1 hj).1
              rw [hvl] at hjz
              rw [List.getElem?_take, if_pos hjz, List.getElem?_drop] at hj
              exact ⟨hjz, by simpa using hj⟩
            refine ⟨.agg ((arr.toList.drop off).take z).toArray, ?_, _, rfl, by simp only; rw [hvl, hlen], ?_⟩
            · simp only [hv, asAddr, Sem.run_bind, Sem.run_pure, Result.andThen_ok]
              exact run_loadVar_mid w b off t _ d (fun j v hj => by
                obtain ⟨_, hj⟩ := hget j v hj
                simp [World.cell?, h2, hj]) hd hrow (by rw [hvl]; exact hsz)
            · intro j y q hy hq
              obtain ⟨hjz, hq⟩ := hget j q hq
              have hx : ((cs.drop off).take z)[j]? = some (((cs.drop off).take z)[j]'(by omega)) := List.getElem?_eq_getElem _
              have ha := g2 j _ y hx hy
              have hx2 := hx
              rw [List.getElem?_take, if_pos hjz, List.getElem?_drop] at hx2
              exact out ha (h4 (off + j) _ q hx2 hq).2
          · cases h
        · cases h
      · cases h
    · rename_i id off hq hag
      split at h
      · rename_i cs hcs
        split at h
        · rename_i x hx
          split at h
          · rename_i y hy
            cases h
            have hb := hs.sl q
            rw [hq] at hb
            obtain ⟨b, hb, hv⟩ := hb
            obtain ⟨cs', arr, e, h1, h2, h3, h4⟩ := hs.h.box id b hb
            rw [hcs] at h1; cases h1
            have hlt := (List.getElem?_eq_some_iff.1 hx).1
            have harr : arr[off]? = some (arr[off]'(by omega)) := Array.getElem?_eq_getElem _
            refine ⟨arr[off]'(by omega), ?_, out hy (h4 off x _ hx harr).2⟩
            have hc : w.cell? ⟨b, off, none⟩ = some (arr[off]'(by omega)) := by simp [World.cell?, h2, harr]
            simp [hv, asAddr, loadVar, aggO_run hag, hc]
          · cases h
        · cases h
      · cases h
    · cases h

theorem mapM_run {α : Type} (f : α → Sem Value) (w : World) : ∀ (l : List α) (vs : List Value), vs.length = l.length → (∀ (j : Nat) x v, l[j]? = some x → vs[j]? = some v → (f x).run P w = .ok v w) → (l.mapM f).run P w = .ok vs w
  | [], vs, hl, h => by
    cases vs with
    | nil => simp
    | cons v vs => simp at hl
  | x :: l, [], hl, h => by simp at hl
  | x :: l, v :: vs, hl, h => by
    have h0 := h 0 x v rfl rfl
    have ih := mapM_run f w l vs (by simpa using hl) (fun j y u hy hu => h (j + 1) y u (by simpa using hy) (by simpa using hu))
    simp [List.mapM_cons, h0, ih]

theorem ressO_sound {F : Fr} {st : St} {m : Mp} {a : Act} {w : World} (hs : StRep F st m a w) : ∀ {l : List ResultVar} {ys : List (C ⊕ List C)}, ressO P st l = some ys →
    ∃ vs : List Value, vs.length = l.length ∧ ys.length = l.length ∧ (∀ (j : Nat) x v, l[j]? = some x → vs[j]? = some v → ((match x with | .tmp t => pure (a.tmps.getD t undef) | .cell q t => do loadVar t (← asAddr (a.tmps.getD q undef))) : Sem Value).run P w = .ok v w) ∧
      ∀ (j : Nat) y v, ys[j]? = some y → vs[j]? = some v → RdS w (outS F) y v
  | [], ys, h => by simp [ressO] at h; subst h; exact ⟨[], rfl, rfl, by simp, by simp⟩
  | x :: l, ys, h => by
    simp only [ressO] at h
    split at h
    · rename_i y ys' hy hys
      cases h
      obtain ⟨v, h1, h2⟩ := resO_sound hs hy
      obtain ⟨vs, g1, g2, g3, g4⟩ := ressO_sound hs hys
      refine ⟨v :: vs, by simp [g1], by simp [g2], fun j a b ha hb => ?_, fun j a b ha hb => ?_⟩
      · match j with
        | 0 => simp at ha hb; subst ha; subst hb; exact h1
        | j + 1 => exact g3 j a b (by simpa using ha) (by simpa using hb)
      · match j with
        | 0 => simp at ha hb; subst ha; subst hb; exact h2
        | j + 1 => exact g4 j a b (by simpa using ha) (by simpa using hb)
    · cases h

theorem results_sound {F : Fr} {st : St} {m : Mp} {a : Act} {w : World} (hs : StRep F st m a w) {fn : Func} {ys : List (C ⊕ List C)} (h : ressO P st fn.results.toList = some ys) :
    ∃ v, (results fn a.tmps).run P w = .ok v w ∧ RdR w (outS F) (resAV ys) v := by
  obtain ⟨vs, g1, g2, g3, g4⟩ := ressO_sound hs h
  have hm := mapM_run (P := P) (fun x : ResultVar => match x with | .tmp t => pure (a.tmps.getD t undef) | .cell q t => do loadVar t (← asAddr (a.tmps.getD q undef))) w fn.results.toList vs g1 g3
  have hrun : (results fn a.tmps).run P w = .ok (if h : vs.toArray.size = 1 then vs.toArray[0] else .tuple vs.toArray) w := by
    unfold results
    rw [Array.mapM_eq_mapM_toList]
    simp only [Sem.run_bind, map_eq_pure_bind, Result.andThen_ok, Sem.run_pure, bind_assoc, pure_bind]
    exact congrArg (fun r => Result.andThen r fun (a : List Value) w' => Result.ok (if h : a.toArray.size = 1 then a.toArray[0] else Value.tuple a.toArray) w') hm
  refine ⟨_, hrun, ?_⟩
  clear hrun hm g3 h
  rcases vs with _ | ⟨v1, _ | ⟨v2, vs'⟩⟩ <;> rcases ys with _ | ⟨y1, _ | ⟨y2, ys'⟩⟩
  · exact ⟨_, rfl, rfl, by simp⟩
  · simp at g1 g2; omega
  · simp at g1 g2; omega
  · simp at g1 g2; omega
  · simp only [List.size_toArray, List.length_cons, List.length_nil, Nat.zero_add, dif_pos, resAV]
    have := g4 0 y1 v1 rfl rfl
    cases y1 with
    | inl y => exact this
    | inr y => exact this
  · simp at g1 g2; omega
  · simp at g1 g2; omega
  · simp at g1 g2; omega
  · simp only [List.size_toArray, List.length_cons, resAV]
    rw [dif_neg (by omega)]
    exact ⟨_, rfl, by simp at g1 g2 ⊢; omega, fun j y u hy hu => g4 j y u hy (by simpa using hu)⟩

/-- the slots at a function's start -/
def argSl : Nat → List (C ⊕ List C) → List (Nat × AV)
  | _, [] => []
  | k, x :: l => (k, ofSum x) :: argSl (k + 1) l

theorem look_argSl : ∀ (l : List (C ⊕ List C)) (k t : Nat) (y : AV), look (argSl k l) t = some y → k ≤ t ∧ ∃ x, l[t - k]? = some x ∧ y = ofSum x
  | [], k, t, y, h => by simp [argSl, look] at h
  | x :: l, k, t, y, h => by
    simp only [argSl, look] at h
    split at h
    · rename_i he; cases h; simp at he; subst he; exact ⟨Nat.le_refl _, x, by simp, rfl⟩
    · rename_i he
      obtain ⟨h1, x', h2, h3⟩ := look_argSl l (k + 1) t y h
      refine ⟨by omega, x', ?_, h3⟩
      rw [show t - k = (t - (k + 1)) + 1 by omega]
      simpa using h2

/-- a function's start -/
theorem start_rep {w : World} {S : Nat → Prop} {vs : Array Value} {n : Nat} {as : List (C ⊕ List C)} (hn : as.length ≤ n) (hsz : vs.size = as.length) (hvs : ∀ (j : Nat) y u, as[j]? = some y → vs[j]? = some u → RdS w S y u) :
    StRep ⟨w, fun b => S b, [], fun _ => none⟩ { n := n, sl := argSl 0 as, H := ⟨[], [], []⟩, nx := 0 } ⟨fun _ => none, fun _ => none⟩ { tmps := vs ++ Array.replicate (n - vs.size) undef, defers := [] } w := by
  let F : Fr := ⟨w, fun b => S b, [], fun _ => none⟩
  show StRep F _ _ _ _
  refine ⟨rfl, by simp; omega, ⟨rfl, rfl, rfl, Nat.le_refl _, fun _ _ _ => rfl, ?_, (fun _ _ _ h => by cases h), (fun _ _ _ _ _ h => by cases h), ?_, ?_, ?_, ?_, ?_, (fun _ _ h => by cases h)⟩, fun _ _ => ⟨rfl, rfl⟩, ?_⟩
  · rintro b (⟨i, hi⟩ | ⟨i, v, hv, _⟩)
    · cases hi
    · cases hv
  · intro i j b hi; cases hi
  · intro i j b v hi; cases hi
  · intro i j b u v hi; cases hi
  · intro i b hi; cases hi
  · intro i v hv; cases hv
  · intro t
    show RepA _ _ _ _ (match look (argSl 0 as) t with | some x => x | none => .u) _
    cases hl : look (argSl 0 as) t with
    | none => trivial
    | some y =>
      obtain ⟨_, x, hx, rfl⟩ := look_argSl as 0 t y hl
      simp only [Nat.sub_zero] at hx
      have hlt := (List.getElem?_eq_some_iff.1 hx).1
      have hv : vs[t]? = some (vs[t]'(by omega)) := Array.getElem?_eq_getElem _
      have hg : (vs ++ Array.replicate (n - vs.size) undef).getD t undef = vs[t]'(by omega) := by
        rw [Array.getD_eq_getD_getElem?, Array.getElem?_append_left (by omega), hv]; rfl
      rw [hg]
      have hrd := (hvs t x _ hx hv).mono (S' := F.S ⟨fun _ => none, fun _ => none⟩) (w' := w) (fun b hb hlt' => ⟨.inl ⟨hb, hlt', by simp [F]⟩, rfl⟩)
      cases x with
      | inl x => exact hrd
      | inr x => exact hrd

theorem ret_of {f : FuncId} {fn : Func} {c : Code} (hf : P.funcs[f]? = some fn) (hb : fn.body = some c) {as : List (C ⊕ List C)} {post : AV → Prop} (hn : as.length ≤ fn.ntmps)
    (h : ∀ F : Fr, AWp P F c (Ends P fn.results.toList post) { n := fn.ntmps, sl := argSl 0 as, H := ⟨[], [], []⟩, nx := 0 }) (r : AV) (hr : ∀ x, post x → ∀ w S v, RdR w S x v → RdR w S r v) : Ret P f false as r := by
  intro w S vs hsz hvs
  let F : Fr := ⟨w, fun b => S b, [], fun _ => none⟩
  refine calls_of_wp hf hb ?_
  have hs := start_rep (w := w) (S := S) hn hsz hvs
  refine wp_mono (h F _ _ _ hs) fun e a' w' ⟨st', m', ⟨he, l, hl, hpost⟩, hs'⟩ => ?_
  obtain ⟨v, hrun, hrd⟩ := results_sound (F := F) hs' hl
  have hbp : a'.defers = [] ∧ ∃ v, (results fn a'.tmps).run P w' = .ok v w' ∧ ∃ v', Ending.returned v = .returned v' ∧ Ext w w' ∧ RdR w' (fun b => (false = false ∧ S b ∧ b < w.heap.size) ∨ w.heap.size ≤ b) r v' := by
    refine ⟨hs'.d, v, hrun, v, rfl, ⟨hs'.h.os, hs'.h.tape, hs'.h.output, hs'.h.size, fun k hk => hs'.h.block k hk (by simp [F])⟩, ?_⟩
    refine hr _ hpost _ _ _ ?_
    have hconv : (fun b => (false = false ∧ S b ∧ b < w.heap.size) ∨ w.heap.size ≤ b) = outS F := by
      funext b; simp [outS, F]
    rw [hconv]; exact hrd
  rcases he with rfl | rfl
  · exact hbp
  · exact hbp

theorem Ret.plain {f : FuncId} {as : List (C ⊕ List C)} {r : AV} (h : Ret P f false as r) (hp : plainAV r = true) : Ret P f true as r := fun w S vs hsz hvs =>
  (h w S vs hsz hvs).mono fun _ _ ⟨v, he, hx, hr⟩ => ⟨v, he, hx, hr.plain hp⟩

/-- what a function that hands out a row of its own ends with -/
def EndsO (rs : List ResultVar) (e : TypeId) (z : Nat) (con : C) (ex : Exit) (st : St) : Prop := (ex = .ret ∨ ex = .normal) ∧ ∃ t, rs = [.tmp t] ∧ flatC con = true ∧
  ((∃ id ver B, st.get t = .own id ver ∧ curB st.H id ver = some B ∧ B.e = e ∧ B.z = z ∧ B.con = con) ∨ (st.get t = .c .nil ∧ con.rows = some (z, []) ∧ 0 < z))

theorem ret_own {f : FuncId} {fn : Func} {c : Code} (hf : P.funcs[f]? = some fn) (hb : fn.body = some c) {as : List (C ⊕ List C)} {e : TypeId} {z : Nat} {con : C} (hn : as.length ≤ fn.ntmps)
    (h : ∀ F : Fr, AWp P F c (EndsO fn.results.toList e z con) { n := fn.ntmps, sl := argSl 0 as, H := ⟨[], [], []⟩, nx := 0 }) : RetO P f as e z con := by
  intro w S vs hsz hvs
  let F : Fr := ⟨w, fun b => S b, [], fun _ => none⟩
  refine calls_of_wp hf hb ?_
  have hs := start_rep (w := w) (S := S) hn hsz hvs
  refine wp_mono (h F _ _ _ hs) fun ex a' w' ⟨st', m', ⟨he, t, ht, hfl, hpost⟩, hs'⟩ => ?_
  have hrun : (results fn a'.tmps).run P w' = .ok (a'.tmps.getD t undef) w' := by
    have : fn.results = #[.tmp t] := by apply Array.ext'; exact ht
    unfold results
    simp [this]
  have hsl := hs'.sl t
  have hbp : a'.defers = [] ∧ ∃ v, (results fn a'.tmps).run P w' = .ok v w' ∧ ∃ v', Ending.returned v = .returned v' ∧ Ext w w' ∧ ∃ rs xs, con.rows = some (z, rs) ∧ 0 < z ∧ (∀ r ∈ rs, r.length = z) ∧ w'.ownsRow w.heap.size e z v' rs.length xs ∧ RdRow w' (fun _ => False) z rs xs := by
    refine ⟨hs'.d, _, hrun, _, rfl, ⟨hs'.h.os, hs'.h.tape, hs'.h.output, hs'.h.size, fun k hk => hs'.h.block k hk (by simp [F])⟩, ?_⟩
    rcases hpost with ⟨id, ver, B, hg, hB, rfl, rfl, rfl⟩ | ⟨hg, hr, hz⟩
    · rw [hg] at hsl
      have ⟨hB1, hB2⟩ : look st'.H.buf id = some B ∧ B.ver = ver := by
        unfold curB at hB
        split at hB
        · rename_i B' hB'
          split at hB
          · rename_i hv; cases hB; exact ⟨hB', by simpa using hv⟩
          · cases hB
        · cases hB
      obtain ⟨rs, xs, hm, hrows, hz0, hr, hown, hrd⟩ := own_slice hs'.h hB1 hB2 hsl
      have hown2 : w'.ownsRow w.heap.size B.e B.z (a'.tmps.getD t undef) rs.length xs := by
        refine ⟨hown.1, ?_⟩
        rcases hown.2 with h | ⟨g, cap, cur, h1, h2, h3⟩
        · exact .inl h
        · exact .inr ⟨g, cap, cur, h1, hs'.h.fresh g (.inr ⟨id, _, hm, by rw [h1]; rfl⟩), h3⟩
      refine ⟨rs, xs, hrows, hz0, hr, hown2, fun i j y hy => ?_⟩
      obtain ⟨u, hu, hrdu⟩ := hrd i j y hy
      exact ⟨u, hu, hrdu.plain (flat_plain hfl hrows hy)⟩
    · rw [hg] at hsl
      have hv := rd_nil hsl
      refine ⟨[], [], hr, hz, by simp, ?_, fun i j y hy => by simp [at2] at hy⟩
      rw [hv]
      exact ⟨by simp, .inl ⟨rfl, rfl⟩⟩
  rcases he with rfl | rfl
  · exact hbp
  · exact hbp

/-- what a function that was handed a window ends with -/
def EndsW (P : Program) (rs : List ResultVar) (e : TypeId) (con : C) (l : List (C ⊕ List C)) (ex : Exit) (st : St) : Prop := (ex = .ret ∨ ex = .normal) ∧ ressO P st rs = some l ∧ plainAV (resAV l) = true ∧
  ∃ B, look st.H.bor 0 = some B ∧ B.e = e ∧ B.con = con ∧ flatC con = true

theorem ret_win {f : FuncId} {fn : Func} {c : Code} (hf : P.funcs[f]? = some fn) (hb : fn.body = some c) {as : List (C ⊕ List C)} {e : TypeId} {con con' : C} {lo len : Nat} {l : List (C ⊕ List C)} (hn : as.length + 1 ≤ fn.ntmps) (hz : con'.z = con.z)
    (h : ∀ F : Fr, AWp P F c (EndsW P fn.results.toList e con' l) { n := fn.ntmps, sl := (0, .bw 0 lo len) :: argSl 1 as, H := ⟨[], [], [(0, ⟨e, con⟩)]⟩, nx := 0 }) : RetW P f e con lo len as con' l := by
  intro w S sv v0 vs rs xs hsz hv0 hvs hrows hz0 hrl hown hrd hS hwin
  let F : Fr := ⟨w, fun b => S b, sv.ownBlock.toList, fun k => if k = 0 then some sv else none⟩
  refine calls_of_wp hf hb ?_
  have hblk : ∀ b, sv.ownBlock = some b → b < w.heap.size := fun b hb => (hown.lt b hb).2
  have hs : StRep F { n := fn.ntmps, sl := (0, .bw 0 lo len) :: argSl 1 as, H := ⟨[], [], [(0, ⟨e, con⟩)]⟩, nx := 0 } ⟨fun _ => none, fun _ => none⟩ { tmps := vs ++ Array.replicate (fn.ntmps - vs.size) undef, defers := [] } w := by
    refine ⟨rfl, by simp; omega, ⟨rfl, rfl, rfl, Nat.le_refl _, fun _ _ _ => rfl, ?_, ?_, ?_, ?_, ?_, ?_, ?_, ?_, ?_⟩, fun _ _ => ⟨rfl, rfl⟩, ?_⟩
    · rintro b (⟨i, hi⟩ | ⟨i, v, hv, _⟩)
      · cases hi
      · cases hv
    · intro k v b hk hb
      simp only [F] at hk
      split at hk
      · cases hk; exact ⟨by simp [F, hb], hblk b hb⟩
      · cases hk
    · intro i j b u v hi hj _ _
      simp only [F] at hi hj
      split at hi <;> split at hj <;> first | omega | (cases hi; done) | (cases hj; done)
    · intro i j b hi; cases hi
    · intro i j b v hi; cases hi
    · intro i j b u v hi; cases hi
    · intro i b hi; cases hi
    · intro i v hv; cases hv
    · intro k v hk
      simp only [F] at hk
      split at hk
      · rename_i hk0
        cases hk; subst hk0
        exact ⟨⟨e, con⟩, rs, xs, rfl, hrows, hz0, hrl, hown, fun i j y hy => let ⟨u, hu, hr⟩ := hrd i j y hy; ⟨u, hu, hr.none⟩⟩
      · cases hk
    · intro t
      show RepA _ _ _ _ (match look ((0, .bw 0 lo len) :: argSl 1 as) t with | some x => x | none => .u) _
      by_cases ht : t = 0
      · subst ht
        have h0 : (0 : Nat) < vs.size := by omega
        have hg : (vs ++ Array.replicate (fn.ntmps - vs.size) undef).getD 0 undef = v0 := by
          rw [Array.getD_eq_getD_getElem?, Array.getElem?_append_left h0, hv0]; rfl
        rw [hg]
        obtain ⟨h1, p, n, cap, rfl, hle, hor⟩ := hwin
        exact ⟨h1, ⟨e, con⟩, p, n, cap, rfl, rfl, hle, hor⟩
      · rw [look_add_ne _ _ _ _ ht]
        cases hl : look (argSl 1 as) t with
        | none => trivial
        | some y =>
          obtain ⟨h1, x, hx, rfl⟩ := look_argSl as 1 t y hl
          have hlt := (List.getElem?_eq_some_iff.1 hx).1
          have hv : vs[t]? = some (vs[t]'(by omega)) := Array.getElem?_eq_getElem _
          have hg : (vs ++ Array.replicate (fn.ntmps - vs.size) undef).getD t undef = vs[t]'(by omega) := by
            rw [Array.getD_eq_getD_getElem?, Array.getElem?_append_left (by omega), hv]; rfl
          rw [hg]
          have hv1 : vs[t - 1 + 1]? = some (vs[t]'(by omega)) := by rw [show t - 1 + 1 = t by omega]; exact hv
          have hrd := (hvs (t - 1) x _ hx hv1).mono (S' := F.S ⟨fun _ => none, fun _ => none⟩) (w' := w) (fun b hb hlt' => ⟨.inl ⟨hb, hlt', fun hm => by
            simp only [F, Option.mem_toList] at hm
            exact hS b hm hb⟩, rfl⟩)
          cases x with
          | inl x => exact hrd
          | inr x => exact hrd
  refine wp_mono (h F _ _ _ hs) fun ex a' w' ⟨st', m', ⟨he, hl, hpl, B, hB, hBe, hBc, hfl⟩, hs'⟩ => ?_
  obtain ⟨v, hrun, hrd'⟩ := results_sound (F := F) hs' hl
  obtain ⟨B2, rs', xs', hB2, hrows', hz', hrl', hown', hrd2⟩ := hs'.h.bor 0 sv (by simp [F])
  rw [hB] at hB2; cases hB2
  subst hBe; subst hBc
  rw [hz] at hrows' hz' hrl' hown' hrd2
  have hbp : a'.defers = [] ∧ ∃ v, (results fn a'.tmps).run P w' = .ok v w' ∧ ∃ v', Ending.returned v = .returned v' ∧ w.grownBy w' sv.ownBlock ∧ RdR w' (fun _ => False) (resAV l) v' ∧ ∃ rs' xs', B.con.z = con.z ∧ B.con.rows = some (con.z, rs') ∧ (∀ r ∈ rs', r.length = con.z) ∧
      w'.ownsRow 0 B.e con.z sv rs'.length xs' ∧ RdRow w' (fun _ => False) con.z rs' xs' := by
    refine ⟨hs'.d, v, hrun, v, rfl, ⟨hs'.h.os, hs'.h.tape, hs'.h.output, hs'.h.size, fun k hk hne => hs'.h.block k hk (fun hm => by simp only [F, Option.mem_toList] at hm; exact hne hm.symm)⟩, hrd'.plain hpl, rs', xs', hz, hrows', hrl', hown', fun i j y hy => ?_⟩
    obtain ⟨u, hu, hr⟩ := hrd2 i j y hy
    exact ⟨u, hu, hr.plain (flat_plain hfl hrows' hy)⟩
  rcases he with rfl | rfl
  · exact hbp
  · exact hbp

/-- what a function that cuts a row ends with -/
def EndsC (rs : List ResultVar) (e : TypeId) (con : C) (k : Nat) (ex : Exit) (st : St) : Prop := (ex = .ret ∨ ex = .normal) ∧ ∃ t, rs = [.tmp t] ∧ flatC con = true ∧ st.get t = .bw 0 0 k ∧ ∃ B, look st.H.bor 0 = some B ∧ B.e = e ∧ B.con = con

theorem ret_cut {f : FuncId} {fn : Func} {c : Code} (hf : P.funcs[f]? = some fn) (hb : fn.body = some c) {e : TypeId} {con con' : C} {len k : Nat} (hn : 1 ≤ fn.ntmps) (hlen : con.len = some len) (hk : ∀ rs, con.rows = some (con.z, rs) → con'.rows = some (con.z, rs.take k))
    (h : ∀ F : Fr, AWp P F c (EndsC fn.results.toList e con k) { n := fn.ntmps, sl := [(0, .bw 0 0 len)], H := ⟨[], [], [(0, ⟨e, con⟩)]⟩, nx := 0 }) : RetC P f e con con' := by
  intro w sv rs xs hrows hz0 hrl hown hrd
  let F : Fr := ⟨w, fun _ => False, sv.ownBlock.toList, fun k => if k = 0 then some sv else none⟩
  refine calls_of_wp hf hb ?_
  have hblk : ∀ b, sv.ownBlock = some b → b < w.heap.size := fun b hb => (hown.lt b hb).2
  have hl2 := (rows_z hrows).2
  rw [hlen] at hl2; simp at hl2; subst hl2
  obtain ⟨p, cap, hsv, hcap, _, hp⟩ := ownsRow_val hown
  have hs : StRep F { n := fn.ntmps, sl := [(0, .bw 0 0 rs.length)], H := ⟨[], [], [(0, ⟨e, con⟩)]⟩, nx := 0 } ⟨fun _ => none, fun _ => none⟩ { tmps := #[sv] ++ Array.replicate (fn.ntmps - #[sv].size) undef, defers := [] } w := by
    refine ⟨rfl, by simp; omega, ⟨rfl, rfl, rfl, Nat.le_refl _, fun _ _ _ => rfl, ?_, ?_, ?_, ?_, ?_, ?_, ?_, ?_, ?_⟩, fun _ _ => ⟨rfl, rfl⟩, ?_⟩
    · rintro b (⟨i, hi⟩ | ⟨i, v, hv, _⟩)
      · cases hi
      · cases hv
    · intro k v b hk hb
      simp only [F] at hk
      split at hk
      · cases hk; exact ⟨by simp [F, hb], hblk b hb⟩
      · cases hk
    · intro i j b u v hi hj _ _
      simp only [F] at hi hj
      split at hi <;> split at hj <;> first | omega | (cases hi; done) | (cases hj; done)
    · intro i j b hi; cases hi
    · intro i j b v hi; cases hi
    · intro i j b u v hi; cases hi
    · intro i b hi; cases hi
    · intro i v hv; cases hv
    · intro k v hk
      simp only [F] at hk
      split at hk
      · rename_i hk0
        cases hk; subst hk0
        exact ⟨⟨e, con⟩, rs, xs, rfl, hrows, hz0, hrl, hown, fun i j y hy => let ⟨u, hu, hr⟩ := hrd i j y hy; ⟨u, hu, hr.none⟩⟩
      · cases hk
    · intro t
      show RepA _ _ _ _ (match look [(0, .bw 0 0 rs.length)] t with | some x => x | none => .u) _
      by_cases ht : t = 0
      · subst ht
        have hg : (#[sv] ++ Array.replicate (fn.ntmps - #[sv].size) undef).getD 0 undef = sv := by
          rw [Array.getD_eq_getD_getElem?, Array.getElem?_append_left (by simp)]; rfl
        rw [hg]
        refine ⟨by rw [hsv]; rfl, ⟨e, con⟩, p, rs.length, cap, rfl, by simp [F, hsv], by omega, ?_⟩
        have : p.map (·.add (0 * con.z)) = p := by cases p <;> simp [Addr.add]
        rw [hsv, this]; simp
      · rw [look_add_ne _ _ _ _ ht]
        trivial
  refine wp_mono (h F _ _ _ hs) fun ex a' w' ⟨st', m', ⟨he, t, ht, hfl, hg, B, hB, hBe, hBc⟩, hs'⟩ => ?_
  have hrun : (results fn a'.tmps).run P w' = .ok (a'.tmps.getD t undef) w' := by
    have : fn.results = #[.tmp t] := by apply Array.ext'; exact ht
    unfold results
    simp [this]
  have hsl := hs'.sl t
  rw [hg] at hsl
  obtain ⟨_, B3, p3, n3, cap3, hB3, hF3, hle3, hval⟩ := hsl
  obtain ⟨B2, rs', xs', hB2, hrows', hz', hrl', hown', hrd2⟩ := hs'.h.bor 0 sv (by simp [F])
  rw [hB] at hB2; cases hB2
  rw [hB] at hB3; cases hB3
  subst hBe; subst hBc
  rw [hrows] at hrows'
  simp only [Option.some.injEq, Prod.mk.injEq, true_and] at hrows'
  subst hrows'
  have hF4 : sv = .slice p3 n3 cap3 := by simp [F] at hF3; exact hF3
  have hv2 : a'.tmps.getD t undef = .slice p3 k cap3 := by
    rw [hval]
    have : p3.map (·.add (0 * B.con.z)) = p3 := by cases p3 <;> simp [Addr.add]
    rw [this]; simp
  have hn3 : n3 = rs.length := by rw [hsv] at hF4; cases hF4; rfl
  have hbp : a'.defers = [] ∧ ∃ v, (results fn a'.tmps).run P w' = .ok v w' ∧ ∃ p n cap k, sv = .slice p n cap ∧ k ≤ rs.length ∧ con'.rows = some (B.con.z, rs.take k) ∧ Ending.returned v = .returned (.slice p k cap) ∧ w.grownBy w' sv.ownBlock ∧
      ∃ xs', w'.ownsRow 0 B.e B.con.z sv rs.length xs' ∧ RdRow w' (fun _ => False) B.con.z rs xs' := by
    refine ⟨hs'.d, _, hrun, p3, n3, cap3, k, hF4, by omega, hk rs hrows, by rw [hv2], ⟨hs'.h.os, hs'.h.tape, hs'.h.output, hs'.h.size, fun k hk hne => hs'.h.block k hk (fun hm => by simp only [F, Option.mem_toList] at hm; exact hne hm.symm)⟩, xs', hown', fun i j y hy => ?_⟩
    obtain ⟨u, hu, hr⟩ := hrd2 i j y hy
    exact ⟨u, hu, hr.plain (flat_plain hfl hrows hy)⟩
  rcases he with rfl | rfl
  · exact hbp
  · exact hbp

end Go.Abs
