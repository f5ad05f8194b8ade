/-
  From a contract over plain data to what a row says: arguments that are read as data read as plain lists; what is read stays.
-/
import Derived.Test.YtggehgnmfjdkhaaAbsT
import Derived.WalkKit
import Derived.ProofKit
import Derived.OpenShut
import Derived.JoinedCond
import Derived.ChangeStays
import Derived.ReadAgain
import Derived.SizedLaws
namespace Go.Abs
set_option linter.unusedSimpArgs false
set_option linter.unusedVariables false
open Go.RowKit Go.ChangeShapes Go.WideShapes Go.ChangeAt

/-- all memory may be looked at -/
abbrev Top : Nat → Prop := fun _ => True

section
variable {H : Type} {enc : TypeId × Value → H} {P : Program} {T : TypeId → Prop}

theorem trodAll_ext {w w' : World} (K : Kids P T) (hz : ∀ t e, T t → P.underlying t = some (.slice e) → 0 < P.cellsOf e) {sp : Nat → Bool} :
    ∀ {ts : List TypeId} {vs : List Value} {ds : List (DataW H)} {ps : List MemPlace}, (∀ t ∈ ts, T t) → DataW.TrodAll enc P w 0 (fun _ => true) true ts vs ds ps → (∀ p ∈ ps, w.sameAt w' p) → (∀ p ∈ ps, sp p.block = true) →
      DataW.TrodAll enc P w' 0 sp true ts vs ds ps
  | [], [], [], _, _, h, _, _ => h
  | _ :: _, _ :: _, _ :: _, _, hT, ⟨p, q, ⟨n, hn⟩, h2, e⟩, hsame, hs =>
    ⟨p, q, ⟨n, DataW.trod_stays K (fun ht hu => hz _ _ ht hu) (fun h => by cases h) (hT _ (List.mem_cons.2 (Or.inl rfl))) hn (fun x hx => hsame x (by rw [e]; exact List.mem_append_left _ hx)) (fun x hx => hs x (by rw [e]; exact List.mem_append_left _ hx))⟩,
      trodAll_ext K hz (fun t ht => hT t (List.mem_cons.2 (Or.inr ht))) h2 (fun x hx => hsame x (by rw [e]; exact List.mem_append_right _ hx)) (fun x hx => hs x (by rw [e]; exact List.mem_append_right _ hx)), e⟩

theorem ext_same {w w' : World} (h : Ext w w') {p : MemPlace} (hp : p.block < w.heap.size) : w.sameAt w' p := by
  cases p with
  | cell b off => exact World.cell?_of_block (a := ⟨b, off, none⟩) (h.block b hp)
  | map b => exact h.block b hp

/-- a law that returns true and writes new memory alone -/
theorem law_post {f : FuncId} {fn : Func} {s : ChangeSpec} {apart fresh handsOn again : Bool} {W : World} {args : Array Value} {ds gs : List (DataW H)} {before : List MemPlace} {tb : TypeId} (al : List (C ⊕ List C))
    (K : Kids P T) (hz : ∀ t e, T t → P.underlying t = some (.slice e) → 0 < P.cellsOf e) (hT : ∀ t ∈ fn.params.toList, T t)
    (hv : s.vars = []) (hres : fn.resultTypes = #[tb]) (hb : P.underlying tb = some .bool) (hs : s.fn H (ds ++ gs) = { results := [.lit (.bool true)], args := ds })
    (hW : DataW.Whole enc P fn.params.toList s.vars apart W args.toList ds gs before)
    (hsz : args.size = al.length) (hrd : ∀ (j : Nat) y u, al[j]? = some y → args[j]? = some u → RdS W Top y u) (hret : Ret P f false al (.c (.b true))) :
    Calls P f args W fun e W' => ∃ v, e = .returned v ∧ s.post enc P fn apart fresh handsOn again W args v W' := by
  refine (hret W Top args hsz hrd).mono fun e W' ⟨v, he, hx, hr⟩ => ?_
  obtain rfl := rd_b hr
  refine ⟨_, he, ?_⟩
  have hlt := hW.lt
  have hW' := hW
  obtain ⟨p, q, hA, hV, rfl, hfz, hnd⟩ := hW
  rw [hv] at hV
  obtain ⟨rfl, rfl⟩ := trodVars_none hV
  simp only [List.append_nil] at hlt hfz hnd hs hW'
  have hargs : ∀ sp : Nat → Bool, (∀ x ∈ p, sp x.block = true) → DataW.TrodAll enc P W' 0 sp true fn.params.toList args.toList (s.fn H ds).args p := fun sp hsp => by
    rw [hs]
    exact trodAll_ext K hz hT hA (fun x hx' => ext_same hx (hlt x hx')) hsp
  have hress : ∀ (b : Nat) (sp : Nat → Bool) (hd : Bool), DataW.TrodAll enc P W' b sp hd fn.resultTypes.toList ((Value.bool true).resultList fn.resultTypes.size) (s.fn H ds).results [] := fun b sp hd => by
    rw [hs, hres]
    exact trodAll_cons_mk (p := []) (p' := []) (shut_bool hb _) trodAll_mk0
  have hvars : ∀ sp : Nat → Bool, DataW.TrodVars enc P W' sp s.vars (s.fn H ds).vars [] := fun sp => by
    rw [hs, hv]; exact rfl
  have hold : ∀ x ∈ p, (fun b => decide (b < W.heap.size)) x.block = true := fun x hx' => by simpa using hlt x hx'
  refine ⟨ds, [], p, [], p, [], by simpa using hW', by simpa using hress _ _ _, by simpa using hargs _ hold, by simpa using hvars _, World.keptBut_mono (fun x hx' => ?_) (hx.frame (· ∈ p)), fun _ => ?_⟩
  · exact ⟨hx', Or.inr (by simpa using hx')⟩
  · refine ⟨?_, _, _, ([] ++ p) ++ [], ⟨[] ++ p, [], trodAll_append (by simpa using hargs _ (fun _ _ => rfl)) (by simpa using hress _ _ _), by simpa using hvars _, rfl, ?_, ?_⟩, ?_⟩
    · exact ok_one (by rw [hres]) rfl (okWide_bool_mk hb _)
    · intro b off hp
      have hp' : MemPlace.cell b off ∈ p := by simpa using hp
      have hb' : b < W.heap.size := hlt _ hp'
      rw [World.frozen?_of_block (w := W) (a := ⟨b, off, none⟩) (hx.block b hb')]
      exact hfz b off hp'
    · intro ha
      simpa using hnd ha
    · intro x hx' _
      simpa using hx'

/-! ### from data to plain lists -/
variable {w : World} {base : Nat} {spare : Nat → Bool} {held : Bool}

theorem choose_list {α : Type} {Q : Nat → α → Prop} : ∀ (n : Nat), (∀ i, i < n → ∃ a, Q i a) → ∃ l : List α, l.length = n ∧ ∀ (i : Nat) a, l[i]? = some a → Q i a
  | 0, _ => ⟨[], rfl, fun i a h => by simp at h⟩
  | n + 1, h => by
    obtain ⟨l, hl, hq⟩ := choose_list n (fun i hi => h i (by omega))
    obtain ⟨a, ha⟩ := h n (by omega)
    refine ⟨l ++ [a], by simp [hl], fun i x hx => ?_⟩
    by_cases hi : i < n
    · exact hq i x (by rwa [List.getElem?_append_left (by omega)] at hx)
    · have hlt : i < (l ++ [a]).length := (List.getElem?_eq_some_iff.1 hx).1
      simp [hl] at hlt
      obtain rfl : i = n := by omega
      rw [List.getElem?_append_right (by omega)] at hx
      simp [hl] at hx
      subst hx; exact ha

/-- a slice whose elements read as plain rows reads as the list of these -/
theorem rd_sliceD {e t : TypeId} {z fuel : Nat} {cs : List Value} {x : DataW H × List MemPlace} {α : Type} (f : α → List C) (R : DataW H → α → Prop) (ht : P.underlying t = some (.slice e)) (hz : P.cellsOf e = z) (hz0 : 0 < z)
    (hf : ∀ a, (f a).length = z) (hel : ∀ n cs x, DataW.trod enc P w base spare held n e cs = some x → ∃ a, RdL w Top (f a) cs ∧ R x.1 a) (h : DataW.trod enc P w base spare held fuel t cs = some x) :
    ∃ (as : List α) (v : Value), cs = [v] ∧ oneCell v = true ∧ (∀ c, C.rows c = some (z, as.map f) → Rd w Top c v) ∧ as.length ≤ maxLen ∧
      ((x.1 = .nil ∧ as = []) ∨ ∃ ds sp, x.1 = .slice ds sp ∧ ds.length = as.length ∧ ∀ (i : Nat) d a, ds[i]? = some d → as[i]? = some a → R d a) := by
  rcases DataW.trod_slice ht h with ⟨rfl, rfl⟩ | ⟨a, len, cap, elems, rest, n, rfl, rfl, rfl, hb, hlc, hcm, hlen, hel', -, -⟩
  · exact ⟨[], _, rfl, rfl, fun c hc => .emp c z none 0 hc (fun _ => rfl), Nat.zero_le _, .inl ⟨rfl, rfl⟩⟩
  · have hx : ∀ i, i < len → ∃ y : α × List Value, w.cells? base (a.add (i * z)) z = some y.2 ∧ RdL w Top (f y.1) y.2 ∧ ∀ d, (elems.map (·.1))[i]? = some d → R d y.1 := by
      intro i hi
      have h1 := hel' i hi
      rw [hz] at h1
      rw [List.getElem?_eq_getElem (by omega)] at h1
      obtain ⟨cs', hc', h2⟩ := Option.bind_eq_some_iff.1 h1
      obtain ⟨a', ha, hR⟩ := hel n cs' _ h2
      refine ⟨(a', cs'), hc', ha, fun d hd => ?_⟩
      rw [List.getElem?_map, List.getElem?_eq_getElem (by omega)] at hd
      cases hd; exact hR
    obtain ⟨l, hl, hq⟩ := choose_list len hx
    refine ⟨l.map (·.1), _, rfl, rfl, fun c hc => ?_, by simp; omega, .inr ⟨_, _, rfl, by simp [hl, hlen], ?_⟩⟩
    · by_cases h0 : len = 0
      · subst h0
        have : l = [] := List.eq_nil_of_length_eq_zero hl
        subst this
        exact .emp c z (some a) cap (by simpa using hc) (fun h => by cases h)
      · have hcell : ∀ i j, i < len → j < z → ∃ y, l[i]? = some y ∧ w.cell? ((a.add (i * z)).add j) = y.2[j]? ∧ y.2.length = z ∧ RdL w Top (f y.1) y.2 := by
          intro i j hi hj
          have h1 : l[i]? = some l[i] := List.getElem?_eq_getElem (by omega)
          obtain ⟨h2, h3, _⟩ := hq i _ h1
          obtain ⟨_, h4, h5⟩ := World.cells?_some h2
          exact ⟨_, h1, h5 j hj, h4, h3⟩
        have hspot : a.spot = none := by
          obtain ⟨y, _, h2, h3, _⟩ := hcell 0 0 (by omega) hz0
          rw [List.getElem?_eq_getElem (by omega)] at h2
          have := World.cell?_spot h2
          simpa [Addr.add] using this
        obtain ⟨b, off, sp⟩ := a
        simp only at hspot
        subst hspot
        have hadd : ∀ i j, ((⟨b, off, none⟩ : Addr).add (i * z)).add j = ⟨b, off + (i * z + j), none⟩ := by
          intro i j
          rw [Addr.add_add]
          unfold Addr.add
          split
          · rename_i h; simp [h]
          · rfl
        have e1 : len = (l.map (fun y => f y.1)).length := by simp [hl]
        have := Rd.sl (w := w) (S := Top) c z (l.map (fun y => f y.1)) b off cap (fun i j => (((l[i]?).map (·.2)).getD []).getD j undef) (by rw [List.map_map] at hc; exact hc)
          (by intro h; simp at h; subst h; simp at hl; omega) hz0 (by simp; omega) (by simp; omega) (by
            intro r hr
            simp at hr
            obtain ⟨a1, ⟨b1, _⟩, rfl⟩ := hr
            exact hf a1) trivial (by
            intro i j y hy
            have hr' : ∀ r ∈ l.map (fun y => f y.1), r.length = z := by
              intro r hr
              simp at hr
              obtain ⟨a1, ⟨b1, _⟩, rfl⟩ := hr
              exact hf a1
            obtain ⟨hi, hj⟩ := at2_lt hr' hy
            simp only [List.length_map] at hi
            obtain ⟨y', h1, h2, h3, h4⟩ := hcell i j (by omega) hj
            rw [hadd] at h2
            rw [h2, h1]
            simp [List.getElem?_eq_getElem (show j < y'.2.length by omega)]) (by
            intro i j y hy
            have hr' : ∀ r ∈ l.map (fun y => f y.1), r.length = z := by
              intro r hr
              simp at hr
              obtain ⟨a1, ⟨b1, _⟩, rfl⟩ := hr
              exact hf a1
            obtain ⟨hi, hj⟩ := at2_lt hr' hy
            simp only [List.length_map] at hi
            obtain ⟨y', h1, h2, h3, h4⟩ := hcell i j (by omega) hj
            have hy2 : (f y'.1)[j]? = some y := by
              simpa [at2, h1] using hy
            have hu : y'.2[j]? = some (y'.2[j]'(by omega)) := List.getElem?_eq_getElem (by omega)
            have := h4.2 j y _ hy2 hu
            rw [h1]
            simpa [hu] using this)
        rw [← e1] at this
        exact this
    · intro i d a' hd ha'
      rw [List.getElem?_map] at ha'
      obtain ⟨y, hy, rfl⟩ := Option.map_eq_some_iff.1 ha'
      exact (hq i y hy).2.2 d hd

theorem rdL_one {w : World} {S : Nat → Prop} {y : C} {v : Value} (h : Rd w S y v) : RdL w S [y] [v] := ⟨rfl, fun j y' u hy hu => by
  match j with
  | 0 => simp at hy hu; subst hy; subst hu; exact h
  | j + 1 => simp at hy⟩

theorem rdL_append {w : World} {S : Nat → Prop} {xs ys : List C} {us vs : List Value} (h : RdL w S xs us) (k : RdL w S ys vs) : RdL w S (xs ++ ys) (us ++ vs) := by
  refine ⟨by simp [h.1, k.1], fun j y u hy hu => ?_⟩
  by_cases hj : j < xs.length
  · rw [List.getElem?_append_left hj] at hy
    rw [List.getElem?_append_left (by rw [h.1]; exact hj)] at hu
    exact h.2 j y u hy hu
  · rw [List.getElem?_append_right (by omega)] at hy
    rw [List.getElem?_append_right (by rw [h.1]; omega)] at hu
    rw [h.1] at hu
    exact k.2 _ y u hy hu

/-- a slice of integers -/
theorem rd_ints {e t : TypeId} {k : IntKind} {fuel : Nat} {cs : List Value} {x : DataW H × List MemPlace} (ht : P.underlying t = some (.slice e)) (he : P.underlying e = some (.int k)) (hz : P.cellsOf e = 1)
    (h : DataW.trod enc P w base spare held fuel t cs = some x) :
    ∃ (xs : List Int) (v : Value), cs = [v] ∧ oneCell v = true ∧ Rd w Top (.ints k xs) v ∧ xs.length ≤ maxLen ∧ (∀ n ∈ xs, (Lit.int k n).wf = true) ∧ ((x.1 = .nil ∧ xs = []) ∨ ∃ ds sp, x.1 = .slice ds sp ∧ ds.length = xs.length) := by
  obtain ⟨as, v, hcs, ho, hrd, hm, hd⟩ := rd_sliceD (α := { n : Int // (Lit.int k n).wf = true }) (fun n => [.i k n.1]) (fun _ _ => True) ht hz (by omega) (fun _ => rfl) (fun n cs x hx => by
    obtain ⟨n, rfl, _, hw⟩ := DataW.trod_int he hx
    exact ⟨⟨n, hw⟩, rdL_one (.i k n), trivial⟩) h
  refine ⟨as.map (·.1), v, hcs, ho, hrd _ (by simp [C.rows, List.map_map, Function.comp]), by simpa using hm, fun n hn => ?_, ?_⟩
  · obtain ⟨a, _, rfl⟩ := List.mem_map.1 hn
    exact a.2
  · rcases hd with ⟨h1, rfl⟩ | ⟨ds, sp, h1, h2, _⟩
    · exact .inl ⟨h1, rfl⟩
    · exact .inr ⟨ds, sp, h1, by simpa using h2⟩

/-- a slice of bools -/
theorem rd_bools {e t : TypeId} {fuel : Nat} {cs : List Value} {x : DataW H × List MemPlace} (ht : P.underlying t = some (.slice e)) (he : P.underlying e = some .bool) (hz : P.cellsOf e = 1)
    (h : DataW.trod enc P w base spare held fuel t cs = some x) :
    ∃ (xs : List Bool) (v : Value), cs = [v] ∧ oneCell v = true ∧ Rd w Top (.bools xs) v ∧ xs.length ≤ maxLen ∧ ((x.1 = .nil ∧ xs = []) ∨ ∃ ds sp, x.1 = .slice ds sp ∧ ds.length = xs.length) := by
  obtain ⟨as, v, hcs, ho, hrd, hm, hd⟩ := rd_sliceD (α := Bool) (fun b => [.b b]) (fun _ _ => True) ht hz (by omega) (fun _ => rfl) (fun n cs x hx => by
    obtain ⟨b, rfl, _⟩ := DataW.trod_bool he hx
    exact ⟨b, rdL_one (.b b), trivial⟩) h
  refine ⟨as, v, hcs, ho, hrd _ (by simp [C.rows]), hm, ?_⟩
  rcases hd with ⟨h1, rfl⟩ | ⟨ds, sp, h1, h2, _⟩
  · exact .inl ⟨h1, rfl⟩
  · exact .inr ⟨ds, sp, h1, h2⟩

/-- an argument of one cell is the cell -/
theorem one_of {r : Reach} {b0 : Nat} {t : TypeId} {v u : Value} {d : TypeDesc} (ht : P.underlying t = some d) (hd : (match d with | .struct _ | .array _ _ => false | _ => true) = true) (hval : Value.okWide P w r b0 t v) (hc : v.cells.toList = [u]) (ho : oneCell u = true) : v = u := by
  cases v <;> simp_all [Value.cells]
  rename_i cs
  unfold Value.okWide at hval
  rw [ht] at hval
  cases d <;> simp at hd hval <;> simp [Cell.okWide, Cell.ok, ht] at hval

/-! ### how long what comes in may be -/
def Sized (P : Program) (t : TypeId) (d : DataW H) : Prop := (d.weights P t).all (· ≤ reachBytes) = true

theorem szd_cons {t : TypeId} {ts : List TypeId} {d : DataW H} {ds : List (DataW H)} (h : (DataW.weightsEach P (t :: ts) (d :: ds)).all (· ≤ reachBytes) = true) : Sized P t d ∧ (DataW.weightsEach P ts ds).all (· ≤ reachBytes) = true := by
  simp only [DataW.weightsEach, List.all_append, Bool.and_eq_true] at h
  exact h

theorem szd_slice {t e : TypeId} {n : Nat} {d : DataW H} (ht : P.underlying t = some (.slice e)) (h : Sized P t d) (hd : (d = .nil ∧ n = 0) ∨ ∃ ds sp, d = .slice ds sp ∧ ds.length = n) : n * P.bytesOf e ≤ reachBytes := by
  rcases hd with ⟨_, rfl⟩ | ⟨ds, sp, rfl, rfl⟩
  · simp
  · simp only [Sized, DataW.weights, ht, List.all_cons, Bool.and_eq_true, decide_eq_true_eq] at h
    refine Nat.le_trans (Nat.mul_le_mul_right _ ?_) h.1
    omega

theorem szd_struct {t : TypeId} {fs : Array Field} {ds : List (DataW H)} (ht : P.underlying t = some (.struct fs)) (h : Sized P t (.agg ds)) : (DataW.weightsEach P (fs.toList.map (·.type)) ds).all (· ≤ reachBytes) = true := by
  simpa only [Sized, DataW.weights, ht] using h

end
end Go.Abs
