/-
  The evaluation of single operations is sound: slices of views, literals, structs, new boxes.
-/
import Derived.Test.YtggehgnmfjdkhaaAbsE
namespace Go.Abs
set_option linter.unusedSimpArgs false
set_option linter.unusedVariables false
open Go.RowKit

variable {P : Program}

theorem rows_sub {c : C} {z : Nat} {rs : List (List C)} (h : c.rows = some (z, rs)) (a b : Nat) : (c.sub a b).rows = some (z, (rs.take b).drop a) := by
  cases c <;> simp [C.rows] at h
  · obtain ⟨rfl, rfl⟩ := h; simp [C.rows, C.sub, List.map_drop, List.map_take]
  · obtain ⟨rfl, rfl⟩ := h; simp [C.rows, C.sub, List.map_drop, List.map_take]
  · obtain ⟨rfl, rfl⟩ := h; simp [C.rows, C.sub]

theorem at2_sub {rs : List (List C)} {a b i j : Nat} {y : C} (h : at2 ((rs.take b).drop a) i j = some y) : at2 rs (a + i) j = some y := by
  unfold at2 at *
  rw [List.getElem?_drop] at h
  cases hx : (rs.take b)[a + i]? with
  | none => simp [hx] at h
  | some r =>
    rw [hx] at h
    have hlt := (List.getElem?_eq_some_iff.1 hx).1
    simp at hlt
    rw [List.getElem?_take, if_pos (by omega)] at hx
    rw [hx]; exact h

theorem rd_sub {w : World} {S : Nat → Prop} {c : C} {p : Option Addr} {l cap z a b : Nat} (h : Rd w S c (.slice p l cap)) (hl : c.len = some l) (hz : c.z = z) (hab : a ≤ b) (hbl : b ≤ l) (hcap : l ≤ cap) :
    Rd w S (c.sub a b) (.slice (if cap = a then p else p.map (·.add (a * z))) (b - a) (cap - a)) := by
  obtain ⟨p', cap', he, _, hmax, hpn, hor⟩ := rd_slice h hl
  cases he
  by_cases hn : c = .nil
  · subst hn
    have := rd_nil h
    cases this
    have h1 : a = 0 := by omega
    have h2 : b = 0 := by omega
    subst h1; subst h2
    exact .nil
  by_cases hn0 : c = .e0
  · subst hn0
    simp [C.len] at hl
    subst hl
    have h1 : a = 0 := by omega
    have h2 : b = 0 := by omega
    subst h1; subst h2
    obtain ⟨a', cap', he⟩ := rd_e0 h
    cases he
    simp only [Nat.zero_mul, Nat.sub_zero]
    split <;> exact .e0 _ _
  · have hrows : ∃ z' rs, c.rows = some (z', rs) := by
      cases c <;> simp_all [C.len, C.rows]
    obtain ⟨z', rs, hrows⟩ := hrows
    obtain ⟨hz', hlen⟩ := rows_z hrows
    rw [hz] at hz'; subst hz'
    rw [hl] at hlen; simp at hlen; subst hlen
    have hsub := rows_sub hrows a b
    have hslen : ((rs.take b).drop a).length = b - a := by simp; omega
    by_cases hba : b - a = 0
    · have : (rs.take b).drop a = [] := List.eq_nil_of_length_eq_zero (by omega)
      rw [this] at hsub
      rw [hba]
      exact .emp _ _ _ _ hsub (fun hp => by split at hp <;> simp_all)
    · rcases hor with h0 | ⟨z', rs', b', off, hrows', hz0, hlen', rfl, hS, hr, hc⟩
      · omega
      · rw [hrows] at hrows'; cases hrows'
        rw [if_neg (by omega)]
        simp only [Option.map_some, addr_add]
        rw [← hslen]
        have hex : ∀ i j, ∃ q, ∀ y, at2 ((rs.take b).drop a) i j = some y → w.cell? ⟨b', off + a * z + (i * z + j), none⟩ = some q ∧ Rd w S y q := by
          intro i j
          cases hat : at2 ((rs.take b).drop a) i j with
          | none => exact ⟨undef, fun y hy => by cases hy⟩
          | some y =>
            obtain ⟨q, hq, hrd⟩ := hc _ _ _ (at2_sub hat)
            refine ⟨q, fun y' hy' => ?_⟩
            cases hy'
            refine ⟨?_, hrd⟩
            rw [← hq]
            congr 2
            rw [Nat.add_mul]; omega
        refine .sl _ z _ b' (off + a * z) _ (fun i j => (hex i j).choose) hsub (fun e => by rw [e] at hslen; simp at hslen; omega) hz0 (by omega) (by omega) ?_ hS (fun i j y hy => ((hex i j).choose_spec y hy).1) (fun i j y hy => ((hex i j).choose_spec y hy).2)
        intro r hrm
        exact hr r (List.mem_of_mem_take (List.mem_of_mem_drop hrm))

theorem sliceBound_run (k : IntKind) (a y : Nat) (code : BoundsCode) (h : a ≤ y) (w : World) : (Instr.sliceBound (.int k (a : Int)) y code).run P w = .ok a w := by
  have : (0 : Int) ≤ (a : Int) ∧ (a : Int) ≤ (y : Int) := by omega
  simp only [Instr.sliceBound, asIntOf, Sem.run_bind, Sem.run_pure, Result.andThen_ok, this, and_self, if_true]
  simp

theorem slice_run {t e : TypeId} {z : Nat} (he : elO P t = some e) (hz : szO P e = some z) (p : Option Addr) (l cap a b : Nat) (hab : a ≤ b) (hbl : b ≤ l) (hcap : l ≤ cap) (w : World)
    (lo hi : Option Value) (hlo : lo = none ∧ a = 0 ∨ ∃ k, lo = some (.int k (a : Int))) (hhi : hi = none ∧ b = l ∨ ∃ k, hi = some (.int k (b : Int))) :
    (Instr.sliceAt t (.slice p l cap) lo hi none).run P w = .ok (.slice (if cap = a then p else p.map (·.add (a * z))) (b - a) (cap - a)) w := by
  have h1 : (Instr.sliceBounds true l cap lo hi none).run P w = .ok (a, b, cap) w := by
    have hb := fun (k : IntKind) (code : BoundsCode) => sliceBound_run (P := P) k b cap code (Nat.le_trans hbl hcap) w
    have ha := fun (k : IntKind) (code : BoundsCode) => sliceBound_run (P := P) k a b code hab w
    rcases hlo with ⟨rfl, rfl⟩ | ⟨k, rfl⟩ <;> rcases hhi with ⟨rfl, rfl⟩ | ⟨k', rfl⟩ <;> simp [Instr.sliceBounds, ha, hb]
  simp [Instr.sliceAt, Instr.slice, run_underlying (elO_some he), h1, szO_run hz]

theorem sliceT_sound {t : TypeId} {x : AV} {lo hi : Option AV} {K : AV → Prop} (h : sliceT P t x lo hi K) :
    ∃ r, K r ∧ ∀ (F : Fr) (H : Hp) (m : Mp) (w : World) (u : Value) (ul uh : Option Value), RepA F H m w x u →
      (∀ y, lo = some y → ∃ v, ul = some v ∧ RepA F H m w y v) → (lo = none → ul = none) → (∀ y, hi = some y → ∃ v, uh = some v ∧ RepA F H m w y v) → (hi = none → uh = none) →
      Yl P F H m w (Instr.sliceAt t u ul uh none) r := by
  unfold sliceT at h
  split at h
  · rename_i e c he
    split at h
    · rename_i l hl
      have key : ∀ a b : Nat, a ≤ b → b ≤ l → szO P e = some c.z → ∀ (F : Fr) (H : Hp) (m : Mp) (w : World) (u : Value) (ul uh : Option Value), RepA F H m w (.c c) u →
          (ul = none ∧ a = 0 ∨ ∃ k, ul = some (.int k (a : Int))) → (uh = none ∧ b = l ∨ ∃ k, uh = some (.int k (b : Int))) → Yl P F H m w (Instr.sliceAt t u ul uh none) (.c (c.sub a b)) := by
        intro a b hab hbl hz F H m w u ul uh hu h1 h2
        obtain ⟨p, cap, rfl, hcap, _, _, _⟩ := rd_slice hu hl
        exact ⟨_, slice_run he hz p l cap a b hab hbl hcap w ul uh h1 h2, rd_sub hu hl rfl hab hbl hcap⟩
      split at h
      · obtain ⟨hz, hK⟩ := h
        refine ⟨_, hK, fun F H m w u ul uh hu h2 h3 h4 h5 => ?_⟩
        exact key 0 l (by omega) (Nat.le_refl _) hz F H m w u _ _ hu (.inl ⟨h3 rfl, rfl⟩) (.inl ⟨h5 rfl, rfl⟩)
      · rename_i k a
        obtain ⟨hz, ⟨h0, h1⟩, hK⟩ := h
        refine ⟨_, hK, fun F H m w u ul uh hu h2 h3 h4 h5 => ?_⟩
        obtain ⟨v, rfl, hv⟩ := h2 _ rfl
        obtain rfl := rep_i hv
        exact key a.toNat l (by omega) (Nat.le_refl _) hz F H m w u _ _ hu (.inr ⟨k, by congr 2; omega⟩) (.inl ⟨h5 rfl, rfl⟩)
      · rename_i k b
        obtain ⟨hz, ⟨h0, h1⟩, hK⟩ := h
        refine ⟨_, hK, fun F H m w u ul uh hu h2 h3 h4 h5 => ?_⟩
        obtain ⟨v, rfl, hv⟩ := h4 _ rfl
        obtain rfl := rep_i hv
        exact key 0 b.toNat (by omega) (by omega) hz F H m w u _ _ hu (.inl ⟨h3 rfl, rfl⟩) (.inr ⟨k, by congr 2; omega⟩)
      · rename_i k a k' b
        obtain ⟨hz, ⟨h0, h1, h2'⟩, hK⟩ := h
        refine ⟨_, hK, fun F H m w u ul uh hu h2 h3 h4 h5 => ?_⟩
        obtain ⟨v, rfl, hv⟩ := h2 _ rfl
        obtain rfl := rep_i hv
        obtain ⟨v, rfl, hv⟩ := h4 _ rfl
        obtain rfl := rep_i hv
        exact key a.toNat b.toNat (by omega) (by omega) hz F H m w u _ _ hu (.inr ⟨k, by congr 2; omega⟩) (.inr ⟨k', by congr 2; omega⟩)
      · exact h.elim
    · exact h.elim
  · exact h.elim


theorem splice_foldl (off : Nat) : ∀ (l : List Value) (n : Nat) (cells : Array Value), off + n + l.length ≤ cells.size →
    (l.zipIdx n).foldl (fun cs p => cs.setIfInBounds (off + p.2) p.1) cells = (cells.toList.take (off + n) ++ l ++ cells.toList.drop (off + n + l.length)).toArray
  | [], n, cells, h => by simp
  | c :: l, n, cells, h => by
    simp only [List.zipIdx_cons, List.foldl_cons]
    have hl : off + (n + 1) + l.length ≤ (cells.setIfInBounds (off + n) c).size := by simp at h ⊢; omega
    rw [splice_foldl off l (n + 1) _ hl]
    congr 1
    simp only [Array.toList_setIfInBounds, List.length_cons]
    simp only [List.length_cons] at h
    apply List.ext_getElem?
    intro j
    simp only [List.append_assoc, List.getElem?_append, List.length_take, List.length_set, Array.length_toList, List.getElem?_take, List.getElem?_drop, List.getElem?_set, List.length_cons, List.getElem?_cons]
    repeat' split
    all_goals first | omega | rfl | (congr 1; omega)


theorem RdL.get {w : World} {S : Nat → Prop} {xs : List C} {vs : List Value} (h : RdL w S xs vs) {j : Nat} {y : C} (hy : xs[j]? = some y) : ∃ u, vs[j]? = some u ∧ Rd w S y u := by
  have hlt := (List.getElem?_eq_some_iff.1 hy).1
  have hv : vs[j]? = some (vs[j]'(by rw [h.1]; exact hlt)) := List.getElem?_eq_getElem _
  exact ⟨_, hv, h.2 j y _ hy hv⟩

theorem RdL.append {w : World} {S : Nat → Prop} {xs ys : List C} {us vs : List Value} (h : RdL w S xs us) (k : RdL w S ys vs) : RdL w S (xs ++ ys) (us ++ vs) := by
  refine ⟨by simp [h.1, k.1], fun j y u hy hu => ?_⟩
  by_cases hj : j < xs.length
  · rw [List.getElem?_append_left hj] at hy
    rw [List.getElem?_append_left (by rw [h.1]; exact hj)] at hu
    exact h.2 j y u hy hu
  · rw [List.getElem?_append_right (by omega)] at hy
    rw [List.getElem?_append_right (by rw [h.1]; omega), h.1] at hu
    exact k.2 _ y u hy hu

theorem RdL.take {w : World} {S : Nat → Prop} {xs : List C} {us : List Value} (h : RdL w S xs us) (n : Nat) : RdL w S (xs.take n) (us.take n) := by
  refine ⟨by simp [h.1], fun j y u hy hu => ?_⟩
  have hj : j < n := by have := (List.getElem?_eq_some_iff.1 hy).1; simp at this; omega
  rw [List.getElem?_take, if_pos hj] at hy hu
  exact h.2 j y u hy hu

theorem RdL.drop {w : World} {S : Nat → Prop} {xs : List C} {us : List Value} (h : RdL w S xs us) (n : Nat) : RdL w S (xs.drop n) (us.drop n) := by
  refine ⟨by simp [h.1], fun j y u hy hu => ?_⟩
  rw [List.getElem?_drop] at hy hu
  exact h.2 _ y u hy hu

theorem RdL.ofC {w : World} {S : Nat → Prop} {us : List Value} (h : us.all oneCell = true) : RdL w S (us.map ofC) us := by
  refine ⟨by simp, fun j y u hy hu => ?_⟩
  simp [hu] at hy
  subst hy
  exact rd_ofC w S u (by have := List.all_eq_true.1 h u (List.mem_of_getElem? hu); exact this)

theorem cellsOf_rep {F : Fr} {H : Hp} {m : Mp} {w : World} {x : AV} {ys : List C} {v : Value} (h : cellsOf x = some ys) (hr : RepA F H m w x v) : RdL w (F.S m) ys v.cells.toList := by
  cases x <;> simp [cellsOf] at h
  · subst h
    have h1 : v.cells = #[v] := by
      have := Rd.one hr
      cases v <;> simp_all [Value.cells, Value.oneCell']
    rw [h1]
    refine ⟨rfl, fun j y u hy hu => ?_⟩
    match j with
    | 0 => simp at hy hu; subst hy; subst hu; exact hr
    | j + 1 => simp at hy
  · subst h
    obtain ⟨vs, rfl, hl⟩ := hr
    exact hl

theorem fill_sound {F : Fr} {H : Hp} {m : Mp} {w : World} {pl : List (Nat × Nat)} {place : Nat → Option (Nat × Nat)} (hpl : ∀ (f : Nat) p, pl[f]? = some p → place f = some p) :
    ∀ (ps : List (Nat × AV)) (vs : List (Nat × Value)) (cs cs' : List C) (cells : Array Value), vs.map (·.1) = ps.map (·.1) → (∀ (j : Nat) x v, ps[j]? = some x → vs[j]? = some v → RepA F H m w x.2 v.2) →
      RdL w (F.S m) cs cells.toList → fillC pl ps cs = some cs' → ∃ cells', Instr.fill place cells vs = some cells' ∧ RdL w (F.S m) cs' cells'.toList
  | [], vs, cs, cs', cells, hi, hr, hl, h => by
    simp [fillC] at h; subst h
    cases vs with
    | nil => exact ⟨cells, rfl, hl⟩
    | cons v vs => simp at hi
  | (f, x) :: ps, [], cs, cs', cells, hi, hr, hl, h => by simp at hi
  | (f, x) :: ps, (f', v) :: vs, cs, cs', cells, hi, hr, hl, h => by
    simp only [List.map_cons, List.cons.injEq] at hi
    obtain ⟨rfl, hi⟩ := hi
    simp only [fillC] at h
    split at h
    · rename_i o z ys hp hys
      split at h
      · rename_i hc
        have hcells := cellsOf_rep hys (hr 0 _ _ rfl rfl)
        simp only at hcells
        have hsz : v.cells.size = z := by have := hcells.1; simp at this; omega
        have hle : o + v.cells.size ≤ cells.size := by have := hl.1; simp at this; omega
        have hstep : v.cells.zipIdx.foldl (fun cs (c, j) => cs.setIfInBounds (o + j) c) cells = (cells.toList.take o ++ v.cells.toList ++ cells.toList.drop (o + z)).toArray := by
          have := splice_foldl o v.cells.toList 0 cells (by simp; omega)
          simp only [Nat.add_zero, Array.length_toList, hsz] at this
          rw [← this, ← Array.foldl_toList, Array.toList_zipIdx]
        have hnext : RdL w (F.S m) (cs.take o ++ ys ++ cs.drop (o + z)) (cells.toList.take o ++ v.cells.toList ++ cells.toList.drop (o + z)) := ((hl.take o).append hcells).append (hl.drop (o + z))
        obtain ⟨cells', h1, h2⟩ := fill_sound hpl ps vs _ cs' (cells.toList.take o ++ v.cells.toList ++ cells.toList.drop (o + z)).toArray hi (fun j x v hx hv => hr (j + 1) x v (by simpa using hx) (by simpa using hv)) (by simpa using hnext) h
        refine ⟨cells', ?_, h2⟩
        have hne : (v.cells.size ≠ z || decide (o + v.cells.size > cells.size)) = false := by simp [hsz]; omega
        simp only [Instr.fill, hpl f' _ hp, hne, hstep]
        simpa using h1
      · cases h
    · cases h

theorem zeroO_some {t : TypeId} {zs : List Value} (h : zeroO P t = some zs) : ∃ i z, P.info? t = some i ∧ i.zero = some z ∧ z.cells.toList = zs := by
  unfold zeroO at h
  cases hi : P.info? t with
  | none => simp [hi] at h
  | some i =>
    simp only [hi, Option.bind_some, Option.map_eq_some_iff] at h
    obtain ⟨z, hz, rfl⟩ := h
    exact ⟨i, z, rfl, hz, rfl⟩

theorem buildT_sound {t : TypeId} {ps : List (Nat × AV)} {K : AV → Prop} (h : buildT P t ps K) :
    ∃ r, K r ∧ ∀ (F : Fr) (H : Hp) (m : Mp) (w : World) (vs : Array (Nat × Value)), vs.toList.map (·.1) = ps.map (·.1) → (∀ (j : Nat) x v, ps[j]? = some x → vs[j]? = some v → RepA F H m w x.2 v.2) →
      Yl P F H m w (Instr.build t vs) r := by
  unfold buildT at h
  split at h
  · rename_i zs pl hz hpl
    split at h
    · rename_i cs hcs
      obtain ⟨h1, hK⟩ := h
      refine ⟨_, hK, fun F H m w vs hi hr => ?_⟩
      obtain ⟨it, z, hit, hzz, rfl⟩ := zeroO_some hz
      unfold plO at hpl
      split at hpl
      · rename_i fs hu
        obtain ⟨cells', h2, h3⟩ := fill_sound (place := (pl.toArray[·]?)) (fun f p hp => by simpa using hp) ps vs.toList _ cs z.cells hi (fun j x v hx hv => hr j x v hx (by simpa using hv)) (RdL.ofC h1) hcs
        exact ⟨_, run_build w t vs cells' (by simp only [Program.built, hit, hu, hzz, hpl]; exact h2), _, rfl, h3⟩
      · rename_i n e hu
        obtain ⟨ze, hze, rfl⟩ := Option.map_eq_some_iff.1 hpl
        unfold szO at hze
        obtain ⟨ie, hie, rfl⟩ := Option.map_eq_some_iff.1 hze
        obtain ⟨cells', h2, h3⟩ := fill_sound (place := fun i => some (i * ie.size, ie.size)) (fun f p hp => by
          have hlt := (List.getElem?_eq_some_iff.1 hp).1
          simp at hlt
          simp [List.getElem?_map, List.getElem?_range hlt] at hp
          rw [hp]) ps vs.toList _ cs z.cells hi (fun j x v hx hv => hr j x v hx (by simpa using hv)) (RdL.ofC h1) hcs
        exact ⟨_, run_build w t vs cells' (by simp only [Program.built, hit, hu, hzz, hie]; exact h2), _, rfl, h3⟩
      · cases hpl
    · exact h.elim
  · exact h.elim


/-- a literal of a slice: all its elements, one after another -/
theorem lit_fill (z : Nat) : ∀ (vs : List Value) (n : Nat) (cells : Array Value), (∀ v ∈ vs, v.cells.size = z) → (n + vs.length) * z ≤ cells.size →
    Instr.fill (fun i => some (i * z, z)) cells (vs.zipIdx n |>.map fun p => (p.2, p.1)) = some (cells.toList.take (n * z) ++ vs.flatMap (fun v => v.cells.toList) ++ cells.toList.drop ((n + vs.length) * z)).toArray
  | [], n, cells, h1, h2 => by simp [Instr.fill]
  | v :: vs, n, cells, h1, h2 => by
    have hv := h1 v (List.mem_cons_self ..)
    simp only [List.length_cons] at h2
    have e1 : (n + (vs.length + 1)) * z = (n + 1 + vs.length) * z := by congr 1; omega
    have e2 : (n + 1 + vs.length) * z = n * z + z + vs.length * z := by rw [Nat.add_mul, Nat.add_mul]; omega
    have hle : n * z + v.cells.size ≤ cells.size := by omega
    have hstep : v.cells.zipIdx.foldl (fun cs (c, j) => cs.setIfInBounds (n * z + j) c) cells = (cells.toList.take (n * z) ++ v.cells.toList ++ cells.toList.drop (n * z + z)).toArray := by
      have := splice_foldl (n * z) v.cells.toList 0 cells (by simp; omega)
      simp only [Nat.add_zero, Array.length_toList, hv] at this
      rw [← this, ← Array.foldl_toList, Array.toList_zipIdx]
    have hne : (v.cells.size ≠ z || decide (n * z + v.cells.size > cells.size)) = false := by simp [hv]; omega
    simp only [List.zipIdx_cons, List.map_cons, Instr.fill, hne, hstep]
    have hsz : (cells.toList.take (n * z) ++ v.cells.toList ++ cells.toList.drop (n * z + z)).toArray.size = cells.size := by
      simp only [List.size_toArray, List.length_append, List.length_take, List.length_drop, Array.length_toList, hv]; omega
    have ih := lit_fill z vs (n + 1) (cells.toList.take (n * z) ++ v.cells.toList ++ cells.toList.drop (n * z + z)).toArray (fun u hu => h1 u (List.mem_cons_of_mem _ hu)) (by rw [hsz]; omega)
    rw [if_neg (by simp), ih]
    congr 2
    simp only [List.toList_toArray, List.flatMap_cons]
    have e3 : (n + 1) * z = n * z + z := by rw [Nat.add_mul]; omega
    have e4 : (cells.toList.take (n * z) ++ v.cells.toList).length = n * z + z := by simp only [List.length_append, List.length_take, Array.length_toList, hv]; omega
    rw [e3, List.take_left' e4, List.length_cons, e1, e2]
    rw [List.drop_append, e4, List.drop_drop]
    have e5 : (cells.toList.take (n * z) ++ v.cells.toList).drop (n * z + z + vs.length * z) = [] := List.drop_eq_nil_of_le (by rw [e4]; omega)
    rw [e5, List.nil_append]
    have e6 : n * z + z + (n * z + z + vs.length * z - (n * z + z)) = n * z + z + vs.length * z := by omega
    rw [e6]
    simp only [List.append_assoc]

theorem intsOf_spec {k : IntKind} : ∀ {xs : List AV} {ns : List Int}, intsOf k xs = some ns → xs = ns.map fun n => .c (.i k n)
  | [], ns, h => by simp [intsOf] at h; subst h; rfl
  | .c x :: l, ns, h => by
    cases x <;> simp [intsOf] at h
    obtain ⟨rfl, ns', h1, rfl⟩ := h
    simp [intsOf_spec h1]
  | .g _ :: _, _, h | .t _ :: _, _, h | .bx _ _ :: _, _, h | .own _ _ :: _, _, h | .oel _ _ _ _ :: _, _, h | .el _ :: _, _, h | .u :: _, _, h => by simp [intsOf] at h
theorem boolsOf_spec : ∀ {xs : List AV} {ns : List Bool}, boolsOf xs = some ns → xs = ns.map fun n => .c (.b n)
  | [], ns, h => by simp [boolsOf] at h; subst h; rfl
  | .c x :: l, ns, h => by
    cases x <;> simp [boolsOf] at h
    obtain ⟨ns', h1, rfl⟩ := h
    simp [boolsOf_spec h1]
  | .g _ :: _, _, h | .t _ :: _, _, h | .bx _ _ :: _, _, h | .own _ _ :: _, _, h | .oel _ _ _ _ :: _, _, h | .el _ :: _, _, h | .u :: _, _, h => by simp [boolsOf] at h
theorem rowsOf_spec {z : Nat} : ∀ {xs : List AV} {rs : List (List C)}, rowsOf z xs = some rs → rs.length = xs.length ∧ ∀ (i : Nat) x, xs[i]? = some x → ∃ r, cellsOf x = some r ∧ rs[i]? = some r ∧ r.length = z
  | [], rs, h => by simp [rowsOf] at h; subst h; simp
  | x :: l, rs, h => by
    simp only [rowsOf] at h
    split at h
    · rename_i r hr
      split at h
      · rename_i hz
        obtain ⟨rs', h1, rfl⟩ := Option.map_eq_some_iff.1 h
        obtain ⟨hl, hi⟩ := rowsOf_spec h1
        refine ⟨by simp [hl], fun i y hy => ?_⟩
        match i with
        | 0 => simp at hy; subst hy; exact ⟨r, hr, rfl, hz⟩
        | i + 1 => exact hi i y (by simpa using hy)
      · cases h
    · cases h

theorem litO_rows {e : TypeId} {xs : List AV} {c : C} {z : Nat} (h : litO P e xs = some c) (hz : szO P e = some z) (hcz : c.z = z) :
    ∃ rs, c.rows = some (z, rs) ∧ rs.length = xs.length ∧ ∀ (i : Nat) x, xs[i]? = some x → ∃ r, cellsOf x = some r ∧ rs[i]? = some r ∧ r.length = z := by
  unfold litO at h
  split at h
  · obtain ⟨ns, hn, rfl⟩ := Option.map_eq_some_iff.1 h
    obtain rfl := intsOf_spec hn
    simp [C.z] at hcz; subst hcz
    refine ⟨_, rfl, by simp, fun i x hx => ?_⟩
    simp only [List.getElem?_map, Option.map_eq_some_iff] at hx
    obtain ⟨n, hn, rfl⟩ := hx
    exact ⟨_, rfl, by simp [hn], rfl⟩
  · obtain ⟨ns, hn, rfl⟩ := Option.map_eq_some_iff.1 h
    obtain rfl := boolsOf_spec hn
    simp [C.z] at hcz; subst hcz
    refine ⟨_, rfl, by simp, fun i x hx => ?_⟩
    simp only [List.getElem?_map, Option.map_eq_some_iff] at hx
    obtain ⟨n, hn, rfl⟩ := hx
    exact ⟨_, rfl, by simp [hn], rfl⟩
  · rw [hz] at h
    simp only at h
    obtain ⟨rs, hn, rfl⟩ := Option.map_eq_some_iff.1 h
    obtain ⟨h1, h2⟩ := rowsOf_spec hn
    exact ⟨rs, rfl, h1, h2⟩

end Go.Abs
