/-
  The evaluation of single operations is sound: reading memory.
-/
import Derived.Test.YtggehgnmfjdkhaaAbsD
namespace Go.Abs
set_option linter.unusedSimpArgs false
set_option linter.unusedVariables false
open Go.RowKit

/-- an abstract memory that tells at least as much -/
def Sup (H' H : Hp) : Prop := ((∀ i cs, look H.box i = some cs → look H'.box i = some cs) ∧ H'.bor = H.bor) ∧ H'.buf = H.buf

variable {P : Program}

theorem aggO_run {t : TypeId} {b : Bool} (h : aggO P t = some b) (w : World) : (isAgg t).run P w = .ok b w := by
  unfold aggO at h
  obtain ⟨d, hd, rfl⟩ := Option.map_eq_some_iff.1 h
  simp only [isAgg, Sem.run_bind, run_underlying hd, Result.andThen_ok]
  cases d <;> rfl

theorem aggO_row {t : TypeId} (h : aggO P t = some true) : ∃ d, P.underlying t = some d ∧ d.isRow = true := by
  unfold aggO at h
  obtain ⟨d, hd, hb⟩ := Option.map_eq_some_iff.1 h
  refine ⟨d, hd, ?_⟩
  cases d <;> simp_all [TypeDesc.isRow]

theorem allC_spec : ∀ {l : List AV} {cs : List C}, allC l = some cs → l = cs.map AV.c
  | [], cs, h => by simp [allC] at h; subst h; rfl
  | .c x :: l, cs, h => by
    simp only [allC, Option.map_eq_some_iff] at h
    obtain ⟨cs', h1, rfl⟩ := h
    rw [allC_spec h1]; rfl
  | .g _ :: l, cs, h => by simp [allC] at h
  | .t _ :: l, cs, h => by simp [allC] at h
  | .bx _ _ :: l, cs, h => by simp [allC] at h
  | .own _ _ :: l, cs, h => by simp [allC] at h
  | .oel _ _ _ _ :: l, cs, h => by simp [allC] at h
  | .el _ :: l, cs, h => by simp [allC] at h
  | .u :: l, cs, h => by simp [allC] at h

theorem loadAt_one {t : TypeId} (h : aggO P t = some false) {w : World} {b off : Nat} {v : Value} (hc : w.cell? ⟨b, off, none⟩ = some v) :
    (Instr.loadAt t (.pointer (some ⟨b, off, none⟩))).run P w = .ok v w := by
  simp [Instr.loadAt, Instr.sureAddr, loadVar, aggO_run h, hc]

theorem curB_spec {H : Hp} {id ver : Nat} {B : Buf} (h : curB H id ver = some B) : look H.buf id = some B ∧ B.ver = ver := by
  unfold curB at h
  split at h
  · split at h
    · rename_i B' hb hv; cases h; exact ⟨hb, by simpa using hv⟩
    · cases h
  · cases h

theorem row_at2 {c : C} {z : Nat} {rs : List (List C)} (h : c.rows = some (z, rs)) {i : Nat} (hi : i < rs.length) : rs[i]? = some (c.row i) := by
  cases c <;> simp [C.rows] at h
  · obtain ⟨rfl, rfl⟩ := h; simp at hi; simp [C.row, List.getElem?_eq_getElem hi]
  · obtain ⟨rfl, rfl⟩ := h; simp at hi; simp [C.row, List.getElem?_eq_getElem hi]
  · obtain ⟨rfl, rfl⟩ := h; simp [C.row, List.getElem?_eq_getElem hi]

theorem rows_z {c : C} {z : Nat} {rs : List (List C)} (h : c.rows = some (z, rs)) : c.z = z ∧ c.len = some rs.length := by
  cases c <;> simp [C.rows] at h
  · obtain ⟨rfl, rfl⟩ := h; simp [C.z, C.len]
  · obtain ⟨rfl, rfl⟩ := h; simp [C.z, C.len]
  · obtain ⟨rfl, rfl⟩ := h; simp [C.z, C.len]

/-- a current element of a buffer -/
theorem oel_cell {F : Fr} {H : Hp} {m : Mp} {w : World} (h : HRep F H m w) {id ver i off : Nat} {B : Buf} {u : Value} (hB : look H.buf id = some B) (hv : B.ver = ver) (hu : RepA F H m w (.oel id ver i off) u) :
    ∃ g n cap rs xs, m.bf id = some (.slice (some ⟨g, 0, none⟩) n cap) ∧ u = .pointer (some ⟨g, i * B.z + off, none⟩) ∧ B.con.rows = some (B.z, rs) ∧ (∀ r ∈ rs, r.length = B.z) ∧ n = rs.length ∧ i < rs.length ∧ off < B.z ∧ 0 < B.z ∧
      w.ownsRow 0 B.e B.z (.slice (some ⟨g, 0, none⟩) n cap) rs.length xs ∧ RdRow w (F.S m) B.z rs xs ∧
      ∀ j y, (B.con.row i)[j]? = some y → ∃ q, w.cell? ⟨g, i * B.z + j, none⟩ = some q ∧ Rd w (F.S m) y q := by
  obtain ⟨B', hB', hle, hk⟩ := hu
  rw [hB] at hB'; cases hB'
  obtain ⟨g, n, cap, hg, hi, ho, rfl⟩ := hk hv
  obtain ⟨B2, rs, xs, h1, h2, h3, h4, h5, h6⟩ := h.buf id _ hg
  rw [hB] at h1; cases h1
  have hn : n = rs.length := by
    rcases h5.2 with ⟨h7, _⟩ | ⟨g', cap', cur, h7, _⟩
    · cases h7
    · cases h7; rfl
  subst hn
  refine ⟨g, _, cap, rs, xs, hg, rfl, h2, h4, rfl, hi, ho, h3, h5, h6, fun j y hy => ?_⟩
  have hrow := row_at2 h2 hi
  have hat : at2 rs i j = some y := by simp [at2, hrow, hy]
  obtain ⟨q, hq, hr⟩ := h6 i j y hat
  have hc := h5.cells (g := g) rfl (i * B.z + j) q hq
  refine ⟨q, ?_, hr⟩
  rw [← hc]
  unfold Addr.add
  split
  · rename_i hz0; simp [hz0]
  · simp

theorem bel_cell {F : Fr} {H : Hp} {m : Mp} {w : World} (h : HRep F H m w) {k i off : Nat} {B : Bor} {u : Value} (hB : look H.bor k = some B) (hu : RepA F H m w (.bel k i off) u) :
    ∃ g n cap rs xs, F.br k = some (.slice (some ⟨g, 0, none⟩) n cap) ∧ u = .pointer (some ⟨g, i * B.con.z + off, none⟩) ∧ B.con.rows = some (B.con.z, rs) ∧ (∀ r ∈ rs, r.length = B.con.z) ∧ n = rs.length ∧ i < rs.length ∧ off < B.con.z ∧ 0 < B.con.z ∧
      w.ownsRow 0 B.e B.con.z (.slice (some ⟨g, 0, none⟩) n cap) rs.length xs ∧ RdRow w (F.S m) B.con.z rs xs ∧
      ∀ j y, (B.con.row i)[j]? = some y → ∃ q, w.cell? ⟨g, i * B.con.z + j, none⟩ = some q ∧ Rd w (F.S m) y q := by
  obtain ⟨B', g, n, cap, hB', hg, hi, ho, rfl⟩ := hu
  rw [hB] at hB'; cases hB'
  obtain ⟨B2, rs, xs, h1, h2, h3, h4, h5, h6⟩ := h.bor k _ hg
  rw [hB] at h1; cases h1
  have hn : n = rs.length := by
    rcases h5.2 with ⟨h7, _⟩ | ⟨g', cap', cur, h7, _⟩
    · cases h7
    · cases h7; rfl
  subst hn
  refine ⟨g, _, cap, rs, xs, hg, rfl, h2, h4, rfl, hi, ho, h3, h5, h6, fun j y hy => ?_⟩
  have hrow := row_at2 h2 hi
  have hat : at2 rs i j = some y := by simp [at2, hrow, hy]
  obtain ⟨q, hq, hr⟩ := h6 i j y hat
  have hc := h5.cells (g := g) rfl (i * B.con.z + j) q hq
  refine ⟨q, ?_, hr⟩
  rw [← hc]
  unfold Addr.add
  split
  · rename_i hz0; simp [hz0]
  · simp

theorem loadT_sound {H : Hp} {t : TypeId} {x : AV} {K : AV → Prop} (h : loadT P H t x K) :
    ∃ r, K r ∧ ∀ (F : Fr) (H' : Hp) (m : Mp) (w : World) (u : Value), Sup H' H → HRep F H' m w → RepA F H' m w x u → Yl P F H' m w (Instr.loadAt t u) r := by
  unfold loadT at h
  split at h
  · rename_i z id off hag
    split at h
    · rename_i cs hcs
      split at h
      · rename_i y hy
        refine ⟨y, h, fun F H' m w u hsup hrep hu => ?_⟩
        obtain ⟨b, hb, rfl⟩ := hu
        obtain ⟨cs', arr, e, h1, h2, h3, h4⟩ := hrep.box id b hb
        rw [hsup.1.1 id cs hcs] at h1; cases h1
        have hlt := (List.getElem?_eq_some_iff.1 hy).1
        have harr : arr[off]? = some arr[off] := Array.getElem?_eq_getElem (by omega)
        exact ⟨arr[off], loadAt_one hag (by simp [World.cell?, h2, harr]), (h4 off y _ hy harr).2⟩
      · exact h.elim
    · exact h.elim
  · rename_i z xs hag
    split at h
    · rename_i y ys
      refine ⟨_, h, fun F H' m w u hsup hrep hu => ?_⟩
      obtain ⟨b, off, rfl, hS, hc⟩ := hu
      obtain ⟨q, hq, hr⟩ := hc 0 y rfl
      exact ⟨q, loadAt_one hag hq, hr⟩
    · exact h.elim
  · rename_i z id ver i off hag
    split at h
    · rename_i B hB
      split at h
      · rename_i y hy
        refine ⟨_, h, fun F H' m w u hsup hrep hu => ?_⟩
        obtain ⟨hB1, hB2⟩ := curB_spec hB
        rw [← hsup.2] at hB1
        obtain ⟨g, n, cap, rs, xs, _, rfl, _, _, _, _, _, _, _, _, hcell⟩ := oel_cell hrep hB1 hB2 hu
        obtain ⟨q, hq, hr⟩ := hcell off y hy
        exact ⟨q, loadAt_one hag hq, hr⟩
      · exact h.elim
    · exact h.elim
  · rename_i z k i off hag
    split at h
    · rename_i B hB
      split at h
      · rename_i y hy
        refine ⟨_, h, fun F H' m w u hsup hrep hu => ?_⟩
        rw [← hsup.1.2] at hB
        obtain ⟨g, n, cap, rs, xs, _, rfl, _, _, _, _, _, _, _, _, hcell⟩ := bel_cell hrep hB hu
        obtain ⟨q, hq, hr⟩ := hcell off y hy
        exact ⟨q, loadAt_one hag hq, hr⟩
      · exact h.elim
    · exact h.elim
  · rename_i z id off hag hsz
    split at h
    · rename_i cs hcs
      split at h
      · rename_i l hl
        obtain ⟨hlen, hK⟩ := h
        refine ⟨_, hK, fun F H' m w u hsup hrep hu => ?_⟩
        obtain ⟨b, hb, rfl⟩ := hu
        obtain ⟨cs', arr, e, h1, h2, h3, h4⟩ := hrep.box id b hb
        rw [hsup.1.1 id cs hcs] at h1; cases h1
        obtain ⟨d, hd, hrow⟩ := aggO_row hag
        have hal := allC_spec hl
        have hlen2 : ((cs.drop off).take z).length = z := by rw [hal]; simp [hlen]
        have hvl : ((arr.toList.drop off).take z).length = z := by
          simp only [List.length_take, List.length_drop, Array.length_toList] at hlen2 ⊢
          omega
        have hget : ∀ (j : Nat) v, ((arr.toList.drop off).take z)[j]? = some v → j < z ∧ arr[off + j]? = some v := by
          intro j v hj
          have hjz := (List.getElem?_eq_some_iff.1 hj).1
          rw [hvl] at hjz
          rw [List.getElem?_take, if_pos hjz, List.getElem?_drop] at hj
          exact ⟨hjz, by simpa using hj⟩
        refine ⟨.agg ((arr.toList.drop off).take z).toArray, run_loadAt_mid w b off t _ d ?_ hd hrow ?_, _, rfl, by simp only; rw [hvl, hlen], ?_⟩
        · intro j v hj
          obtain ⟨_, hj⟩ := hget j v hj
          simp [World.cell?, h2, hj]
        · rw [hvl]; exact hsz
        · intro j y q hy hq
          obtain ⟨hjz, hq⟩ := hget j q hq
          have : ((cs.drop off).take z)[j]? = some (.c y) := by rw [hal]; simp [hy]
          rw [List.getElem?_take, if_pos hjz, List.getElem?_drop] at this
          exact (h4 (off + j) _ q this hq).2
      · exact h.elim
    · exact h.elim
  · rename_i z xs hag hsz
    obtain ⟨hlen, hK⟩ := h
    refine ⟨_, hK, fun F H' m w u hsup hrep hu => ?_⟩
    obtain ⟨b, off, rfl, hS, hc⟩ := hu
    obtain ⟨d, hd, hrow⟩ := aggO_row hag
    have hzx : z ≤ xs.length := by simp at hlen; omega
    have hex : ∀ j, ∃ q, j < z → ∃ y, xs[j]? = some y ∧ w.cell? ⟨b, off + j, none⟩ = some q ∧ Rd w (F.S m) y q := by
      intro j
      by_cases hj : j < z
      · obtain ⟨q, hq, hr⟩ := hc j xs[j] (List.getElem?_eq_getElem (by omega))
        exact ⟨q, fun _ => ⟨_, List.getElem?_eq_getElem (by omega), hq, hr⟩⟩
      · exact ⟨undef, fun h => absurd h hj⟩
    let f : Nat → Value := fun j => (hex j).choose
    have hf : ∀ j, j < z → ∃ y, xs[j]? = some y ∧ w.cell? ⟨b, off + j, none⟩ = some (f j) ∧ Rd w (F.S m) y (f j) := fun j hj => (hex j).choose_spec hj
    refine ⟨.agg ((List.range z).map f).toArray, run_loadAt_mid w b off t _ d ?_ hd hrow (by simp only [List.length_map, List.length_range]; exact hsz), _, rfl, by simp; omega, ?_⟩
    · intro j v hj
      have hjz := (List.getElem?_eq_some_iff.1 hj).1
      simp at hjz
      simp [List.getElem?_map, List.getElem?_range hjz] at hj
      subst hj
      obtain ⟨y, _, hq, _⟩ := hf j hjz
      exact hq
    · intro j y q hy hq
      have hjz := (List.getElem?_eq_some_iff.1 hq).1
      simp at hjz
      simp [List.getElem?_map, List.getElem?_range hjz] at hq
      subst hq
      rw [List.getElem?_take, if_pos hjz] at hy
      obtain ⟨y', hy', _, hr⟩ := hf j hjz
      rw [hy] at hy'; cases hy'
      exact hr
  · rename_i z id ver i off hag hsz
    split at h
    · rename_i B hB
      obtain ⟨hlen, hK⟩ := h
      refine ⟨_, hK, fun F H' m w u hsup hrep hu => ?_⟩
      obtain ⟨hB1, hB2⟩ := curB_spec hB
      rw [← hsup.2] at hB1
      obtain ⟨g, n, cap, rs, xs, _, rfl, hrows, hrl, _, hirs, hoff, _, _, _, hcell⟩ := oel_cell hrep hB1 hB2 hu
      obtain ⟨d, hd, hrow⟩ := aggO_row hag
      have hex : ∀ j, ∃ q, j < z → ∃ y, (B.con.row i)[off + j]? = some y ∧ w.cell? ⟨g, i * B.z + off + j, none⟩ = some q ∧ Rd w (F.S m) y q := by
        intro j
        by_cases hj : j < z
        · have hl : off + j < (B.con.row i).length := by simp at hlen; omega
          obtain ⟨q, hq, hr⟩ := hcell (off + j) (B.con.row i)[off + j] (List.getElem?_eq_getElem hl)
          exact ⟨q, fun _ => ⟨_, List.getElem?_eq_getElem hl, by rw [Nat.add_assoc]; exact hq, hr⟩⟩
        · exact ⟨undef, fun h => absurd h hj⟩
      let f : Nat → Value := fun j => (hex j).choose
      have hf : ∀ j, j < z → ∃ y, (B.con.row i)[off + j]? = some y ∧ w.cell? ⟨g, i * B.z + off + j, none⟩ = some (f j) ∧ Rd w (F.S m) y (f j) := fun j hj => (hex j).choose_spec hj
      refine ⟨.agg ((List.range z).map f).toArray, run_loadAt_mid w g (i * B.z + off) t _ d ?_ hd hrow (by simp only [List.length_map, List.length_range]; exact hsz), _, rfl, by rw [hlen]; simp, ?_⟩
      · intro j v hj
        have hjz := (List.getElem?_eq_some_iff.1 hj).1
        simp at hjz
        simp [List.getElem?_map, List.getElem?_range hjz] at hj
        subst hj
        obtain ⟨y, _, hq, _⟩ := hf j hjz
        exact hq
      · intro j y q hy hq
        have hjz := (List.getElem?_eq_some_iff.1 hq).1
        simp at hjz
        simp [List.getElem?_map, List.getElem?_range hjz] at hq
        subst hq
        rw [List.getElem?_take, if_pos hjz, List.getElem?_drop] at hy
        obtain ⟨y', hy', _, hr⟩ := hf j hjz
        rw [hy] at hy'; cases hy'
        exact hr
    · exact h.elim
  · exact h.elim


theorem szO_run {t : TypeId} {z : Nat} (h : szO P t = some z) (w : World) : (sizeOf t).run P w = .ok z w := by
  unfold szO at h
  obtain ⟨i, hi, rfl⟩ := Option.map_eq_some_iff.1 h
  simp [sizeOf, typeInfo, hi]

theorem elO_some {t e : TypeId} (h : elO P t = some e) : P.underlying t = some (.slice e) := by
  unfold elO at h
  split at h
  · rename_i e' he; cases h; exact he
  · cases h

theorem addr_add (b off n : Nat) : (⟨b, off, none⟩ : Addr).add n = ⟨b, off + n, none⟩ := by
  unfold Addr.add
  split
  · rename_i h; simp [h]
  · rfl

/-- a view's slice value and its cells -/
theorem rd_slice {w : World} {S : Nat → Prop} {c : C} {v : Value} {l : Nat} (h : Rd w S c v) (hl : c.len = some l) :
    ∃ p cap, v = .slice p l cap ∧ l ≤ cap ∧ l ≤ maxLen ∧ (p = none → cap = 0) ∧ (l = 0 ∨ ∃ z rs b off, c.rows = some (z, rs) ∧ 0 < z ∧ rs.length = l ∧ p = some ⟨b, off, none⟩ ∧ S b ∧ (∀ r ∈ rs, r.length = z) ∧
      ∀ i j y, at2 rs i j = some y → ∃ q, w.cell? ⟨b, off + (i * z + j), none⟩ = some q ∧ Rd w S y q) := by
  cases h with
  | a x h => simp [C.len] at hl
  | i k n => simp [C.len] at hl
  | b x => simp [C.len] at hl
  | str s => simp [C.len] at hl
  | e0 a cap => simp [C.len] at hl; subst hl; exact ⟨some a, cap, rfl, Nat.zero_le _, Nat.zero_le _, fun h => (by cases h), .inl rfl⟩
  | nil => simp [C.len] at hl; subst hl; exact ⟨none, 0, rfl, Nat.le_refl _, Nat.zero_le _, fun _ => rfl, .inl rfl⟩
  | emp c z p cap h hp =>
    have := (rows_z h).2
    rw [hl] at this; simp at this; subst this
    exact ⟨p, cap, rfl, Nat.zero_le _, Nat.zero_le _, hp, .inl rfl⟩
  | sl c z rs b off cap us h hne hz hm hcap hr hS hc hd =>
    have := (rows_z h).2
    rw [hl] at this; simp at this; subst this
    exact ⟨_, cap, rfl, hcap, hm, fun h => (by cases h), .inr ⟨z, rs, b, off, h, hz, rfl, rfl, hS, hr, fun i j y hy => ⟨us i j, hc i j y hy, hd i j y hy⟩⟩⟩

theorem own_slice {F : Fr} {H : Hp} {m : Mp} {w : World} (h : HRep F H m w) {id ver : Nat} {B : Buf} {u : Value} (hB : look H.buf id = some B) (hv : B.ver = ver) (hu : RepA F H m w (.own id ver) u) :
    ∃ rs xs, m.bf id = some u ∧ B.con.rows = some (B.z, rs) ∧ 0 < B.z ∧ (∀ r ∈ rs, r.length = B.z) ∧ w.ownsRow 0 B.e B.z u rs.length xs ∧ RdRow w (F.S m) B.z rs xs := by
  obtain ⟨_, B', hB', hle, hk⟩ := hu
  rw [hB] at hB'; cases hB'
  have hu := hk hv
  obtain ⟨B2, rs, xs, h1, h2, h3, h4, h5, h6⟩ := h.buf id _ hu
  rw [hB] at h1; cases h1
  exact ⟨rs, xs, hu, h2, h3, h4, h5, h6⟩

theorem ownsRow_val {w : World} {base : Nat} {e : TypeId} {z n : Nat} {u : Value} {xs : List Value} (h : w.ownsRow base e z u n xs) : ∃ p cap, u = .slice p n cap ∧ n ≤ cap ∧ n ≤ maxLen ∧ (n ≠ 0 → ∃ g, p = some ⟨g, 0, none⟩ ∧ u.ownBlock = some g) := by
  rcases h.2 with ⟨rfl, rfl⟩ | ⟨g, cap, cur, rfl, _, _, h1, h2, _⟩
  · exact ⟨none, 0, rfl, Nat.le_refl _, Nat.zero_le _, fun h => absurd rfl h⟩
  · exact ⟨_, cap, rfl, h1, Nat.le_trans h1 h2, fun _ => ⟨g, rfl, rfl⟩⟩

theorem indexAt_run {t e : TypeId} {z : Nat} (he : elO P t = some e) (hz : szO P e = some z) (k : IntKind) (n : Int) (b off l cap : Nat) (h0 : 0 ≤ n) (hn : n < (l : Int)) (w : World) :
    (Instr.indexAt t (.slice (some ⟨b, off, none⟩) l cap) (.int k n)).run P w = .ok (.pointer (some ⟨b, off + n.toNat * z, none⟩)) w := by
  simp [Instr.indexAt, asIntOf, run_underlying (elO_some he), h0, hn, szO_run hz, addr_add]

theorem indexAddrT_sound {H : Hp} {t : TypeId} {x i : AV} {K : AV → Prop} (h : indexAddrT P H t x i K) :
    ∃ r, K r ∧ ∀ (F : Fr) (H' : Hp) (m : Mp) (w : World) (u v : Value), Sup H' H → HRep F H' m w → RepA F H' m w x u → RepA F H' m w i v → Yl P F H' m w (Instr.indexAt t u v) r := by
  unfold indexAddrT at h
  split at h
  · rename_i e c k n he
    split at h
    · rename_i l hl
      obtain ⟨hz, ⟨h0, hn⟩, hK⟩ := h
      refine ⟨_, hK, fun F H' m w u v hsup hrep hu hv => ?_⟩
      obtain rfl := rep_i hv
      obtain ⟨p, cap, rfl, _, _, _, hor⟩ := rd_slice hu hl
      rcases hor with rfl | ⟨z, rs, b, off, hrows, hz0, hlen, rfl, hS, hr, hc⟩
      · omega
      · have hzz := (rows_z hrows).1
        rw [hzz] at hz
        refine ⟨_, indexAt_run he hz k n b off l cap h0 hn w, b, off + n.toNat * z, rfl, fun _ => hS, fun j y hy => ?_⟩
        have hi : n.toNat < rs.length := by omega
        have hat : at2 rs n.toNat j = some y := by simp [at2, row_at2 hrows hi, hy]
        obtain ⟨q, hq, hr⟩ := hc _ _ _ hat
        exact ⟨q, by rw [Nat.add_assoc]; exact hq, hr⟩
    · exact h.elim
  · rename_i e id ver k n he
    split at h
    · rename_i B hB
      split at h
      · rename_i l hl
        obtain ⟨hz, ⟨h0, hn⟩, hK⟩ := h
        refine ⟨_, hK, fun F H' m w u v hsup hrep hu hv => ?_⟩
        obtain rfl := rep_i hv
        obtain ⟨hB1, hB2⟩ := curB_spec hB
        rw [← hsup.2] at hB1
        obtain ⟨rs, xs, hm, hrows, hz0, hr, hown, hrd⟩ := own_slice hrep hB1 hB2 hu
        have hl2 := (rows_z hrows).2
        rw [hl] at hl2; simp at hl2; subst hl2
        obtain ⟨p, cap, rfl, _, _, hp⟩ := ownsRow_val hown
        obtain ⟨g, rfl, _⟩ := hp (by omega)
        refine ⟨_, indexAt_run he hz k n g 0 _ cap h0 hn w, B, hB1, by omega, fun _ => ⟨g, _, cap, hm, by omega, hz0, by simp⟩⟩
      · exact h.elim
    · exact h.elim
  · rename_i e kk lo len k n he
    split at h
    · rename_i B hB
      obtain ⟨hz, ⟨h0, hn⟩, hK⟩ := h
      refine ⟨_, hK, fun F H' m w u v hsup hrep hu hv => ?_⟩
      obtain rfl := rep_i hv
      rw [← hsup.1.2] at hB
      obtain ⟨_, B2, p, l, cap, hB3, hF, hll, hor⟩ := hu
      rw [hB] at hB3; cases hB3
      obtain ⟨B3, rs, xs, hB4, hrows, hz0, hr, hown, hrd⟩ := hrep.bor kk _ hF
      rw [hB] at hB4; cases hB4
      obtain ⟨p2, cap2, hsv, hcap, _, hp⟩ := ownsRow_val hown
      cases hsv
      obtain ⟨g, rfl, _⟩ := hp (by omega)
      rw [if_neg (by omega)] at hor
      simp only [Option.map_some, addr_add, Nat.zero_add] at hor
      subst hor
      exact ⟨_, indexAt_run he hz k n g (lo * B.con.z) _ _ h0 hn w, B, g, _, cap, hB, hF, by omega, hz0, by simp [Nat.add_mul]⟩
    · exact h.elim
  · rename_i e id ver lo len k n he
    split at h
    · rename_i B hB
      obtain ⟨hz, ⟨h0, hn⟩, hK⟩ := h
      refine ⟨_, hK, fun F H' m w u v hsup hrep hu hv => ?_⟩
      obtain rfl := rep_i hv
      obtain ⟨hB1, hB2⟩ := curB_spec hB
      rw [← hsup.2] at hB1
      obtain ⟨_, B2, hB3, hv2, hcur⟩ := hu
      rw [hB1] at hB3; cases hB3
      obtain ⟨p, l, cap, hm, hll, hor⟩ := hcur hB2
      obtain ⟨B3, rs, xs, hB4, hrows, hz0, hr, hown, hrd⟩ := hrep.buf id _ hm
      rw [hB1] at hB4; cases hB4
      obtain ⟨p2, cap2, hsv, hcap, _, hp⟩ := ownsRow_val hown
      cases hsv
      obtain ⟨g, rfl, _⟩ := hp (by omega)
      rw [if_neg (by omega)] at hor
      simp only [Option.map_some, addr_add, Nat.zero_add] at hor
      subst hor
      exact ⟨_, indexAt_run he hz k n g (lo * B.z) _ _ h0 hn w, B, hB1, by omega, fun _ => ⟨g, _, cap, hm, by omega, hz0, by simp [Nat.add_mul]⟩⟩
    · exact h.elim
  · exact h.elim

theorem fldO_some {t : TypeId} {f o : Nat} {ft : TypeId} (h : fldO P t f = some (o, ft)) : ∃ fs x, P.underlying t = some (.struct fs) ∧ fs[f]? = some x ∧ x.offset = o ∧ x.type = ft := by
  unfold fldO at h
  split at h
  · rename_i fs hu
    obtain ⟨x, hx, he⟩ := Option.map_eq_some_iff.1 h
    cases he
    exact ⟨fs, x, hu, hx, rfl, rfl⟩
  · cases h

theorem fieldAddrT_sound {s : TypeId} {x : AV} {f : Nat} {K : AV → Prop} (h : fieldAddrT P s x f K) :
    ∃ r, K r ∧ ∀ (F : Fr) (H : Hp) (m : Mp) (w : World) (u : Value), RepA F H m w x u → Yl P F H m w (Instr.fieldAt s u f) r := by
  unfold fieldAddrT at h
  split at h
  · rename_i o ft hf
    obtain ⟨fs, x', hu, hx', rfl, rfl⟩ := fldO_some hf
    split at h
    · rename_i z hz
      have hrun : ∀ (w : World) (b off : Nat), (Instr.fieldAt s (.pointer (some ⟨b, off, none⟩)) f).run P w = .ok (.pointer (some ⟨b, off + x'.offset, none⟩)) w := fun w b off => by
        simp [Instr.fieldAt, run_underlying hu, hx', Instr.sureAddr, fieldPlace, szO_run hz, addr_add]
      split at h
      · refine ⟨_, h, fun F H m w u hu => ?_⟩
        obtain ⟨b, hb, rfl⟩ := hu
        exact ⟨_, hrun w b _, b, hb, rfl⟩
      · refine ⟨_, h, fun F H m w u hu => ?_⟩
        obtain ⟨b, off, rfl, hS, hc⟩ := hu
        refine ⟨_, hrun w b off, b, _, rfl, fun hne => hS (fun e => hne (by subst e; simp)), fun j y hy => ?_⟩
        rw [List.getElem?_drop] at hy
        obtain ⟨q, hq, hr⟩ := hc _ y hy
        exact ⟨q, by rw [Nat.add_assoc]; exact hq, hr⟩
      · exact h.elim
    · exact h.elim
  · exact h.elim

theorem fieldT_sound {s : TypeId} {x : AV} {f : Nat} {K : AV → Prop} (h : fieldT P s x f K) :
    ∃ r, K r ∧ ∀ (F : Fr) (H : Hp) (m : Mp) (w : World) (u : Value), RepA F H m w x u → Yl P F H m w (Instr.field s u f) r := by
  unfold fieldT at h
  split at h
  · rename_i o ft xs hf
    obtain ⟨fs, x', hu, hx', rfl, rfl⟩ := fldO_some hf
    split at h
    · rename_i hag
      split at h
      · rename_i y hy
        refine ⟨_, h, fun F H m w u hrep => ?_⟩
        obtain ⟨vs, rfl, hl, hc⟩ := hrep
        have hlt := (List.getElem?_eq_some_iff.1 hy).1
        obtain ⟨q, hv⟩ : ∃ q, vs[x'.offset]? = some q := ⟨_, Array.getElem?_eq_getElem (by simp at hl; omega)⟩
        refine ⟨q, ?_, hc x'.offset y q hy (by simpa using hv)⟩
        simp [Instr.field, run_underlying hu, hx', asAgg, part, aggO_run hag, hv]
      · exact h.elim
    · rename_i z hag hsz
      refine ⟨_, h, fun F H m w u hrep => ?_⟩
      obtain ⟨vs, rfl, hl, hc⟩ := hrep
      refine ⟨.agg (vs.extract x'.offset (x'.offset + z)), ?_, _, rfl, ?_, fun j y q hy hq => ?_⟩
      · simp [Instr.field, run_underlying hu, hx', asAgg, part, aggO_run hag, szO_run hsz]
      · simp at hl ⊢
        omega
      · simp only [Array.toList_extract, List.extract] at hq
        have e1 : x'.offset + z - x'.offset = z := by omega
        rw [e1] at hq
        have hjz : j < z := by have := (List.getElem?_eq_some_iff.1 hy).1; simp at this; omega
        rw [List.getElem?_take, if_pos hjz, List.getElem?_drop] at hy hq
        exact hc _ y q hy hq
    · exact h.elim
  · exact h.elim

theorem extractT_sound {x : AV} {i : Nat} {K : AV → Prop} (h : extractT x i K) :
    ∃ r, K r ∧ ∀ (F : Fr) (H : Hp) (m : Mp) (w : World) (u : Value), RepA F H m w x u → Yl P F H m w (Instr.extract u i) r := by
  unfold extractT at h
  split at h
  · rename_i vs
    split at h
    · rename_i y hy
      refine ⟨_, h, fun F H m w u hrep => ?_⟩
      obtain ⟨us, rfl, hl, hc⟩ := hrep
      have hlt := (List.getElem?_eq_some_iff.1 hy).1
      obtain ⟨q, hv⟩ : ∃ q, us[i]? = some q := ⟨_, Array.getElem?_eq_getElem (by omega)⟩
      have hr := hc i y q hy hv
      refine ⟨q, by simp [Instr.extract, hv], ?_⟩
      cases y with
      | inl y => exact hr
      | inr ys => exact hr
    · exact h.elim
  · exact h.elim

/-- a byte of a text -/
def indexT (P : Program) (t : TypeId) (x i : AV) (K : AV → Prop) : Prop := match x, i with
  | .c (.str s), .c (.i _ n) => P.underlying t = some .string ∧ (0 ≤ n ∧ n < (s.size : Int)) ∧ K (.c (.i .u8 (s.data.toList.getD n.toNat 0).toNat))
  | _, _ => False

theorem indexT_sound {t : TypeId} {x i : AV} {K : AV → Prop} (h : indexT P t x i K) :
    ∃ r, K r ∧ ∀ (F : Fr) (H : Hp) (m : Mp) (w : World) (u v : Value), RepA F H m w x u → RepA F H m w i v → Yl P F H m w (Instr.index t u v) r := by
  unfold indexT at h
  split at h
  · rename_i s k n
    obtain ⟨hu, ⟨h0, h1⟩, hK⟩ := h
    refine ⟨_, hK, fun F H m w u v hx hi => ?_⟩
    have hi := rep_i hi
    have hx := rd_str hx
    subst hi; subst hx
    have hlt : n.toNat < s.size := by omega
    refine ⟨_, ?_, rep_int ..⟩
    have hg : s[n.toNat]? = some s[n.toNat] := getElem?_pos s n.toNat hlt
    have hd : s.data.toList.getD n.toNat 0 = s[n.toNat] := by
      have hlt2 : n.toNat < s.data.toList.length := by simpa using hlt
      rw [List.getD_eq_getElem?_getD, List.getElem?_eq_getElem hlt2]
      rfl
    rw [hd]
    simp [Instr.index, asIntOf, run_underlying hu, h0, hg]
  · exact h.elim

theorem lenT_sound {H : Hp} {t : TypeId} (ht : (elO P t).isSome = true ∨ P.underlying t = some .string) {x : AV} {K : AV → Prop} (h : lenT H x K) :
    ∃ r, K r ∧ ∀ (F : Fr) (H' : Hp) (m : Mp) (w : World) (u : Value) (ty : TypeId), Sup H' H → HRep F H' m w → RepA F H' m w x u →
      (P.underlying t = some .string → ∃ s, x = .c (.str s)) → ((elO P t).isSome = true → ∀ s, x ≠ .c (.str s)) → Yl P F H' m w (Builtin.len_ #[t] ty #[u]) r := by
  unfold lenT at h
  split at h
  · rename_i s
    refine ⟨_, h, fun F H' m w u ty hsup hrep hu h1 h2 => ?_⟩
    obtain rfl := rd_str hu
    have ht : P.underlying t = some .string := by
      rcases ht with ht | ht
      · exact absurd rfl (h2 ht s)
      · exact ht
    exact ⟨_, by simp [Builtin.len_, run_underlying ht, goInt], rep_int ..⟩
  · rename_i c hns
    split at h
    · rename_i l hl
      refine ⟨_, h, fun F H' m w u ty hsup hrep hu h1 h2 => ?_⟩
      obtain ⟨p, cap, rfl, _⟩ := rd_slice hu hl
      rcases ht with ht | ht
      · obtain ⟨e, he⟩ := Option.isSome_iff_exists.1 ht
        exact ⟨_, by simp [Builtin.len_, run_underlying (elO_some he), goInt], rep_int ..⟩
      · obtain ⟨s, hs⟩ := h1 ht
        cases hs
        exact absurd rfl (hns s)
    · exact h.elim
  · rename_i id ver
    split at h
    · rename_i B hB
      split at h
      · rename_i l hl
        refine ⟨_, h, fun F H' m w u ty hsup hrep hu h1 h2 => ?_⟩
        obtain ⟨hB1, hB2⟩ := curB_spec hB
        rw [← hsup.2] at hB1
        obtain ⟨rs, xs, hm, hrows, hz0, hr, hown, hrd⟩ := own_slice hrep hB1 hB2 hu
        have hl2 := (rows_z hrows).2
        rw [hl] at hl2; simp at hl2; subst hl2
        obtain ⟨p, cap, rfl, _⟩ := ownsRow_val hown
        rcases ht with ht | ht
        · obtain ⟨e, he⟩ := Option.isSome_iff_exists.1 ht
          exact ⟨_, by simp [Builtin.len_, run_underlying (elO_some he), goInt], rep_int ..⟩
        · obtain ⟨s, hs⟩ := h1 ht
          cases hs
      · exact h.elim
    · exact h.elim
  · rename_i id ver lo len
    split at h
    · rename_i B hB
      refine ⟨_, h, fun F H' m w u ty hsup hrep hu h1 h2 => ?_⟩
      obtain ⟨hB1, hB2⟩ := curB_spec hB
      rw [← hsup.2] at hB1
      obtain ⟨_, B2, hB3, hv2, hcur⟩ := hu
      rw [hB1] at hB3; cases hB3
      obtain ⟨p, l, cap, hm, hll, hor⟩ := hcur hB2
      subst hor
      rcases ht with ht | ht
      · obtain ⟨e, he⟩ := Option.isSome_iff_exists.1 ht
        exact ⟨_, by simp [Builtin.len_, run_underlying (elO_some he), goInt], rep_int ..⟩
      · obtain ⟨s, hs⟩ := h1 ht
        cases hs
    · exact h.elim
  · rename_i k lo len
    refine ⟨_, h, fun F H' m w u ty hsup hrep hu h1 h2 => ?_⟩
    obtain ⟨_, B2, p, l, cap, hB3, hF, hll, hor⟩ := hu
    subst hor
    rcases ht with ht | ht
    · obtain ⟨e, he⟩ := Option.isSome_iff_exists.1 ht
      exact ⟨_, by simp [Builtin.len_, run_underlying (elO_some he), goInt], rep_int ..⟩
    · obtain ⟨s, hs⟩ := h1 ht
      cases hs
  · exact h.elim

end Go.Abs
