/-
  The evaluation of single operations is sound: stores, append, make, cutting a buffer.
-/
import Derived.Test.YtggehgnmfjdkhaaAbsG
namespace Go.Abs
set_option linter.unusedSimpArgs false
set_option linter.unusedVariables false
open Go.RowKit

variable {P : Program}

/-- an operation that writes -/
def OpW (P : Program) (F : Fr) (H H' : Hp) (nx nx' : Nat) (o : Oper) (ev : Operand → AV) (r : AV) : Prop :=
  ∀ (m : Mp) (w : World) (ρ : Operand → Value), HRep F H m w → (∀ i, nx ≤ i → m.bx i = none ∧ m.bf i = none) → (∀ x ∈ o.op.operands, RepA F H m w (ev x) (ρ x)) →
    Exec P o ρ w fun v w' => ∃ m', HRep F H' m' w' ∧ Later F H m w H' m' w' ∧ (∀ i, nx' ≤ i → m'.bx i = none ∧ m'.bf i = none) ∧ RepA F H' m' w' r v

/-- the cells of what is stored into a box -/
def cellsAV : AV → Option (List AV)
  | .c x => some [.c x]
  | .g xs => some (xs.map .c)
  | .own id ver => some [.own id ver]
  | .bx id off => some [.bx id off]
  | _ => none

theorem cellsAV_rep {F : Fr} {H : Hp} {m : Mp} {w : World} {x : AV} {ys : List AV} {v : Value} (h : cellsAV x = some ys) (hr : RepA F H m w x v) :
    v.cells.size = ys.length ∧ ∀ (j : Nat) y u, ys[j]? = some y → v.cells[j]? = some u → oneCell u = true ∧ RepA F H m w y u := by
  have hone : oneCell v = true → v.cells = #[v] := fun h => by cases v <;> simp_all [Value.cells, Value.oneCell']
  have key : ∀ y, ys = [y] → oneCell v = true → RepA F H m w y v → v.cells.size = ys.length ∧ ∀ (j : Nat) y u, ys[j]? = some y → v.cells[j]? = some u → oneCell u = true ∧ RepA F H m w y u := by
    rintro y rfl h1 h2
    rw [hone h1]
    refine ⟨rfl, fun j y' u hy hu => ?_⟩
    match j with
    | 0 => simp at hy hu; subst hy; subst hu; exact ⟨h1, h2⟩
    | j + 1 => simp at hy
  cases x <;> simp [cellsAV] at h
  · exact key _ h.symm (Rd.one hr) hr
  · subst h
    obtain ⟨vs, rfl, hl⟩ := hr
    refine ⟨by have := hl.1; simpa [Value.cells] using this, fun j y u hy hu => ?_⟩
    simp only [List.getElem?_map, Option.map_eq_some_iff] at hy
    obtain ⟨c, hc, rfl⟩ := hy
    have := hl.2 j c u hc (by simpa [Value.cells] using hu)
    exact ⟨this.one, this⟩
  · have h1 : oneCell v = true := by obtain ⟨b, _, rfl⟩ := hr; rfl
    exact key _ h.symm h1 hr
  · exact key _ h.symm hr.1 hr

def storeT (P : Program) (H : Hp) (t : TypeId) (a x : AV) (K : Hp → Prop) : Prop := match a with
  | .bx id off => match look H.box id, cellsAV x with
    | some cs, some ys => szO P t = some ys.length ∧ off + ys.length ≤ cs.length ∧ K (H.addBox id (cs.take off ++ ys ++ cs.drop (off + ys.length)))
    | _, _ => False
  | .oel id ver i off => match curB H id ver, x with
    | some B, .c y => match B.con.put i off y with
      | some c => szO P t = some 1 ∧ K (H.addBuf id { B with con := c })
      | none => False
    | _, _ => False
  | .bel k i off => match look H.bor k, x with
    | some B, .c y => match B.con.put i off y with
      | some c => szO P t = some 1 ∧ K (H.addBor k { B with con := c })
      | none => False
    | _, _ => False
  | _ => False

theorem look_add {α : Type} (l : List (Nat × α)) (id : Nat) (x : α) : look ((id, x) :: l) id = some x := by simp [look]
theorem look_add_ne {α : Type} (l : List (Nat × α)) (id : Nat) (x : α) (i : Nat) (h : i ≠ id) : look ((id, x) :: l) i = look l i := by
  have : (id == i) = false := by simp; omega
  simp [look, this]

theorem getElem?_splice {α : Type} (l m : List α) (o : Nat) (h : o + m.length ≤ l.length) (j : Nat) :
    (l.take o ++ m ++ l.drop (o + m.length))[j]? = if o ≤ j ∧ j < o + m.length then m[j - o]? else l[j]? := by
  simp only [List.append_assoc, List.getElem?_append, List.length_take, List.getElem?_take, List.getElem?_drop]
  repeat' split
  all_goals first | omega | rfl | (congr 1; omega)

theorem put_rows {c c' : C} {z i off : Nat} {y : C} {rs : List (List C)} (h : c.rows = some (z, rs)) (hp : c.put i off y = some c') (hi : i < rs.length) (hr : ∀ r ∈ rs, r.length = z) (hoff : off < z) :
    ∃ rs', c'.rows = some (z, rs') ∧ rs'.length = rs.length ∧ (∀ r ∈ rs', r.length = z) ∧ ∀ a b q, at2 rs' a b = some q → (a = i ∧ b = off ∧ q = y) ∨ (¬ (a = i ∧ b = off) ∧ at2 rs a b = some q) := by
  have gen : ∀ r', r'.length = z → (∀ b q, r'[b]? = some q → (b = off ∧ q = y) ∨ (b ≠ off ∧ at2 rs i b = some q)) → (∀ r ∈ rs.set i r', r.length = z) ∧ (rs.set i r').length = rs.length ∧
      ∀ a b q, at2 (rs.set i r') a b = some q → (a = i ∧ b = off ∧ q = y) ∨ (¬ (a = i ∧ b = off) ∧ at2 rs a b = some q) := by
    intro r' hl hq
    refine ⟨fun r hm => ?_, by simp, fun a b q hat => ?_⟩
    · rcases List.mem_or_eq_of_mem_set hm with h1 | h1
      · exact hr r h1
      · subst h1; exact hl
    · unfold at2 at hat
      by_cases ha : i = a
      · subst ha
        rw [List.getElem?_set_self hi] at hat
        simp only [Option.bind_some] at hat
        rcases hq b q hat with ⟨h1, h2⟩ | ⟨h1, h2⟩
        · exact .inl ⟨rfl, h1, h2⟩
        · exact .inr ⟨fun h => h1 h.2, h2⟩
      · rw [List.getElem?_set_ne ha] at hat
        exact .inr ⟨fun h => ha h.1.symm, hat⟩
  cases c <;> simp [C.rows] at h
  · rename_i k xs
    obtain ⟨rfl, rfl⟩ := h
    obtain rfl : off = 0 := by omega
    cases y <;> simp [C.put] at hp
    rename_i k' n
    obtain ⟨rfl, rfl⟩ := hp
    obtain ⟨g1, g2, g3⟩ := gen [.i k n] rfl (fun b q hb => by
      match b with
      | 0 => simp at hb; exact .inl ⟨rfl, hb.symm⟩
      | b + 1 => simp at hb)
    refine ⟨_, rfl, ?_, ?_, ?_⟩ <;> rw [List.map_set]
    · exact g2
    · exact g1
    · exact g3
  · rename_i xs
    obtain ⟨rfl, rfl⟩ := h
    obtain rfl : off = 0 := by omega
    cases y <;> simp [C.put] at hp
    rename_i n
    subst hp
    obtain ⟨g1, g2, g3⟩ := gen [.b n] rfl (fun b q hb => by
      match b with
      | 0 => simp at hb; exact .inl ⟨rfl, hb.symm⟩
      | b + 1 => simp at hb)
    refine ⟨_, rfl, ?_, ?_, ?_⟩ <;> rw [List.map_set]
    · exact g2
    · exact g1
    · exact g3
  · rename_i z' xs
    obtain ⟨rfl, rfl⟩ := h
    have hp' : c' = .sl z' (xs.set i ((xs.getD i []).set off y)) := by cases off <;> simp [C.put] at hp <;> rw [← hp] <;> simp
    subst hp'
    have hxi : xs[i]? = some xs[i] := List.getElem?_eq_getElem hi
    have hgd : xs.getD i [] = xs[i] := by simp [hxi]
    rw [hgd]
    have hlx : xs[i].length = z' := hr _ (List.getElem_mem hi)
    obtain ⟨g1, g2, g3⟩ := gen (xs[i].set off y) (by simp [hlx]) (fun b q hb => by
      by_cases hbo : off = b
      · subst hbo
        rw [List.getElem?_set_self (by omega)] at hb
        exact .inl ⟨rfl, (Option.some.inj hb).symm⟩
      · rw [List.getElem?_set_ne hbo] at hb
        exact .inr ⟨fun h => hbo h.symm, by simp [at2, hxi, hb]⟩)
    exact ⟨_, rfl, g2, g1, g3⟩

theorem storeT_sound {H : Hp} {nx : Nat} {o : Oper} {ev : Operand → AV} {t : TypeId} {a x : Operand} (ho : o.op = .store t a x) {K : Hp → Prop} (h : storeT P H t (ev a) (ev x) K) :
    ∃ H', K H' ∧ ∀ F : Fr, OpW P F H H' nx nx o ev .u := by
  unfold storeT at h
  split at h
  · rename_i id off heva
    split at h
    · rename_i cs ys hcs hys
      obtain ⟨hsz, hle, hK⟩ := h
      refine ⟨_, hK, fun F m w ρ hrep hfree hops => ?_⟩
      have ha := hops a (by simp [ho, Op.operands])
      have hx := hops x (by simp [ho, Op.operands])
      rw [heva] at ha
      obtain ⟨b, hb, hρ⟩ := ha
      obtain ⟨cs', arr, e, h1, h2, h3, h4⟩ := hrep.box id b hb
      rw [hcs] at h1; cases h1
      obtain ⟨hvl, hv⟩ := cellsAV_rep hys hx
      have hone : ∀ u ∈ (ρ x).cells.toList, u.oneCell' = true := by
        intro u hu
        obtain ⟨j, hj⟩ := List.getElem?_of_mem hu
        have hjl := (List.getElem?_eq_some_iff.1 hj).1
        have hy : ys[j]? = some (ys[j]'(by simp at hjl; omega)) := List.getElem?_eq_getElem _
        exact (hv j _ u hy (by simpa using hj)).1
      have hst := run_storeCells_at P b off e (ρ x).cells.toList 0 arr w h2 (by simp; omega) hone
      simp only [Nat.add_zero, Array.length_toList, hvl] at hst
      have hrun : (execOp ρ o).run P w = .ok .skip (w.setRow b (arr.toList.take off ++ (ρ x).cells.toList ++ arr.toList.drop (off + ys.length)).toArray) := by
        simp [execOp, ho, Instr.storeAt, hρ, Instr.sureAddr, storeVar, szO_run hsz, hvl, hst]
      unfold Exec
      rw [hrun]
      obtain ⟨g1, g2⟩ := hrep.setBox (H' := H.addBox id (cs.take off ++ ys ++ cs.drop (off + ys.length))) (arr' := (arr.toList.take off ++ (ρ x).cells.toList ++ arr.toList.drop (off + ys.length)).toArray) hb hcs h2 (by simp; omega) (fun j y u hy hu => by
        rw [getElem?_splice cs ys off hle] at hy
        have hu' : (arr.toList.take off ++ (ρ x).cells.toList ++ arr.toList.drop (off + (ρ x).cells.toList.length))[j]? = some u := by simpa [hvl] using hu
        rw [getElem?_splice _ _ off (by simp; omega)] at hu'
        simp only [Array.length_toList, hvl] at hu'
        split at hy
        · rename_i hj; rw [if_pos hj] at hu'; exact hv _ y u hy (by simpa using hu')
        · rename_i hj; rw [if_neg hj] at hu'; exact h4 j y u hy (by simpa using hu')) (look_add ..) (fun i hi => look_add_ne _ _ _ _ hi) rfl rfl
      exact ⟨m, g1, g2, hfree, trivial⟩
    · exact h.elim
  · rename_i id ver i off heva
    split at h
    · rename_i B y hB hevx
      split at h
      · rename_i c hc
        obtain ⟨hsz, hK⟩ := h
        refine ⟨_, hK, fun F m w ρ hrep hfree hops => ?_⟩
        have ha := hops a (by simp [ho, Op.operands])
        have hx := hops x (by simp [ho, Op.operands])
        rw [heva] at ha
        rw [hevx] at hx
        obtain ⟨hB1, hB2⟩ := curB_spec hB
        obtain ⟨g, n, cap, rs, xs, hm, hρ, hrows, hrl, rfl, hi, hoff, hz0, hown, hrd, _⟩ := oel_cell hrep hB1 hB2 ha
        obtain ⟨rs', hrows', hlen', hrl', hat'⟩ := put_rows hrows hc hi hrl hoff
        have hone : oneCell (ρ x) = true := Rd.one hx
        have hvc : (ρ x).cells = #[ρ x] := by cases hq : ρ x <;> simp_all [Value.cells, Value.oneCell']
        have hjlt : i * B.z + off < rs.length * B.z := by
          have : (i + 1) * B.z ≤ rs.length * B.z := Nat.mul_le_mul_right _ hi
          rw [Nat.add_mul] at this; omega
        have hcell := hown.cellAt (i * B.z + off) hjlt
        have hxl : xs.length = rs.length * B.z := hown.1
        have hcs : w.cell? ⟨g, i * B.z + off, none⟩ = some (xs[i * B.z + off]'(by omega)) := by rw [hcell]; exact List.getElem?_eq_getElem _
        have hfz := hown.frozenAt (i * B.z + off)
        obtain ⟨hst1, hst2⟩ := hown.stored (i * B.z + off) (ρ x)
        have hrun : (execOp ρ o).run P w = .ok .skip (w.setCell ⟨g, i * B.z + off, none⟩ (ρ x)) := by
          simp [execOp, ho, Instr.storeAt, hρ, Instr.sureAddr, storeVar, szO_run hsz, hvc, storeCells, addr_add, run_store P w _ _ _ hone, hcs, hfz]
        unfold Exec
        rw [hrun]
        obtain ⟨g1, g2⟩ := hrep.bufStep (id := id) (row := some g) (B' := { B with con := c }) (v' := .slice (some ⟨g, 0, none⟩) rs.length cap) (rs := rs') (xs := xs.set (i * B.z + off) (ρ x)) (H' := H.addBuf id { B with con := c })
          hst2 (fun g' hg' => by cases hg'; exact ⟨_, hm, rfl⟩) (fun g' hg' => by simp [Value.ownBlock] at hg'; subst hg'; exact .inl rfl)
          (fun B2 hB2' => by rw [hB1] at hB2'; cases hB2'; exact .inr ⟨rfl, hm, rfl⟩) (look_add ..) (fun j hj => look_add_ne _ _ _ _ hj) rfl rfl hrows' hz0 hrl' (by rw [hlen']; exact hst1)
          (fun a b q hat => by
            have hab : a < rs.length ∧ b < B.z := by have := at2_lt hrl' hat; omega
            rcases hat' a b q hat with ⟨rfl, rfl, rfl⟩ | ⟨hne, hq⟩
            · exact ⟨ρ x, by rw [List.getElem?_set_self (by omega)], hx⟩
            · obtain ⟨u, hu, hr⟩ := hrd a b q hq
              refine ⟨u, ?_, hr⟩
              rw [List.getElem?_set_ne]
              · exact hu
              · intro e
                dsimp only at e
                apply hne
                have e1 : i = a := by
                  have h1 : (i * B.z + off) / B.z = i := by rw [Nat.mul_comm, Nat.mul_add_div hz0, Nat.div_eq_of_lt hoff]; simp
                  have h2 : (a * B.z + b) / B.z = a := by rw [Nat.mul_comm, Nat.mul_add_div hz0, Nat.div_eq_of_lt hab.2]; simp
                  rw [e] at h1; omega
                subst e1
                exact ⟨rfl, by omega⟩)
        refine ⟨_, g1, g2, fun j hj => ?_, trivial⟩
        obtain ⟨hf1, hf2⟩ := hfree j hj
        refine ⟨hf1, ?_⟩
        simp only [Mp.addBf]
        split
        · subst j; rw [hm] at hf2; cases hf2
        · exact hf2
      · exact h.elim
    · exact h.elim
  · rename_i k i off heva
    split at h
    · rename_i B y hB hevx
      split at h
      · rename_i c hc
        obtain ⟨hsz, hK⟩ := h
        refine ⟨_, hK, fun F m w ρ hrep hfree hops => ?_⟩
        have ha := hops a (by simp [ho, Op.operands])
        have hx := hops x (by simp [ho, Op.operands])
        rw [heva] at ha
        rw [hevx] at hx
        obtain ⟨g, n, cap, rs, xs, hm, hρ, hrows, hrl, rfl, hi, hoff, hz0, hown, hrd, _⟩ := bel_cell hrep hB ha
        obtain ⟨rs', hrows', hlen', hrl', hat'⟩ := put_rows hrows hc hi hrl hoff
        have hcz : c.z = B.con.z := (rows_z hrows').1
        have hone : oneCell (ρ x) = true := Rd.one hx
        have hvc : (ρ x).cells = #[ρ x] := by cases hq : ρ x <;> simp_all [Value.cells, Value.oneCell']
        generalize hz : B.con.z = z at *
        have hjlt : i * z + off < rs.length * z := by
          have : (i + 1) * z ≤ rs.length * z := Nat.mul_le_mul_right _ hi
          rw [Nat.add_mul] at this; omega
        have hcell := hown.cellAt (i * z + off) hjlt
        have hxl : xs.length = rs.length * z := hown.1
        have hcs : w.cell? ⟨g, i * z + off, none⟩ = some (xs[i * z + off]'(by omega)) := by rw [hcell]; exact List.getElem?_eq_getElem _
        have hfz := hown.frozenAt (i * z + off)
        obtain ⟨hst1, hst2⟩ := hown.stored (i * z + off) (ρ x)
        have hrun : (execOp ρ o).run P w = .ok .skip (w.setCell ⟨g, i * z + off, none⟩ (ρ x)) := by
          simp [execOp, ho, Instr.storeAt, hρ, Instr.sureAddr, storeVar, szO_run hsz, hvc, storeCells, addr_add, run_store P w _ _ _ hone, hcs, hfz]
        unfold Exec
        rw [hrun]
        obtain ⟨g1, g2⟩ := hrep.borStep (k := k) (B := B) (B' := { B with con := c }) (v := .slice (some ⟨g, 0, none⟩) rs.length cap) (rs := rs') (xs := xs.set (i * z + off) (ρ x)) (H' := H.addBor k { B with con := c })
          hm hst2 hB (by show c.z = B.con.z; rw [hcz, hz]) (look_add ..) (fun j hj => look_add_ne _ _ _ _ hj) rfl rfl (by show c.rows = some (c.z, rs'); rw [hcz]; exact hrows') (by show 0 < c.z; rw [hcz]; exact hz0) (by show ∀ r ∈ rs', r.length = c.z; rw [hcz]; exact hrl')
          (by show (w.setCell ⟨g, i * z + off, none⟩ (ρ x)).ownsRow 0 B.e c.z _ rs'.length _; rw [hlen', hcz]; exact hst1)
          (by
            show RdRow w (F.S m) c.z rs' _
            rw [hcz]
            intro a b q hat
            have hab : a < rs.length ∧ b < z := by have := at2_lt hrl' hat; omega
            rcases hat' a b q hat with ⟨rfl, rfl, rfl⟩ | ⟨hne, hq⟩
            · exact ⟨ρ x, by rw [List.getElem?_set_self (by omega)], hx⟩
            · obtain ⟨u, hu, hr⟩ := hrd a b q hq
              refine ⟨u, ?_, hr⟩
              rw [List.getElem?_set_ne]
              · exact hu
              · intro e
                apply hne
                have e1 : i = a := by
                  have h1 : (i * z + off) / z = i := by rw [Nat.mul_comm, Nat.mul_add_div hz0, Nat.div_eq_of_lt hoff]; simp
                  have h2 : (a * z + b) / z = a := by rw [Nat.mul_comm, Nat.mul_add_div hz0, Nat.div_eq_of_lt hab.2]; simp
                  rw [e] at h1; omega
                subst e1
                exact ⟨rfl, by omega⟩)
        exact ⟨m, g1, g2, hfree, trivial⟩
      · exact h.elim
    · exact h.elim
  · exact h.elim


/-- the content of a source: a view's, or a buffer's -/
def srcC (H : Hp) : AV → Option C
  | .c c => match c.len with | some _ => some c | none => none
  | .own id ver => match curB H id ver with | some B => some B.con | none => none
  | _ => none

/-- the source's cells, one after another -/
theorem src_cells {F : Fr} {H : Hp} {m : Mp} {w : World} (hrep : HRep F H m w) {y : AV} {c : C} {v : Value} (hs : srcC H y = some c) (hy : RepA F H m w y v) :
    (c = .nil ∧ v = .slice none 0 0) ∨ (c = .e0 ∧ ∃ a cap, v = .slice (some a) 0 cap) ∨ ∃ z rs, c.rows = some (z, rs) ∧ ((rs = [] ∧ ∃ p cap, v = .slice p 0 cap ∧ (p = none → cap = 0)) ∨
      ∃ b off cap news, 0 < z ∧ (∀ r ∈ rs, r.length = z) ∧ v = .slice (some ⟨b, off, none⟩) rs.length cap ∧ news.length = rs.length * z ∧ (∀ (j : Nat) u, news[j]? = some u → w.cell? ⟨b, off + j, none⟩ = some u ∧ oneCell u = true) ∧ RdRow w (F.S m) z rs news) := by
  cases y <;> simp only [srcC] at hs <;> try cases hs
  · rename_i c'
    split at hs
    · rename_i l hl
      cases hs
      by_cases hn : c = .nil
      · subst hn; exact .inl ⟨rfl, rd_nil hy⟩
      by_cases hn0 : c = .e0
      · subst hn0
        refine .inr (.inl ⟨rfl, ?_⟩)
        exact rd_e0 hy
      · right; right
        have hrows : ∃ z' rs, c.rows = some (z', rs) := by cases c <;> simp_all [C.len, C.rows]
        obtain ⟨z, rs, hrows⟩ := hrows
        have hlen := (rows_z hrows).2
        rw [hl] at hlen; simp at hlen
        refine ⟨z, rs, hrows, ?_⟩
        obtain ⟨p, cap, rfl, hcap, hmax, hpn, hor⟩ := rd_slice hy hl
        rcases hor with h0 | ⟨z', rs', b, off, hrows', hz0, hlen', rfl, hS, hr, hc⟩
        · left
          subst h0
          exact ⟨List.eq_nil_of_length_eq_zero hlen.symm, p, cap, rfl, hpn⟩
        · rw [hrows] at hrows'; cases hrows'
          right
          have hex : ∀ k, ∃ q, k < rs.length * z → ∃ y, at2 rs (k / z) (k % z) = some y ∧ w.cell? ⟨b, off + k, none⟩ = some q ∧ Rd w (F.S m) y q := by
            intro k
            by_cases hk : k < rs.length * z
            · have h1 : k / z < rs.length := Nat.div_lt_of_lt_mul (by rw [Nat.mul_comm]; exact hk)
              have h2 : k % z < z := Nat.mod_lt _ hz0
              obtain ⟨y, hy⟩ := at2_in hr h1 h2
              obtain ⟨q, hq, hrd⟩ := hc _ _ _ hy
              have e : k / z * z + k % z = k := by rw [Nat.mul_comm]; exact Nat.div_add_mod k z
              rw [e] at hq
              exact ⟨q, fun _ => ⟨y, hy, hq, hrd⟩⟩
            · exact ⟨undef, fun h => absurd h hk⟩
          let f : Nat → Value := fun k => (hex k).choose
          have hf : ∀ k, k < rs.length * z → ∃ y, at2 rs (k / z) (k % z) = some y ∧ w.cell? ⟨b, off + k, none⟩ = some (f k) ∧ Rd w (F.S m) y (f k) := fun k hk => (hex k).choose_spec hk
          refine ⟨b, off, cap, (List.range (rs.length * z)).map f, hz0, hr, by rw [← hlen'], by simp, fun j u hu => ?_, fun i j y hy => ?_⟩
          · have hj := (List.getElem?_eq_some_iff.1 hu).1
            simp only [List.length_map, List.length_range] at hj
            simp [List.getElem?_map, List.getElem?_range hj] at hu
            subst hu
            obtain ⟨y, _, h2, h3⟩ := hf j hj
            exact ⟨h2, h3.one⟩
          · obtain ⟨h1, h2⟩ := at2_lt hr hy
            have hk : i * z + j < rs.length * z := by
              have : (i + 1) * z ≤ rs.length * z := Nat.mul_le_mul_right _ h1
              rw [Nat.add_mul] at this; omega
            obtain ⟨y', h3, h4, h5⟩ := hf _ hk
            have e1 : (i * z + j) / z = i := by rw [Nat.mul_comm, Nat.mul_add_div hz0, Nat.div_eq_of_lt h2]; simp
            have e2 : (i * z + j) % z = j := by rw [Nat.mul_comm, Nat.mul_add_mod, Nat.mod_eq_of_lt h2]
            rw [e1, e2, hy] at h3
            cases h3
            exact ⟨f (i * z + j), by simp [List.getElem?_map, List.getElem?_range hk], h5⟩
    · cases hs
  · rename_i id ver
    split at hs
    · rename_i B hB
      cases hs
      obtain ⟨hB1, hB2⟩ := curB_spec hB
      obtain ⟨rs, xs, hm, hrows, hz0, hr, hown, hrd⟩ := own_slice hrep hB1 hB2 hy
      right; right
      refine ⟨B.z, rs, hrows, ?_⟩
      rcases hown.2 with ⟨rfl, h0⟩ | ⟨g, cap, cur, rfl, hbg, hgg, hnc, hcm, hcs, htake⟩
      · left; exact ⟨List.eq_nil_of_length_eq_zero h0, none, 0, rfl, fun _ => rfl⟩
      · right
        refine ⟨g, 0, cap, xs, hz0, hr, rfl, hown.1, fun j u hu => ?_, hrd⟩
        have hc := hown.cells (g := g) rfl j u hu
        rw [addr_add] at hc
        refine ⟨hc, ?_⟩
        have hj := (List.getElem?_eq_some_iff.1 hu).1
        rw [hown.1] at hj
        have h1 : j / B.z < rs.length := Nat.div_lt_of_lt_mul (by rw [Nat.mul_comm]; exact hj)
        have h2 : j % B.z < B.z := Nat.mod_lt _ hz0
        obtain ⟨y, hyy⟩ := at2_in hr h1 h2
        obtain ⟨q, hq, hrq⟩ := hrd _ _ _ hyy
        have e : j / B.z * B.z + j % B.z = j := by rw [Nat.mul_comm]; exact Nat.div_add_mod j B.z
        rw [e, hu] at hq
        cases hq
        exact hrq.one
    · cases hs

theorem app_rows {c c2 c3 : C} {z : Nat} {rs : List (List C)} (h : c.rows = some (z, rs)) (ha : c.app c2 = some c3) (hns : ∀ s, c2 ≠ .str s) :
    ((c2 = .nil ∨ c2 = .e0) ∧ c3 = c) ∨ ∃ rs2, c2.rows = some (z, rs2) ∧ c3.rows = some (z, rs ++ rs2) := by
  cases c <;> simp [C.rows] at h
  · obtain ⟨rfl, rfl⟩ := h
    cases c2 <;> simp [C.app] at ha
    · rename_i k xs s; exact absurd rfl (hns s)
    · exact .inl ⟨.inl rfl, ha.symm⟩
    · exact .inl ⟨.inr rfl, ha.symm⟩
    · obtain ⟨rfl, rfl⟩ := ha
      exact .inr ⟨_, rfl, by simp [C.rows]⟩
  · obtain ⟨rfl, rfl⟩ := h
    cases c2 <;> simp [C.app] at ha
    · exact .inl ⟨.inl rfl, ha.symm⟩
    · exact .inl ⟨.inr rfl, ha.symm⟩
    · subst ha
      exact .inr ⟨_, rfl, by simp [C.rows]⟩
  · obtain ⟨rfl, rfl⟩ := h
    cases c2 <;> simp [C.app] at ha
    · exact .inl ⟨.inl rfl, ha.symm⟩
    · exact .inl ⟨.inr rfl, ha.symm⟩
    · obtain ⟨rfl, rfl⟩ := ha
      exact .inr ⟨_, rfl, by simp [C.rows]⟩

theorem RdRow.append {w : World} {S : Nat → Prop} {z : Nat} {rs rs2 : List (List C)} {xs ys : List Value} (h : RdRow w S z rs xs) (k : RdRow w S z rs2 ys) (hx : xs.length = rs.length * z) (hr : ∀ r ∈ rs, r.length = z) : RdRow w S z (rs ++ rs2) (xs ++ ys) := by
  intro i j y hy
  unfold at2 at hy
  by_cases hi : i < rs.length
  · rw [List.getElem?_append_left hi] at hy
    obtain ⟨h1, h2⟩ := at2_lt hr (show at2 rs i j = some y from hy)
    obtain ⟨u, hu, hrd⟩ := h i j y hy
    refine ⟨u, ?_, hrd⟩
    rw [List.getElem?_append_left]
    · exact hu
    · have : (i + 1) * z ≤ rs.length * z := Nat.mul_le_mul_right _ h1
      rw [Nat.add_mul] at this; omega
  · rw [List.getElem?_append_right (by omega)] at hy
    obtain ⟨u, hu, hrd⟩ := k (i - rs.length) j y hy
    refine ⟨u, ?_, hrd⟩
    have e : i * z = rs.length * z + (i - rs.length) * z := by rw [← Nat.add_mul]; congr 1; omega
    rw [List.getElem?_append_right (by omega)]
    rw [← hu]
    congr 1
    omega

end Go.Abs
