/-
  One state fits another; functions.
-/
import Derived.Test.YtggehgnmfjdkhaaAbsL
namespace Go.Abs
set_option linter.unusedSimpArgs false
set_option linter.unusedVariables false
open Go.RowKit

variable {P : Program}

/-- a value of one state told as a value of another -/
def fitAV (H H' : Hp) (x y : AV) : Prop := match y with
  | .u => True
  | .own id ver => match x with
    | .own id0 ver0 => id0 = id ∧ (curB H id0 ver0).isSome = true ∧ (curB H' id ver).isSome = true
    | .c .nil => look H.buf id = none ∧ (curB H' id ver).isSome = true
    | _ => False
  | .c c' => match x with
    | .c .nil => c' = .nil ∨ c'.rows = some (c'.z, [])
    | .c c => c = c'
    | .own id0 ver0 => match curB H id0 ver0 with
      | some B => look H'.buf id0 = none ∧ B.con = c'
      | none => False
    | _ => False
  | .bx id off => x = .bx id off ∧ (look H'.box id).isSome = true
  | .oel _ _ _ _ => False
  | .win _ _ _ _ => False
  | .bel _ _ _ => False
  | .bw k lo len => x = .bw k lo len ∧ (match look H.bor k, look H'.bor k with | some B, some B' => B.con = B'.con | _, _ => False)
  | .g xs => x = .g xs
  | .t l => x = .t l
  | .el xs => x = .el xs

def fitL (H H' : Hp) : List AV → List AV → Prop
  | [], [] => True
  | x :: xs, y :: ys => fitAV H H' x y ∧ fitL H H' xs ys
  | _, _ => False

def fitBox (st st' : St) : List (Nat × List AV) → Prop
  | [] => True
  | (id, cs') :: l => id < st'.nx ∧ (match look st.H.box id with | some cs => fitL st.H st'.H cs cs' | none => st.nx ≤ id) ∧ fitBox st st' l
def fitBuf (st st' : St) : List (Nat × Buf) → Prop
  | [] => True
  | (id, B') :: l => id < st'.nx ∧ (match look st.H.buf id with
      | some B => B.con = B'.con ∧ B.z = B'.z ∧ B.e = B'.e
      | none => st.nx ≤ id ∧ B'.con.rows = some (B'.z, []) ∧ 0 < B'.z) ∧ fitBuf st st' l
def fitSl (st st' : St) : List (Nat × AV) → Prop
  | [] => True
  | (t, y) :: l => fitAV st.H st'.H (st.get t) y ∧ fitSl st st' l

/-- what was handed over is told alike -/
def fitBor (st st' : St) : List (Nat × Bor) → Prop
  | [] => True
  | (k, _) :: l => (match look st.H.bor k, look st'.H.bor k with | some B, some B' => B.e = B'.e ∧ B.con = B'.con | _, _ => False) ∧ fitBor st st' l

/-- told in the simplest way: no slot, box or buffer stands twice on the second side -/
def FitP (st st' : St) : Prop := st'.n = st.n ∧ fitSl st st' st'.sl ∧ fitBox st st' st'.H.box ∧ fitBuf st st' st'.H.buf ∧ fitBor st st' st.H.bor

theorem fitBor_get {st st' : St} : ∀ {l : List (Nat × Bor)} {k : Nat} {B0 : Bor}, fitBor st st' l → look l k = some B0 → ∃ B B', look st.H.bor k = some B ∧ look st'.H.bor k = some B' ∧ B.e = B'.e ∧ B.con = B'.con
  | [], k, B0, h, hl => by simp [look] at hl
  | (k', B1) :: l, k, B0, h, hl => by
    simp only [look] at hl
    split at hl
    · rename_i he
      simp at he; subst he
      have := h.1
      split at this
      · rename_i B B' h1 h2; exact ⟨B, B', h1, h2, this.1, this.2⟩
      · exact this.elim
    · exact fitBor_get h.2 hl

theorem fitSl_get {st st' : St} : ∀ {l : List (Nat × AV)} {t : Nat} {y : AV}, fitSl st st' l → look l t = some y → fitAV st.H st'.H (st.get t) y
  | [], t, y, h, hl => by simp [look] at hl
  | (t', y') :: l, t, y, h, hl => by
    simp only [look] at hl
    split at hl
    · rename_i he; cases hl; simp at he; subst he; exact h.1
    · exact fitSl_get h.2 hl
theorem fitBox_get {st st' : St} : ∀ {l : List (Nat × List AV)} {id : Nat} {cs' : List AV}, fitBox st st' l → look l id = some cs' → id < st'.nx ∧ (match look st.H.box id with | some cs => fitL st.H st'.H cs cs' | none => st.nx ≤ id)
  | [], t, y, h, hl => by simp [look] at hl
  | (t', y') :: l, t, y, h, hl => by
    simp only [look] at hl
    split at hl
    · rename_i he; cases hl; simp at he; subst he; exact ⟨h.1, h.2.1⟩
    · exact fitBox_get h.2.2 hl
theorem fitBuf_get {st st' : St} : ∀ {l : List (Nat × Buf)} {id : Nat} {B' : Buf}, fitBuf st st' l → look l id = some B' → id < st'.nx ∧ (match look st.H.buf id with
      | some B => B.con = B'.con ∧ B.z = B'.z ∧ B.e = B'.e
      | none => st.nx ≤ id ∧ B'.con.rows = some (B'.z, []) ∧ 0 < B'.z)
  | [], t, y, h, hl => by simp [look] at hl
  | (t', y') :: l, t, y, h, hl => by
    simp only [look] at hl
    split at hl
    · rename_i he; cases hl; simp at he; subst he; exact ⟨h.1, h.2.1⟩
    · exact fitBuf_get h.2.2 hl

theorem fitL_get {H H' : Hp} : ∀ {cs cs' : List AV}, fitL H H' cs cs' → cs.length = cs'.length ∧ ∀ (j : Nat) x y, cs[j]? = some x → cs'[j]? = some y → fitAV H H' x y
  | [], [], h => ⟨rfl, by simp⟩
  | x :: xs, y :: ys, h => by
    obtain ⟨h1, h2⟩ := fitL_get h.2
    refine ⟨by simp [h1], fun j a b ha hb => ?_⟩
    match j with
    | 0 => simp at ha hb; subst ha; subst hb; exact h.1
    | j + 1 => exact h2 j a b (by simpa using ha) (by simpa using hb)
  | [], _ :: _, h => h.elim
  | _ :: _, [], h => h.elim

/-- where things lie in the second state -/
def fitMp (H H' : Hp) (m : Mp) : Mp where
  bx i := if (look H'.box i).isSome then m.bx i else none
  bf i := if (look H'.buf i).isSome then (if (look H.buf i).isSome then m.bf i else some (.slice none 0 0)) else none

theorem fitMp_own {H H' : Hp} {m : Mp} {b : Nat} (h : Own (fitMp H H' m) b) : Own m b := by
  rcases h with ⟨i, hi⟩ | ⟨i, v, hv, hb⟩
  · simp only [fitMp] at hi
    split at hi
    · exact .inl ⟨i, hi⟩
    · cases hi
  · simp only [fitMp] at hv
    split at hv
    · split at hv
      · exact .inr ⟨i, v, hv, hb⟩
      · cases hv; simp [Value.ownBlock] at hb
    · cases hv

theorem fitMp_stays {F : Fr} {H H' : Hp} {m : Mp} (w : World) : Stays (F.S m) (F.S (fitMp H H' m)) w w := by
  intro b h _
  refine ⟨?_, rfl⟩
  rcases h with h | ⟨h1, h2⟩
  · exact .inl h
  · exact .inr ⟨h1, fun ho => h2 (fitMp_own ho)⟩

theorem fitAV_rep {F : Fr} {H H' : Hp} {m : Mp} {w : World} (hrep : HRep F H m w) {x y : AV} {v : Value} (hf : fitAV H H' x y) (h : RepA F H m w x v) : RepA F H' (fitMp H H' m) w y v := by
  have hst : Stays (F.S m) (F.S (fitMp H H' m)) w w := fitMp_stays w
  cases y with
  | u => trivial
  | c c' =>
    simp only [fitAV] at hf
    split at hf
    · rcases hf with rfl | hr
      · exact Rd.mono hst h
      · have := rd_nil h
        subst this
        exact .emp _ _ none 0 hr (fun _ => rfl)
    · subst hf; exact Rd.mono hst h
    · rename_i id0 ver0
      split at hf
      · rename_i B hB
        obtain ⟨hnone, rfl⟩ := hf
        obtain ⟨hB1, hB2⟩ := curB_spec hB
        have hv := h
        obtain ⟨rs, xs, hm, _⟩ := own_slice hrep hB1 hB2 hv
        have hrd := own_rd hrep hB1 hB2 h
        -- only this buffer's block is looked at besides the views
        obtain ⟨g1, g2, g3⟩ := hrep.dropBuf (H' := { H with buf := (id0, { B with ver := B.ver + 1 }) :: H.buf }) (B' := { B with ver := B.ver + 1 }) hm hB1 (by simp) (look_add ..) (fun i hi => look_add_ne _ _ _ _ hi) rfl rfl
        refine Rd.mono ?_ g3
        intro b hb _
        refine ⟨?_, rfl⟩
        rcases hb with hb | ⟨h1, h2⟩
        · exact .inl hb
        · refine .inr ⟨h1, fun ho => h2 ?_⟩
          rcases ho with ⟨i, hi⟩ | ⟨i, u, hu, hub⟩
          · simp only [fitMp] at hi
            split at hi
            · exact .inl ⟨i, hi⟩
            · cases hi
          · simp only [fitMp] at hu
            split at hu
            · rename_i hsome
              split at hu
              · refine .inr ⟨i, u, ?_, hub⟩
                simp only [Mp.addBf]
                split
                · rename_i hi; subst hi; rw [hnone] at hsome; simp at hsome
                · exact hu
              · cases hu; simp [Value.ownBlock] at hub
            · cases hu
      · exact hf.elim
    · exact hf.elim
  | own id ver =>
    simp only [fitAV] at hf
    split at hf
    · obtain ⟨rfl, h1, h2⟩ := hf
      obtain ⟨B, hB⟩ := Option.isSome_iff_exists.1 h1
      obtain ⟨B', hB'⟩ := Option.isSome_iff_exists.1 h2
      obtain ⟨hB1, hB2⟩ := curB_spec hB
      obtain ⟨hB1', hB2'⟩ := curB_spec hB'
      obtain ⟨rs, xs, hm, _⟩ := own_slice hrep hB1 hB2 h
      exact ⟨h.1, B', hB1', by omega, fun _ => by simp [fitMp, hB1', hB1, hm]⟩
    · obtain ⟨h1, h2⟩ := hf
      obtain ⟨B', hB'⟩ := Option.isSome_iff_exists.1 h2
      obtain ⟨hB1', hB2'⟩ := curB_spec hB'
      have := rd_nil h
      subst this
      exact ⟨rfl, B', hB1', by omega, fun _ => by simp [fitMp, hB1', h1]⟩
    · exact hf.elim
  | bx id off =>
    obtain ⟨rfl, hs⟩ := hf
    obtain ⟨b, hb, rfl⟩ := h
    exact ⟨b, by simp [fitMp, hs, hb], rfl⟩
  | oel id ver i off => exact hf.elim
  | win id ver i off => exact hf.elim
  | bel k i off => exact hf.elim
  | bw k lo len =>
    obtain ⟨rfl, hm⟩ := hf
    split at hm
    · rename_i B B' hB hB'
      obtain ⟨h1, B2, p, n, cap, hB2, hF, hn, hor⟩ := h
      rw [hB] at hB2; cases hB2
      exact ⟨h1, B', p, n, cap, hB', hF, hn, by rw [← hm]; exact hor⟩
    · exact hm.elim
  | g xs => obtain rfl := hf; obtain ⟨vs, rfl, hl⟩ := h; exact ⟨vs, rfl, hl.mono hst⟩
  | t l => obtain rfl := hf; obtain ⟨vs, rfl, hs, hl⟩ := h; exact ⟨vs, rfl, hs, fun j y u hy hu => (hl j y u hy hu).mono hst⟩
  | el xs =>
    obtain rfl := hf
    obtain ⟨b, off, rfl, hS, hc⟩ := h
    refine ⟨b, off, rfl, fun hne => ?_, fun j y hy => let ⟨u, hu, hr⟩ := hc j y hy; ⟨u, hu, hr.mono hst⟩⟩
    obtain ⟨y, ys, rfl⟩ := List.exists_cons_of_ne_nil hne
    obtain ⟨u, hu, _⟩ := hc 0 y rfl
    exact (hst b (hS hne) (block_lt hu)).1

theorem fit_of2 {st st' : St} (hn : st'.n = st.n) (hsl : ∀ t y, look st'.sl t = some y → fitAV st.H st'.H (st.get t) y)
    (hbox : ∀ id cs', look st'.H.box id = some cs' → (id < st'.nx ∨ st.nx ≤ st'.nx) ∧ (match look st.H.box id with | some cs => fitL st.H st'.H cs cs' | none => st.nx ≤ id))
    (hbuf : ∀ id B', look st'.H.buf id = some B' → (id < st'.nx ∨ (st.nx ≤ st'.nx ∧ (look st.H.buf id).isSome = true)) ∧ (match look st.H.buf id with
      | some B => B.con = B'.con ∧ B.z = B'.z ∧ B.e = B'.e
      | none => st.nx ≤ id ∧ B'.con.rows = some (B'.z, []) ∧ 0 < B'.z))
    (hbor : ∀ k B, look st.H.bor k = some B → ∃ B', look st'.H.bor k = some B' ∧ B.e = B'.e ∧ B.con = B'.con) : Fit st st' := by
  intro F m a w hs
  have hst : Stays (F.S m) (F.S (fitMp st.H st'.H m)) w w := fitMp_stays w
  refine ⟨fitMp st.H st'.H m, hs.d, by rw [hn]; exact hs.sz, ⟨hs.h.os, hs.h.tape, hs.h.output, hs.h.size, hs.h.block, fun b ho => hs.h.fresh b (fitMp_own ho), hs.h.brB, hs.h.bri, ?_, ?_, ?_, ?_, ?_, ?_⟩, ?_, ?_⟩
  · intro i j b hi hj
    simp only [fitMp] at hi hj
    split at hi
    · split at hj
      · exact hs.h.ibb i j b hi hj
      · cases hj
    · cases hi
  · intro i j b v hi hj
    simp only [fitMp] at hi hj
    split at hi
    · split at hj
      · split at hj
        · exact hs.h.ibf i j b v hi hj
        · cases hj; simp [Value.ownBlock]
      · cases hj
    · cases hi
  · intro i j b u v hi hj hu hv
    simp only [fitMp] at hi hj
    split at hi
    · split at hi
      · split at hj
        · split at hj
          · exact hs.h.iff i j b u v hi hj hu hv
          · cases hj; simp [Value.ownBlock] at hv
        · cases hj
      · cases hi; simp [Value.ownBlock] at hu
    · cases hi
  · intro i b hi
    simp only [fitMp] at hi
    split at hi
    · rename_i hsome
      obtain ⟨cs', hcs'⟩ := Option.isSome_iff_exists.1 hsome
      obtain ⟨cs, arr, e, h1, h2, h3, h4⟩ := hs.h.box i b hi
      have hf := (hbox i cs' hcs').2
      rw [h1] at hf
      obtain ⟨hl, hj⟩ := fitL_get hf
      refine ⟨cs', arr, e, hcs', h2, by omega, fun j y u hy hu => ?_⟩
      have hlt := (List.getElem?_eq_some_iff.1 hy).1
      have hx : cs[j]? = some (cs[j]'(by omega)) := List.getElem?_eq_getElem _
      obtain ⟨g1, g2⟩ := h4 j _ u hx hu
      exact ⟨g1, fitAV_rep hs.h (hj j _ y hx hy) g2⟩
    · cases hi
  · intro i v hv
    simp only [fitMp] at hv
    split at hv
    · rename_i hsome
      obtain ⟨B', hB'⟩ := Option.isSome_iff_exists.1 hsome
      have hf := (hbuf i B' hB').2
      split at hv
      · rename_i hsome2
        obtain ⟨B, hB⟩ := Option.isSome_iff_exists.1 hsome2
        obtain ⟨B2, rs, xs, h1, h2, h3, h4, h5, h6⟩ := hs.h.buf i v hv
        rw [hB] at h1; cases h1
        rw [hB] at hf
        obtain ⟨e1, e2, e3⟩ := hf
        refine ⟨B', rs, xs, hB', by rw [← e1, ← e2]; exact h2, by rw [← e2]; exact h3, by rw [← e2]; exact h4, by rw [← e2, ← e3]; exact h5, fun i j y hy => ?_⟩
        obtain ⟨u, hu, hr⟩ := h6 i j y hy
        exact ⟨u, by rw [← e2]; exact hu, hr.mono hst⟩
      · rename_i hnone
        cases hv
        have : look st.H.buf i = none := by simpa using hnone
        rw [this] at hf
        obtain ⟨_, hr, hz⟩ := hf
        exact ⟨B', [], [], hB', hr, hz, by simp, World.ownsRow_nil .., fun i j y hy => by simp [at2] at hy⟩
    · cases hv
  · intro k v hv
    obtain ⟨B, rs, xs, h1, h2, h3, h4, h5, h6⟩ := hs.h.bor k v hv
    obtain ⟨B', hB', e1, e2⟩ := hbor k B h1
    refine ⟨B', rs, xs, hB', by rw [← e2]; exact h2, by rw [← e2]; exact h3, by rw [← e2]; exact h4, by rw [← e2, ← e1]; exact h5, fun i j y hy => ?_⟩
    obtain ⟨u, hu, hr⟩ := h6 i j y hy
    exact ⟨u, by rw [← e2]; exact hu, hr.mono hst⟩
  · intro i hi
    simp only [fitMp]
    constructor
    · split
      · rename_i hsome
        obtain ⟨cs', hcs'⟩ := Option.isSome_iff_exists.1 hsome
        rcases (hbox i cs' hcs').1 with h | h
        · omega
        · exact (hs.fr i (by omega)).1
      · rfl
    · split
      · rename_i hsome
        obtain ⟨B', hB'⟩ := Option.isSome_iff_exists.1 hsome
        rcases (hbuf i B' hB').1 with h | ⟨h, h2⟩
        · omega
        · rw [if_pos h2]; exact (hs.fr i (by omega)).2
      · rfl
  · intro t
    show RepA F st'.H (fitMp st.H st'.H m) w (match look st'.sl t with | some x => x | none => .u) _
    cases hl : look st'.sl t with
    | none => trivial
    | some y => exact fitAV_rep hs.h (hsl t y hl) (hs.sl t)

theorem fit_of {st st' : St} (h : FitP st st') : Fit st st' :=
  fit_of2 h.1 (fun _ _ hl => fitSl_get h.2.1 hl) (fun _ _ hl => let q := fitBox_get h.2.2.1 hl; ⟨.inl q.1, q.2⟩) (fun _ _ hl => let q := fitBuf_get h.2.2.2.1 hl; ⟨.inl q.1, q.2⟩)
    (fun _ _ hl => let ⟨B, B', h1, h2, h3, h4⟩ := fitBor_get h.2.2.2.2 hl; ⟨B', h2, by rw [h1] at hl; cases hl; exact h3, by rw [h1] at hl; cases hl; exact h4⟩)


/-- a value told without some buffers -/
def fzAV (H : Hp) (ids : List Nat) : AV → AV
  | .own id ver => match curB H id ver with | some B => if ids.contains id then .c B.con else .own id ver | none => .u
  | .oel _ _ _ _ => .u
  | .win _ _ _ _ => .u
  | .bel _ _ _ => .u
  | .bw k lo len => match look H.bor k with | some _ => .bw k lo len | none => .u
  | .bx id off => match look H.box id with | some _ => .bx id off | none => .u
  | x => x
/-- some buffers given up: their slices are views from now on -/
def St.fz (st : St) (ids : List Nat) : St :=
  { st with sl := st.sl.map fun p => (p.1, fzAV st.H ids p.2), H := ⟨st.H.box.map fun p => (p.1, p.2.map (fzAV st.H ids)), st.H.buf.filter fun p => !ids.contains p.1, st.H.bor⟩ }

theorem look_map {α β : Type} (f : α → β) : ∀ (l : List (Nat × α)) (t : Nat), look (l.map fun p => (p.1, f p.2)) t = (look l t).map f
  | [], t => rfl
  | (i, x) :: l, t => by
    simp only [List.map_cons, look, look_map f l t]
    split <;> rfl

theorem look_filter {α : Type} (ids : List Nat) : ∀ (l : List (Nat × α)) (t : Nat), look (l.filter fun p => !ids.contains p.1) t = if ids.contains t then none else look l t
  | [], t => by simp [look]
  | (i, x) :: l, t => by
    have ih := look_filter ids l t
    simp only [List.filter_cons]
    by_cases hc : ids.contains i = true
    · simp only [hc, Bool.not_true, Bool.false_eq_true, if_false, ih, look]
      by_cases hit : i = t
      · subst hit; simp only [hc, if_true]
      · have : (i == t) = false := by simp [hit]
        simp [this]
    · simp only [Bool.not_eq_true] at hc
      simp only [hc, Bool.not_false, if_true, look, ih]
      by_cases hit : i = t
      · subst hit; simp only [beq_self_eq_true, if_true, hc, Bool.false_eq_true, if_false]
      · have : (i == t) = false := by simp [hit]
        simp [this]

theorem curB_fz {H : Hp} {ids : List Nat} {bx : List (Nat × List AV)} {bo : List (Nat × Bor)} {id ver : Nat} (hc : ids.contains id = false) : curB ⟨bx, H.buf.filter fun p => !ids.contains p.1, bo⟩ id ver = curB H id ver := by
  simp only [curB, look_filter, hc, Bool.false_eq_true, if_false]

theorem fz_fitAV (st : St) (ids : List Nat) (x : AV) : fitAV st.H (st.fz ids).H x (fzAV st.H ids x) := by
  cases x with
  | c c => cases c <;> simp [fzAV, fitAV]
  | g xs => simp [fzAV, fitAV]
  | t l => simp [fzAV, fitAV]
  | el xs => simp [fzAV, fitAV]
  | u => simp [fzAV, fitAV]
  | oel => simp [fzAV, fitAV]
  | win => simp [fzAV, fitAV]
  | bel => simp [fzAV, fitAV]
  | bw k lo len =>
    simp only [fzAV]
    split
    · rename_i B hB
      simp only [fitAV]
      refine ⟨trivial, ?_⟩
      have : look (st.fz ids).H.bor k = some B := hB
      simp only [this, hB]
    · simp [fitAV]
  | bx id off =>
    simp only [fzAV]
    split
    · rename_i cs hcs
      simp only [fitAV]
      refine ⟨trivial, ?_⟩
      show (look (st.H.box.map fun p => (p.1, p.2.map (fzAV st.H ids))) id).isSome = true
      rw [look_map, hcs]; rfl
    · simp [fitAV]
  | own id ver =>
    simp only [fzAV]
    split
    · rename_i B hB
      split
      · rename_i hc
        simp only [fitAV, hB]
        refine ⟨?_, trivial⟩
        show look (st.H.buf.filter fun p => !ids.contains p.1) id = none
        rw [look_filter, if_pos hc]
      · rename_i hc
        simp only [Bool.not_eq_true] at hc
        simp only [fitAV]
        refine ⟨trivial, by rw [hB]; rfl, ?_⟩
        show (curB ⟨_, st.H.buf.filter fun p => !ids.contains p.1, _⟩ id ver).isSome = true
        rw [curB_fz hc, hB]; rfl
    · simp [fitAV]

theorem fitL_map (st : St) (ids : List Nat) : ∀ cs : List AV, fitL st.H (st.fz ids).H cs (cs.map (fzAV st.H ids))
  | [] => trivial
  | x :: cs => ⟨fz_fitAV st ids x, fitL_map st ids cs⟩

theorem fz_fit (st : St) (ids : List Nat) : Fit st (st.fz ids) := by
  refine fit_of2 rfl (fun t y hy => ?_) (fun id cs' hcs => ?_) (fun id B' hB => ?_) (fun k B hB => ⟨B, hB, rfl, rfl⟩)
  · have h : look (st.sl.map fun p => (p.1, fzAV st.H ids p.2)) t = some y := hy
    rw [look_map] at h
    obtain ⟨x, hx, rfl⟩ := Option.map_eq_some_iff.1 h
    have : st.get t = x := by simp [St.get, hx]
    rw [this]
    exact fz_fitAV st ids x
  · have h : look (st.H.box.map fun p => (p.1, p.2.map (fzAV st.H ids))) id = some cs' := hcs
    rw [look_map] at h
    obtain ⟨cs, hx, rfl⟩ := Option.map_eq_some_iff.1 h
    refine ⟨.inr (Nat.le_refl _), ?_⟩
    rw [hx]
    exact fitL_map st ids cs
  · have h : look (st.H.buf.filter fun p => !ids.contains p.1) id = some B' := hB
    rw [look_filter] at h
    split at h
    · cases h
    · rw [h]; exact ⟨.inr ⟨Nat.le_refl _, rfl⟩, rfl, rfl, rfl⟩

/-- the buffers among values -/
def ownIds : List AV → List Nat
  | .own id _ :: l => id :: ownIds l
  | _ :: l => ownIds l
  | [] => []
/-- what an operation needs told as views -/
def fzArgs (st : St) : Op → List AV
  | .call c => c.args.toList.map st.ev
  | .build _ ps => ps.toList.map fun p => st.ev p.2
  | _ => []
def fzFor (cf : Cfg) (st : St) (o : Op) : St := if fzB cf st o then st.fz (ownIds (fzArgs st o)) else st

theorem fzFor_fit (cf : Cfg) (st : St) (o : Op) : Fit st (fzFor cf st o) := by
  unfold fzFor
  split
  · exact fz_fit st _
  · exact fun F m a w h => ⟨m, h⟩

end Go.Abs
