/-
  A region that draws its order: the rule.
-/
import Derived.Test.YtggehgnmfjdkhaaAbsO
namespace Go.Abs
set_option linter.unusedSimpArgs false
set_option linter.unusedVariables false
open Go.RowKit

variable {P : Program}

def ordered (B : Array Nat) (i j : Nat) : Bool := if j < i then (B.getD i 0).testBit j else (B.getD j 0).testBit i
def dstIn (o : Oper) (l : List Nat) : Bool := match o.dst with | some t => l.contains t | none => false
def sameDst (o p : Oper) : Bool := match o.dst, p.dst with | some t, some u => t == u | _, _ => false

/-- the edges hold apart what must be held apart -/
def ordOk (ops : Array Oper) (n : Nat) (B : Array Nat) : Bool :=
  (List.range ops.size).all fun i => match ops[i]? with
    | none => true
    | some o =>
      (match o.dst with | some t => decide (t < n) | none => true) &&
      (o.after.toList.all fun e => !Region.binds .any e || decide (e.on < i)) &&
      ((List.range ops.size).all fun j =>
        (!(decide (j < i) && (B.getD i 0).testBit j) || o.after.toList.any fun e => Region.binds .any e && decide (e.on < i) && (e.on == j || (decide (j < e.on) && (B.getD e.on 0).testBit j))) &&
        (match ops[j]? with
          | none => true
          | some p => i == j || ((!dstIn p (o.looksAt ops) || ordered B i j) && !sameDst o p && (!(!pureOp o.op && mayW p.op) || ordered B i j))))

structure OrdP (ops : Array Oper) (n : Nat) (B : Array Nat) : Prop where
  dst : ∀ (i : Nat) (o : Oper) t, ops[i]? = some o → o.dst = some t → t < n
  edge : ∀ (i : Nat) (o : Oper) e, ops[i]? = some o → e ∈ o.after → Region.binds .any e = true → e.on < i
  anc : ∀ (i : Nat) (o : Oper) j, ops[i]? = some o → j < i → (B.getD i 0).testBit j = true → ∃ e ∈ o.after, Region.binds .any e = true ∧ e.on < i ∧ (e.on = j ∨ (j < e.on ∧ (B.getD e.on 0).testBit j = true))
  slot : ∀ (i j : Nat) (o p : Oper) t, ops[i]? = some o → ops[j]? = some p → i ≠ j → p.dst = some t → t ∈ o.looksAt ops → ordered B i j = true
  two : ∀ (i j : Nat) (o p : Oper) t, ops[i]? = some o → ops[j]? = some p → i ≠ j → o.dst = some t → p.dst ≠ some t
  mem : ∀ (i j : Nat) (o p : Oper), ops[i]? = some o → ops[j]? = some p → i ≠ j → pureOp o.op = false → mayW p.op = true → ordered B i j = true

theorem ord_of {ops : Array Oper} {n : Nat} {B : Array Nat} (h : ordOk ops n B = true) : OrdP ops n B := by
  have hi : ∀ (i : Nat) (o : Oper), ops[i]? = some o → _ := fun i o ho => by
    have := List.all_eq_true.1 h i (List.mem_range.2 (Array.getElem?_eq_some_iff.1 ho).1)
    simp only [ho] at this
    exact this
  have hj : ∀ (i : Nat) (o : Oper) (j : Nat) (p : Oper), ops[i]? = some o → ops[j]? = some p → i ≠ j → ((!dstIn p (o.looksAt ops) || ordered B i j) && !sameDst o p && (!(!pureOp o.op && mayW p.op) || ordered B i j)) = true := fun i o j p ho hp hne => by
    have h1 := hi i o ho
    rw [Bool.and_eq_true] at h1
    have h2 := List.all_eq_true.1 h1.2 j (List.mem_range.2 (Array.getElem?_eq_some_iff.1 hp).1)
    rw [Bool.and_eq_true] at h2
    have h3 := h2.2
    simp only [hp] at h3
    have : (i == j) = false := by simp [hne]
    rw [this, Bool.false_or] at h3
    exact h3
  refine ⟨?_, ?_, ?_, ?_, ?_, ?_⟩
  · intro i o t ho hd
    have h1 := hi i o ho
    simp only [Bool.and_eq_true, hd, decide_eq_true_eq] at h1
    exact h1.1.1
  · intro i o e ho he hb
    have h1 := hi i o ho
    rw [Bool.and_eq_true, Bool.and_eq_true] at h1
    have h2 := List.all_eq_true.1 h1.1.2 e (Array.mem_toList_iff.2 he)
    simp only [hb, Bool.not_true, Bool.false_or, decide_eq_true_eq] at h2
    exact h2
  · intro i o j ho hji hb
    have h1 := hi i o ho
    rw [Bool.and_eq_true] at h1
    have hlt := (Array.getElem?_eq_some_iff.1 ho).1
    have h2 := List.all_eq_true.1 h1.2 j (List.mem_range.2 (by omega))
    rw [Bool.and_eq_true] at h2
    have h3 := h2.1
    simp only [hji, hb, decide_true, Bool.and_self, Bool.not_true, Bool.false_or] at h3
    obtain ⟨e, he, h4⟩ := List.any_eq_true.1 h3
    simp only [Bool.and_eq_true, decide_eq_true_eq, Bool.or_eq_true, beq_iff_eq] at h4
    exact ⟨e, Array.mem_toList_iff.1 he, h4.1.1, h4.1.2, h4.2⟩
  · intro i j o p t ho hp hne hd ht
    have h1 := hj i o j p ho hp hne
    simp only [Bool.and_eq_true] at h1
    have h2 := h1.1.1
    have : dstIn p (o.looksAt ops) = true := by simp [dstIn, hd, ht]
    rw [this, Bool.not_true, Bool.false_or] at h2
    exact h2
  · intro i j o p t ho hp hne hd hp2
    have h1 := hj i o j p ho hp hne
    simp only [Bool.and_eq_true] at h1
    have h2 := h1.1.2
    simp [sameDst, hd, hp2] at h2
  · intro i j o p ho hp hne hpu hw
    have h1 := hj i o j p ho hp hne
    simp only [Bool.and_eq_true] at h1
    have h2 := h1.2
    rw [hpu, hw] at h2
    simpa using h2

/-- the slots, the memory, the next number ahead of an operation, in the text's order -/
def G (os : List Oper) (tr : List Step) (g0 : Nat → AV) : Nat → Nat → AV
  | 0 => g0
  | i + 1 => match os[i]?, tr[i]? with | some o, some s => upd (G os tr g0 i) o.dst s.r | _, _ => G os tr g0 i
def HH (tr : List Step) (H0 : Hp) : Nat → Hp
  | 0 => H0
  | i + 1 => match tr[i]? with | some s => s.H | none => HH tr H0 i
def NN (tr : List Step) (n0 : Nat) : Nat → Nat
  | 0 => n0
  | i + 1 => match tr[i]? with | some s => s.nx | none => NN tr n0 i

theorem G_cons (o : Oper) (os : List Oper) (s : Step) (tr : List Step) (g0 : Nat → AV) : ∀ i, G (o :: os) (s :: tr) g0 (i + 1) = G os tr (upd g0 o.dst s.r) i
  | 0 => by simp [G]
  | i + 1 => by
    have ih := G_cons o os s tr g0 i
    show (match (o :: os)[i + 1]?, (s :: tr)[i + 1]? with | some o', some s' => upd (G (o :: os) (s :: tr) g0 (i + 1)) o'.dst s'.r | _, _ => G (o :: os) (s :: tr) g0 (i + 1)) = _
    rw [ih]; simp [G]
theorem HH_cons (s : Step) (tr : List Step) (H0 : Hp) : ∀ i, HH (s :: tr) H0 (i + 1) = HH tr s.H i
  | 0 => by simp [HH]
  | i + 1 => by
    have ih := HH_cons s tr H0 i
    show (match (s :: tr)[i + 1]? with | some s' => s'.H | none => HH (s :: tr) H0 (i + 1)) = _
    rw [ih]; simp [HH]
theorem NN_cons (s : Step) (tr : List Step) (H0 : Nat) : ∀ i, NN (s :: tr) H0 (i + 1) = NN tr s.nx i
  | 0 => by simp [NN]
  | i + 1 => by
    have ih := NN_cons s tr H0 i
    show (match (s :: tr)[i + 1]? with | some s' => s'.nx | none => NN (s :: tr) H0 (i + 1)) = _
    rw [ih]; simp [NN]

theorem TrP_at {dr : Bool} {ops : List Oper} : ∀ {os : List Oper} {g : Nat → AV} {H : Hp} {nx : Nat} {tr : List Step} {g' : Nat → AV} {H' : Hp} {nx' : Nat}, TrP P dr ops os g H nx tr g' H' nx' →
    tr.length = os.length ∧ g' = G os tr g os.length ∧ H' = HH tr H os.length ∧ nx' = NN tr nx os.length ∧ ∀ (i : Nat) o s, os[i]? = some o → tr[i]? = some s → StepP P dr ops o (G os tr g i) (HH tr H i) (NN tr nx i) s
  | [], g, H, nx, [], g', H', nx', h => by obtain ⟨rfl, rfl, rfl⟩ := h; exact ⟨rfl, rfl, rfl, rfl, by simp⟩
  | [], g, H, nx, s :: tr, g', H', nx', h => h.elim
  | o :: os, g, H, nx, [], g', H', nx', h => h.elim
  | o :: os, g, H, nx, s :: tr, g', H', nx', h => by
    obtain ⟨h1, h2⟩ := h
    obtain ⟨h3, h4, h5, h6, h7⟩ := TrP_at h2
    refine ⟨by simp [h3], ?_, ?_, ?_, fun i o' s' ho hs => ?_⟩
    · rw [List.length_cons, G_cons]; exact h4
    · rw [List.length_cons, HH_cons]; exact h5
    · rw [List.length_cons, NN_cons]; exact h6
    · match i with
      | 0 => simp at ho hs; subst ho; subst hs; exact h1
      | i + 1 =>
        rw [G_cons, HH_cons, NN_cons]
        exact h7 i o' s' (by simpa using ho) (by simpa using hs)

/-- a step of the trace, carried out -/
theorem StepP.exec {dr : Bool} {ops : List Oper} {o : Oper} {get : Nat → AV} {H : Hp} {nx : Nat} {s : Step} (h : StepP P dr ops o get H nx s) (hb : s.b = true) {F : Fr} {m : Mp} {w : World} {ρ : Operand → Value} (hrep : HRep F H m w)
    (hfree : ∀ i, nx ≤ i → m.bx i = none ∧ m.bf i = none) (hops : ∀ x ∈ o.op.operands, RepA F H m w (evG get x) (ρ x)) :
    Exec P o ρ w fun v w' => ∃ m', HRep F s.H m' w' ∧ Later F H m w s.H m' w' ∧ (∀ i, s.nx ≤ i → m'.bx i = none ∧ m'.bf i = none) ∧ RepA F s.H m' w' s.r v := by
  obtain ⟨hnx, hor, _⟩ := h.2.2 hb
  rcases hor with ⟨hbuf, ⟨hbox, hbo⟩, hq⟩ | hw
  · obtain ⟨g1, g2⟩ := hrep.hp (H' := s.H) (fun i b hb => hbox i (by
      rcases Nat.lt_or_ge i nx with h | h
      · exact h
      · rw [(hfree i h).1] at hb; cases hb)) (fun i B hB => by rw [hbuf]; exact hB) hbo
    refine (hq F s.H m w ρ ⟨⟨fun _ _ h => h, rfl⟩, rfl⟩ g1 (fun i hi _ => (hfree i hi).1) (fun x hx => g2.rep (hops x hx))).mono fun v w' ⟨m', h1, h2, h3, h4, h5⟩ => ⟨m', h1, ?_, fun i hi => ⟨h4 i (by omega) (hfree i (by omega)).1, by rw [h3]; exact (hfree i (by omega)).2⟩, h5⟩
    refine ⟨fun b hS hb => h2.st b hS hb, fun i b hb => h2.bx i b (hb), fun id B hB => ?_, fun k B hB => h2.bo k B (by rw [hbo]; exact hB)⟩
    exact h2.bf id B (by rw [hbuf]; exact hB)
  · exact hw F m w ρ hrep hfree hops


theorem pure_not_w (o : Op) (h : pureOp o = true) : mayW o = false := by
  cases o <;> first | rfl | (simp [pureOp] at h; done) | skip
  rename_i c
  obtain ⟨callee, args, tys⟩ := c
  cases callee with
  | value f => simp [pureOp] at h
  | invoke r m => simp [pureOp] at h
  | builtin b => cases b <;> simp_all [pureOp, mayW]

section main
variable {ops : Array Oper} {tr : List Step} {g0 : Nat → AV} {H0 : Hp} {n0 n : Nat} {B : Array Nat}

/-- what a slot holds when the operations of D are done -/
def val (ops : Array Oper) (tr : List Step) (g0 : Nat → AV) (D : Nat → Bool) (t : Nat) : AV := match ops.toList.findIdx? (fun o => o.dst == some t) with
  | some i => if D i then (match tr[i]? with | some s => s.r | none => g0 t) else g0 t
  | none => g0 t

theorem val_idx (ho : OrdP ops n B) {i : Nat} {o : Oper} {t : Nat} (hi : ops[i]? = some o) (hd : o.dst = some t) : ops.toList.findIdx? (fun o => o.dst == some t) = some i := by
  have hlt := (Array.getElem?_eq_some_iff.1 hi).1
  rw [List.findIdx?_eq_some_iff_getElem]
  refine ⟨by simpa using hlt, ?_, fun j hj => ?_⟩
  · have : ops.toList[i] = o := by
      have := (Array.getElem?_eq_some_iff.1 hi).2
      simpa using this
    rw [this, hd]; simp
  · have hjl : j < ops.size := by omega
    have hjo : ops[j]? = some ops[j] := Array.getElem?_eq_getElem hjl
    have := ho.two i j o ops[j] t hi hjo (by omega) hd
    simpa using this

theorem val_dst (ho : OrdP ops n B) {i : Nat} {o : Oper} {s : Step} {t : Nat} (hi : ops[i]? = some o) (hs : tr[i]? = some s) (hd : o.dst = some t) (D : Nat → Bool) : val ops tr g0 D t = if D i then s.r else g0 t := by
  simp [val, val_idx ho hi hd, hs]

theorem val_none (D : Nat → Bool) {t : Nat} (h : ∀ (i : Nat) (o : Oper), ops[i]? = some o → o.dst ≠ some t) : val ops tr g0 D t = g0 t := by
  have : ops.toList.findIdx? (fun o => o.dst == some t) = none := by
    rw [List.findIdx?_eq_none_iff]
    intro o hom
    obtain ⟨i, hi⟩ := List.getElem?_of_mem hom
    have := h i o (by simpa using hi)
    simpa using this
  simp [val, this]

theorem G_val (ho : OrdP ops n B) (hl : tr.length = ops.size) : ∀ k, k ≤ ops.size → ∀ t, G ops.toList tr g0 k t = val ops tr g0 (fun i => decide (i < k)) t
  | 0, _, t => by
    simp only [G, val]
    split <;> simp
  | k + 1, hk, t => by
    have ih := G_val ho hl k (by omega) t
    have hok : ops[k]? = some (ops[k]'(by omega)) := Array.getElem?_eq_getElem _
    have hsk : tr[k]? = some (tr[k]'(by omega)) := List.getElem?_eq_getElem _
    have hok' : ops.toList[k]? = some (ops[k]'(by omega)) := by rw [Array.getElem?_toList]; exact hok
    simp only [G, hok', hsk]
    by_cases hd : (ops[k]'(by omega)).dst = some t
    · rw [val_dst ho hok hsk hd]
      simp [upd, hd]
    · have e1 : upd (G ops.toList tr g0 k) (ops[k]'(by omega)).dst (tr[k]'(by omega)).r t = G ops.toList tr g0 k t := by
        cases hdd : (ops[k]'(by omega)).dst with
        | none => rfl
        | some d =>
          have : t ≠ d := fun e => hd (by rw [hdd, e])
          simp [upd, this]
      rw [e1, ih]
      by_cases hex : ∃ (i : Nat) (o : Oper), ops[i]? = some o ∧ o.dst = some t
      · obtain ⟨i, o, hi, hd2⟩ := hex
        have hil := (Array.getElem?_eq_some_iff.1 hi).1
        have hsi : tr[i]? = some (tr[i]'(by omega)) := List.getElem?_eq_getElem _
        rw [val_dst ho hi hsi hd2, val_dst ho hi hsi hd2]
        have hne : i ≠ k := fun e => by subst e; rw [hok] at hi; cases hi; exact hd hd2
        have : decide (i < k) = decide (i < k + 1) := by
          rw [Bool.eq_iff_iff]; simp; omega
        rw [this]
      · rw [val_none, val_none]
        · intro i o hi hd2; exact hex ⟨i, o, hi, hd2⟩
        · intro i o hi hd2; exact hex ⟨i, o, hi, hd2⟩

/-- where nothing may write, the memory stays -/
theorem HH_const (hl : tr.length = ops.size) (hst : ∀ (i : Nat) o s, ops[i]? = some o → tr[i]? = some s → mayW o.op = false → s.H = HH tr H0 i ∧ s.nx = NN tr n0 i) : ∀ d k, k + d ≤ ops.size → (∀ (j : Nat) o, k ≤ j → j < k + d → ops[j]? = some o → mayW o.op = false) → HH tr H0 (k + d) = HH tr H0 k ∧ NN tr n0 (k + d) = NN tr n0 k
  | 0, k, _, _ => ⟨rfl, rfl⟩
  | d + 1, k, hk, h => by
    obtain ⟨h1, h2⟩ := HH_const hl hst d k (by omega) (fun j o hj1 hj2 ho => h j o hj1 (by omega) ho)
    have hok : ops[k + d]? = some (ops[k + d]'(by omega)) := Array.getElem?_eq_getElem _
    have hsk : tr[k + d]? = some (tr[k + d]'(by omega)) := List.getElem?_eq_getElem _
    obtain ⟨h3, h4⟩ := hst (k + d) _ _ hok hsk (h (k + d) _ (by omega) (by omega) hok)
    show (match tr[k + d]? with | some s => s.H | none => HH tr H0 (k + d)) = _ ∧ (match tr[k + d]? with | some s => s.nx | none => NN tr n0 (k + d)) = _
    rw [hsk]
    exact ⟨h3.trans h1, h4.trans h2⟩

/-- the state in the midst of a region -/
structure Mid (F : Fr) (ops : Array Oper) (tr : List Step) (g0 : Nat → AV) (H0 : Hp) (n0 n : Nat) (D : Nat → Bool) (a : Act) (w : World) : Prop where
  d : a.defers = []
  sz : a.tmps.size = n
  down : ∀ (i : Nat) o e, ops[i]? = some o → D i = true → e ∈ o.after → Region.binds .any e = true → D e.on = true
  at_ : ∃ m k, k ≤ ops.size ∧ (∀ (j : Nat) o, ops[j]? = some o → mayW o.op = true → (D j = true ↔ j < k)) ∧ HRep F (HH tr H0 k) m w ∧ (∀ i, NN tr n0 k ≤ i → m.bx i = none ∧ m.bf i = none) ∧ ∀ t, RepA F (HH tr H0 k) m w (val ops tr g0 D t) (a.tmps.getD t undef)

theorem anc_down (ho : OrdP ops n B) {D : Nat → Bool} (hdn : ∀ (i : Nat) o e, ops[i]? = some o → D i = true → e ∈ o.after → Region.binds .any e = true → D e.on = true) : ∀ i o j, ops[i]? = some o → j < i → (B.getD i 0).testBit j = true → (∀ e ∈ o.after, Region.binds .any e = true → D e.on = true) → D j = true := by
  intro i
  induction i using Nat.strongRecOn with
  | _ i ih =>
    intro o j hi hj hb hall
    obtain ⟨e, he, hbe, hlt, hor⟩ := ho.anc i o j hi hj hb
    have hDe := hall e he hbe
    rcases hor with rfl | hb2
    · exact hDe
    · have hil := (Array.getElem?_eq_some_iff.1 hi).1
      have hoe : ops[e.on]? = some (ops[e.on]'(by omega)) := Array.getElem?_eq_getElem _
      exact ih e.on hlt _ j hoe hb2.1 hb2.2 (fun e' he' hbe' => hdn e.on _ e' hoe hDe he' hbe')

/-- an operation that is next: what is ordered with it is done, or comes later -/
theorem ord_next (ho : OrdP ops n B) {D : Nat → Bool} (hdn : ∀ (i : Nat) o e, ops[i]? = some o → D i = true → e ∈ o.after → Region.binds .any e = true → D e.on = true) {i : Nat} {o : Oper} (hi : ops[i]? = some o) (hD : D i = false) (hall : ∀ e ∈ o.after, Region.binds .any e = true → D e.on = true)
    {j : Nat} {p : Oper} (hj : ops[j]? = some p) (hne : i ≠ j) (hor : ordered B i j = true) : (D j = true ↔ j < i) := by
  unfold ordered at hor
  split at hor
  · rename_i hlt
    exact ⟨fun _ => hlt, fun _ => anc_down ho hdn i o j hi hlt hor hall⟩
  · rename_i hlt
    refine ⟨fun hDj => ?_, fun h => absurd h hlt⟩
    have : i < j := by omega
    have := anc_down ho hdn j p i hj this hor (fun e he hb => hdn j p e hj hDj he hb)
    rw [hD] at this; cases this

theorem Mid.step {dr : Bool} (hdr : dr = true) {g' : Nat → AV} {H' : Hp} {nx' : Nat} (ho : OrdP ops n B) (htr : TrP P dr ops.toList ops.toList g0 H0 n0 tr g' H' nx') {F : Fr} {D : Nat → Bool} {a : Act} {w : World} (hm : Mid F ops tr g0 H0 n0 n D a w)
    {i : Nat} {o : Oper} (hi : ops[i]? = some o) (hD : D i = false) (hall : ∀ e ∈ o.after, Region.binds .any e = true → D e.on = true) {K : Act → World → Prop} {Q : Exit → Act → World → Prop}
    (hK : ∀ a' w', Mid F ops tr g0 H0 n0 n (fun j => j == i || D j) a' w' → K a' w') : wpOp P ops Q i K a w := by
  obtain ⟨hl, _, _, _, hstep⟩ := TrP_at htr
  have hl : tr.length = ops.size := by simpa using hl
  have hil := (Array.getElem?_eq_some_iff.1 hi).1
  have hsi : tr[i]? = some (tr[i]'(by omega)) := List.getElem?_eq_getElem _
  generalize tr[i]'(by omega) = s at hsi
  have hst := hstep i o s (by simpa using hi) hsi
  have hconst : ∀ (i : Nat) o s, ops[i]? = some o → tr[i]? = some s → mayW o.op = false → s.H = HH tr H0 i ∧ s.nx = NN tr n0 i := by
    intro i o s ho hs hw
    have h := hstep i o s (by simpa using ho) hs
    cases hb : s.b with
    | false => exact (h.2.1 hb).2
    | true => have := (h.2.2 hb).2.2.2 hdr hw; exact ⟨this.1, this.2.1⟩
  obtain ⟨m, k, hk, hwr, hrep, hfree, hsl⟩ := hm.at_
  -- what the operation looks at is as in the text's order
  have hlook : ∀ t ∈ o.looksAt ops, val ops tr g0 D t = G ops.toList tr g0 i t := by
    intro t ht
    rw [G_val ho hl i (by omega)]
    by_cases hex : ∃ (j : Nat) (p : Oper), ops[j]? = some p ∧ p.dst = some t
    · obtain ⟨j, p, hj, hd⟩ := hex
      have hjl := (Array.getElem?_eq_some_iff.1 hj).1
      have hsj : tr[j]? = some (tr[j]'(by omega)) := List.getElem?_eq_getElem _
      rw [val_dst ho hj hsj hd, val_dst ho hj hsj hd]
      by_cases hij : i = j
      · subst hij; simp [hD]
      · have h1 := ord_next ho hm.down hi hD hall hj hij (ho.slot i j o p t hi hj hij hd ht)
        have : D j = decide (j < i) := by
          rw [Bool.eq_iff_iff, h1]; simp
        rw [this]
    · rw [val_none, val_none]
      · intro j p hj hd; exact hex ⟨j, p, hj, hd⟩
      · intro j p hj hd; exact hex ⟨j, p, hj, hd⟩
  have hrepO : ∀ {H : Hp} {m : Mp} {w : World}, (∀ t, RepA F H m w (val ops tr g0 D t) (a.tmps.getD t undef)) → ∀ x ∈ o.op.operands, RepA F H m w (evG (G ops.toList tr g0 i) x) (a.eval x) := by
    intro H m w hsl x hx
    cases x with
    | tmp t =>
      show RepA F H m w (G ops.toList tr g0 i t) _
      rw [← hlook t (by unfold Oper.looksAt; exact List.mem_append_left _ (List.mem_filterMap.2 ⟨.tmp t, by simpa using hx, rfl⟩))]
      exact hsl t
    | const v => exact rep_ofV ..
    | global g => trivial
    | func f => exact Rd.a _ rfl
  have hwant : Region.wanted o (yielded ops a.tmps) = s.b := by
    have hw := hst.1
    unfold Wants at hw
    cases hg : o.guard with
    | none => simp only [hg] at hw; rw [hw]; simp [Region.wanted, hg]
    | some jw =>
      obtain ⟨j, want⟩ := jw
      simp only [hg] at hw
      obtain ⟨g, hj, hor⟩ := hw
      have hj' : (ops[j]?).bind (·.dst) = some g := by simpa using hj
      have hgl : g ∈ o.looksAt ops := by unfold Oper.looksAt; simp [hg, hj']
      have hr := hsl g
      rcases hor with ⟨t, hget, hb⟩ | ⟨⟨tl, hget⟩, hb⟩
      case inr =>
        rw [hlook g hgl, hget] at hr
        obtain ⟨vs, hv, _⟩ := hr
        rw [unwanted_guard hg hj' hv, hb]
      rw [hlook g hgl, hget] at hr
      have hv := rep_b hr
      have hlt : g < a.tmps.size := by
        rcases Nat.lt_or_ge g a.tmps.size with h | h
        · exact h
        · simp [Array.getElem?_eq_none h, undef] at hv
      rw [wanted_guard hg hj' hv hlt, hb]
  -- the next state
  have hdown' : ∀ (i' : Nat) o' e, ops[i']? = some o' → (i' == i || D i') = true → e ∈ o'.after → Region.binds .any e = true → (e.on == i || D e.on) = true := by
    intro i' o' e hi' hD' he hb
    simp only [Bool.or_eq_true, beq_iff_eq] at hD' ⊢
    rcases hD' with rfl | hD'
    · rw [hi] at hi'; cases hi'; exact .inr (hall e he hb)
    · exact .inr (hm.down i' o' e hi' hD' he hb)
  have hval : ∀ t, val ops tr g0 (fun j => j == i || D j) t = if o.dst = some t then s.r else val ops tr g0 D t := by
    intro t
    by_cases hd : o.dst = some t
    · rw [val_dst ho hi hsi hd, if_pos hd]; simp
    · rw [if_neg hd]
      by_cases hex : ∃ (j : Nat) (p : Oper), ops[j]? = some p ∧ p.dst = some t
      · obtain ⟨j, p, hj, hd2⟩ := hex
        have hjl := (Array.getElem?_eq_some_iff.1 hj).1
        have hsj : tr[j]? = some (tr[j]'(by omega)) := List.getElem?_eq_getElem _
        rw [val_dst ho hj hsj hd2, val_dst ho hj hsj hd2]
        have hne : (j == i) = false := by
          simp only [beq_eq_false_iff_ne]; intro e; subst e; rw [hi] at hj; cases hj; exact hd hd2
        simp [hne]
      · rw [val_none, val_none]
        · intro j p hj hd; exact hex ⟨j, p, hj, hd⟩
        · intro j p hj hd; exact hex ⟨j, p, hj, hd⟩
  have hput : ∀ {H : Hp} {m : Mp} {w : World} {v : Value}, (∀ t, RepA F H m w (val ops tr g0 D t) (a.tmps.getD t undef)) → RepA F H m w s.r v → ∀ t, RepA F H m w (val ops tr g0 (fun j => j == i || D j) t) ((a.put o.dst v).tmps.getD t undef) := by
    intro H m w v hsl hr t
    rw [hval t]
    cases hd : o.dst with
    | none => rw [if_neg (by simp)]; exact hsl t
    | some d =>
      by_cases ht : d = t
      · subst ht
        rw [if_pos rfl]
        have hlt : d < a.tmps.size := by rw [hm.sz]; exact ho.dst i o d hi hd
        simp only [Act.put]
        have : (a.tmps.setIfInBounds d v).getD d undef = v := by simp [hlt]
        rw [this]; exact hr
      · rw [if_neg (by simpa using ht)]
        have := hsl t
        simp only [Act.put]
        have e : (a.tmps.setIfInBounds d v).getD t undef = a.tmps.getD t undef := by simp [Array.getElem?_setIfInBounds_ne ht]
        rw [e]; exact this
  have hputd : ∀ v, (a.put o.dst v).defers = [] ∧ (a.put o.dst v).tmps.size = n := by
    intro v; cases o.dst <;> simp [Act.put, hm.d, hm.sz]
  -- the memory ahead of an operation that touches memory is the text's
  have hsame : pureOp o.op = false → HH tr H0 k = HH tr H0 i ∧ NN tr n0 k = NN tr n0 i ∧ (mayW o.op = true → k ≤ i) ∧ ∀ (j : Nat) p, ops[j]? = some p → mayW p.op = true → j ≠ i → (D j = true ↔ j < i) := by
    intro hpu
    have hord : ∀ (j : Nat) p, ops[j]? = some p → mayW p.op = true → j ≠ i → (D j = true ↔ j < i) := fun j p hj hw hne =>
      ord_next ho hm.down hi hD hall hj (fun e => hne e.symm) (ho.mem i j o p hi hj (fun e => hne e.symm) hpu hw)
    have hki : mayW o.op = true → k ≤ i := fun hw => by
      have h1 := hwr i o hi hw
      rw [hD] at h1
      have : ¬ i < k := fun h => by simp at h1; omega
      omega
    have hno : ∀ (j : Nat) p, ops[j]? = some p → mayW p.op = true → j ≠ i → (j < k ↔ j < i) := fun j p hj hw hne => (hwr j p hj hw).symm.trans (hord j p hj hw hne)
    have key : HH tr H0 k = HH tr H0 i ∧ NN tr n0 k = NN tr n0 i := by
      rcases Nat.le_total k i with hle | hle
      · have h := HH_const (H0 := H0) (n0 := n0) hl hconst (i - k) k (by omega) (fun j p hj1 hj2 hj => by
          cases hw : mayW p.op with
          | false => rfl
          | true => have := hno j p hj hw (by omega); omega)
        rw [show k + (i - k) = i by omega] at h
        exact ⟨h.1.symm, h.2.symm⟩
      · have h := HH_const (H0 := H0) (n0 := n0) hl hconst (k - i) i (by omega) (fun j p hj1 hj2 hj => by
          cases hw : mayW p.op with
          | false => rfl
          | true =>
            by_cases hji : j = i
            · subst hji; rw [hi] at hj; cases hj; have := hki hw; omega
            · have := hno j p hj hw hji; omega)
        rw [show i + (k - i) = k by omega] at h
        exact h
    exact ⟨key.1, key.2, hki, hord⟩
  have hHi : HH tr H0 (i + 1) = s.H ∧ NN tr n0 (i + 1) = s.nx := by simp [HH, NN, hsi]
  have hwr1 : mayW o.op = true → ∀ (j : Nat) p, ops[j]? = some p → mayW p.op = true → ((j == i || D j) = true ↔ j < i + 1) := by
    intro hw j p hj hwp
    have hpu : pureOp o.op = false := by cases h : pureOp o.op with | false => rfl | true => (have := pure_not_w o.op h; rw [hw] at this; cases this)
    obtain ⟨_, _, _, hord⟩ := hsame hpu
    by_cases hji : j = i
    · subst hji; simp
    · have := hord j p hj hwp hji
      simp only [Bool.or_eq_true, beq_iff_eq, hji, false_or]
      rw [this]; omega
  have hwr0 : mayW o.op = false → ∀ (j : Nat) p, ops[j]? = some p → mayW p.op = true → ((j == i || D j) = true ↔ j < k) := by
    intro hw j p hj hwp
    have hji : j ≠ i := fun e => by subst e; rw [hi] at hj; cases hj; rw [hw] at hwp; cases hwp
    simp only [Bool.or_eq_true, beq_iff_eq, hji, false_or]
    exact hwr j p hj hwp
  unfold wpOp
  simp only [hi, hwant]
  cases hb : s.b with
  | false =>
    simp only [Bool.false_eq_true, if_false]
    obtain ⟨hr, hH, hN⟩ := hst.2.1 hb
    refine hK _ _ ⟨(hputd _).1, (hputd _).2, hdown', ?_⟩
    cases hw : mayW o.op with
    | false => exact ⟨m, k, hk, hwr0 hw, hrep, hfree, hput hsl (by rw [hr]; exact rep_undef)⟩
    | true =>
      have hpu : pureOp o.op = false := by cases h : pureOp o.op with | false => rfl | true => (have := pure_not_w o.op h; rw [hw] at this; cases this)
      obtain ⟨e1, e2, _, _⟩ := hsame hpu
      have e3 : HH tr H0 (i + 1) = HH tr H0 k := by rw [hHi.1, hH, e1]
      have e4 : NN tr n0 (i + 1) = NN tr n0 k := by rw [hHi.2, hN, e2]
      exact ⟨m, i + 1, by omega, hwr1 hw, by rw [e3]; exact hrep, by rw [e4]; exact hfree, by rw [e3]; exact hput hsl (by rw [hr]; exact rep_undef)⟩
  | true =>
    simp only [if_true]
    refine .inl ?_
    cases hpu : pureOp o.op with
    | true =>
      obtain ⟨hH, hN, hq⟩ := (hst.2.2 hb).2.2.1 hpu
      have hw : mayW o.op = false := pure_not_w o.op hpu
      refine (hq F (HH tr H0 k) (NN tr n0 k) (HH tr H0 k) m w a.eval ⟨⟨fun _ _ h => h, rfl⟩, rfl⟩ hrep (fun i h1 h2 => by omega) (hrepO hsl)).wp fun v w' ⟨m', h1, h2, h3, h4, h5⟩ => hK _ _ ⟨(hputd _).1, (hputd _).2, hdown', m', k, hk, hwr0 hw, h1, fun j hj => ⟨h4 j (by omega) (hfree j hj).1, by rw [h3]; exact (hfree j hj).2⟩, hput (fun t => h2.rep (hsl t)) h5⟩
    | false =>
      obtain ⟨e1, e2, hki, _⟩ := hsame hpu
      rw [e1] at hrep hsl
      rw [e2] at hfree
      refine (hst.exec hb hrep hfree (hrepO hsl)).wp fun v w' ⟨m', h1, h2, h3, h4⟩ => hK _ _ ⟨(hputd _).1, (hputd _).2, hdown', ?_⟩
      cases hw : mayW o.op with
      | true => exact ⟨m', i + 1, by omega, hwr1 hw, by rw [hHi.1]; exact h1, by rw [hHi.2]; exact h3, by rw [hHi.1]; exact hput (fun t => h2.rep (hsl t)) h4⟩
      | false =>
        obtain ⟨hH, hN⟩ := hconst i o s hi hsi hw
        rw [hH] at h1 h2 h4
        rw [hN] at h3
        exact ⟨m', k, hk, hwr0 hw, by rw [e1]; exact h1, by rw [e2]; exact h3, by rw [e1]; exact hput (fun t => h2.rep (hsl t)) h4⟩


theorem countP_set (D : Nat → Bool) (i : Nat) (hD : D i = false) : ∀ l : List Nat, l.Nodup → i ∈ l → l.countP (fun j => j == i || D j) = l.countP D + 1
  | [], _, h => by cases h
  | x :: l, hn, h => by
    obtain ⟨hx, hn⟩ := List.nodup_cons.1 hn
    by_cases hxi : x = i
    · subst hxi
      have e : l.countP (fun j => j == x || D j) = l.countP D := by
        apply List.countP_congr
        intro j hj
        have : j ≠ x := fun e => hx (e ▸ hj)
        simp [this]
      simp [List.countP_cons, hD, e]
    · have hm : i ∈ l := by
        rcases List.mem_cons.1 h with h | h
        · exact absurd h.symm hxi
        · exact h
      have ih := countP_set D i hD l hn hm
      have e : (x == i || D x) = D x := by simp [hxi]
      simp only [List.countP_cons, ih, e]
      omega

theorem Mid.any {dr : Bool} (hdr : dr = true) {g' : Nat → AV} {H' : Hp} {nx' : Nat} (ho : OrdP ops n B) (htr : TrP P dr ops.toList ops.toList g0 H0 n0 tr g' H' nx') {F : Fr} {Q : Exit → Act → World → Prop}
    (hQ : ∀ D a w, (∀ i, i < ops.size → D i = true) → Mid F ops tr g0 H0 n0 n D a w → Q .normal a w) : ∀ (fuel : Nat) (listed : Array Bool) (a : Act) (w : World), listed.size = ops.size → ops.size ≤ fuel + (List.range ops.size).countP (fun i => listed.getD i true) → Mid F ops tr g0 H0 n0 n (fun i => listed.getD i true) a w → wpAny P .any ops Q fuel listed a w := by
  have hready : ∀ (listed : Array Bool) (i : Nat), listed.size = ops.size → i ∈ Region.ready .any ops listed → ∃ o, ops[i]? = some o ∧ listed.getD i true = false ∧ ∀ e ∈ o.after, Region.binds .any e = true → listed.getD e.on false = true := by
    intro listed i hsz hi
    unfold Region.ready at hi
    rw [List.mem_filter] at hi
    obtain ⟨h1, h2⟩ := hi
    have hlt := List.mem_range.1 h1
    have hoi : ops[i]? = some ops[i] := Array.getElem?_eq_getElem hlt
    simp only [hoi, Option.map_some, Option.getD_some, Bool.and_eq_true, Bool.not_eq_true'] at h2
    refine ⟨ops[i], hoi, h2.1, fun e he hb => ?_⟩
    have := Array.all_eq_true'.1 h2.2 e he
    simpa [hb] using this
  have hnone : ∀ (listed : Array Bool), listed.size = ops.size → Region.ready .any ops listed = [] → ∀ i, i < ops.size → listed.getD i true = true := by
    intro listed hsz hr i
    induction i using Nat.strongRecOn with
    | _ i ih =>
      intro hi
      cases hl : listed.getD i true with
      | true => rfl
      | false =>
        have hoi : ops[i]? = some ops[i] := Array.getElem?_eq_getElem hi
        have : i ∈ Region.ready .any ops listed := by
          unfold Region.ready
          rw [List.mem_filter]
          refine ⟨List.mem_range.2 hi, ?_⟩
          simp only [hoi, Option.map_some, Option.getD_some, hl, Bool.not_false, Bool.true_and]
          rw [Array.all_eq_true']
          intro e he
          cases hb : Region.binds .any e with
          | false => simp
          | true =>
            have hlt := ho.edge i ops[i] e hoi he hb
            have := ih e.on hlt (by omega)
            have h2 : listed.getD e.on false = true := by
              have hlt2 : e.on < listed.size := by omega
              simp [hlt2] at this ⊢; exact this
            simpa using h2
        rw [hr] at this
        cases this
  intro fuel
  induction fuel with
  | zero =>
    intro listed a w hsz hf hm
    have hall : ∀ i, i < ops.size → listed.getD i true = true := by
      have hle : (List.range ops.size).countP (fun i => listed.getD i true) ≤ (List.range ops.size).length := List.countP_le_length
      have : (List.range ops.size).countP (fun i => listed.getD i true) = (List.range ops.size).length := by
        rw [List.length_range] at hle ⊢; omega
      rw [List.countP_eq_length] at this
      exact fun i hi => this i (List.mem_range.2 hi)
    refine ⟨?_, hQ _ a w hall hm⟩
    cases hr : Region.ready .any ops listed with
    | nil => rfl
    | cons i l =>
      obtain ⟨o, h1, h2, _⟩ := hready listed i hsz (by rw [hr]; exact List.mem_cons_self ..)
      have := hall i (Array.getElem?_eq_some_iff.1 h1).1
      rw [h2] at this; cases this
  | succ fuel ih =>
    intro listed a w hsz hf hm
    refine ⟨fun hr => hQ _ a w (hnone listed hsz hr) hm, fun i hi => ?_⟩
    obtain ⟨o, h1, h2, h3⟩ := hready listed i hsz hi
    have hil := (Array.getElem?_eq_some_iff.1 h1).1
    have hset : (fun j => (listed.setIfInBounds i true).getD j true) = fun j => j == i || listed.getD j true := by
      funext j
      by_cases hj : i = j
      · subst hj; simp [show i < listed.size by omega]
      · have : (j == i) = false := by simp; omega
        simp [Array.getElem?_setIfInBounds_ne hj, this]
    refine hm.step hdr ho htr h1 h2 (fun e he hb => ?_) fun a' w' hm' => ih _ a' w' (by simpa using hsz) ?_ (by rw [hset]; exact hm')
    · have h4 := h3 e he hb
      have hlt : e.on < listed.size := by
        rcases Nat.lt_or_ge e.on listed.size with h | h
        · exact h
        · simp [Array.getElem?_eq_none h] at h4
      simp [hlt] at h4 ⊢; exact h4
    · rw [hset, countP_set _ i h2 _ List.nodup_range (List.mem_range.2 hil)]
      omega

end main


theorem drew_rep {F : Fr} {H : Hp} {m : Mp} {w : World} (h : HRep F H m w) : HRep F H m { w with drawn := w.drawn + 1 } ∧ Later F H m w H m { w with drawn := w.drawn + 1 } := by
  have he : Ext w { w with drawn := w.drawn + 1 } := ⟨rfl, rfl, rfl, Nat.le_refl _, fun _ _ => rfl⟩
  exact ⟨h.ext he, HRep.ext_later he⟩

theorem awp_region_draw {cf : Cfg} (hcf : TblOk P cf) (hmix : P.follows .mixedOrders = true) {F : Fr} {Q : Exit → St → Prop} {st : St} {id : Nat} {ops : Array Oper} (hord : ordOk ops st.n (Region.before ops) = true)
    (h : ∀ K : St → Prop, (∀ st, Q .normal st → K st) → evalOps P cf true ops.toList ops.toList st K) : AWp P F (.region id ops true) Q st := by
  intro m a w hs
  have ho := ord_of hord
  obtain ⟨tr, fin, hfin, hn, htr⟩ := evalOps_tr hcf ops.toList st (fun o hom t ht => by
    obtain ⟨i, hi⟩ := List.getElem?_of_mem hom
    exact ho.dst i o t (by simpa using hi) ht) (h (Q .normal) fun _ h => h)
  obtain ⟨hl, hg', hH', hN', _⟩ := TrP_at htr
  obtain ⟨hl0, _, _, _, hstep⟩ := TrP_at htr
  have hl2 : tr.length = ops.size := by simpa using hl
  refine wp_region_any hmix ?_
  obtain ⟨hr1, hr2⟩ := drew_rep hs.h
  refine Mid.any (n := st.n) rfl ho htr (F := F) ?_ ops.size (Array.replicate ops.size false) a _ (by simp) (by omega) ?_
  · intro D a w hall hm
    obtain ⟨m, k, hk, hwr, hrep, hfree, hsl⟩ := hm.at_
    have hconst : ∀ (i : Nat) o s, ops[i]? = some o → tr[i]? = some s → mayW o.op = false → s.H = HH tr st.H i ∧ s.nx = NN tr st.nx i := by
      intro i o s ho hs hw
      have h := hstep i o s (by simpa using ho) hs
      cases hb : s.b with
      | false => exact (h.2.1 hb).2
      | true => have := (h.2.2 hb).2.2.2 rfl hw; exact ⟨this.1, this.2.1⟩
    have hc := HH_const (H0 := st.H) (n0 := st.nx) hl2 hconst (ops.size - k) k (by omega) (fun j o hj1 hj2 hj => by
      cases hw : mayW o.op with
      | false => rfl
      | true => have := (hwr j o hj hw).1 (hall j (by omega)); omega)
    rw [show k + (ops.size - k) = ops.size by omega] at hc
    have hlen : ops.toList.length = ops.size := by simp
    rw [hlen] at hg' hH' hN'
    refine ⟨fin, m, hfin, hm.d, by rw [hn]; exact hm.sz, by rw [hH', hc.1]; exact hrep, by rw [hN', hc.2]; exact hfree, fun t => ?_⟩
    rw [hH', hc.1]
    have : fin.get t = val ops tr st.get D t := by
      rw [hg', G_val ho hl2 ops.size (Nat.le_refl _) t]
      by_cases hex : ∃ (i : Nat) (o : Oper), ops[i]? = some o ∧ o.dst = some t
      · obtain ⟨i, o, hi, hd⟩ := hex
        have hil := (Array.getElem?_eq_some_iff.1 hi).1
        have hsi : tr[i]? = some (tr[i]'(by omega)) := List.getElem?_eq_getElem _
        rw [val_dst ho hi hsi hd, val_dst ho hi hsi hd, hall i hil]
        simp [hil]
      · rw [val_none, val_none]
        · intro i o hi hd; exact hex ⟨i, o, hi, hd⟩
        · intro i o hi hd; exact hex ⟨i, o, hi, hd⟩
    rw [this]
    exact hsl t
  · have hfalse : ∀ i, i < ops.size → (Array.replicate ops.size false).getD i true = false := fun i hi => by simp [hi]
    refine ⟨hs.d, hs.sz, fun i o e hi hD => ?_, m, 0, Nat.zero_le _, fun j o hj hw => ?_, hr1, fun i hi => hs.fr i hi, fun t => ?_⟩
    · rw [hfalse i (Array.getElem?_eq_some_iff.1 hi).1] at hD; cases hD
    · rw [hfalse j (Array.getElem?_eq_some_iff.1 hj).1]; simp
    · have : val ops tr st.get (fun i => (Array.replicate ops.size false).getD i true) t = st.get t := by
        by_cases hex : ∃ (i : Nat) (o : Oper), ops[i]? = some o ∧ o.dst = some t
        · obtain ⟨i, o, hi, hd⟩ := hex
          have hil := (Array.getElem?_eq_some_iff.1 hi).1
          have hsi : tr[i]? = some (tr[i]'(by omega)) := List.getElem?_eq_getElem _
          rw [val_dst ho hi hsi hd, hfalse i hil]; simp
        · exact val_none _ (fun i o hi hd => hex ⟨i, o, hi, hd⟩)
      rw [this]
      exact hr2.rep (hs.sl t)

end Go.Abs
