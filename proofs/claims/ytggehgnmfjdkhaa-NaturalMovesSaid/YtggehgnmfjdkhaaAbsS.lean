/-
  Regions; the rules for code.
-/
import Derived.Test.YtggehgnmfjdkhaaAbsM
import Derived.LoopN
namespace Go.Abs
set_option linter.unusedSimpArgs false
set_option linter.unusedVariables false
open Go.RowKit

variable {P : Program}

/-- the operations of a region, in the order of the text ('dr': its order is drawn) -/
def evalOps (P : Program) (cf : Cfg) (dr : Bool) (ops : List Oper) : List Oper → St → (St → Prop) → Prop
  | [], st, K => K st
  | o :: os, st, K => match o.guard with
    | none => (dr && cutB cf st o.op) = false ∧ opE P cf (fzFor cf st o.op) o.op (fun r st' => evalOps P cf dr ops os (st'.putO o.dst r) K)
    | some (j, want) => match (ops[j]?).bind (·.dst) with
      | some g => match st.get g with
        | .c (.b t) => (t = want → (dr && cutB cf (st.put g (.c (.b want))) o.op) = false ∧ opE P cf (fzFor cf (st.put g (.c (.b want))) o.op) o.op (fun r st' => evalOps P cf dr ops os (st'.putO o.dst r) K)) ∧
            (t = !want → evalOps P cf dr ops os ((st.put g (.c (.b (!want)))).putO o.dst (.t [])) K)
        | .t _ => evalOps P cf dr ops os (st.putO o.dst (.t [])) K
        | _ => False
      | none => False

theorem wanted_guard {ops : Array Oper} {o : Oper} {a : Act} {j g : Nat} {want t : Bool} (hg : o.guard = some (j, want)) (hj : (ops[j]?).bind (·.dst) = some g) (ha : a.tmps.getD g undef = .bool t) (hlt : g < a.tmps.size) : Region.wanted o (yielded ops a.tmps) = (t == want) := by
  have : a.tmps[g]? = some (.bool t) := by
    rw [Array.getElem?_eq_getElem hlt]
    simp [hlt] at ha
    rw [ha]
  simp only [Region.wanted, hg, yielded, hj, Option.bind_some, this]
  cases t <;> cases want <;> rfl

theorem rep_undef {F : Fr} {H : Hp} {m : Mp} {w : World} : RepA F H m w (.t []) undef := ⟨#[], rfl, rfl, by simp⟩

theorem unwanted_guard {ops : Array Oper} {o : Oper} {a : Act} {j g : Nat} {want : Bool} {vs : Array Value} (hg : o.guard = some (j, want)) (hj : (ops[j]?).bind (·.dst) = some g) (ha : a.tmps.getD g undef = .tuple vs) : Region.wanted o (yielded ops a.tmps) = false := by
  simp only [Region.wanted, hg, yielded, hj, Option.bind_some]
  rcases Nat.lt_or_ge g a.tmps.size with hlt | hge
  · have : a.tmps[g]? = some (.tuple vs) := by
      rw [Array.getElem?_eq_getElem hlt]
      simp [hlt] at ha
      rw [ha]
    simp [this]
  · simp [Array.getElem?_eq_none hge]

theorem rep_bool_lt {F : Fr} {st : St} {m : Mp} {a : Act} {w : World} (h : StRep F st m a w) {g : Nat} {t : Bool} (hg : st.get g = .c (.b t)) : a.tmps.getD g undef = .bool t ∧ g < a.tmps.size := by
  have := h.sl g
  rw [hg] at this
  have hv := rep_b this
  refine ⟨hv, ?_⟩
  rcases Nat.lt_or_ge g a.tmps.size with h | h
  · exact h
  · simp [Array.getElem?_eq_none h, undef] at hv

theorem evalOps_sound {cf : Cfg} (hcf : TblOk P cf) {ops : Array Oper} {F : Fr} {K : St → Prop} : ∀ (os : List Oper) (k : Nat) (st : St) (m : Mp) (a : Act) (w : World) (Q : Exit → Act → World → Prop),
    (∀ i, i < os.length → ops[k + i]? = os[i]?) → (∀ st m a w, K st → StRep F st m a w → Q .normal a w) → StRep F st m a w → evalOps P cf false ops.toList os st K → wpOps P ops Q (List.range' k os.length) a w
  | [], k, st, m, a, w, Q, _, hK, hs, h => hK st m a w h hs
  | o :: os, k, st, m, a, w, Q, hidx, hK, hs, h => by
    have h0 : ops[k]? = some o := by simpa using hidx 0 (by simp)
    have hrest : ∀ i, i < os.length → ops[k + 1 + i]? = os[i]? := fun i hi => by
      have := hidx (i + 1) (by simpa using hi)
      rw [show k + 1 + i = k + (i + 1) by omega]; simpa using this
    rw [List.length_cons, List.range'_succ, wpOps_cons]
    unfold wpOp
    simp only [h0]
    have run : ∀ (st : St) (m : Mp), StRep F st m a w → opE P cf (fzFor cf st o.op) o.op (fun r st' => evalOps P cf false ops.toList os (st'.putO o.dst r) K) → o.wp P a w (wpOps P ops Q (List.range' (k + 1) os.length)) Q := by
      intro st m hs h
      obtain ⟨m, hs⟩ := fzFor_fit cf st o.op F m a w hs
      obtain ⟨r, st', hk, hop⟩ := opE_sound hcf h
      exact (hop.exec hs).wp fun v w' ⟨m', h1, h2⟩ => evalOps_sound hcf os (k + 1) _ m' _ w' Q hrest hK (h1.putO o.dst h2) hk
    simp only [evalOps] at h
    split at h
    · rename_i hg
      have hw : Region.wanted o (yielded ops a.tmps) = true := by simp [Region.wanted, hg]
      rw [if_pos hw]
      exact .inl (run st m hs h.2)
    · rename_i j want hg
      split at h
      · rename_i g hj
        split at h
        · rename_i t ht
          obtain ⟨hv, hlt⟩ := rep_bool_lt hs ht
          have hj' : (ops[j]?).bind (·.dst) = some g := by simpa using hj
          have hw := wanted_guard (ops := ops) hg hj' hv hlt
          obtain ⟨h1, h2⟩ := h
          by_cases htw : t = want
          · subst htw
            rw [if_pos (by rw [hw]; simp)]
            exact .inl (run _ m (hs.tell g (by rw [hv]; exact rep_bool ..)) (h1 rfl).2)
          · have hne : t = !want := by cases t <;> cases want <;> simp_all
            rw [if_neg (by rw [hw]; simp [htw])]
            exact evalOps_sound hcf os (k + 1) _ m _ w Q hrest hK ((hs.tell g (r := .c (.b (!want))) (by rw [hv, hne]; exact rep_bool ..)).putO o.dst (r := .t []) rep_undef) (h2 hne)
        · rename_i tl ht
          have hj' : (ops[j]?).bind (·.dst) = some g := by simpa using hj
          have hv := hs.sl g
          rw [ht] at hv
          obtain ⟨vs, hv, _⟩ := hv
          rw [if_neg (by rw [unwanted_guard hg hj' hv]; simp)]
          exact evalOps_sound hcf os (k + 1) _ m _ w Q hrest hK (hs.putO o.dst (r := .t []) rep_undef) h
        · exact h.elim
      · exact h.elim

/-- the weakest precondition over abstract states -/
def AWp (P : Program) (F : Fr) (c : Code) (Q : Exit → St → Prop) (st : St) : Prop :=
  ∀ (m : Mp) (a : Act) (w : World), StRep F st m a w → c.wp P (fun e a' w' => ∃ st' m', Q e st' ∧ StRep F st' m' a' w') a w

section rules
variable {F : Fr} {Q : Exit → St → Prop} {st : St}

theorem awp_skip (h : Q .normal st) : AWp P F .skip Q st := fun m _ _ hs => wp_skip ⟨st, m, h, hs⟩
theorem awp_exit {id : Nat} (h : Q (.exit id) st) : AWp P F (.exit id) Q st := fun m _ _ hs => wp_exit ⟨st, m, h, hs⟩
theorem awp_ret (h : Q .ret st) : AWp P F .ret Q st := fun m _ _ hs => wp_ret ⟨st, m, h, hs⟩
theorem awp_label {l : Nat} (h : Q .normal st) : AWp P F (.label l) Q st := fun m _ _ hs => wp_label ⟨st, m, h, hs⟩

theorem awp_mono {c : Code} {Q' : Exit → St → Prop} (h : AWp P F c Q st) (hq : ∀ e st, Q e st → Q' e st) : AWp P F c Q' st :=
  fun m a w hs => wp_mono (h m a w hs) fun _ _ _ ⟨st', m', h1, h2⟩ => ⟨st', m', hq _ _ h1, h2⟩

/-- what comes behind -/
def Then (P : Program) (F : Fr) (c : Code) (Q : Exit → St → Prop) : Exit → St → Prop
  | .normal, st => AWp P F c Q st
  | e, st => Q e st

theorem awp_seq {x y : Code} (h : AWp P F x (Then P F y Q) st) : AWp P F (.seq x y) Q st := fun m a w hs =>
  wp_seq (wp_mono (h m a w hs) fun e a' w' ⟨st', m', h1, h2⟩ => by
    cases e with
    | normal => exact h1 m' a' w' h2
    | _ => exact ⟨st', m', h1, h2⟩)

theorem awp_cond {c : Operand} {x y : Code} {t : Bool} (hc : st.ev c = .c (.b t)) (ht : t = true → AWp P F x Q st) (hf : t = false → AWp P F y Q st) : AWp P F (.cond c x y) Q st := fun m a w hs => by
  have := hs.ev c
  rw [hc] at this
  exact wp_cond_split (rep_b this) (fun h => ht h m a w hs) (fun h => hf h m a w hs)

def InBlock (id : Nat) (Q : Exit → St → Prop) : Exit → St → Prop
  | .exit id', st => if id' = id then Q .normal st else Q (.exit id') st
  | e, st => Q e st

theorem awp_block {id : Nat} {c : Code} (h : AWp P F c (InBlock id Q) st) : AWp P F (.block id c) Q st := fun m a w hs =>
  wp_block (wp_mono (h m a w hs) fun e a' w' ⟨st', m', h1, h2⟩ => by
    cases e with
    | exit id' =>
      simp only [InBlock] at h1
      simp only [Exit.inBlock]
      split
      · rename_i he; rw [if_pos he] at h1; exact ⟨st', m', h1, h2⟩
      · rename_i he; rw [if_neg he] at h1; exact ⟨st', m', h1, h2⟩
    | _ => exact ⟨st', m', h1, h2⟩)

theorem awp_region {cf : Cfg} (hcf : TblOk P cf) {id : Nat} {ops : Array Oper} (h : ∀ K : St → Prop, (∀ st, Q .normal st → K st) → evalOps P cf false ops.toList ops.toList st K) : AWp P F (.region id ops false) Q st := fun m a w hs => by
  refine wp_region ?_
  have := evalOps_sound hcf (ops := ops) (F := F) (K := Q .normal) ops.toList 0 st m a w (fun e a' w' => ∃ st' m', Q e st' ∧ StRep F st' m' a' w') (fun i hi => by simp) (fun st m a w hK hs => ⟨st, m, hK, hs⟩) hs (h _ fun _ h => h)
  rw [List.range_eq_range']
  simpa using this


theorem awp_fit {c : Code} {st' : St} (hf : Fit st st') (h : AWp P F c Q st') : AWp P F c Q st := fun m a w hs => let ⟨m', hs'⟩ := hf F m a w hs; h m' a w hs'

theorem awp_loop {c : Code} {ι : Type} (inv : ι → St) (μ : ι → Nat) (i0 : ι) (h0 : Fit st (inv i0)) (hr : ∀ i, AWp P F c (fun e st' => match e with | .normal => ∃ j, Fit st' (inv j) ∧ μ j < μ i | e => Q e st') (inv i)) : AWp P F (.loop c) Q st := by
  intro m a w hs
  obtain ⟨m0, hs0⟩ := h0 F m a w hs
  have key : ∀ n i m a w, μ i < n → StRep F (inv i) m a w → Code.rounds P c (fun e a' w' => ∃ st' m', Q e st' ∧ StRep F st' m' a' w') n a w := by
    intro n
    induction n with
    | zero => intro i m a w h _; omega
    | succ n ih =>
      intro i m a w h hs
      rw [rounds_succ]
      refine wp_mono (hr i m a w hs) fun e a' w' ⟨st', m', h1, h2⟩ => ?_
      cases e with
      | normal =>
        obtain ⟨j, hj, hlt⟩ := h1
        obtain ⟨m2, hs2⟩ := hj F m' a' w' h2
        exact ih j m2 a' w' (by omega) hs2
      | _ => exact ⟨st', m', h1, h2⟩
  exact wp_loop_rounds _ (key (μ i0 + 1) i0 m0 a w (by omega) hs0)

end rules

end Go.Abs
