/-
  Regions that draw their order: operations that leave memory alone may come in any order that their edges allow; those that write are held apart from all that look at memory.
-/
import Derived.Test.YtggehgnmfjdkhaaAbsN
namespace Go.Abs
set_option linter.unusedSimpArgs false
set_option linter.unusedVariables false
open Go.RowKit

variable {P : Program}

/-- operations that look at no memory -/
def pureOp : Op → Bool
  | .move _ | .assign _ | .pick _ _ _ | .build _ _ | .binOp _ _ _ _ _ | .unOp _ _ _ | .convert _ _ _ | .fieldAddr _ _ _ | .field _ _ _ | .extract _ _ | .index _ _ _ => true
  | .call c => match c.callee with | .builtin .min | .builtin .max => true | _ => false
  | _ => false

theorem opE_pure {cf : Cfg} (hcf : TblOk P cf) {st : St} {o : Oper} (hp : pureOp o.op = true) {K : AV → St → Prop} (h : opE P cf st o.op K) : ∃ r, K r st ∧ ∀ (F : Fr) (H : Hp) (nx : Nat), OpQ P F H nx nx o st.ev r := by
  have yl : ∀ {r : AV} {f : (Operand → Value) → Sem Value}, (∀ ρ, execOp ρ o = (do pure (Next.value (← f ρ)))) → (∀ (F : Fr) (H' : Hp) (m : Mp) (w : World) (ρ : Operand → Value), HRep F H' m w → (∀ x ∈ o.op.operands, RepA F H' m w (st.ev x) (ρ x)) → Yl P F H' m w (f ρ) r) → ∀ (F : Fr) (H : Hp) (nx : Nat), OpQ P F H nx nx o st.ev r :=
    fun h1 h2 F H nx => OpQ.of_yl fun H' m w ρ hsup hrep hops => ⟨_, h1 ρ, h2 F H' m w ρ hrep hops⟩
  unfold opE at h
  split at h
  · rename_i x ho
    exact ⟨_, h, yl (f := fun ρ => pure (ρ x)) (fun ρ => by simp [execOp, ho]) fun F H' m w ρ _ hops => ⟨ρ x, rfl, hops x (by simp [ho, Op.operands])⟩⟩
  · rename_i x ho
    exact ⟨_, h, yl (f := fun ρ => pure (ρ x)) (fun ρ => by simp [execOp, ho]) fun F H' m w ρ _ hops => ⟨ρ x, rfl, hops x (by simp [ho, Op.operands])⟩⟩
  · rename_i c a b ho
    unfold pickT at h
    split at h
    · rename_i hc
      refine ⟨_, h, yl (f := fun ρ => do pure (if ← asBool (ρ c) then ρ a else ρ b)) (fun ρ => by simp [execOp, ho]) fun F H' m w ρ _ hops => ⟨ρ a, ?_, hops a (by simp [ho, Op.operands])⟩⟩
      have := hops c (by simp [ho, Op.operands])
      rw [hc] at this
      simp [rep_b this, asBool]
    · rename_i hc
      refine ⟨_, h, yl (f := fun ρ => do pure (if ← asBool (ρ c) then ρ a else ρ b)) (fun ρ => by simp [execOp, ho]) fun F H' m w ρ _ hops => ⟨ρ b, ?_, hops b (by simp [ho, Op.operands])⟩⟩
      have := hops c (by simp [ho, Op.operands])
      rw [hc] at this
      simp [rep_b this, asBool]
    · exact h.elim
  · rename_i ho; simp [ho, pureOp] at hp
  · rename_i ho; simp [ho, pureOp] at hp
  · rename_i t ps ho
    obtain ⟨r, hK, hr⟩ := buildT_sound h
    refine ⟨r, hK, yl (f := fun ρ => Instr.build t (ps.map fun (i, x) => (i, ρ x))) (fun ρ => by simp [execOp, ho]) fun F H' m w ρ _ hops => hr F H' m w _ (by simp) fun j x v hx hv => ?_⟩
    simp only [List.getElem?_map, Array.getElem?_toList, Option.map_eq_some_iff] at hx
    obtain ⟨p, hp, rfl⟩ := hx
    simp [hp] at hv
    subst hv
    exact hops p.2 (by simp [ho, Op.operands]; exact ⟨p.1, by have := Array.mem_of_getElem? hp; simpa using this⟩)
  · rename_i ho; simp [ho, pureOp] at hp
  · rename_i ho; simp [ho, pureOp] at hp
  · rename_i ho; simp [ho, pureOp] at hp
  · rename_i op t x y _ ho
    obtain ⟨r, hK, hr⟩ := binT_sound hcf.1 h
    exact ⟨r, hK, yl (f := fun ρ => do eqGuard op t x y (ρ x) (ρ y); binOp op t (ρ x) (ρ y)) (fun ρ => by simp [execOp, ho]) fun F H' m w ρ hrep hops => hr F H' m w _ _ x y (hops x (by simp [ho, Op.operands])) (hops y (by simp [ho, Op.operands]))⟩
  · rename_i op _ x ho
    obtain ⟨r, hK, hr⟩ := unT_sound (P := P) h
    exact ⟨r, hK, yl (f := fun ρ => Op.unary op (ρ x)) (fun ρ => by simp [execOp, ho]) fun F H' m w ρ hrep hops => hr F H' m w _ (hops x (by simp [ho, Op.operands]))⟩
  · rename_i s d x ho
    obtain ⟨hs, h⟩ := h
    obtain ⟨r, hK, hr⟩ := convT_sound (P := P) hs h
    exact ⟨r, hK, yl (f := fun ρ => convert s d (ρ x)) (fun ρ => by simp [execOp, ho]) fun F H' m w ρ hrep hops => hr F H' m w _ (hops x (by simp [ho, Op.operands]))⟩
  · rename_i ho; simp [ho, pureOp] at hp
  · rename_i ho; simp [ho, pureOp] at hp
  · rename_i s x f ho
    obtain ⟨r, hK, hr⟩ := fieldAddrT_sound (P := P) h
    exact ⟨r, hK, yl (f := fun ρ => Instr.fieldAt s (ρ x) f) (fun ρ => by simp [execOp, ho]) fun F H' m w ρ hrep hops => hr F H' m w _ (hops x (by simp [ho, Op.operands]))⟩
  · rename_i s x f ho
    obtain ⟨r, hK, hr⟩ := fieldT_sound (P := P) h
    exact ⟨r, hK, yl (f := fun ρ => Instr.field s (ρ x) f) (fun ρ => by simp [execOp, ho]) fun F H' m w ρ hrep hops => hr F H' m w _ (hops x (by simp [ho, Op.operands]))⟩
  · rename_i ho; simp [ho, pureOp] at hp
  · rename_i x i ho
    obtain ⟨r, hK, hr⟩ := extractT_sound (P := P) h
    exact ⟨r, hK, yl (f := fun ρ => Instr.extract (ρ x) i) (fun ρ => by simp [execOp, ho]) fun F H' m w ρ hrep hops => hr F H' m w _ (hops x (by simp [ho, Op.operands]))⟩
  · rename_i t x i ho
    obtain ⟨r, hK, hr⟩ := indexT_sound (P := P) h
    exact ⟨r, hK, yl (f := fun ρ => Instr.index t (ρ x) (ρ i)) (fun ρ => by simp [execOp, ho]) fun F H' m w ρ hrep hops => hr F H' m w _ _ (hops x (by simp [ho, Op.operands])) (hops i (by simp [ho, Op.operands]))⟩
  · rename_i c ho
    unfold callE at h
    simp only [ho, pureOp] at hp
    split at h
    · rename_i hc; simp [hc] at hp
    · rename_i hc; simp [hc] at hp
    · rename_i hc
      split at h
      · rename_i x y hx
        obtain ⟨r, hK, hr⟩ := minT_sound (P := P) h
        exact ⟨r, hK, yl (fun ρ => min_exec ho hc hx ρ) fun F H' m w ρ hrep hops => hr F H' m w _ _ _ _ (hops x (by simp [ho, Op.operands, Call.operands, hc]; rw [← Array.mem_toList_iff, hx]; simp)) (hops y (by simp [ho, Op.operands, Call.operands, hc]; rw [← Array.mem_toList_iff, hx]; simp))⟩
      · exact h.elim
    · rename_i hc
      split at h
      · rename_i x y hx
        obtain ⟨r, hK, hr⟩ := maxT_sound (P := P) h
        exact ⟨r, hK, yl (fun ρ => max_exec ho hc hx ρ) fun F H' m w ρ hrep hops => hr F H' m w _ _ _ _ (hops x (by simp [ho, Op.operands, Call.operands, hc]; rw [← Array.mem_toList_iff, hx]; simp)) (hops y (by simp [ho, Op.operands, Call.operands, hc]; rw [← Array.mem_toList_iff, hx]; simp))⟩
      · exact h.elim
    · rename_i hc; simp [hc] at hp
    · exact h.elim
  · exact h.elim

theorem fzFor_quiet {cf : Cfg} {st : St} {o : Op} (hc : cutB cf st o = false) : fzFor cf st o = st := by
  have : fzB cf st o = false := by
    cases o <;> try rfl
    · exact hc
    · rename_i c
      obtain ⟨callee, args, ts⟩ := c
      simp only [cutB] at hc
      unfold fzB
      split at hc
      · rename_i f hf
        simp only [Bool.or_eq_false_iff] at hc
        exact hc.2
      · rename_i hf
        simp only
  simp [fzFor, this]

theorem opE_quiet {cf : Cfg} {st : St} {o : Op} (hw : mayW o = false) (hc : cutB cf st o = false) {K : AV → St → Prop} (h : opE P cf st o K) : opE P cf st o (fun r st' => st' = st ∧ K r st') := by
  unfold opE at h ⊢
  split at h <;> first | (simp [mayW] at hw; done) | (simp only [true_and]; exact h) | skip
  · rename_i t n ps
    simp only [mayW] at hw
    simp only [hw, Bool.false_eq_true, if_false, true_and] at h ⊢
    exact h
  · rename_i t x lo hi
    simp only [cutB] at hc
    split at h
    · rename_i hx; rw [hx] at hc; simp [isOwn] at hc
    · rename_i hx
      simp only [true_and]
      exact h
    · rename_i hx
      simp only [true_and]
      exact h
  · rename_i c
    unfold callE at h ⊢
    simp only [mayW] at hw
    split at h <;> first | exact h.elim | (rename_i hcc; simp [hcc] at hw; done) | (simp only [true_and]; exact h) | skip
    rename_i f hf
    simp only [cutB, hf, Bool.or_eq_false_iff] at hc
    simp only [hc.1.1, hc.1.2, Bool.false_eq_true, if_false, true_and] at h ⊢
    exact h
  · exact h.elim

/-- two states that tell the same -/
structure Same (st s : St) : Prop where
  n : s.n = st.n
  H : s.H = st.H
  nx : s.nx = st.nx
  get : ∀ t, s.get t = st.get t

theorem Same.refl (st : St) : Same st st := ⟨rfl, rfl, rfl, fun _ => rfl⟩

theorem Same.put {st : St} {g : Nat} {x : AV} (h : st.get g = x) : Same st (st.put g x) := by
  unfold St.put
  split
  · refine ⟨rfl, rfl, rfl, fun t => ?_⟩
    by_cases ht : g = t
    · subst ht; simp [St.get, look] at h ⊢; exact h.symm
    · have : (g == t) = false := by simp [ht]
      simp [St.get, look, this]
  · exact Same.refl st

/-- the operation is wanted, or is not -/
def Wants (ops : List Oper) (o : Oper) (get : Nat → AV) (v : Bool) : Prop := match o.guard with
  | none => v = true
  | some (j, want) => ∃ g, (ops[j]?).bind (·.dst) = some g ∧ ((∃ t, get g = .c (.b t) ∧ v = (t == want)) ∨ ((∃ l, get g = .t l) ∧ v = false))

def evG (get : Nat → AV) : Operand → AV
  | .tmp t => get t
  | .const v => ofV v
  | .global _ => .u
  | .func f => .c (.a (.func (.func f) #[] #[]))

theorem ev_evG (st : St) : st.ev = evG st.get := by
  funext x; cases x <;> rfl

/-- one step of the text's order: wanted or not, what it yields, what it leaves -/
structure Step where
  b : Bool
  r : AV
  H : Hp
  nx : Nat

def StepP (P : Program) (dr : Bool) (ops : List Oper) (o : Oper) (get : Nat → AV) (H : Hp) (nx : Nat) (s : Step) : Prop :=
  Wants ops o get s.b ∧ (s.b = false → s.r = .t [] ∧ s.H = H ∧ s.nx = nx) ∧
  (s.b = true → nx ≤ s.nx ∧ ((s.H.buf = H.buf ∧ ((∀ i, i < nx → look s.H.box i = look H.box i) ∧ s.H.bor = H.bor) ∧ ∀ F : Fr, OpQ P F s.H nx s.nx o (evG get) s.r) ∨ ∀ F : Fr, OpW P F H s.H nx s.nx o (evG get) s.r) ∧
    (pureOp o.op = true → s.H = H ∧ s.nx = nx ∧ ∀ (F : Fr) (H : Hp) (nx : Nat), OpQ P F H nx nx o (evG get) s.r) ∧ (dr = true → mayW o.op = false → s.H = H ∧ s.nx = nx ∧ ∀ F : Fr, OpQ P F H nx nx o (evG get) s.r))

def upd (get : Nat → AV) (d : Option Nat) (r : AV) : Nat → AV := match d with | some d => fun t => if t = d then r else get t | none => get

def TrP (P : Program) (dr : Bool) (ops : List Oper) : List Oper → (Nat → AV) → Hp → Nat → List Step → (Nat → AV) → Hp → Nat → Prop
  | [], get, H, nx, [], get', H', nx' => get' = get ∧ H' = H ∧ nx' = nx
  | o :: os, get, H, nx, s :: tr, get', H', nx' => StepP P dr ops o get H nx s ∧ TrP P dr ops os (upd get o.dst s.r) s.H s.nx tr get' H' nx'
  | _, _, _, _, _, _, _, _ => False

theorem get_putO {st : St} {d : Option Nat} {r : AV} (hd : ∀ t, d = some t → t < st.n) : (st.putO d r).get = upd st.get d r := by
  funext t
  cases d with
  | none => rfl
  | some d =>
    have := hd d rfl
    simp only [St.putO, St.put, this, if_true, upd]
    by_cases ht : t = d
    · subst ht; simp [St.get, look]
    · have h2 : (d == t) = false := by simp; omega
      simp [St.get, look, h2, ht]

theorem evalOps_tr {cf : Cfg} (hcf : TblOk P cf) {ops : List Oper} {K : St → Prop} : ∀ (os : List Oper) (st : St), (∀ o ∈ os, ∀ t, o.dst = some t → t < st.n) → evalOps P cf true ops os st K →
    ∃ tr fin, K fin ∧ fin.n = st.n ∧ TrP P true ops os st.get st.H st.nx tr fin.get fin.H fin.nx
  | [], st, _, h => ⟨[], st, h, rfl, rfl, rfl, rfl⟩
  | o :: os, st, hd, h => by
    have hdo := hd o (List.mem_cons_self ..)
    have hdr : ∀ o ∈ os, ∀ t, o.dst = some t → t < st.n := fun o' ho' => hd o' (List.mem_cons_of_mem _ ho')
    have hputn : ∀ (s : St) (r : AV), (s.putO o.dst r).n = s.n := by
      intro s r; cases o.dst <;> simp [St.putO, St.put]; split <;> rfl
    have run : ∀ s1 : St, Same st s1 → Wants ops o st.get true → (true && cutB cf s1 o.op) = false → opE P cf (fzFor cf s1 o.op) o.op (fun r st' => evalOps P cf true ops os (st'.putO o.dst r) K) →
        ∃ tr fin, K fin ∧ fin.n = st.n ∧ TrP P true ops (o :: os) st.get st.H st.nx tr fin.get fin.H fin.nx := by
      intro s1 hsame hw hcut h
      have hcut2 : cutB cf s1 o.op = false := by simpa using hcut
      rw [fzFor_quiet hcut2] at h
      have hev : s1.ev = evG st.get := by rw [ev_evG]; congr 1; funext t; exact hsame.get t
      have fin : ∀ (r : AV) (s2 : St), s2.n = s1.n → s2.sl = s1.sl → evalOps P cf true ops os (s2.putO o.dst r) K → StepP P true ops o st.get st.H st.nx ⟨true, r, s2.H, s2.nx⟩ →
          ∃ tr fin, K fin ∧ fin.n = st.n ∧ TrP P true ops (o :: os) st.get st.H st.nx tr fin.get fin.H fin.nx := by
        intro r s2 hn hsl hk hstep
        have hn2 : (s2.putO o.dst r).n = st.n := by rw [hputn, hn, hsame.n]
        obtain ⟨tr, fin, h1, h2, h3⟩ := evalOps_tr hcf os (s2.putO o.dst r) (fun o' ho' t ht => by rw [hn2]; exact hdr o' ho' t ht) hk
        have hg : (s2.putO o.dst r).get = upd st.get o.dst r := by
          rw [get_putO (fun t ht => by rw [hn, hsame.n]; exact hdo t ht)]
          congr 1
          funext t
          have : s2.get t = s1.get t := by simp [St.get, hsl]
          rw [this, hsame.get]
        have hH : (s2.putO o.dst r).H = s2.H := by cases o.dst <;> simp [St.putO, St.put]; split <;> rfl
        have hx : (s2.putO o.dst r).nx = s2.nx := by cases o.dst <;> simp [St.putO, St.put]; split <;> rfl
        rw [hg, hH, hx] at h3
        exact ⟨⟨true, r, s2.H, s2.nx⟩ :: tr, fin, h1, h2.trans hn2, hstep, h3⟩
      by_cases hp : pureOp o.op = true
      · obtain ⟨r, hk, hq⟩ := opE_pure hcf hp h
        rw [hev] at hq
        refine fin r s1 rfl rfl hk ⟨hw, fun h => by simp at h, fun _ => ⟨by show st.nx ≤ s1.nx; rw [hsame.nx]; exact Nat.le_refl _, .inl ⟨by show s1.H.buf = _; rw [hsame.H], ⟨fun i _ => by show look s1.H.box i = _; rw [hsame.H], by show s1.H.bor = _; rw [hsame.H]⟩, fun F => ?_⟩, fun _ => ⟨hsame.H, hsame.nx, hq⟩, fun _ _ => ⟨hsame.H, hsame.nx, fun F => hq F _ _⟩⟩⟩
        · show OpQ P F s1.H st.nx s1.nx o _ _
          rw [hsame.nx]; exact hq F _ _
      · by_cases hq : mayW o.op = false
        · have hmw := hq
          obtain ⟨r, s2, ⟨hs2, hk⟩, h1, h2, h3, h4⟩ := opE_sound hcf (opE_quiet hmw hcut2 h)
          subst hs2
          rcases h4 with ⟨h4, h5, h6⟩ | ⟨h4, _⟩
          · rw [hev, hsame.H, hsame.nx] at h6
            refine fin r s2 h1 h2 hk ⟨hw, fun h => by simp at h, fun _ => ⟨by show st.nx ≤ s2.nx; rw [hsame.nx]; exact Nat.le_refl _, .inl ⟨by show s2.H.buf = _; rw [hsame.H], ⟨fun i _ => by show look s2.H.box i = _; rw [hsame.H], by show s2.H.bor = _; rw [hsame.H]⟩, fun F => ?_⟩, fun h => absurd h hp, fun _ _ => ⟨hsame.H, hsame.nx, h6⟩⟩⟩
            show OpQ P F s2.H st.nx s2.nx o _ _
            rw [hsame.H, hsame.nx]; exact h6 F
          · rw [hmw, hcut2] at h4; simp at h4
        · obtain ⟨r, s2, hk, h1, h2, h3, h4⟩ := opE_sound hcf h
          rw [hev, hsame.H, hsame.nx] at h4
          rw [hsame.nx] at h3
          exact fin r s2 h1 h2 hk ⟨hw, fun h => by simp at h, fun _ => ⟨h3, h4.elim .inl (fun h => .inr h.2), fun h => absurd h hp, fun h1 h2 => absurd h2 hq⟩⟩
    have skip : ∀ s1 : St, Same st s1 → Wants ops o st.get false → evalOps P cf true ops os (s1.putO o.dst (.t [])) K → ∃ tr fin, K fin ∧ fin.n = st.n ∧ TrP P true ops (o :: os) st.get st.H st.nx tr fin.get fin.H fin.nx := by
      intro s1 hsame hw hk
      have hn2 : (s1.putO o.dst (.t [])).n = st.n := by rw [hputn, hsame.n]
      obtain ⟨tr, fin, h1, h2, h3⟩ := evalOps_tr hcf os (s1.putO o.dst (.t [])) (fun o' ho' t ht => by rw [hn2]; exact hdr o' ho' t ht) hk
      have hg : (s1.putO o.dst (.t [])).get = upd st.get o.dst (.t []) := by
        rw [get_putO (fun t ht => by rw [hsame.n]; exact hdo t ht)]
        congr 1
        funext t
        exact hsame.get t
      have hH : (s1.putO o.dst (.t [])).H = st.H := by rw [← hsame.H]; cases o.dst <;> simp [St.putO, St.put]; split <;> rfl
      have hx : (s1.putO o.dst (.t [])).nx = st.nx := by rw [← hsame.nx]; cases o.dst <;> simp [St.putO, St.put]; split <;> rfl
      rw [hg, hH, hx] at h3
      exact ⟨⟨false, .t [], st.H, st.nx⟩ :: tr, fin, h1, h2.trans hn2, ⟨hw, fun _ => ⟨rfl, rfl, rfl⟩, fun h => by simp at h⟩, h3⟩
    simp only [evalOps] at h
    split at h
    · rename_i hg
      exact run st (Same.refl st) (by simp [Wants, hg]) h.1 h.2
    · rename_i j want hg
      split at h
      · rename_i g hj
        split at h
        · rename_i t ht
          obtain ⟨h1, h2⟩ := h
          by_cases htw : t = want
          · subst htw
            exact run _ (Same.put ht) (by simp only [Wants, hg]; exact ⟨g, hj, .inl ⟨t, ht, by simp⟩⟩) (h1 rfl).1 (h1 rfl).2
          · have hne : t = !want := by cases t <;> cases want <;> simp_all
            exact skip _ (Same.put (by rw [ht, hne])) (by simp only [Wants, hg]; exact ⟨g, hj, .inl ⟨t, ht, by simp [htw]⟩⟩) (h2 hne)
        · rename_i tl ht
          exact skip st (Same.refl st) (by unfold Wants; rw [hg]; exact ⟨g, hj, .inr ⟨⟨tl, ht⟩, rfl⟩⟩) h
        · exact h.elim
      · exact h.elim

end Go.Abs
