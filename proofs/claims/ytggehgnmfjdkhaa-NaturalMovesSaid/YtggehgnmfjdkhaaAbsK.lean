/-
  All operations; states; regions whose order is that of the text; the rules for code.
-/
import Derived.Test.YtggehgnmfjdkhaaAbsJ
namespace Go.Abs
set_option linter.unusedSimpArgs false
set_option linter.unusedVariables false
open Go.RowKit

variable {P : Program}

/-- the callee hands back a buffer -/
def ownF (cf : Cfg) (f : FuncId) : Bool := match cf.tbl f with | some ct => ct.own.isSome || ct.win.isSome | none => false
/-- the callee cuts a buffer -/
def cutA (cf : Cfg) (f : FuncId) (args : List AV) : Bool := match cf.tbl f with | some ct => ct.cut.isSome && isOne args | none => false
/-- buffers handed to a callee that may hand them back -/
def fzB (cf : Cfg) (st : St) : Op → Bool
  | .call c => match c.callee with
    | .value (.func f) => match cf.tbl f with | some ct => !ct.fresh && !ct.own.isSome && !(ct.cut.isSome && isOne (c.args.toList.map st.ev)) && (c.args.toList.map st.ev).any isOwn | none => false
    | _ => false
  | .build _ ps => (ps.toList.map fun p => st.ev p.2).any isOwn
  | _ => false

def callE (P : Program) (cf : Cfg) (st : St) (c : Call) (K : AV → St → Prop) : Prop := match c.callee with
  | .builtin .len => match c.args.toList, c.argTypes.toList with
    | [x], [t] => match st.ev x with
      | .c (.str s) => P.underlying t = some .string ∧ K (.c (.i .i64 s.size)) st
      | y => (elO P t).isSome = true ∧ lenT st.H y (fun r => K r st)
    | _, _ => False
  | .builtin .append => match c.args.toList, c.argTypes.toList with
    | [x, y], [t, t'] => t = t' ∧ appT P st.H st.nx t (st.ev x) (st.ev y) (fun r H nx => K r { st with H, nx })
    | _, _ => False
  | .builtin .min => match c.args.toList with
    | [x, y] => minT (st.ev x) (st.ev y) (fun r => K r st)
    | _ => False
  | .builtin .max => match c.args.toList with
    | [x, y] => maxT (st.ev x) (st.ev y) (fun r => K r st)
    | _ => False
  | .value (.func f) => if ownF cf f then callOT cf st.H st.nx f (c.args.toList.map st.ev) (fun r H nx => K r { st with H, nx }) else if cutA cf f (c.args.toList.map st.ev) then callCT cf st.H st.nx f (c.args.toList.map st.ev) (fun r H nx => K r { st with H, nx }) else callT cf st.H f (c.args.toList.map st.ev) (fun r => K r st)
  | _ => False

def opE (P : Program) (cf : Cfg) (st : St) (o : Op) (K : AV → St → Prop) : Prop := match o with
  | .move x => K (st.ev x) st
  | .assign x => K (st.ev x) st
  | .pick c a b => pickT (st.ev c) (K (st.ev a) st) (K (st.ev b) st)
  | .alloc e => match zeroO P e with
    | some zs => zs.all oneCell = true ∧ K (.bx st.nx 0) { st with H := st.H.addBox st.nx (zs.map fun v => .c (ofC v)), nx := st.nx + 1 }
    | none => False
  | .box _ x => match cellsOf (st.ev x) with
    | some cs => K (.bx st.nx 0) { st with H := st.H.addBox st.nx (cs.map .c), nx := st.nx + 1 }
    | none => False
  | .build t ps => buildT P t (ps.toList.map fun p => (p.1, st.ev p.2)) (fun r => K r st)
  | .buildSlice t n ps => if n == 0 then ps.size = 0 ∧ lit0T P st.H st.nx t (fun r H nx => K r { st with H, nx }) else litT P t n (ps.toList.map fun p => (p.1, st.ev p.2)) (fun r => K r st)
  | .load t x => loadT P st.H t (st.ev x) (fun r => K r st)
  | .store t a x => storeT P st.H t (st.ev a) (st.ev x) (fun H => K .u { st with H })
  | .binOp op t x y _ => binT P cf op t (st.ev x) (st.ev y) (fun r => K r st)
  | .unOp op _ x => unT op (st.ev x) (fun r => K r st)
  | .convert s d x => (P.underlying s).isSome = true ∧ convT P d (st.ev x) (fun r => K r st)
  | .makeSlice t l c => makeT P st.H st.nx t (st.ev l) (st.ev c) (fun r H nx => K r { st with H, nx })
  | .slice t x lo hi none => match st.ev x with
    | .own id ver => cutT P st.H st.nx t (.own id ver) (lo.map st.ev) (hi.map st.ev) (fun r H nx => K r { st with H, nx })
    | .bw k l n => bcutT P st.H t k l n (lo.map st.ev) (hi.map st.ev) (fun r => K r st)
    | y => sliceT P t y (lo.map st.ev) (hi.map st.ev) (fun r => K r st)
  | .fieldAddr s x f => fieldAddrT P s (st.ev x) f (fun r => K r st)
  | .field s x f => fieldT P s (st.ev x) f (fun r => K r st)
  | .indexAddr t x i => indexAddrT P st.H t (st.ev x) (st.ev i) (fun r => K r st)
  | .extract x i => extractT (st.ev x) i (fun r => K r st)
  | .index t x i => indexT P t (st.ev x) (st.ev i) (fun r => K r st)
  | .call c => callE P cf st c K
  | _ => False

/-- a buffer is cut -/
def cutB (cf : Cfg) (st : St) : Op → Bool
  | .slice _ x _ _ _ => isOwn (st.ev x)
  | .call c => match c.callee with | .value (.func f) => (ownF cf f || cutA cf f (c.args.toList.map st.ev)) || fzB cf st (.call c) | _ => false
  | .build t ps => fzB cf st (.build t ps)
  | _ => false

/-- operations that may write -/
def mayW : Op → Bool
  | .store _ _ _ | .makeSlice _ _ _ | .alloc _ | .box _ _ => true
  | .buildSlice _ n _ => n == 0
  | .call c => match c.callee with | .builtin .append => true | _ => false
  | _ => false

/-- what a step does to a state: it is quiet, or it writes -/
def OpS (P : Program) (cf : Cfg) (st st' : St) (o : Oper) (r : AV) : Prop :=
  st'.n = st.n ∧ st'.sl = st.sl ∧ st.nx ≤ st'.nx ∧
  ((st'.H.buf = st.H.buf ∧ ((∀ i, i < st.nx → look st'.H.box i = look st.H.box i) ∧ st'.H.bor = st.H.bor) ∧ ∀ F : Fr, OpQ P F st'.H st.nx st'.nx o st.ev r) ∨ ((mayW o.op || cutB cf st o.op) = true ∧ ∀ F : Fr, OpW P F st.H st'.H st.nx st'.nx o st.ev r))

theorem OpS.same {cf : Cfg} {st : St} {o : Oper} {r : AV} (h : ∀ F : Fr, OpQ P F st.H st.nx st.nx o st.ev r) : OpS P cf st st o r := ⟨rfl, rfl, Nat.le_refl _, .inl ⟨rfl, ⟨fun _ _ => rfl, rfl⟩, h⟩⟩
theorem OpS.writes {cf : Cfg} {st : St} {o : Oper} {r : AV} {H : Hp} {nx : Nat} (hm : (mayW o.op || cutB cf st o.op) = true) (hnx : st.nx ≤ nx) (h : ∀ F : Fr, OpW P F st.H H st.nx nx o st.ev r) : OpS P cf st { st with H, nx } o r := ⟨rfl, rfl, hnx, .inr ⟨hm, h⟩⟩

theorem len_exec {o : Oper} {x : Operand} {c : Call} (ho : o.op = .call c) (hc : c.callee = .builtin .len) (hx : c.args.toList = [x]) (t : TypeId) (ht : c.argTypes.toList = [t]) (ρ : Operand → Value) :
    execOp ρ o = (do pure (Next.value (← Builtin.len_ #[t] o.type #[ρ x]))) := by
  obtain ⟨callee, args, tys⟩ := c
  obtain ⟨args⟩ := args
  obtain ⟨tys⟩ := tys
  simp at hx ht hc
  subst hx; subst ht; subst hc
  have e : Array.map ρ ⟨[x]⟩ = #[ρ x] := by simp
  simp only [execOp, ho, resolve, pure_bind, invoke, builtin, e]

theorem min_exec {o : Oper} {x y : Operand} {c : Call} (ho : o.op = .call c) (hc : c.callee = .builtin .min) (hx : c.args.toList = [x, y]) (ρ : Operand → Value) :
    execOp ρ o = (do pure (Next.value (← Builtin.min_ c.argTypes o.type #[ρ x, ρ y]))) := by
  obtain ⟨callee, args, tys⟩ := c
  obtain ⟨args⟩ := args
  simp at hx hc
  subst hx; subst hc
  have e : Array.map ρ ⟨[x, y]⟩ = #[ρ x, ρ y] := by simp
  simp only [execOp, ho, resolve, pure_bind, invoke, builtin, e]
theorem max_exec {o : Oper} {x y : Operand} {c : Call} (ho : o.op = .call c) (hc : c.callee = .builtin .max) (hx : c.args.toList = [x, y]) (ρ : Operand → Value) :
    execOp ρ o = (do pure (Next.value (← Builtin.max_ c.argTypes o.type #[ρ x, ρ y]))) := by
  obtain ⟨callee, args, tys⟩ := c
  obtain ⟨args⟩ := args
  simp at hx hc
  subst hx; subst hc
  have e : Array.map ρ ⟨[x, y]⟩ = #[ρ x, ρ y] := by simp
  simp only [execOp, ho, resolve, pure_bind, invoke, builtin, e]

theorem appT_nx {H : Hp} {nx : Nat} {t : TypeId} {x y : AV} {K : AV → Hp → Nat → Prop} (h : appT P H nx t x y K) : appT P H nx t x y (fun r H' nx' => nx ≤ nx' ∧ K r H' nx') := by
  unfold appT at *
  repeat' split at h
  all_goals first | exact h.elim | skip
  all_goals simp [*]

theorem makeT_nx {H : Hp} {nx : Nat} {t : TypeId} {x y : AV} {K : AV → Hp → Nat → Prop} (h : makeT P H nx t x y K) : makeT P H nx t x y (fun r H' nx' => nx ≤ nx' ∧ K r H' nx') := by
  unfold makeT at *
  repeat' split at h
  all_goals first | exact h.elim | skip
  all_goals simp [*]

theorem lit0T_nx {H : Hp} {nx : Nat} {t : TypeId} {K : AV → Hp → Nat → Prop} (h : lit0T P H nx t K) : lit0T P H nx t (fun r H' nx' => nx ≤ nx' ∧ K r H' nx') := by
  unfold lit0T at *
  repeat' split at h
  all_goals first | exact h.elim | skip
  all_goals simp [*]

theorem cutT_nx {H : Hp} {nx : Nat} {t : TypeId} {x : AV} {lo hi : Option AV} {K : AV → Hp → Nat → Prop} (h : cutT P H nx t x lo hi K) : cutT P H nx t x lo hi (fun r H' nx' => nx ≤ nx' ∧ K r H' nx') := by
  unfold cutT at *
  repeat' split at h
  all_goals first | exact h.elim | skip
  all_goals simp [*]


theorem call_ext {c : Call} {b : Callee} {xs : List Operand} {ts : List TypeId} (h1 : c.callee = b) (h2 : c.args.toList = xs) (h3 : c.argTypes.toList = ts) : c = { callee := b, args := xs.toArray, argTypes := ts.toArray } := by
  obtain ⟨callee, args, tys⟩ := c
  simp at h1 h2 h3
  subst h1; subst h2; subst h3
  simp

theorem callE_sound {cf : Cfg} (hcf : TblOk P cf) {st : St} {o : Oper} {c : Call} (ho : o.op = .call c) {K : AV → St → Prop} (h : callE P cf st c K) : ∃ r st', K r st' ∧ OpS P cf st st' o r := by
  unfold callE at h
  split at h
  · rename_i hc
    split at h
    · rename_i x t hx ht
      split at h
      · rename_i s hs
        obtain ⟨hu, hK⟩ := h
        refine ⟨_, st, hK, OpS.same fun F => OpQ.of_yl fun H' m w ρ hsup hrep hops => ⟨_, len_exec ho hc hx t ht ρ, ?_⟩⟩
        have hxr := hops x (by simp [ho, Op.operands, Call.operands, hc]; rw [← Array.mem_toList_iff, hx]; simp)
        rw [hs] at hxr
        obtain hρ := rd_str hxr
        rw [hρ]
        exact ⟨_, by simp [Builtin.len_, run_underlying hu, goInt], rep_int ..⟩
      · rename_i hns
        obtain ⟨he, hl⟩ := h
        obtain ⟨r, hK, hr⟩ := lenT_sound (P := P) (t := t) (.inl he) hl
        refine ⟨r, st, hK, OpS.same fun F => OpQ.of_yl fun H' m w ρ hsup hrep hops => ⟨_, len_exec ho hc hx t ht ρ, ?_⟩⟩
        have hxr := hops x (by simp [ho, Op.operands, Call.operands, hc]; rw [← Array.mem_toList_iff, hx]; simp)
        refine hr F H' m w (ρ x) o.type hsup hrep hxr (fun hu => ?_) (fun _ s => hns s)
        obtain ⟨e, he⟩ := Option.isSome_iff_exists.1 he
        rw [elO_some he] at hu; cases hu
    · exact h.elim
  · rename_i hc
    split at h
    · rename_i x y t t' hx ht
      obtain ⟨rfl, h⟩ := h
      have hcc := call_ext hc hx ht
      obtain ⟨r, H', nx', ⟨hnx, hK⟩, hr⟩ := appT_sound (P := P) (o := o) (ev := st.ev) (x := x) (y := y) (by rw [ho, hcc]) (appT_nx h)
      exact ⟨r, _, hK, OpS.writes (by simp [ho, mayW, hc]) hnx hr⟩
    · exact h.elim
  · rename_i hc
    split at h
    · rename_i x y hx
      obtain ⟨r, hK, hr⟩ := minT_sound (P := P) h
      refine ⟨r, st, hK, OpS.same fun F => OpQ.of_yl fun H' m w ρ hsup hrep hops => ⟨_, min_exec ho hc hx ρ, ?_⟩⟩
      exact hr F H' m w _ _ _ _ (hops x (by simp [ho, Op.operands, Call.operands, hc]; rw [← Array.mem_toList_iff, hx]; simp)) (hops y (by simp [ho, Op.operands, Call.operands, hc]; rw [← Array.mem_toList_iff, hx]; simp))
    · exact h.elim
  · rename_i hc
    split at h
    · rename_i x y hx
      obtain ⟨r, hK, hr⟩ := maxT_sound (P := P) h
      refine ⟨r, st, hK, OpS.same fun F => OpQ.of_yl fun H' m w ρ hsup hrep hops => ⟨_, max_exec ho hc hx ρ, ?_⟩⟩
      exact hr F H' m w _ _ _ _ (hops x (by simp [ho, Op.operands, Call.operands, hc]; rw [← Array.mem_toList_iff, hx]; simp)) (hops y (by simp [ho, Op.operands, Call.operands, hc]; rw [← Array.mem_toList_iff, hx]; simp))
    · exact h.elim
  · rename_i f hc
    have hcc : c = { callee := .value (.func f), args := c.args, argTypes := c.argTypes } := by obtain ⟨a, b, d⟩ := c; simp at hc; subst hc; rfl
    split at h
    · rename_i hof
      obtain ⟨r, H', nx', hK, hnx, hr⟩ := callOT_sound (P := P) hcf (nx := st.nx) (o := o) (ev := st.ev) (f := f) (args := c.args) (ts := c.argTypes) rfl (by rw [ho, hcc]) h
      exact ⟨r, _, hK, OpS.writes (by simp [ho, cutB, hc, hof]) hnx hr⟩
    split at h
    · rename_i hof hca
      obtain ⟨r, H', hK, hr⟩ := callCT_sound (P := P) hcf (nx := st.nx) (o := o) (ev := st.ev) (f := f) (args := c.args) (ts := c.argTypes) rfl (by rw [ho, hcc]) h
      exact ⟨r, _, hK, OpS.writes (by simp [ho, cutB, hc, hca]) (Nat.le_refl _) hr⟩
    · obtain ⟨r, hK, hr⟩ := callT_sound (P := P) hcf (nx := st.nx) (o := o) (ev := st.ev) (f := f) (args := c.args) (ts := c.argTypes) rfl (by rw [ho, hcc]) h
      exact ⟨r, st, hK, OpS.same hr⟩
  · exact h.elim

theorem opE_sound {cf : Cfg} (hcf : TblOk P cf) {st : St} {o : Oper} {K : AV → St → Prop} (h : opE P cf st o.op K) : ∃ r st', K r st' ∧ OpS P cf st st' o r := by
  unfold opE at h
  have yl : ∀ {r : AV} {f : (Operand → Value) → Sem Value}, (∀ ρ, execOp ρ o = (do pure (Next.value (← f ρ)))) → (∀ (F : Fr) (H' : Hp) (m : Mp) (w : World) (ρ : Operand → Value), Sup H' st.H → HRep F H' m w → (∀ x ∈ o.op.operands, RepA F H' m w (st.ev x) (ρ x)) → Yl P F H' m w (f ρ) r) → OpS P cf st st o r :=
    fun h1 h2 => OpS.same fun F => OpQ.of_yl fun H' m w ρ hsup hrep hops => ⟨_, h1 ρ, h2 F H' m w ρ hsup hrep hops⟩
  split at h
  · rename_i x ho
    exact ⟨_, st, h, yl (f := fun ρ => pure (ρ x)) (fun ρ => by simp [execOp, ho]) fun F H' m w ρ _ _ hops => ⟨ρ x, rfl, hops x (by simp [ho, Op.operands])⟩⟩
  · rename_i x ho
    exact ⟨_, st, h, yl (f := fun ρ => pure (ρ x)) (fun ρ => by simp [execOp, ho]) fun F H' m w ρ _ _ hops => ⟨ρ x, rfl, hops x (by simp [ho, Op.operands])⟩⟩
  · rename_i c a b ho
    unfold pickT at h
    split at h
    · rename_i hc
      refine ⟨_, st, h, yl (f := fun ρ => do pure (if ← asBool (ρ c) then ρ a else ρ b)) (fun ρ => by simp [execOp, ho]) fun F H' m w ρ _ _ hops => ⟨ρ a, ?_, hops a (by simp [ho, Op.operands])⟩⟩
      have := hops c (by simp [ho, Op.operands])
      rw [hc] at this
      simp [rep_b this, asBool]
    · rename_i hc
      refine ⟨_, st, h, yl (f := fun ρ => do pure (if ← asBool (ρ c) then ρ a else ρ b)) (fun ρ => by simp [execOp, ho]) fun F H' m w ρ _ _ hops => ⟨ρ b, ?_, hops b (by simp [ho, Op.operands])⟩⟩
      have := hops c (by simp [ho, Op.operands])
      rw [hc] at this
      simp [rep_b this, asBool]
    · exact h.elim
  · rename_i e ho
    split at h
    · rename_i zs hz
      obtain ⟨h1, hK⟩ := h
      exact ⟨_, _, hK, rfl, rfl, Nat.le_succ _, .inl ⟨rfl, ⟨fun i hi => look_add_ne _ _ _ _ (by omega), rfl⟩, fun F => OpQ.alloc ho hz h1⟩⟩
    · exact h.elim
  · rename_i e x ho
    split at h
    · rename_i cs hc
      exact ⟨_, _, h, rfl, rfl, Nat.le_succ _, .inl ⟨rfl, ⟨fun i hi => look_add_ne _ _ _ _ (by omega), rfl⟩, fun F => OpQ.box ho hc⟩⟩
    · exact h.elim
  · rename_i t ps ho
    obtain ⟨r, hK, hr⟩ := buildT_sound h
    refine ⟨r, st, hK, yl (f := fun ρ => Instr.build t (ps.map fun (i, x) => (i, ρ x))) (fun ρ => by simp [execOp, ho]) fun F H' m w ρ _ _ hops => hr F H' m w _ (by simp) fun j x v hx hv => ?_⟩
    simp only [List.getElem?_map, Array.getElem?_toList, Option.map_eq_some_iff] at hx
    obtain ⟨p, hp, rfl⟩ := hx
    simp [hp] at hv
    subst hv
    exact hops p.2 (by simp [ho, Op.operands]; exact ⟨p.1, by have := Array.mem_of_getElem? hp; simpa using this⟩)
  · rename_i t n ps ho
    split at h
    · rename_i hn
      have hn0 : n = 0 := by simpa using hn
      subst hn0
      obtain ⟨r, H', nx', ⟨hnx, hK⟩, hr⟩ := lit0T_sound (o := o) (ev := st.ev) ho h.1 (lit0T_nx h.2)
      exact ⟨r, _, hK, OpS.writes (by simp [ho, mayW]) hnx hr⟩
    obtain ⟨r, hK, hr⟩ := litT_sound h
    refine ⟨r, st, hK, OpS.same fun F => OpQ.of_ext fun H' m w ρ hsup hrep hops => ?_⟩
    obtain ⟨v, w', hrun, hext, hrr⟩ := hr F H' m w (ps.map fun (i, x) => (i, ρ x)) hrep (by simp) (fun j x v hx hv => by
      simp only [List.getElem?_map, Array.getElem?_toList, Option.map_eq_some_iff] at hx
      obtain ⟨p, hp, rfl⟩ := hx
      simp [hp] at hv
      subst hv
      exact hops p.2 (by simp [ho, Op.operands]; exact ⟨p.1, by have := Array.mem_of_getElem? hp; simpa using this⟩))
    unfold Exec
    have hex : (execOp ρ o).run P w = .ok (.value v) w' := by simp only [execOp, ho, Sem.run_bind, hrun, Result.andThen_ok, Sem.run_pure]
    rw [hex]
    exact ⟨hext, hrr⟩
  · rename_i t x ho
    obtain ⟨r, hK, hr⟩ := loadT_sound h
    exact ⟨r, st, hK, yl (f := fun ρ => Instr.loadAt t (ρ x)) (fun ρ => by simp [execOp, ho]) fun F H' m w ρ hsup hrep hops => hr F H' m w _ hsup hrep (hops x (by simp [ho, Op.operands]))⟩
  · rename_i t a x ho
    obtain ⟨H', hK, hr⟩ := storeT_sound (nx := st.nx) ho h
    exact ⟨_, _, hK, OpS.writes (by simp [ho, mayW]) (Nat.le_refl _) hr⟩
  · rename_i op t x y _ ho
    obtain ⟨r, hK, hr⟩ := binT_sound hcf.1 h
    exact ⟨r, st, hK, yl (f := fun ρ => do eqGuard op t x y (ρ x) (ρ y); binOp op t (ρ x) (ρ y)) (fun ρ => by simp [execOp, ho]) fun F H' m w ρ hsup hrep hops => hr F H' m w _ _ x y (hops x (by simp [ho, Op.operands])) (hops y (by simp [ho, Op.operands]))⟩
  · rename_i op _ x ho
    obtain ⟨r, hK, hr⟩ := unT_sound (P := P) h
    exact ⟨r, st, hK, yl (f := fun ρ => Op.unary op (ρ x)) (fun ρ => by simp [execOp, ho]) fun F H' m w ρ hsup hrep hops => hr F H' m w _ (hops x (by simp [ho, Op.operands]))⟩
  · rename_i s d x ho
    obtain ⟨hs, h⟩ := h
    obtain ⟨r, hK, hr⟩ := convT_sound (P := P) hs h
    exact ⟨r, st, hK, yl (f := fun ρ => convert s d (ρ x)) (fun ρ => by simp [execOp, ho]) fun F H' m w ρ hsup hrep hops => hr F H' m w _ (hops x (by simp [ho, Op.operands]))⟩
  · rename_i t l c ho
    obtain ⟨r, H', nx', ⟨hnx, hK⟩, hr⟩ := makeT_sound (o := o) (ev := st.ev) ho (makeT_nx h)
    exact ⟨r, _, hK, OpS.writes (by simp [ho, mayW]) hnx hr⟩
  · rename_i t x lo hi ho
    split at h
    · rename_i id ver hx
      rw [← hx] at h
      obtain ⟨r, H', nx', ⟨hnx, hK⟩, hr⟩ := cutT_sound (o := o) (ev := st.ev) ho (cutT_nx h)
      exact ⟨r, _, hK, OpS.writes (by simp [ho, mayW, cutB, hx, isOwn]) hnx hr⟩
    · rename_i k l n hx
      obtain ⟨r, hK, hr⟩ := bcutT_sound (P := P) h
      refine ⟨r, st, hK, yl (f := fun ρ => Instr.sliceAt t (ρ x) (lo.map ρ) (hi.map ρ) none) (fun ρ => by simp [execOp, ho]) fun F H' m w ρ hsup hrep hops => ?_⟩
      have hxr := hops x (by simp [ho, Op.operands])
      rw [hx] at hxr
      refine hr F H' m w _ _ _ hsup hrep hxr ?_ ?_
      · intro hy; simp at hy; simp [hy]
      · intro y hy
        obtain ⟨a, rfl, rfl⟩ := Option.map_eq_some_iff.1 hy
        exact ⟨_, rfl, hops a (by simp [ho, Op.operands])⟩
    · obtain ⟨r, hK, hr⟩ := sliceT_sound (P := P) h
      refine ⟨r, st, hK, yl (f := fun ρ => Instr.sliceAt t (ρ x) (lo.map ρ) (hi.map ρ) none) (fun ρ => by simp [execOp, ho]) fun F H' m w ρ hsup hrep hops => hr F H' m w _ _ _ (hops x (by simp [ho, Op.operands])) ?_ ?_ ?_ ?_⟩
      · intro y hy
        obtain ⟨a, rfl, rfl⟩ := Option.map_eq_some_iff.1 hy
        exact ⟨_, rfl, hops a (by simp [ho, Op.operands])⟩
      · intro hy; simp at hy; simp [hy]
      · intro y hy
        obtain ⟨a, rfl, rfl⟩ := Option.map_eq_some_iff.1 hy
        exact ⟨_, rfl, hops a (by simp [ho, Op.operands])⟩
      · intro hy; simp at hy; simp [hy]
  · rename_i s x f ho
    obtain ⟨r, hK, hr⟩ := fieldAddrT_sound (P := P) h
    exact ⟨r, st, hK, yl (f := fun ρ => Instr.fieldAt s (ρ x) f) (fun ρ => by simp [execOp, ho]) fun F H' m w ρ hsup hrep hops => hr F H' m w _ (hops x (by simp [ho, Op.operands]))⟩
  · rename_i s x f ho
    obtain ⟨r, hK, hr⟩ := fieldT_sound (P := P) h
    exact ⟨r, st, hK, yl (f := fun ρ => Instr.field s (ρ x) f) (fun ρ => by simp [execOp, ho]) fun F H' m w ρ hsup hrep hops => hr F H' m w _ (hops x (by simp [ho, Op.operands]))⟩
  · rename_i t x i ho
    obtain ⟨r, hK, hr⟩ := indexAddrT_sound (P := P) h
    exact ⟨r, st, hK, yl (f := fun ρ => Instr.indexAt t (ρ x) (ρ i)) (fun ρ => by simp [execOp, ho]) fun F H' m w ρ hsup hrep hops => hr F H' m w _ _ hsup hrep (hops x (by simp [ho, Op.operands])) (hops i (by simp [ho, Op.operands]))⟩
  · rename_i x i ho
    obtain ⟨r, hK, hr⟩ := extractT_sound (P := P) h
    exact ⟨r, st, hK, yl (f := fun ρ => Instr.extract (ρ x) i) (fun ρ => by simp [execOp, ho]) fun F H' m w ρ hsup hrep hops => hr F H' m w _ (hops x (by simp [ho, Op.operands]))⟩
  · rename_i t x i ho
    obtain ⟨r, hK, hr⟩ := indexT_sound (P := P) h
    exact ⟨r, st, hK, yl (f := fun ρ => Instr.index t (ρ x) (ρ i)) (fun ρ => by simp [execOp, ho]) fun F H' m w ρ hsup hrep hops => hr F H' m w _ _ (hops x (by simp [ho, Op.operands])) (hops i (by simp [ho, Op.operands]))⟩
  · rename_i c ho
    exact callE_sound hcf ho h
  · exact h.elim

end Go.Abs
