/-
  The evaluation of single operations is sound: literals of slices; a step's meaning; writing.
-/
import Derived.Test.YtggehgnmfjdkhaaAbsF
namespace Go.Abs
set_option linter.unusedSimpArgs false
set_option linter.unusedVariables false
open Go.RowKit

variable {P : Program}

theorem alloc_later {F : Fr} {H : Hp} {m : Mp} (w : World) (o : Obj) : Later F H m w H m (w.alloc o) := HRep.ext_later (alloc_ext w o)

theorem newRow_run (e : TypeId) (cells : Array Value) (w : World) : (newRow e cells).run P w = .ok ⟨w.heap.size, 0, none⟩ (w.alloc (.cells cells e)) := rfl

theorem new_rd {F : Fr} {H : Hp} {m : Mp} {w : World} (h : HRep F H m w) {c : C} {z : Nat} {rs : List (List C)} (hrows : c.rows = some (z, rs)) (hz : 0 < z) (hr : ∀ r ∈ rs, r.length = z) (hm : rs.length ≤ maxLen)
    (arr : Array Value) (e : TypeId) (cap : Nat) (hcap : rs.length ≤ cap) (hx : RdRow w (F.S m) z rs arr.toList) : Rd (w.alloc (.cells arr e)) (F.S m) c (.slice (some ⟨w.heap.size, 0, none⟩) rs.length cap) := by
  by_cases he : rs = []
  · subst he; exact .emp _ _ _ _ hrows (fun h => by cases h)
  · refine .sl c z rs w.heap.size 0 cap (fun i j => (arr[i * z + j]?).getD undef) hrows he hz hm hcap hr (.inr ⟨h.size, fun ho => by have := own_lt h ho; omega⟩) ?_ ?_
    · intro i j y hy
      obtain ⟨u, hu, _⟩ := hx i j y hy
      have hu' : arr[i * z + j]? = some u := by simpa using hu
      simp only [World.cell?, heap_alloc_new, Nat.zero_add, hu', Option.getD_some]
      rfl
    · intro i j y hy
      obtain ⟨u, hu, hrd⟩ := hx i j y hy
      have hu' : arr[i * z + j]? = some u := by simpa using hu
      simp only [hu', Option.getD_some]
      exact hrd.mono (alloc_later (F := F) (H := H) (m := m) w _).st

theorem flatMap_get {z : Nat} : ∀ (vs : List Value) (i j : Nat) (v : Value), (∀ v ∈ vs, v.cells.size = z) → vs[i]? = some v → j < z → (vs.flatMap fun v => v.cells.toList)[i * z + j]? = v.cells.toList[j]?
  | [], i, j, v, h, hv, hj => by simp at hv
  | x :: vs, 0, j, v, h, hv, hj => by
    simp at hv; subst hv
    have := h x (List.mem_cons_self ..)
    simp only [List.flatMap_cons, Nat.zero_mul, Nat.zero_add]
    rw [List.getElem?_append_left (by simp; omega)]
  | x :: vs, i + 1, j, v, h, hv, hj => by
    have hx := h x (List.mem_cons_self ..)
    simp only [List.flatMap_cons]
    rw [List.getElem?_append_right (by simp [hx, Nat.add_mul]; omega)]
    have e : (i + 1) * z + j - x.cells.toList.length = i * z + j := by simp [hx, Nat.add_mul]; omega
    rw [e]
    exact flatMap_get vs i j v (fun u hu => h u (List.mem_cons_of_mem _ hu)) (by simpa using hv) hj

/-- a literal of a slice -/
def litT (P : Program) (t : TypeId) (len : Nat) (ps : List (Nat × AV)) (K : AV → Prop) : Prop := match elO P t with
  | some e => match litO P e (ps.map (·.2)) with
    | some c => ps.map (·.1) = List.range len ∧ szO P e = some c.z ∧ (zeroO P e).isSome = true ∧ len * c.z ≤ 16777216 ∧ 0 < c.z ∧ K (.c c)
    | none => False
  | none => False

theorem litT_sound {t : TypeId} {len : Nat} {ps : List (Nat × AV)} {K : AV → Prop} (h : litT P t len ps K) :
    ∃ r, K r ∧ ∀ (F : Fr) (H : Hp) (m : Mp) (w : World) (vs : Array (Nat × Value)), HRep F H m w → vs.toList.map (·.1) = ps.map (·.1) → (∀ (j : Nat) x v, ps[j]? = some x → vs[j]? = some v → RepA F H m w x.2 v.2) →
      ∃ v w', (Instr.buildSlice t len vs).run P w = .ok v w' ∧ Ext w w' ∧ RepA F H m w' r v := by
  unfold litT at h
  split at h
  · rename_i e he
    split at h
    · rename_i c hc
      obtain ⟨hidx, hsz, hzero, hle, hz0, hK⟩ := h
      refine ⟨_, hK, fun F H m w vs hrep hi hr => ?_⟩
      obtain ⟨rs, hrows, hlen, hrs⟩ := litO_rows hc hsz rfl
      obtain ⟨zs, hzs⟩ := Option.isSome_iff_exists.1 hzero
      obtain ⟨it, z, hit, hzz, rfl⟩ := zeroO_some hzs
      have hpl : ps.length = len := by have := congrArg List.length hidx; simpa using this
      have hvl : vs.size = len := by have := congrArg List.length hi; simp at this; omega
      have hvals : ∀ (j : Nat) v, vs[j]? = some v → RdL w (F.S m) ((rs[j]?).getD []) v.2.cells.toList ∧ v.2.cells.size = c.z := by
        intro j v hv
        have hlt := (Array.getElem?_eq_some_iff.1 hv).1
        have hx : ps[j]? = some (ps[j]'(by omega)) := List.getElem?_eq_getElem _
        obtain ⟨r, h1, h2, h3⟩ := hrs j (ps[j]'(by omega)).2 (by simp [hx])
        have h4 := cellsOf_rep h1 (hr j _ v hx hv)
        simp only [h2, Option.getD_some]
        exact ⟨h4, by have := h4.1; simp at this; omega⟩
      have henum : vs.toList = ((vs.toList.map (·.2)).zipIdx 0).map fun p => (p.2, p.1) := by
        apply List.ext_getElem?
        intro j
        simp only [List.getElem?_map, List.getElem?_zipIdx, Nat.zero_add]
        cases hj : vs.toList[j]? with
        | none => simp
        | some v =>
          have h1 : (vs.toList.map (·.1))[j]? = some v.1 := by simp [hj]
          rw [hi, hidx] at h1
          have h2 := (List.getElem?_eq_some_iff.1 h1).1
          simp at h2
          simp [List.getElem?_range h2] at h1
          simp [h1]
      have hall : ∀ v ∈ vs.toList.map (·.2), v.cells.size = c.z := by
        intro v hv
        obtain ⟨p, hp, rfl⟩ := List.mem_map.1 hv
        obtain ⟨j, hj⟩ := List.getElem?_of_mem hp
        exact (hvals j p (by simpa using hj)).2
      have hfill := lit_fill c.z (vs.toList.map (·.2)) 0 ((Array.range (len * c.z)).map (z.cells[· % z.cells.size]!)) hall (by simp [hvl])
      rw [← henum] at hfill
      have e1 : (0 + (vs.toList.map (·.2)).length) * c.z = len * c.z := by simp [hvl]
      rw [e1] at hfill
      have e2 : ((Array.range (len * c.z)).map (z.cells[· % z.cells.size]!)).toList.drop (len * c.z) = [] := List.drop_eq_nil_of_le (by simp)
      rw [e2] at hfill
      simp only [Nat.zero_mul, List.take_zero, List.nil_append, List.append_nil] at hfill
      have hnot : ¬ len * c.z > 2 ^ 24 := by omega
      have hne : ¬ len * c.z = 0 ∨ len * c.z = 0 := by omega
      have hrun : (Instr.buildSlice t len vs).run P w = .ok (.slice (some ⟨w.heap.size, 0, none⟩) len len) (w.alloc (.cells ((vs.toList.map (·.2)).flatMap fun v => v.cells.toList).toArray e)) := by
        rcases hne with hne | hne
        · simp only [Instr.buildSlice, Sem.run_bind, run_underlying (elO_some he), Result.andThen_ok, szO_run hsz, hnot, if_false, hne]
          simp [zeroValue, typeInfo, hit, hzz, hfill, newRow_run]
        · have hl0 : len = 0 := by
            rcases Nat.mul_eq_zero.1 hne with h | h
            · exact h
            · omega
          subst hl0
          have hv0 : vs = #[] := by apply Array.eq_empty_of_size_eq_zero; exact hvl
          subst hv0
          simp only [Instr.buildSlice, Sem.run_bind, run_underlying (elO_some he), Result.andThen_ok, szO_run hsz, Nat.zero_mul]
          simp [Instr.fill, newRow_run]
          congr 2
          apply Array.eq_empty_of_size_eq_zero
          simp
      refine ⟨_, _, hrun, alloc_ext w _, ?_⟩
      have hrl : ∀ r ∈ rs, r.length = c.z := by
        intro r hrm
        obtain ⟨j, hj⟩ := List.getElem?_of_mem hrm
        have hlt := (List.getElem?_eq_some_iff.1 hj).1
        have hx : ps[j]? = some (ps[j]'(by simp at hlen; omega)) := List.getElem?_eq_getElem _
        obtain ⟨r', h1, h2, h3⟩ := hrs j (ps[j]'(by simp at hlen; omega)).2 (by simp [hx])
        rw [hj] at h2; cases h2; exact h3
      have hrslen : rs.length = len := by simp at hlen; omega
      have hmax : rs.length ≤ maxLen := by
        have : len ≤ len * c.z := Nat.le_mul_of_pos_right _ hz0
        unfold maxLen; omega
      rw [← hrslen]
      refine new_rd hrep hrows hz0 hrl hmax _ e rs.length (Nat.le_refl _) ?_
      intro i j y hy
      obtain ⟨h1, h2⟩ := at2_lt hrl hy
      have hv : vs[i]? = some (vs[i]'(by omega)) := Array.getElem?_eq_getElem _
      obtain ⟨h3, h4⟩ := hvals i _ hv
      have hrow : ∃ r, rs[i]? = some r ∧ r[j]? = some y := by
        unfold at2 at hy
        cases hr' : rs[i]? with
        | none => simp [hr'] at hy
        | some r => exact ⟨r, rfl, by simpa [hr'] using hy⟩
      obtain ⟨r, hr1, hr2⟩ := hrow
      rw [hr1, Option.getD_some] at h3
      obtain ⟨u, hu, hrd⟩ := h3.get hr2
      refine ⟨u, ?_, hrd⟩
      simp only [List.toList_toArray]
      rw [flatMap_get _ i j (vs[i]'(by omega)).2 hall (by simp [hv]) h2]
      exact hu
    · exact h.elim
  · exact h.elim


/-- an operation runs to a value, itself or by a call -/
def Exec (P : Program) (o : Oper) (ρ : Operand → Value) (w : World) (R : Value → World → Prop) : Prop :=
  match (execOp ρ o).run P w with
  | .ok (.value v) w' => R v w'
  | .ok .skip w' => R undef w'
  | .ok (.enter f args) w' => Calls P f args w' fun e w'' => ∃ v, e = .returned v ∧ R v w''
  | _ => False

theorem Exec.mono {o : Oper} {ρ : Operand → Value} {w : World} {R R' : Value → World → Prop} (h : Exec P o ρ w R) (hr : ∀ v w', R v w' → R' v w') : Exec P o ρ w R' := by
  unfold Exec at *
  split at h
  · exact hr _ _ h
  · exact hr _ _ h
  · exact Calls.mono h fun e w' ⟨v, he, h⟩ => ⟨v, he, hr _ _ h⟩
  · exact h.elim

theorem Exec.wp {o : Oper} {a : Act} {w : World} {R : Value → World → Prop} {K : Act → World → Prop} {Q : Exit → Act → World → Prop} (h : Exec P o a.eval w R) (hk : ∀ v w', R v w' → K (a.put o.dst v) w') : o.wp P a w K Q := by
  unfold Exec at h
  unfold Oper.wp
  generalize (execOp a.eval o).run P w = r at h
  cases r with
  | ok n w' =>
    cases n <;> simp only [Oper.upon] at h ⊢ <;> first | exact h.elim | exact hk _ _ h | skip
    exact Calls.mono h fun e w'' ⟨v, he, hr⟩ => by subst he; exact hk _ _ hr
  | halt x w' => exact h.elim

theorem Exec.congr {o : Oper} {ρ ρ' : Operand → Value} (hs : ∀ cs b, o.op ≠ .select cs b) (h : ∀ x ∈ o.op.operands, ρ x = ρ' x) {w : World} {R : Value → World → Prop} (he : Exec P o ρ w R) : Exec P o ρ' w R := by
  unfold Exec at *
  rw [← execOp_congr o hs h]
  exact he

/-- a quiet operation: it turns nothing that lies; what it makes is told already by the abstract memory -/
def OpQ (P : Program) (F : Fr) (H : Hp) (nx nx' : Nat) (o : Oper) (ev : Operand → AV) (r : AV) : Prop :=
  ∀ (H' : Hp) (m : Mp) (w : World) (ρ : Operand → Value), Sup H' H → HRep F H' m w → (∀ i, nx ≤ i → i < nx' → m.bx i = none) → (∀ x ∈ o.op.operands, RepA F H' m w (ev x) (ρ x)) →
    Exec P o ρ w fun v w' => ∃ m', HRep F H' m' w' ∧ Later F H' m w H' m' w' ∧ m'.bf = m.bf ∧ (∀ i, ¬ (nx ≤ i ∧ i < nx') → m.bx i = none → m'.bx i = none) ∧ RepA F H' m' w' r v

/-- an operation that yields, and leaves the world alone -/
theorem OpQ.of_yl {F : Fr} {H : Hp} {nx : Nat} {o : Oper} {ev : Operand → AV} {r : AV}
    (h : ∀ (H' : Hp) (m : Mp) (w : World) (ρ : Operand → Value), Sup H' H → HRep F H' m w → (∀ x ∈ o.op.operands, RepA F H' m w (ev x) (ρ x)) → ∃ s, execOp ρ o = (do pure (Next.value (← s))) ∧ Yl P F H' m w s r) : OpQ P F H nx nx o ev r := by
  intro H' m w ρ hsup hrep _ hops
  obtain ⟨s, hs, v, hrun, hr⟩ := h H' m w ρ hsup hrep hops
  unfold Exec
  rw [hs]
  simp only [Sem.run_bind, hrun, Result.andThen_ok, Sem.run_pure]
  exact ⟨m, hrep, ⟨fun b h _ => ⟨h, rfl⟩, fun _ _ h => h, fun id B h => ⟨B, h, Nat.le_refl _, fun _ => ⟨fun _ h => h, rfl⟩⟩, fun _ B h => ⟨B, h, rfl⟩⟩, rfl, fun _ _ h => h, hr⟩

/-- an operation that yields, and makes new memory that no box holds -/
theorem OpQ.of_ext {F : Fr} {H : Hp} {nx : Nat} {o : Oper} {ev : Operand → AV} {r : AV}
    (h : ∀ (H' : Hp) (m : Mp) (w : World) (ρ : Operand → Value), Sup H' H → HRep F H' m w → (∀ x ∈ o.op.operands, RepA F H' m w (ev x) (ρ x)) → Exec P o ρ w fun v w' => Ext w w' ∧ RepA F H' m w' r v) : OpQ P F H nx nx o ev r := by
  intro H' m w ρ hsup hrep _ hops
  exact (h H' m w ρ hsup hrep hops).mono fun v w' ⟨he, hr⟩ => ⟨m, hrep.ext he, HRep.ext_later he, rfl, fun _ _ h => h, hr⟩

def Hp.addBox (H : Hp) (id : Nat) (cs : List AV) : Hp := { H with box := (id, cs) :: H.box }
def Hp.addBor (H : Hp) (id : Nat) (B : Bor) : Hp := { H with bor := (id, B) :: H.bor }
def Hp.addBuf (H : Hp) (id : Nat) (B : Buf) : Hp := { H with buf := (id, B) :: H.buf }

theorem newVar_run (e : TypeId) (v : Value) (w : World) : (newVar e v).run P w = .ok ⟨w.heap.size, 0, none⟩ (w.alloc (.cells v.cells e)) := rfl

/-- a new variable -/
theorem OpQ.alloc {F : Fr} {H : Hp} {nx : Nat} {o : Oper} {ev : Operand → AV} {e : TypeId} {zs : List Value} (ho : o.op = .alloc e) (hz : zeroO P e = some zs) (h1 : zs.all oneCell = true) :
    OpQ P F (H.addBox nx (zs.map fun v => .c (ofC v))) nx (nx + 1) o ev (.bx nx 0) := by
  intro H' m w ρ hsup hrep hfree _
  obtain ⟨it, z, hit, hzz, rfl⟩ := zeroO_some hz
  have hl := hsup.1.1 nx (z.cells.toList.map fun v => .c (ofC v)) (by simp [Hp.addBox, look])
  have hnb := hrep.newBox nx (hfree nx (Nat.le_refl _) (by omega)) z.cells e _ hl (by simp) (fun j x u hx hu => by
    simp only [List.getElem?_map, Option.map_eq_some_iff] at hx
    obtain ⟨v, hv, rfl⟩ := hx
    have : v = u := by simp at hv; rw [hu] at hv; exact (Option.some.inj hv).symm
    subst this
    have hone : oneCell v = true := List.all_eq_true.1 h1 v (List.mem_of_getElem? hv)
    exact ⟨hone, rd_ofC w _ v hone⟩)
  unfold Exec
  have hrun : (execOp ρ o).run P w = .ok (.value (.pointer (some ⟨w.heap.size, 0, none⟩))) (w.alloc (.cells z.cells e)) := by
    simp [execOp, ho, Instr.alloc, zeroValue, typeInfo, hit, hzz, newVar_run]
  rw [hrun]
  refine ⟨_, hnb.1, hnb.2, rfl, fun i hi h => ?_, w.heap.size, by simp [Mp.addBx], rfl⟩
  simp only [Mp.addBx]
  split
  · omega
  · exact h

/-- a new variable with a value -/
theorem OpQ.box {F : Fr} {H : Hp} {nx : Nat} {o : Oper} {ev : Operand → AV} {e : TypeId} {x : Operand} {cs : List C} (ho : o.op = .box e x) (hc : cellsOf (ev x) = some cs) :
    OpQ P F (H.addBox nx (cs.map .c)) nx (nx + 1) o ev (.bx nx 0) := by
  intro H' m w ρ hsup hrep hfree hops
  have hx := hops x (by simp [ho, Op.operands])
  have hcr := cellsOf_rep hc hx
  have hl := hsup.1.1 nx (cs.map .c) (by simp [Hp.addBox, look])
  have hnb := hrep.newBox nx (hfree nx (Nat.le_refl _) (by omega)) (ρ x).cells e _ hl (by have := hcr.1; simpa using this) (fun j y u hy hu => by
    simp only [List.getElem?_map, Option.map_eq_some_iff] at hy
    obtain ⟨c, hcj, rfl⟩ := hy
    have := hcr.2 j c u hcj (by simpa using hu)
    exact ⟨this.one, this⟩)
  unfold Exec
  have hrun : (execOp ρ o).run P w = .ok (.value (.pointer (some ⟨w.heap.size, 0, none⟩))) (w.alloc (.cells (ρ x).cells e)) := by
    simp [execOp, ho, Instr.box, newVar_run]
  rw [hrun]
  refine ⟨_, hnb.1, hnb.2, rfl, fun i hi h => ?_, w.heap.size, by simp [Mp.addBx], rfl⟩
  simp only [Mp.addBx]
  split
  · omega
  · exact h

end Go.Abs
