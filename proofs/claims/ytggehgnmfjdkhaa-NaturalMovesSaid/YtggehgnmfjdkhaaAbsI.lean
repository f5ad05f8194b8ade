/-
  append, make, cutting a buffer.
-/
import Derived.Test.YtggehgnmfjdkhaaAbsH
namespace Go.Abs
set_option linter.unusedSimpArgs false
set_option linter.unusedVariables false
open Go.RowKit

variable {P : Program}

/-- the version that a buffer of this number gets -/
def verN (H : Hp) (id : Nat) : Nat := match look H.buf id with | some B => B.ver + 1 | none => 0

def notStr : C → Bool
  | .str _ => false
  | _ => true

def appT (P : Program) (H : Hp) (nx : Nat) (t : TypeId) (x y : AV) (K : AV → Hp → Nat → Prop) : Prop :=
  match elO P t, srcC H y with
  | some e, some c2 => match szO P e, byO P e, zeroO P e with
    | some z, some by_, some zs => match x with
      | .c .nil => match emptyO P e with
        | some c0 => match c0.app c2 with
          | some c => match c.len with
            | some n => (zs.length = z ∧ 0 < z ∧ 0 < by_ ∧ c0.z = z ∧ notStr c2 = true) ∧ n * by_ ≤ 140737488355328 ∧ K (.own nx (verN H nx)) (H.addBuf nx ⟨verN H nx, e, z, c⟩) (nx + 1)
            | none => False
          | none => False
        | none => False
      | .own id ver => match curB H id ver with
        | some B => match B.con.app c2 with
          | some c => match c.len with
            | some n => (zs.length = z ∧ 0 < z ∧ 0 < by_ ∧ B.z = z ∧ B.e = e ∧ notStr c2 = true) ∧ n * by_ ≤ 140737488355328 ∧ K (.own id (ver + 1)) (H.addBuf id ⟨ver + 1, e, z, c⟩) nx
            | none => False
          | none => False
        | none => False
      | _ => False
    | _, _, _ => False
  | _, _ => False

theorem emptyO_rows {e : TypeId} {c0 : C} (h : emptyO P e = some c0) : c0.rows = some (c0.z, []) := by
  unfold emptyO at h
  split at h
  · cases h; rfl
  · cases h; rfl
  · obtain ⟨z, hz, rfl⟩ := Option.map_eq_some_iff.1 h; rfl
  · cases h

theorem byO_some {e : TypeId} {b z : Nat} {zs : List Value} (h : byO P e = some b) (h2 : szO P e = some z) (h3 : zeroO P e = some zs) : ∃ i v, P.info? e = some i ∧ i.bytes = b ∧ i.size = z ∧ i.zero = some v ∧ v.cells.toList = zs := by
  obtain ⟨i, v, hi, hv, rfl⟩ := zeroO_some h3
  simp [byO, hi] at h
  simp [szO, hi] at h2
  exact ⟨i, v, hi, h, h2, hv, rfl⟩

/-- append onto a buffer of the call's own, or onto nothing -/
theorem append_core {F : Fr} {H : Hp} {m : Mp} {w : World} (hrep : HRep F H m w) {t ty e : TypeId} {z by_ : Nat} {zs : List Value} (he : elO P t = some e) (hsz : szO P e = some z) (hby : byO P e = some by_) (hze : zeroO P e = some zs) (hzl : zs.length = z) (hz0 : 0 < z) (hb0 : 0 < by_)
    {c c2 c3 : C} {rs : List (List C)} {xs : List Value} {u v2 : Value} {y : AV} (hrows : c.rows = some (z, rs)) (hrl : ∀ r ∈ rs, r.length = z) (hown : w.ownsRow 0 e z u rs.length xs) (hrd : RdRow w (F.S m) z rs xs)
    (hs : srcC H y = some c2) (hy : RepA F H m w y v2) (ha : c.app c2 = some c3) (hns : notStr c2 = true) {n : Nat} (hn : c3.len = some n) (hroom : n * by_ ≤ 140737488355328) :
    ∃ v' w' rs' xs', (Builtin.append_ #[t, t] ty #[u, v2]).run P w = .ok v' w' ∧ c3.rows = some (z, rs') ∧ (∀ r ∈ rs', r.length = z) ∧ w'.ownsRow 0 e z v' rs'.length xs' ∧ w.grownBy w' u.ownBlock ∧ (∀ g, v'.ownBlock = some g → u.ownBlock = some g ∨ w.heap.size ≤ g) ∧ RdRow w (F.S m) z rs' xs' := by
  obtain ⟨i, z0, hi, hib, his, hiz, hzs⟩ := byO_some hby hsz hze
  have hzc : z0.cells.size = z := by rw [← hzl, ← hzs]; simp
  have same : ∀ v', (Builtin.append_ #[t, t] ty #[u, v2]).run P w = .ok v' w → v' = u → c3.rows = some (z, rs) → ∃ v' w' rs' xs', (Builtin.append_ #[t, t] ty #[u, v2]).run P w = .ok v' w' ∧ c3.rows = some (z, rs') ∧ (∀ r ∈ rs', r.length = z) ∧ w'.ownsRow 0 e z v' rs'.length xs' ∧ w.grownBy w' u.ownBlock ∧ (∀ g, v'.ownBlock = some g → u.ownBlock = some g ∨ w.heap.size ≤ g) ∧ RdRow w (F.S m) z rs' xs' := by
    rintro v' hrun rfl h3
    exact ⟨v', w, rs, xs, hrun, h3, hrl, hown, ⟨rfl, rfl, rfl, Nat.le_refl _, fun _ _ _ => rfl⟩, fun g hg => .inl hg, hrd⟩
  have happ := app_rows hrows ha (fun s e => by subst e; simp [notStr] at hns)
  have grow : ∀ (a : Addr) (k cap : Nat) (news : List Value) (rs2 : List (List C)), c3.rows = some (z, rs ++ rs2) → (∀ r ∈ rs2, r.length = z) → k = rs2.length → v2 = .slice (some a) k cap → news.length = k * z → (∀ (j : Nat) u, news[j]? = some u → w.cell? (a.add j) = some u ∧ oneCell u = true) → RdRow w (F.S m) z rs2 news →
      ∃ v' w' rs' xs', (Builtin.append_ #[t, t] ty #[u, v2]).run P w = .ok v' w' ∧ c3.rows = some (z, rs') ∧ (∀ r ∈ rs', r.length = z) ∧ w'.ownsRow 0 e z v' rs'.length xs' ∧ w.grownBy w' u.ownBlock ∧ (∀ g, v'.ownBlock = some g → u.ownBlock = some g ∨ w.heap.size ≤ g) ∧ RdRow w (F.S m) z rs' xs' := by
    rintro a k cap news rs2 h3 hr2 rfl rfl hnl hcells hrd2
    have hlen := (rows_z h3).2
    rw [hn] at hlen
    simp at hlen
    have h63 : rs.length + rs2.length ≤ maxLen := by
      have : n ≤ n * by_ := Nat.le_mul_of_pos_right _ hb0
      unfold maxLen; omega
    obtain ⟨v', w', hrun, ho', hg', hnil⟩ := run_append_own (P := P) w 0 t ty e i z0 z by_ (elO_some he) hi hiz his hib hzc hz0 u rs.length xs hown a rs2.length cap news hnl (fun j u hu => (hcells j u hu).1) (fun u hu => by
      obtain ⟨j, hj⟩ := List.getElem?_of_mem hu
      exact (hcells j u hj).2) h63 (by rw [← hlen]; exact hroom) (Nat.zero_le _)
    have hroomN : (rs.length + rs2.length) * i.bytes ≤ 140737488355328 := by rw [hib, ← hlen]; exact hroom
    have hsmall : rs.length + rs2.length ≤ 9223372036854775807 := by simp only [maxLen] at h63; omega
    have hplace : ∀ g, v'.ownBlock = some g → u.ownBlock = some g ∨ w.heap.size ≤ g := by
      intro g hg
      rcases hown.2 with ⟨rfl, h0⟩ | ⟨g0, cap0, cur, rfl, hbg, hgg, hnc, hcm, hcs, htake⟩
      · by_cases hk : rs2.length = 0
        · have := hnil.2 ⟨rfl, hk⟩
          subst this
          simp [Value.ownBlock] at hg
        · have hr := run_append_nil (P := P) w t ty e i z0 (elO_some he) hi hiz a rs2.length cap news (by rw [his]; exact hnl) (fun j u hu => (hcells j u hu).1) (by omega) (by omega) (by rw [h0, Nat.zero_add] at hroomN; omega)
          rw [hr] at hrun
          cases hrun
          simp [Value.ownBlock] at hg
          omega
      · by_cases hro : rs.length + rs2.length ≤ cap0
        · have hr := run_append_room (P := P) w t ty e i (elO_some he) hi g0 rs.length cap0 cur hgg a rs2.length cap news (by rw [his]; exact hnl) (fun j u hu => (hcells j u hu).1) (fun u hu => by
            obtain ⟨j, hj⟩ := List.getElem?_of_mem hu
            exact (hcells j u hj).2) hro (by rw [his, hnl, hcs, ← Nat.add_mul]; exact Nat.mul_le_mul_right _ hro)
          rw [hr] at hrun
          cases hrun
          exact .inl hg
        · have hr := run_append_grow (P := P) w t ty e i z0 (elO_some he) hi hiz ⟨g0, 0, none⟩ rs.length cap0 xs (by rw [his]; exact hown.1) (hown.cells (g := g0) rfl) a rs2.length cap news (by rw [his]; exact hnl) (fun j u hu => (hcells j u hu).1) (by omega) (by omega) (growslice_fits (by omega) hroomN)
          rw [hr] at hrun
          cases hrun
          simp [Value.ownBlock] at hg
          omega
    refine ⟨v', w', rs ++ rs2, xs ++ news, hrun, h3, fun r hr => ?_, by simpa using ho', hg', hplace, hrd.append hrd2 hown.1 hrl⟩
    rcases List.mem_append.1 hr with h | h
    · exact hrl r h
    · exact hr2 r h
  rcases src_cells hrep hs hy with ⟨rfl, rfl⟩ | ⟨rfl, a, cap, rfl⟩ | ⟨z', rs2, hrows2, hor⟩
  · rcases happ with ⟨_, rfl⟩ | ⟨rs2, h2, _⟩
    · exact same u (run_append_owned_none w 0 t ty e i z (elO_some he) hi u rs.length xs hown) rfl hrows
    · simp [C.rows] at h2
  · rcases happ with ⟨_, rfl⟩ | ⟨rs2, h2, _⟩
    · exact grow a 0 cap [] [] (by simpa using hrows) (by simp) rfl rfl (by simp) (by simp) (fun i j y hy => by simp [at2] at hy)
    · simp [C.rows] at h2
  · rcases happ with ⟨h0 | h0, _⟩ | ⟨rs2', h2, h3⟩
    · subst h0; simp [C.rows] at hrows2
    · subst h0; simp [C.rows] at hrows2
    · rw [hrows2] at h2; cases h2
      rcases hor with ⟨rfl, p, cap, rfl, hp⟩ | ⟨b, off, cap, news, hz', hr2, rfl, hnl, hcells, hrd2⟩
      · cases p with
        | none =>
          obtain rfl := hp rfl
          exact same u (run_append_owned_none w 0 t ty e i z (elO_some he) hi u rs.length xs hown) rfl (by simpa using h3)
        | some a => exact grow a 0 cap [] [] h3 (by simp) rfl rfl (by simp) (by simp) (fun i j y hy => by simp [at2] at hy)
      · exact grow ⟨b, off, none⟩ _ cap news rs2 h3 hr2 rfl rfl hnl (fun j u hu => by rw [addr_add]; exact hcells j u hu) hrd2

theorem ownsRow_block {w : World} {base : Nat} {e : TypeId} {z n : Nat} {u : Value} {xs : List Value} (h : w.ownsRow base e z u n xs) {g : Nat} (hg : u.ownBlock = some g) : base ≤ g ∧ g < w.heap.size := h.lt g hg


theorem verN_lt {H : Hp} {id : Nat} : ∀ B, look H.buf id = some B → B.ver < verN H id := by
  intro B hB
  simp [verN, hB]

theorem appT_sound {H : Hp} {nx : Nat} {o : Oper} {ev : Operand → AV} {t : TypeId} {x y : Operand} (ho : o.op = .call { callee := .builtin .append, args := #[x, y], argTypes := #[t, t] }) {K : AV → Hp → Nat → Prop} (h : appT P H nx t (ev x) (ev y) K) :
    ∃ r H' nx', K r H' nx' ∧ ∀ F : Fr, OpW P F H H' nx nx' o ev r := by
  unfold appT at h
  split at h
  · rename_i e c2 he hs
    split at h
    · rename_i z by_ zs hsz hby hze
      split at h
      · rename_i hevx
        split at h
        · rename_i c0 hc0
          split at h
          · rename_i c hc
            split at h
            · rename_i n hn
              obtain ⟨⟨hzl, hz0, hb0, hcz, hns⟩, hroom, hK⟩ := h
              refine ⟨_, _, _, hK, fun F m w ρ hrep hfree hops => ?_⟩
              have hx := hops x (by simp [ho, Op.operands, Call.operands])
              have hy := hops y (by simp [ho, Op.operands, Call.operands])
              rw [hevx] at hx
              have hρx : ρ x = .slice none 0 0 := rd_nil hx
              have hr0 := emptyO_rows hc0
              rw [hcz] at hr0
              obtain ⟨v', w', rs', xs', hrun, hrows', hrl', hown', hg', hpl, hrd'⟩ := append_core hrep (ty := o.type) he hsz hby hze hzl hz0 hb0 hr0 (by simp) (World.ownsRow_nil w 0 e z) (fun i j y hy => by simp [at2] at hy) hs hy hc hns hn hroom
              unfold Exec
              have hex : (execOp ρ o).run P w = .ok (.value v') w' := by
                simp only [execOp, ho, resolve, invoke, builtin, Sem.run_bind, Sem.run_pure, Result.andThen_ok, List.map_toArray, List.map_cons, List.map_nil, hρx, hrun]
              rw [hex]
              have hm0 := (hfree nx (Nat.le_refl _)).2
              obtain ⟨g1, g2⟩ := hrep.bufStep (id := nx) (row := none) (B' := ⟨verN H nx, e, z, c⟩) (v' := v') (rs := rs') (xs := xs') (H' := H.addBuf nx ⟨verN H nx, e, z, c⟩) hg' (fun g hg => by cases hg)
                (fun g hg => by rcases hpl g hg with h | h; · simp [Value.ownBlock] at h
                                · exact .inr h) (fun B hB => .inl (verN_lt B hB)) (look_add ..) (fun i hi => look_add_ne _ _ _ _ hi) rfl rfl hrows' hz0 hrl' hown' hrd'
              obtain ⟨p, cap, hv', _⟩ := ownsRow_val hown'
              refine ⟨_, g1, g2, fun i hi => ?_, by rw [hv']; rfl, _, look_add .., Nat.le_refl _, fun _ => by simp [Mp.addBf]⟩
              obtain ⟨h1, h2⟩ := hfree i (by omega)
              refine ⟨h1, ?_⟩
              simp only [Mp.addBf]
              split
              · omega
              · exact h2
            · exact h.elim
          · exact h.elim
        · exact h.elim
      · rename_i id ver hevx
        split at h
        · rename_i B hB
          split at h
          · rename_i c hc
            split at h
            · rename_i n hn
              obtain ⟨⟨hzl, hz0, hb0, hBz, hBe, hns⟩, hroom, hK⟩ := h
              refine ⟨_, _, _, hK, fun F m w ρ hrep hfree hops => ?_⟩
              have hx := hops x (by simp [ho, Op.operands, Call.operands])
              have hy := hops y (by simp [ho, Op.operands, Call.operands])
              rw [hevx] at hx
              obtain ⟨hB1, hB2⟩ := curB_spec hB
              obtain ⟨rs, xs, hm, hrows, _, hr, hown, hrd⟩ := own_slice hrep hB1 hB2 hx
              subst hBz; subst hBe
              obtain ⟨v', w', rs', xs', hrun, hrows', hrl', hown', hg', hpl, hrd'⟩ := append_core hrep (ty := o.type) he hsz hby hze hzl hz0 hb0 hrows hr hown hrd hs hy hc hns hn hroom
              unfold Exec
              have hex : (execOp ρ o).run P w = .ok (.value v') w' := by
                simp only [execOp, ho, resolve, invoke, builtin, Sem.run_bind, Sem.run_pure, Result.andThen_ok, List.map_toArray, List.map_cons, List.map_nil, hrun]
              rw [hex]
              obtain ⟨g1, g2⟩ := hrep.bufStep (id := id) (row := (ρ x).ownBlock) (B' := ⟨ver + 1, B.e, B.z, c⟩) (v' := v') (rs := rs') (xs := xs') (H' := H.addBuf id ⟨ver + 1, B.e, B.z, c⟩) hg' (fun g hg => ⟨_, hm, hg⟩)
                hpl (fun B2 hB2' => by rw [hB1] at hB2'; cases hB2'; left; show B.ver < ver + 1; omega) (look_add ..) (fun i hi => look_add_ne _ _ _ _ hi) rfl rfl hrows' hz0 hrl' hown' hrd'
              obtain ⟨p, cap, hv', _⟩ := ownsRow_val hown'
              refine ⟨_, g1, g2, fun i hi => ?_, by rw [hv']; rfl, _, look_add .., Nat.le_refl _, fun _ => by simp [Mp.addBf]⟩
              obtain ⟨h1, h2⟩ := hfree i hi
              refine ⟨h1, ?_⟩
              simp only [Mp.addBf]
              split
              · subst i; rw [hm] at h2; cases h2
              · exact h2
            · exact h.elim
          · exact h.elim
        · exact h.elim
      · exact h.elim
    · exact h.elim
  · exact h.elim


/-- n zeros -/
def zeroC (P : Program) (e : TypeId) (zs : List Value) (n : Nat) : Option C := match P.underlying e, zs with
  | some (.int k), [.int k' 0] => if k = k' then some (.ints k (List.replicate n 0)) else none
  | some .bool, [.bool false] => some (.bools (List.replicate n false))
  | some (.int _), _ => none
  | some .bool, _ => none
  | some _, zs => if zs.all oneCell then some (.sl zs.length (List.replicate n (zs.map ofC))) else none
  | none, _ => none

theorem zeroC_rows {e : TypeId} {zs : List Value} {n : Nat} {c : C} (h : zeroC P e zs n = some c) : zs.all oneCell = true ∧ c.rows = some (zs.length, List.replicate n (zs.map ofC)) := by
  unfold zeroC at h
  split at h
  · split at h
    · rename_i he; subst he; cases h; exact ⟨rfl, by simp [C.rows, ofC]⟩
    · cases h
  · cases h; exact ⟨rfl, by simp [C.rows, ofC]⟩
  · cases h
  · cases h
  · split at h
    · rename_i hall; cases h; exact ⟨hall, rfl⟩
    · cases h
  · cases h

def makeT (P : Program) (H : Hp) (nx : Nat) (t : TypeId) (l c : AV) (K : AV → Hp → Nat → Prop) : Prop :=
  match elO P t, l, c with
  | some e, .c (.i _ a), .c (.i _ b) => match szO P e, byO P e, zeroO P e with
    | some z, some by_, some zs => match zeroC P e zs a.toNat with
      | some con => (zs.length = z ∧ 0 < z ∧ 0 < by_) ∧ (0 ≤ a ∧ a ≤ b ∧ b * by_ ≤ 140737488355328) ∧ K (.own nx (verN H nx)) (H.addBuf nx ⟨verN H nx, e, z, con⟩) (nx + 1)
      | none => False
    | _, _, _ => False
  | _, _, _ => False

theorem madeCells_get (z : Array Value) (n i j : Nat) (hz : 0 < z.size) (hj : j < z.size) (h : i * z.size + j < n) : (madeCells z n)[i * z.size + j]? = z[j]? := by
  have e : (i * z.size + j) % z.size = j := by rw [Nat.mul_comm, Nat.mul_add_mod, Nat.mod_eq_of_lt hj]
  simp only [madeCells, Array.getElem?_map]
  rw [Array.getElem?_eq_getElem (by simp; exact h)]
  simp only [Array.getElem_range, Option.map_some, e]
  rw [Array.getElem?_eq_getElem hj]
  simp [getElem!_pos, hj]

theorem makeT_sound {H : Hp} {nx : Nat} {o : Oper} {ev : Operand → AV} {t : TypeId} {l c : Operand} (ho : o.op = .makeSlice t l c) {K : AV → Hp → Nat → Prop} (h : makeT P H nx t (ev l) (ev c) K) :
    ∃ r H' nx', K r H' nx' ∧ ∀ F : Fr, OpW P F H H' nx nx' o ev r := by
  unfold makeT at h
  split at h
  · rename_i e kl a kc b he hl hc
    split at h
    · rename_i z by_ zs hsz hby hze
      split at h
      · rename_i con hcon
        obtain ⟨⟨hzl, hz0, hb0⟩, ⟨ha0, hab, hroom⟩, hK⟩ := h
        refine ⟨_, _, _, hK, fun F m w ρ hrep hfree hops => ?_⟩
        have hx := hops l (by simp [ho, Op.operands])
        have hy := hops c (by simp [ho, Op.operands])
        rw [hl] at hx
        rw [hc] at hy
        have hρl := rep_i hx
        have hρc := rep_i hy
        obtain ⟨i, z0, hi, hib, his, hiz, rfl⟩ := byO_some hby hsz hze
        have hzc : z0.cells.size = z := by rw [← hzl]; simp
        have hbb : b ≤ b * by_ := by
          have h1 : b * 1 ≤ b * by_ := Int.mul_le_mul_of_nonneg_left (by omega) (by omega)
          omega
        have hrun := run_make (P := P) w t e i z0 (elO_some he) hi hiz kl kc a b ha0 hab (by rw [hib, Int.mul_comm]; omega) (by omega)
        unfold Exec
        have hex : (execOp ρ o).run P w = .ok (.value (.slice (some ⟨w.heap.size, 0, none⟩) a.toNat b.toNat)) (w.alloc (.cells (madeCells z0.cells (b.toNat * i.size)) e)) := by
          simp only [execOp, ho, hρl, hρc, Sem.run_bind, hrun, Result.andThen_ok, Sem.run_pure]
        rw [hex]
        obtain ⟨hall, hrows⟩ := zeroC_rows hcon
        have hzll : z0.cells.toList.length = z := hzl
        rw [hzll] at hrows
        have hrl : ∀ r ∈ List.replicate a.toNat (z0.cells.toList.map ofC), r.length = z := fun r hr => by
          have := List.eq_of_mem_replicate hr; subst this; simp [hzc]
        have hmul : a.toNat * z ≤ b.toNat * z := Nat.mul_le_mul_right _ (by omega)
        have hown : (w.alloc (.cells (madeCells z0.cells (b.toNat * i.size)) e)).ownsRow 0 e z (.slice (some ⟨w.heap.size, 0, none⟩) a.toNat b.toNat) (List.replicate a.toNat (z0.cells.toList.map ofC)).length ((madeCells z0.cells (b.toNat * i.size)).toList.take (a.toNat * z)) := by
          have hsm : (madeCells z0.cells (b.toNat * i.size)).size = b.toNat * z := by rw [size_madeCells, his]
          refine ⟨by rw [List.length_take, Array.length_toList, hsm, List.length_replicate]; omega, .inr ⟨w.heap.size, b.toNat, _, by simp, Nat.zero_le _, heap_alloc_new w _, by simp; omega, ?_, hsm, by simp⟩⟩
          unfold maxLen; omega
        have hrd : RdRow w (F.S m) z (List.replicate a.toNat (z0.cells.toList.map ofC)) ((madeCells z0.cells (b.toNat * i.size)).toList.take (a.toNat * z)) := by
          intro p q y hy
          obtain ⟨h1, h2⟩ := at2_lt hrl hy
          rw [List.length_replicate] at h1
          have hk : p * z + q < a.toNat * z := by
            have : (p + 1) * z ≤ a.toNat * z := Nat.mul_le_mul_right _ h1
            rw [Nat.add_mul] at this; omega
          have hy2 : y = ofC (z0.cells[q]'(by omega)) := by
            unfold at2 at hy
            rw [List.getElem?_replicate, if_pos h1] at hy
            simp [Array.getElem?_eq_getElem (show q < z0.cells.size by omega)] at hy
            exact hy.symm
          refine ⟨z0.cells[q]'(by omega), ?_, ?_⟩
          · rw [List.getElem?_take, if_pos hk]
            have := madeCells_get z0.cells (b.toNat * i.size) p q (by omega) (by omega) (by rw [hzc, his]; omega)
            rw [hzc] at this
            rw [Array.getElem?_toList, this]
            exact Array.getElem?_eq_getElem _
          · subst hy2
            exact rd_ofC w _ _ (List.all_eq_true.1 hall _ (by simp))
        have hm0 := (hfree nx (Nat.le_refl _)).2
        obtain ⟨g1, g2⟩ := hrep.bufStep (id := nx) (row := none) (B' := ⟨verN H nx, e, z, con⟩) (H' := H.addBuf nx ⟨verN H nx, e, z, con⟩) (World.grownBy_alloc w _ none) (fun g hg => by cases hg)
          (fun g hg => by simp [Value.ownBlock] at hg; right; omega) (fun B hB => .inl (verN_lt B hB)) (look_add ..) (fun i hi => look_add_ne _ _ _ _ hi) rfl rfl hrows hz0 hrl hown hrd
        refine ⟨_, g1, g2, fun j hj => ?_, rfl, _, look_add .., Nat.le_refl _, fun _ => by simp [Mp.addBf]⟩
        obtain ⟨h1, h2⟩ := hfree j (by omega)
        refine ⟨h1, ?_⟩
        simp only [Mp.addBf]
        split
        · omega
        · exact h2
      · exact h.elim
    · exact h.elim
  · exact h.elim

/-- an empty literal of a slice: a new row of its own -/
def lit0T (P : Program) (H : Hp) (nx : Nat) (t : TypeId) (K : AV → Hp → Nat → Prop) : Prop := match elO P t with
  | some e => match emptyO P e with
    | some c => szO P e = some c.z ∧ c.rows = some (c.z, []) ∧ 0 < c.z ∧ K (.own nx (verN H nx)) (H.addBuf nx ⟨verN H nx, e, c.z, c⟩) (nx + 1)
    | none => False
  | none => False

theorem lit0T_sound {H : Hp} {nx : Nat} {o : Oper} {ev : Operand → AV} {t : TypeId} {ps : Array (Nat × Operand)} (ho : o.op = .buildSlice t 0 ps) (hps : ps.size = 0) {K : AV → Hp → Nat → Prop} (h : lit0T P H nx t K) :
    ∃ r H' nx', K r H' nx' ∧ ∀ F : Fr, OpW P F H H' nx nx' o ev r := by
  unfold lit0T at h
  split at h
  · rename_i e he
    split at h
    · rename_i c hc
      obtain ⟨hsz, hrows, hz0, hK⟩ := h
      refine ⟨_, _, _, hK, fun F m w ρ hrep hfree hops => ?_⟩
      have hp0 : ps = #[] := Array.eq_empty_of_size_eq_zero hps
      subst hp0
      unfold Exec
      have hex : (execOp ρ o).run P w = .ok (.value (.slice (some ⟨w.heap.size, 0, none⟩) 0 0)) (w.alloc (.cells #[] e)) := by
        simp only [execOp, ho]
        simp only [Instr.buildSlice, Sem.run_bind, run_underlying (elO_some he), Result.andThen_ok, szO_run hsz, Nat.zero_mul]
        simp [Instr.fill, newRow_run]
        congr 2
        apply Array.eq_empty_of_size_eq_zero
        simp
      rw [hex]
      have hown : (w.alloc (.cells #[] e)).ownsRow 0 e c.z (.slice (some ⟨w.heap.size, 0, none⟩) 0 0) ([] : List (List C)).length [] :=
        ⟨by simp, .inr ⟨w.heap.size, 0, _, by simp, Nat.zero_le _, heap_alloc_new w _, by simp, by simp, by simp, by simp⟩⟩
      have hrd : RdRow w (F.S m) c.z [] [] := by
        intro p q y hy
        simp [at2] at hy
      have hm0 := (hfree nx (Nat.le_refl _)).2
      obtain ⟨g1, g2⟩ := hrep.bufStep (id := nx) (row := none) (B' := ⟨verN H nx, e, c.z, c⟩) (H' := H.addBuf nx ⟨verN H nx, e, c.z, c⟩) (World.grownBy_alloc w _ none) (fun g hg => by cases hg)
        (fun g hg => by simp [Value.ownBlock] at hg; right; omega) (fun B hB => .inl (verN_lt B hB)) (look_add ..) (fun i hi => look_add_ne _ _ _ _ hi) rfl rfl hrows hz0 (by simp) hown hrd
      refine ⟨_, g1, g2, fun j hj => ?_, rfl, _, look_add .., Nat.le_refl _, fun _ => by simp [Mp.addBf]⟩
      obtain ⟨h1, h2⟩ := hfree j (by omega)
      refine ⟨h1, ?_⟩
      simp only [Mp.addBf]
      split
      · omega
      · exact h2
    · exact h.elim
  · exact h.elim

/-- a buffer cut at its end -/
def cutT (P : Program) (H : Hp) (nx : Nat) (t : TypeId) (x : AV) (lo hi : Option AV) (K : AV → Hp → Nat → Prop) : Prop :=
  match elO P t, x, lo, hi with
  | some e, .own id ver, none, some (.c (.i _ b)) => match curB H id ver with
    | some B => match B.con.len with
      | some l => szO P e = some B.z ∧ (0 ≤ b ∧ b ≤ (l : Int)) ∧ K (.own id (ver + 1)) (H.addBuf id ⟨ver + 1, B.e, B.z, B.con.sub 0 b.toNat⟩) nx
      | none => False
    | none => False
  | some e, .own id ver, some (.c (.i _ a)), some (.c (.i _ b)) => match curB H id ver with
    | some B => match B.con.len with
      | some l => szO P e = some B.z ∧ (0 ≤ a ∧ a ≤ b ∧ b ≤ (l : Int)) ∧ K (.win id ver a.toNat (b.toNat - a.toNat)) H nx
      | none => False
    | none => False
  | _, _, _, _ => False

theorem cutT_sound {H : Hp} {nx : Nat} {o : Oper} {ev : Operand → AV} {t : TypeId} {x : Operand} {lo hi : Option Operand} (ho : o.op = .slice t x lo hi none) {K : AV → Hp → Nat → Prop} (h : cutT P H nx t (ev x) (lo.map ev) (hi.map ev) K) :
    ∃ r H' nx', K r H' nx' ∧ ∀ F : Fr, OpW P F H H' nx nx' o ev r := by
  unfold cutT at h
  split at h
  · rename_i e id ver k b he hevx hlo hhi
    split at h
    · rename_i B hB
      split at h
      · rename_i l hl
        obtain ⟨hsz, ⟨h0, h1⟩, hK⟩ := h
        refine ⟨_, _, _, hK, fun F m w ρ hrep hfree hops => ?_⟩
        cases lo with
        | some lo => simp at hlo
        | none =>
          cases hi with
          | none => simp at hhi
          | some hi =>
            simp only [Option.map_some, Option.some.injEq] at hhi
            have hx := hops x (by simp [ho, Op.operands])
            have hy := hops hi (by simp [ho, Op.operands])
            rw [hevx] at hx
            rw [hhi] at hy
            have hρ := rep_i hy
            obtain ⟨hB1, hB2⟩ := curB_spec hB
            obtain ⟨rs, xs, hm, hrows, hz0, hr, hown, hrd⟩ := own_slice hrep hB1 hB2 hx
            have hl2 := (rows_z hrows).2
            rw [hl] at hl2; simp at hl2; subst hl2
            obtain ⟨p, cap, hu, hcap, hmax, hp⟩ := ownsRow_val hown
            have hrun := slice_run (P := P) he hsz p rs.length cap 0 b.toNat (Nat.zero_le _) (by omega) hcap w none (some (.int k b)) (.inl ⟨rfl, rfl⟩) (.inr ⟨k, by congr 2; omega⟩)
            have hval : (Value.slice (if cap = 0 then p else p.map (·.add (0 * B.z))) (b.toNat - 0) (cap - 0)) = .slice p b.toNat cap := by
              have : p.map (·.add (0 * B.z)) = p := by cases p <;> simp [Addr.add]
              rw [this]; simp
            rw [hval] at hrun
            unfold Exec
            have hex : (execOp ρ o).run P w = .ok (.value (.slice p b.toNat cap)) w := by
              simp only [execOp, ho, hu, hρ, Option.map_none, Option.map_some, Sem.run_bind, hrun, Result.andThen_ok, Sem.run_pure]
            rw [hex]
            have hsub := rows_sub hrows 0 b.toNat
            rw [List.drop_zero] at hsub
            have hrl : ∀ r ∈ rs.take b.toNat, r.length = B.z := fun r hrm => hr r (List.mem_of_mem_take hrm)
            have htl : (rs.take b.toNat).length = b.toNat := by simp; omega
            have hmul : b.toNat * B.z ≤ rs.length * B.z := Nat.mul_le_mul_right _ (by omega)
            have hown' : w.ownsRow 0 B.e B.z (.slice p b.toNat cap) (rs.take b.toNat).length (xs.take (b.toNat * B.z)) := by
              rw [htl]
              refine ⟨by rw [List.length_take, hown.1]; omega, ?_⟩
              rcases hown.2 with ⟨h2, h3⟩ | ⟨g, cap', cur, h2, hbg, hgg, hnc, hcm, hcs, htake⟩
              · rw [hu] at h2
                simp only [Value.slice.injEq] at h2
                obtain ⟨h4, _, h5⟩ := h2
                subst h4; subst h5
                have hb0 : b.toNat = 0 := by omega
                exact .inl ⟨by rw [hb0], hb0⟩
              · rw [hu] at h2; cases h2
                refine .inr ⟨g, cap, cur, rfl, hbg, hgg, by omega, hcm, hcs, ?_⟩
                rw [← htake, List.take_take]
                congr 1; omega
            have hrd' : RdRow w (F.S m) B.z (rs.take b.toNat) (xs.take (b.toNat * B.z)) := by
              intro i j y hy
              obtain ⟨h2, h3⟩ := at2_lt hrl hy
              have hat : at2 rs i j = some y := by
                unfold at2 at hy ⊢
                rw [List.getElem?_take, if_pos (by omega)] at hy
                exact hy
              obtain ⟨u, hu', hrr⟩ := hrd i j y hat
              refine ⟨u, ?_, hrr⟩
              rw [List.getElem?_take, if_pos]
              · exact hu'
              · have : (i + 1) * B.z ≤ b.toNat * B.z := Nat.mul_le_mul_right _ (by omega)
                rw [Nat.add_mul] at this; omega
            obtain ⟨g1, g2⟩ := hrep.bufStep (id := id) (row := (ρ x).ownBlock) (B' := ⟨ver + 1, B.e, B.z, B.con.sub 0 b.toNat⟩) (v' := .slice p b.toNat cap) (H' := H.addBuf id ⟨ver + 1, B.e, B.z, B.con.sub 0 b.toNat⟩)
              ⟨rfl, rfl, rfl, Nat.le_refl _, fun _ _ _ => rfl⟩ (fun g hg => ⟨_, hm, hg⟩) (fun g hg => .inl (by rw [hu]; cases p <;> exact hg))
              (fun B2 hB2' => by rw [hB1] at hB2'; cases hB2'; left; show B.ver < ver + 1; omega) (look_add ..) (fun i hi => look_add_ne _ _ _ _ hi) rfl rfl hsub hz0 hrl hown' hrd'
            refine ⟨_, g1, g2, fun i hi => ?_, rfl, _, look_add .., Nat.le_refl _, fun _ => by simp [Mp.addBf]⟩
            obtain ⟨h2, h3⟩ := hfree i hi
            refine ⟨h2, ?_⟩
            simp only [Mp.addBf]
            split
            · subst i; rw [hm] at h3; cases h3
            · exact h3
      · exact h.elim
    · exact h.elim
  · rename_i e id ver ka a k b he hevx hlo hhi
    split at h
    · rename_i B hB
      split at h
      · rename_i l hl
        obtain ⟨hsz, ⟨h0, h1, h2⟩, hK⟩ := h
        refine ⟨_, _, _, hK, fun F m w ρ hrep hfree hops => ?_⟩
        cases lo with
        | none => simp at hlo
        | some lo =>
          cases hi with
          | none => simp at hhi
          | some hi =>
            simp only [Option.map_some, Option.some.injEq] at hhi hlo
            have hx := hops x (by simp [ho, Op.operands])
            have hy := hops hi (by simp [ho, Op.operands])
            have hz := hops lo (by simp [ho, Op.operands])
            rw [hevx] at hx
            rw [hhi] at hy
            rw [hlo] at hz
            have hρ := rep_i hy
            have hρ2 := rep_i hz
            obtain ⟨hB1, hB2⟩ := curB_spec hB
            obtain ⟨rs, xs, hm, hrows, hz0, hr, hown, hrd⟩ := own_slice hrep hB1 hB2 hx
            have hl2 := (rows_z hrows).2
            rw [hl] at hl2; simp at hl2; subst hl2
            obtain ⟨p, cap, hu, hcap, hmax, hp⟩ := ownsRow_val hown
            have hrun := slice_run (P := P) he hsz p rs.length cap a.toNat b.toNat (by omega) (by omega) hcap w (some (.int ka a)) (some (.int k b)) (.inr ⟨ka, by congr 2; omega⟩) (.inr ⟨k, by congr 2; omega⟩)
            have hlat : Later F H m w H m w := (hrep.hp (H' := H) (fun _ _ _ => rfl) (fun _ _ h => h) rfl).2
            unfold Exec
            rw [show (execOp ρ o).run P w = .ok (.value (.slice (if cap = a.toNat then p else p.map (·.add (a.toNat * B.z))) (b.toNat - a.toNat) (cap - a.toNat))) w by
              simp only [execOp, ho, hu, hρ, hρ2, Option.map_none, Option.map_some, Sem.run_bind, hrun, Result.andThen_ok, Sem.run_pure]]
            refine ⟨m, hrep, hlat, hfree, rfl, B, hB1, by omega, fun _ => ⟨p, rs.length, cap, by rw [hm, hu], by omega, rfl⟩⟩
      · exact h.elim
    · exact h.elim
  · exact h.elim

/-- a window that was handed over, cut at its end -/
def bcutT (P : Program) (H : Hp) (t : TypeId) (k lo len : Nat) (a b : Option AV) (K : AV → Prop) : Prop := match elO P t, look H.bor k, a, b with
  | some e, some B, none, some (.c (.i _ y)) => szO P e = some B.con.z ∧ (0 ≤ y ∧ y ≤ (len : Int)) ∧ K (.bw k lo y.toNat)
  | _, _, _, _ => False

theorem bcutT_sound {H : Hp} {t : TypeId} {k lo len : Nat} {a b : Option AV} {K : AV → Prop} (h : bcutT P H t k lo len a b K) :
    ∃ r, K r ∧ ∀ (F : Fr) (H' : Hp) (m : Mp) (w : World) (u : Value) (va vb : Option Value), Sup H' H → HRep F H' m w → RepA F H' m w (.bw k lo len) u → (a = none → va = none) → (∀ y, b = some y → ∃ v, vb = some v ∧ RepA F H' m w y v) →
      Yl P F H' m w (Instr.sliceAt t u va vb none) r := by
  unfold bcutT at h
  split at h
  · rename_i e B kk y he hB
    obtain ⟨hz, ⟨h0, h1⟩, hK⟩ := h
    refine ⟨_, hK, fun F H' m w u va vb hsup hrep hu hva hvb => ?_⟩
    rw [← hsup.1.2] at hB
    obtain ⟨h2, B2, p, n, cap, hB2, hF, hle, rfl⟩ := hu
    rw [hB] at hB2; cases hB2
    obtain ⟨B3, rs, xs, hB4, hrows, hz0, hr, hown, hrd⟩ := hrep.bor k _ hF
    rw [hB] at hB4; cases hB4
    obtain ⟨p2, cap2, hsv, hcap, _, hp⟩ := ownsRow_val hown
    cases hsv
    have hva := hva rfl
    obtain ⟨v, rfl, hv⟩ := hvb _ rfl
    obtain rfl := rep_i hv
    subst hva
    have hrun := slice_run (P := P) he hz (if cap = lo then p else p.map (·.add (lo * B.con.z))) len (cap - lo) 0 y.toNat (Nat.zero_le _) (by omega) (by omega) w none (some (.int kk y)) (.inl ⟨rfl, rfl⟩) (.inr ⟨kk, by congr 2; omega⟩)
    refine ⟨_, hrun, rfl, B, p, _, cap, hB, hF, by omega, ?_⟩
    generalize (if cap = lo then p else p.map (·.add (lo * B.con.z))) = q
    have : q.map (·.add (0 * B.con.z)) = q := by cases q <;> simp [Addr.add]
    rw [this]; simp
  · exact h.elim

end Go.Abs
