/-
  Calls; all operations; states.
-/
import Derived.Test.YtggehgnmfjdkhaaAbsI
namespace Go.Abs
set_option linter.unusedSimpArgs false
set_option linter.unusedVariables false
open Go.RowKit

variable {P : Program}

/-- a result reads as told -/
def RdR (w : World) (S : Nat → Prop) : AV → Value → Prop
  | .c x, v => Rd w S x v
  | .g xs, v => ∃ vs, v = .agg vs ∧ RdL w S xs vs.toList
  | .t l, v => ∃ vs, v = .tuple vs ∧ vs.size = l.length ∧ ∀ (j : Nat) y u, l[j]? = some y → vs[j]? = some u → RdS w S y u
  | _, _ => False

def Enters (P : Program) (f : FuncId) : Prop := ∃ fn, P.funcs[f]? = some fn ∧ (fn.name == "runtime.NumGoroutine") = false ∧ fn.body.isNone = false

/-- f, called with arguments that read so, returns what reads so, and writes new memory alone -/
def Ret (P : Program) (f : FuncId) (fresh : Bool) (as : List (C ⊕ List C)) (r : AV) : Prop :=
  ∀ (w : World) (S : Nat → Prop) (vs : Array Value), vs.size = as.length → (∀ (j : Nat) y u, as[j]? = some y → vs[j]? = some u → RdS w S y u) →
    Calls P f vs w fun e w' => ∃ v, e = .returned v ∧ Ext w w' ∧ RdR w' (fun b => (fresh = false ∧ S b ∧ b < w.heap.size) ∨ w.heap.size ≤ b) r v

/-- f, called with arguments that read so, returns a slice of a new row of its own -/
def RetO (P : Program) (f : FuncId) (as : List (C ⊕ List C)) (e : TypeId) (z : Nat) (con : C) : Prop :=
  ∀ (w : World) (S : Nat → Prop) (vs : Array Value), vs.size = as.length → (∀ (j : Nat) y u, as[j]? = some y → vs[j]? = some u → RdS w S y u) →
    Calls P f vs w fun ed w' => ∃ v, ed = .returned v ∧ Ext w w' ∧ ∃ rs xs, con.rows = some (z, rs) ∧ 0 < z ∧ (∀ r ∈ rs, r.length = z) ∧ w'.ownsRow w.heap.size e z v rs.length xs ∧ RdRow w' (fun _ => False) z rs xs

/-- results that hold no memory -/
def plainC : C → Bool
  | .a _ | .i _ _ | .b _ | .str _ | .nil | .e0 => true
  | _ => false
def plainS : C ⊕ List C → Bool
  | .inl x => plainC x
  | .inr xs => xs.all plainC
def plainAV : AV → Bool
  | .c x => plainC x
  | .g xs => xs.all plainC
  | .t l => l.all plainS
  | _ => false

theorem Rd.plain {w : World} {S S' : Nat → Prop} {c : C} {v : Value} (hp : plainC c = true) (h : Rd w S c v) : Rd w S' c v := by
  cases h with
  | a _ h => exact .a _ h
  | i _ _ => exact .i _ _
  | b _ => exact .b _
  | str _ => exact .str _
  | nil => exact .nil
  | e0 _ _ => exact .e0 _ _
  | emp c z p cap h => cases c <;> simp_all [plainC, C.rows]
  | sl c z rs b off cap us h => cases c <;> simp_all [plainC, C.rows]

theorem RdL.plain {w : World} {S S' : Nat → Prop} {xs : List C} {vs : List Value} (hp : xs.all plainC = true) (h : RdL w S xs vs) : RdL w S' xs vs :=
  ⟨h.1, fun j y u hy hu => (h.2 j y u hy hu).plain (List.all_eq_true.1 hp y (List.mem_of_getElem? hy))⟩

theorem RdR.plain {w : World} {S S' : Nat → Prop} {r : AV} {v : Value} (hp : plainAV r = true) (h : RdR w S r v) : RdR w S' r v := by
  cases r <;> simp only [plainAV] at hp <;> try cases hp
  · exact Rd.plain hp h
  · obtain ⟨vs, rfl, hl⟩ := h; exact ⟨vs, rfl, hl.plain hp⟩
  · obtain ⟨vs, rfl, hs, hl⟩ := h
    refine ⟨vs, rfl, hs, fun j y u hy hu => ?_⟩
    have h1 := hl j y u hy hu
    have h2 := List.all_eq_true.1 hp y (List.mem_of_getElem? hy)
    cases y with
    | inl y => exact Rd.plain h2 h1
    | inr ys => obtain ⟨vs, rfl, hl⟩ := h1; exact ⟨vs, rfl, hl.plain h2⟩

/-- contents that hold no memory -/
def flatC : C → Bool
  | .ints _ _ | .bools _ => true
  | _ => false

theorem flat_plain {con : C} {z : Nat} {rs : List (List C)} (hf : flatC con = true) (hr : con.rows = some (z, rs)) {i j : Nat} {y : C} (hy : at2 rs i j = some y) : plainC y = true := by
  cases con <;> simp [flatC] at hf
  · simp [C.rows] at hr
    obtain ⟨_, rfl⟩ := hr
    simp only [at2, List.getElem?_map] at hy
    obtain ⟨r, hr, hy⟩ := Option.bind_eq_some_iff.1 hy
    obtain ⟨n, hn, rfl⟩ := Option.map_eq_some_iff.1 hr
    match j with
    | 0 => simp at hy; subst hy; rfl
    | j + 1 => simp at hy
  · simp [C.rows] at hr
    obtain ⟨_, rfl⟩ := hr
    simp only [at2, List.getElem?_map] at hy
    obtain ⟨r, hr, hy⟩ := Option.bind_eq_some_iff.1 hy
    obtain ⟨n, hn, rfl⟩ := Option.map_eq_some_iff.1 hr
    match j with
    | 0 => simp at hy; subst hy; rfl
    | j + 1 => simp at hy

def resAV : List (C ⊕ List C) → AV
  | [x] => ofSum x
  | l => .t l

/-- a window of a row -/
def WinOf (sv : Value) (z lo len : Nat) (v : Value) : Prop := oneCell v = true ∧ ∃ p n cap, sv = .slice p n cap ∧ lo + len ≤ n ∧
  v = .slice (if cap = lo then p else p.map (·.add (lo * z))) len (cap - lo)

/-- f, handed a window of a row besides arguments that read so, turns the row's content, writes new memory besides, and returns what reads so -/
def RetW (P : Program) (f : FuncId) (e : TypeId) (con : C) (lo len : Nat) (as : List (C ⊕ List C)) (con' : C) (l : List (C ⊕ List C)) : Prop :=
  ∀ (w : World) (S : Nat → Prop) (sv v0 : Value) (vs : Array Value) (rs : List (List C)) (xs : List Value), vs.size = as.length + 1 → vs[0]? = some v0 → (∀ (j : Nat) y u, as[j]? = some y → vs[j + 1]? = some u → RdS w S y u) →
    con.rows = some (con.z, rs) → 0 < con.z → (∀ r ∈ rs, r.length = con.z) → w.ownsRow 0 e con.z sv rs.length xs → RdRow w (fun _ => False) con.z rs xs → (∀ b, sv.ownBlock = some b → ¬ S b) → WinOf sv con.z lo len v0 →
    Calls P f vs w fun ed w' => ∃ v, ed = .returned v ∧ w.grownBy w' sv.ownBlock ∧ RdR w' (fun _ => False) (resAV l) v ∧ ∃ rs' xs', con'.z = con.z ∧ con'.rows = some (con.z, rs') ∧ (∀ r ∈ rs', r.length = con.z) ∧
      w'.ownsRow 0 e con.z sv rs'.length xs' ∧ RdRow w' (fun _ => False) con.z rs' xs'

/-- f, handed a whole row, returns it cut at its end -/
def RetC (P : Program) (f : FuncId) (e : TypeId) (con con' : C) : Prop :=
  ∀ (w : World) (sv : Value) (rs : List (List C)) (xs : List Value), con.rows = some (con.z, rs) → 0 < con.z → (∀ r ∈ rs, r.length = con.z) → w.ownsRow 0 e con.z sv rs.length xs → RdRow w (fun _ => False) con.z rs xs →
    Calls P f #[sv] w fun ed w' => ∃ p n cap k, sv = .slice p n cap ∧ k ≤ rs.length ∧ con'.rows = some (con.z, rs.take k) ∧ ed = .returned (.slice p k cap) ∧ w.grownBy w' sv.ownBlock ∧
      ∃ xs', w'.ownsRow 0 e con.z sv rs.length xs' ∧ RdRow w' (fun _ => False) con.z rs xs'

def TblOk (P : Program) (cf : Cfg) : Prop := (∀ t ∈ cf.flt, FltOk P t) ∧ ∀ f ct, cf.tbl f = some ct → Enters P f ∧
  (ct.own = none → ct.win = none → ∀ as K, ct.tr as K → ∃ r, Ret P f ct.fresh as r ∧ K r) ∧ (∀ e z, ct.own = some (e, z) → ct.win = none → ∀ as K, ct.tr as K → ∃ con, RetO P f as e z con ∧ K (.c con)) ∧
  (∀ e, ct.win = some e → ∀ as K, ct.tr as K → ∃ con lo len as' con' l, as = .inl con :: .inl (.i .i64 (lo : Nat)) :: .inl (.i .i64 (len : Nat)) :: as' ∧ RetW P f e con lo len as' con' l ∧ K (.t (.inl con' :: l))) ∧
  (∀ e, ct.cut = some e → ∀ con K, ct.ctr con K → ∃ con', RetC P f e con con' ∧ K con')

def argO (H : Hp) : AV → Option (C ⊕ List C)
  | .c x => some (.inl x)
  | .g xs => some (.inr xs)
  | .own id ver => match curB H id ver with | some B => some (.inl B.con) | none => none
  | _ => none
def argsO (H : Hp) : List AV → Option (List (C ⊕ List C))
  | [] => some []
  | x :: l => match argO H x, argsO H l with | some y, some ys => some (y :: ys) | _, _ => none
def isOwn : AV → Bool
  | .own _ _ => true
  | _ => false

def callT (cf : Cfg) (H : Hp) (f : FuncId) (args : List AV) (K : AV → Prop) : Prop := match cf.tbl f, argsO H args with
  | some ct, some as => (ct.fresh || !args.any isOwn) = true ∧ ct.own = none ∧ ct.win = none ∧ ct.tr as K
  | _, _ => False

def winA (H : Hp) : AV → Option (Nat × Nat × Nat × Nat)
  | .win id ver lo len => some (id, ver, lo, len)
  | .own id ver => match curB H id ver with
    | some B => match B.con.len with | some l => some (id, ver, 0, l) | none => none
    | none => none
  | _ => none

/-- a call that turns a window of a buffer -/
def callWT (ct : CT) (e : TypeId) (H : Hp) (nx : Nat) (args : List AV) (K : AV → Hp → Nat → Prop) : Prop := match args with
  | x :: rest => match winA H x with
    | some (id, ver, lo, len) => match curB H id ver, argsO H rest with
      | some B, some as => B.e = e ∧ B.con.z = B.z ∧ rest.any isOwn = false ∧ flatC B.con = true ∧
        ct.tr (.inl B.con :: .inl (.i .i64 (lo : Nat)) :: .inl (.i .i64 (len : Nat)) :: as) (fun r => match r with | .t (.inl con' :: l) => K (resAV l) (H.addBuf id ⟨B.ver, B.e, B.z, con'⟩) nx | _ => False)
      | _, _ => False
    | none => False
  | [] => False

def isOne : List AV → Bool
  | [.own _ _] => true
  | _ => false
/-- a call that cuts a buffer -/
def callCT (cf : Cfg) (H : Hp) (nx : Nat) (f : FuncId) (args : List AV) (K : AV → Hp → Nat → Prop) : Prop := match cf.tbl f, args with
  | some ct, [.own id ver] => match ct.cut, curB H id ver with
    | some e, some B => B.e = e ∧ B.con.z = B.z ∧ flatC B.con = true ∧ ct.ctr B.con (fun con' => K (.own id (ver + 1)) (H.addBuf id ⟨ver + 1, B.e, B.z, con'⟩) nx)
    | _, _ => False
  | _, _ => False

/-- a call whose result is a buffer, or that turns a buffer -/
def callOT (cf : Cfg) (H : Hp) (nx : Nat) (f : FuncId) (args : List AV) (K : AV → Hp → Nat → Prop) : Prop := match cf.tbl f with
  | some ct => match ct.win with
    | some e => callWT ct e H nx args K
    | none => match argsO H args with
      | some as => match ct.own with
        | some (e, z) => ct.tr as (fun r => match r with | .c con => K (.own nx (verN H nx)) (H.addBuf nx ⟨verN H nx, e, z, con⟩) (nx + 1) | _ => False)
        | none => False
      | none => False
  | none => False

/-- what a callee may look at -/
def callS (F : Fr) (m : Mp) (own : Bool) (b : Nat) : Prop := F.S m b ∨ (own = true ∧ ∃ i v, m.bf i = some v ∧ v.ownBlock = some b)

theorem own_rd {F : Fr} {H : Hp} {m : Mp} {w : World} (hrep : HRep F H m w) {id ver : Nat} {B : Buf} {u : Value} (hB : look H.buf id = some B) (hv : B.ver = ver) (hu : RepA F H m w (.own id ver) u) : Rd w (callS F m true) B.con u := by
  obtain ⟨rs, xs, hm, hrows, hz0, hr, hown, hrd⟩ := own_slice hrep hB hv hu
  have hst : Stays (F.S m) (callS F m true) w w := fun b h _ => ⟨.inl h, rfl⟩
  rcases hown.2 with ⟨rfl, h0⟩ | ⟨g, cap, cur, rfl, hbg, hgg, hnc, hcm, hcs, htake⟩
  · have : rs = [] := List.eq_nil_of_length_eq_zero h0
    subst this
    exact .emp _ _ none 0 hrows (fun _ => rfl)
  · by_cases he : rs = []
    · subst he; exact .emp _ _ _ cap hrows (fun h => by cases h)
    · refine .sl B.con B.z rs g 0 cap (fun i j => (xs[i * B.z + j]?).getD undef) hrows he hz0 (Nat.le_trans hnc hcm) hnc hr (.inr ⟨rfl, id, _, hm, rfl⟩) ?_ ?_
      · intro i j y hy
        obtain ⟨u2, hu2, _⟩ := hrd i j y hy
        have := hown.cells (g := g) rfl (i * B.z + j) u2 hu2
        rw [addr_add] at this
        simp only [hu2, Option.getD_some]
        exact this
      · intro i j y hy
        obtain ⟨u2, hu2, hr2⟩ := hrd i j y hy
        simp only [hu2, Option.getD_some]
        exact hr2.mono hst

theorem argsO_spec {H : Hp} : ∀ {l : List AV} {as : List (C ⊕ List C)}, argsO H l = some as → as.length = l.length ∧ ∀ (j : Nat) x y, l[j]? = some x → as[j]? = some y → argO H x = some y
  | [], as, h => by simp [argsO] at h; subst h; simp
  | x :: l, as, h => by
    simp only [argsO] at h
    split at h
    · rename_i y ys hy hys
      cases h
      obtain ⟨h1, h2⟩ := argsO_spec hys
      refine ⟨by simp [h1], fun j a b ha hb => ?_⟩
      match j with
      | 0 => simp at ha hb; subst ha; subst hb; exact hy
      | j + 1 => exact h2 j a b (by simpa using ha) (by simpa using hb)
    · cases h

theorem argO_rep {F : Fr} {H H' : Hp} {m : Mp} {w : World} (hbuf : H'.buf = H.buf) (hrep : HRep F H' m w) {x : AV} {y : C ⊕ List C} {u : Value} {own : Bool} (h : argO H x = some y) (hown : isOwn x = true → own = true) (hu : RepA F H' m w x u) : RdS w (callS F m own) y u := by
  have hst : Stays (F.S m) (callS F m own) w w := fun b h _ => ⟨.inl h, rfl⟩
  cases x <;> simp only [argO] at h <;> try cases h
  · exact Rd.mono hst hu
  · obtain ⟨vs, rfl, hl⟩ := hu; exact ⟨vs, rfl, hl.mono hst⟩
  · rename_i id ver
    split at h
    · rename_i B hB
      cases h
      obtain ⟨h1, h2⟩ := curB_spec hB
      rw [← hbuf] at h1
      obtain rfl := hown rfl
      exact own_rd hrep h1 h2 hu
    · cases h

theorem RdR.rep {F : Fr} {H : Hp} {m : Mp} {w' : World} {S : Nat → Prop} {r : AV} {v : Value} (hst : Stays S (F.S m) w' w') (h : RdR w' S r v) : RepA F H m w' r v := by
  cases r <;> simp only [RdR] at h
  · exact Rd.mono hst h
  · obtain ⟨vs, rfl, hl⟩ := h; exact ⟨vs, rfl, hl.mono hst⟩
  · obtain ⟨vs, rfl, hs, hl⟩ := h; exact ⟨vs, rfl, hs, fun j y u hy hu => (hl j y u hy hu).mono hst⟩

theorem callT_sound {cf : Cfg} (hcf : TblOk P cf) {H : Hp} {nx : Nat} {o : Oper} {ev : Operand → AV} {f : FuncId} {args : Array Operand} {ts : Array TypeId} (hf : ev (.func f) = .c (.a (.func (.func f) #[] #[])))
    (ho : o.op = .call { callee := .value (.func f), args, argTypes := ts }) {K : AV → Prop} (h : callT cf H f (args.toList.map ev) K) : ∃ r, K r ∧ ∀ F : Fr, OpQ P F H nx nx o ev r := by
  unfold callT at h
  split at h
  · rename_i ct as hct has
    obtain ⟨hfo, hno, hnw, htr⟩ := h
    obtain ⟨⟨fn, hfn, hname, hbody⟩, hret, _⟩ := hcf.2 f ct hct
    obtain ⟨r, hr, hK⟩ := hret hno hnw as K htr
    refine ⟨r, hK, fun F => OpQ.of_ext fun H' m w ρ hsup hrep hops => ?_⟩
    have hρf : ρ (.func f) = .func (.func f) #[] #[] := rd_a (by have := hops (.func f) (by simp [ho, Op.operands, Call.operands]); rw [hf] at this; exact this)
    obtain ⟨hal, hai⟩ := argsO_spec has
    have hn : ¬ fn.name = "runtime.NumGoroutine" := by simpa using hname
    have hb : ¬ fn.body = none := by intro h; rw [h] at hbody; simp at hbody
    have hex : (execOp ρ o).run P w = .ok (.enter f (args.map ρ)) w := by
      simp [execOp, ho, resolve, Deferred.ofValue, hρf, invoke, callFunc, program, Sem.run, hfn, hn, hb]
    unfold Exec
    rw [hex]
    have hownS : ∀ x ∈ args.toList.map ev, isOwn x = true → ct.fresh = true := by
      intro x hx ho'
      cases hfr : ct.fresh with
      | true => rfl
      | false =>
        simp only [hfr, Bool.false_or, Bool.not_eq_true', List.any_eq_false] at hfo
        exact absurd ho' (hfo x hx)
    refine (hr w (callS F m ct.fresh) (args.map ρ) (by simp [hal]) (fun j y u hy hu => ?_)).mono fun e w' ⟨v, he, hext, hrd⟩ => ⟨v, he, hext, ?_⟩
    · have hj := (List.getElem?_eq_some_iff.1 hy).1
      rw [hal] at hj
      simp at hj
      have hx : (args.toList.map ev)[j]? = some (ev args[j]) := by simp [Array.getElem?_eq_getElem hj]
      have hu2 : u = ρ args[j] := by simp [Array.getElem?_eq_getElem hj] at hu; exact hu.symm
      subst hu2
      exact argO_rep hsup.2 hrep (hai j _ y hx hy) (fun ho' => hownS _ (List.mem_of_getElem? hx) ho') (hops _ (by simp [ho, Op.operands, Call.operands]))
    · refine RdR.rep (S := _) ?_ hrd
      intro b hb hlt
      refine ⟨?_, rfl⟩
      rcases hb with ⟨h1, h2 | ⟨h3, _⟩, _⟩ | hb
      · exact h2
      · rw [h1] at h3; cases h3
      · exact .inr ⟨Nat.le_trans hrep.size hb, fun ho' => by have := own_lt hrep ho'; omega⟩
  · exact h.elim

theorem Rd.none {w w' : World} {S : Nat → Prop} {c : C} {v : Value} (h : Rd w' (fun _ => False) c v) : Rd w S c v := by
  cases h with
  | a _ h => exact .a _ h
  | i _ _ => exact .i _ _
  | b _ => exact .b _
  | str _ => exact .str _
  | nil => exact .nil
  | e0 _ _ => exact .e0 _ _
  | emp c z p cap h hp => exact .emp c z p cap h hp
  | sl c z rs b off cap us h hne hz hm hcap hr hS => exact hS.elim

theorem winA_rep {F : Fr} {H : Hp} {m : Mp} {w : World} (hrep : HRep F H m w) {x : AV} {u : Value} {id ver lo len : Nat} (h : winA H x = some (id, ver, lo, len)) (hu : RepA F H m w x u) {B : Buf} (hB : curB H id ver = some B) :
    ∃ sv, m.bf id = some sv ∧ WinOf sv B.z lo len u := by
  obtain ⟨hB1, hB2⟩ := curB_spec hB
  unfold winA at h
  split at h
  · rename_i id' ver' lo' len'
    cases h
    obtain ⟨h1, B2, hB3, hv2, hcur⟩ := hu
    rw [hB1] at hB3; cases hB3
    obtain ⟨p, n, cap, hm, hn, hor⟩ := hcur hB2
    exact ⟨_, hm, h1, p, n, cap, rfl, hn, hor⟩
  · rename_i id' ver'
    split at h
    · rename_i B' hB'
      split at h
      · rename_i l hl
        cases h
        rw [hB] at hB'; cases hB'
        obtain ⟨rs, xs, hm, hrows, hz0, hr, hown, hrd⟩ := own_slice hrep hB1 hB2 hu
        have hl2 := (rows_z hrows).2
        rw [hl] at hl2; simp at hl2; subst hl2
        obtain ⟨p, cap, rfl, hcap, hmax, hp⟩ := ownsRow_val hown
        refine ⟨_, hm, rfl, p, _, cap, rfl, by omega, ?_⟩
        have : p.map (·.add (0 * B.z)) = p := by cases p <;> simp [Addr.add]
        rw [this]; simp
      · cases h
    · cases h
  · cases h

theorem callOT_sound {cf : Cfg} (hcf : TblOk P cf) {H : Hp} {nx : Nat} {o : Oper} {ev : Operand → AV} {f : FuncId} {args : Array Operand} {ts : Array TypeId} (hf : ev (.func f) = .c (.a (.func (.func f) #[] #[])))
    (ho : o.op = .call { callee := .value (.func f), args, argTypes := ts }) {K : AV → Hp → Nat → Prop} (h : callOT cf H nx f (args.toList.map ev) K) : ∃ r H' nx', K r H' nx' ∧ nx ≤ nx' ∧ ∀ F : Fr, OpW P F H H' nx nx' o ev r := by
  unfold callOT at h
  split at h
  · rename_i ct hct
    split at h
    · rename_i e hwin
      unfold callWT at h
      split at h
      · rename_i x rest hargs
        split at h
        · rename_i id ver lo len hwa
          split at h
          · rename_i B as hB has
            obtain ⟨hBe, hBz, hnown, hflat, htr⟩ := h
            obtain ⟨⟨fn, hfn, hname, hbody⟩, _, _, hret, _⟩ := hcf.2 f ct hct
            obtain ⟨con, lo', len', as', con', l, hase, hr, hK⟩ := hret e hwin _ _ htr
            simp only [List.cons.injEq, Sum.inl.injEq, C.i.injEq, true_and] at hase
            obtain ⟨rfl, hlo, hlen, rfl⟩ := hase
            have hlo2 : lo' = lo := by omega
            have hlen2 : len' = len := by omega
            subst hlo2; subst hlen2
            refine ⟨_, _, _, hK, Nat.le_refl _, fun F m w ρ hrep hfree hops => ?_⟩
            have hρf : ρ (.func f) = .func (.func f) #[] #[] := rd_a (by have := hops (.func f) (by simp [ho, Op.operands, Call.operands]); rw [hf] at this; exact this)
            obtain ⟨hal, hai⟩ := argsO_spec has
            have hn : ¬ fn.name = "runtime.NumGoroutine" := by simpa using hname
            have hb : ¬ fn.body = none := by intro h; rw [h] at hbody; simp at hbody
            have hex : (execOp ρ o).run P w = .ok (.enter f (args.map ρ)) w := by
              simp [execOp, ho, resolve, Deferred.ofValue, hρf, invoke, callFunc, program, Sem.run, hfn, hn, hb]
            have hlen3 : args.size = rest.length + 1 := by have := congrArg List.length hargs; simpa using this
            have h0 : (args.toList.map ev)[0]? = some x := by rw [hargs]; rfl
            have hx0 : ev args[0] = x := by simpa [Array.getElem?_eq_getElem (show 0 < args.size by omega)] using h0
            have hxr := hops args[0] (by simp [ho, Op.operands, Call.operands])
            rw [hx0] at hxr
            obtain ⟨sv, hsv, hwo⟩ := winA_rep hrep hwa hxr hB
            obtain ⟨hB1, hB2⟩ := curB_spec hB
            obtain ⟨B2, rs, xs, hB3, hrows, hz0, hrl, hown, hrd⟩ := hrep.buf id sv hsv
            rw [hB1] at hB3; cases hB3
            unfold Exec
            rw [hex]
            refine (hr w (callS F m false) sv (ρ args[0]) (args.map ρ) rs xs (by simp [hal, hlen3]) (by simp [Array.getElem?_eq_getElem (show 0 < args.size by omega)]) (fun j y u hy hu => ?_) (by rw [hBz]; exact hrows) (by rw [hBz]; exact hz0) (by rw [hBz]; exact hrl)
              (by rw [hBz, ← hBe]; exact hown) (fun i j y hy => let ⟨u, hu, hrr⟩ := hrd i j y hy; ⟨u, by rw [hBz]; exact hu, hrr.plain (flat_plain hflat hrows hy)⟩) (fun b hb' hS => ?_) (by rw [hBz]; exact hwo)).mono fun ed w' ⟨v, he, hg, hres, rs', xs', hz', hrows', hrl', hown', hrd'⟩ => ⟨v, he, ?_⟩
            · have hj := (List.getElem?_eq_some_iff.1 hy).1
              rw [hal] at hj
              have hj2 : j + 1 < args.size := by omega
              have hxx : (args.toList.map ev)[j + 1]? = some (ev args[j + 1]) := by simp [Array.getElem?_eq_getElem hj2]
              have hxr2 : rest[j]? = some (ev args[j + 1]) := by rw [hargs] at hxx; simpa using hxx
              have hu2 : u = ρ args[j + 1] := by simp [Array.getElem?_eq_getElem hj2] at hu; exact hu.symm
              subst hu2
              exact argO_rep rfl hrep (hai j _ y hxr2 hy) (fun ho' => by
                have := List.any_eq_false.1 hnown _ (List.mem_of_getElem? hxr2)
                exact absurd ho' this) (hops _ (by simp [ho, Op.operands, Call.operands]))
            · rcases hS with hS | ⟨hS, _⟩
              · exact own_not_S hrep (.inr ⟨id, sv, hsv, hb'⟩) hS
              · cases hS
            · obtain ⟨g1, g2⟩ := hrep.bufStep (id := id) (row := sv.ownBlock) (B' := ⟨B.ver, B.e, B.z, con'⟩) (v' := sv) (rs := rs') (xs := xs') (H' := H.addBuf id ⟨B.ver, B.e, B.z, con'⟩) hg (fun g hg => ⟨sv, hsv, hg⟩)
                (fun g hg => .inl hg) (fun B2 hB2' => by rw [hB1] at hB2'; cases hB2'; exact .inr ⟨rfl, hsv, rfl⟩) (look_add ..) (fun i hi => look_add_ne _ _ _ _ hi) rfl rfl (by show con'.rows = some (B.z, rs'); rw [hrows', hBz]) hz0 (by rw [hBz] at hrl'; exact hrl')
                (by rw [hBz, ← hBe] at hown'; exact hown') (by rw [hBz] at hrd'; exact fun i j y hy => let ⟨u, hu, hr⟩ := hrd' i j y hy; ⟨u, hu, hr.none⟩)
              refine ⟨_, g1, g2, fun i hi => ?_, RdR.rep (fun b hb _ => hb.elim) hres⟩
              obtain ⟨h1, h2⟩ := hfree i hi
              refine ⟨h1, ?_⟩
              simp only [Mp.addBf]
              split
              · subst i; rw [hsv] at h2; cases h2
              · exact h2
          · exact h.elim
        · exact h.elim
      · exact h.elim
    · rename_i hwin
      split at h
      · rename_i as has
        split at h
        · rename_i e z hown
          obtain ⟨⟨fn, hfn, hname, hbody⟩, _, hret, _⟩ := hcf.2 f ct hct
          obtain ⟨con, hr, hK⟩ := hret e z hown hwin as _ h
          refine ⟨_, _, _, hK, Nat.le_succ _, fun F m w ρ hrep hfree hops => ?_⟩
          have hρf : ρ (.func f) = .func (.func f) #[] #[] := rd_a (by have := hops (.func f) (by simp [ho, Op.operands, Call.operands]); rw [hf] at this; exact this)
          obtain ⟨hal, hai⟩ := argsO_spec has
          have hn : ¬ fn.name = "runtime.NumGoroutine" := by simpa using hname
          have hb : ¬ fn.body = none := by intro h; rw [h] at hbody; simp at hbody
          have hex : (execOp ρ o).run P w = .ok (.enter f (args.map ρ)) w := by
            simp [execOp, ho, resolve, Deferred.ofValue, hρf, invoke, callFunc, program, Sem.run, hfn, hn, hb]
          unfold Exec
          rw [hex]
          refine (hr w (callS F m true) (args.map ρ) (by simp [hal]) (fun j y u hy hu => ?_)).mono fun ed w' ⟨v, he, hext, rs, xs, hrows, hz, hrl, howns, hrd⟩ => ⟨v, he, ?_⟩
          · have hj := (List.getElem?_eq_some_iff.1 hy).1
            rw [hal] at hj
            simp at hj
            have hx : (args.toList.map ev)[j]? = some (ev args[j]) := by simp [Array.getElem?_eq_getElem hj]
            have hu2 : u = ρ args[j] := by simp [Array.getElem?_eq_getElem hj] at hu; exact hu.symm
            subst hu2
            exact argO_rep rfl hrep (hai j _ y hx hy) (fun _ => rfl) (hops _ (by simp [ho, Op.operands, Call.operands]))
          · have howns2 : w'.ownsRow 0 e z v rs.length xs := by
              refine ⟨howns.1, ?_⟩
              rcases howns.2 with h | ⟨g, cap, cur, h1, h2, h3⟩
              · exact .inl h
              · exact .inr ⟨g, cap, cur, h1, Nat.le_trans (Nat.zero_le _) h2, h3⟩
            obtain ⟨g1, g2⟩ := hrep.bufStep (id := nx) (row := none) (B' := ⟨verN H nx, e, z, con⟩) (v' := v) (rs := rs) (xs := xs) (H' := H.addBuf nx ⟨verN H nx, e, z, con⟩) ⟨hext.os, hext.tape, hext.output, hext.size, fun k hk _ => hext.block k hk⟩ (fun g hg => by cases hg)
              (fun g hg => .inr (howns.lt g hg).1) (fun B hB => .inl (verN_lt B hB)) (look_add ..) (fun i hi => look_add_ne _ _ _ _ hi) rfl rfl hrows hz hrl howns2 (fun i j y hy => let ⟨u, hu, hr⟩ := hrd i j y hy; ⟨u, hu, hr.none⟩)
            obtain ⟨p, cap, hv', _⟩ := ownsRow_val howns
            refine ⟨_, g1, g2, fun i hi => ?_, by rw [hv']; rfl, _, look_add .., Nat.le_refl _, fun _ => by simp [Mp.addBf]⟩
            obtain ⟨h1, h2⟩ := hfree i (by omega)
            refine ⟨h1, ?_⟩
            simp only [Mp.addBf]
            split
            · omega
            · exact h2
        · exact h.elim
      · exact h.elim
  · exact h.elim

/-- a row cut at its end -/
theorem ownsRow_cut {w : World} {e : TypeId} {z n k cap : Nat} {p : Option Addr} {xs : List Value} (h : w.ownsRow 0 e z (.slice p n cap) n xs) (hk : k ≤ n) : w.ownsRow 0 e z (.slice p k cap) k (xs.take (k * z)) := by
  have hmul : k * z ≤ n * z := Nat.mul_le_mul_right _ hk
  refine ⟨by rw [List.length_take, h.1]; omega, ?_⟩
  rcases h.2 with ⟨h2, h3⟩ | ⟨g, cap', cur, h2, hbg, hgg, hnc, hcm, hcs, htake⟩
  · simp only [Value.slice.injEq] at h2
    obtain ⟨h4, _, h5⟩ := h2
    subst h4; subst h5
    have hb0 : k = 0 := by omega
    exact .inl ⟨by rw [hb0], hb0⟩
  · cases h2
    refine .inr ⟨g, cap, cur, rfl, hbg, hgg, by omega, hcm, hcs, ?_⟩
    rw [← htake, List.take_take]
    congr 1; omega

theorem RdRow.cut {w : World} {S : Nat → Prop} {z k : Nat} {rs : List (List C)} {xs : List Value} (hr : ∀ r ∈ rs, r.length = z) (h : RdRow w S z rs xs) : RdRow w S z (rs.take k) (xs.take (k * z)) := by
  intro i j y hy
  have hrl : ∀ r ∈ rs.take k, r.length = z := fun r hrm => hr r (List.mem_of_mem_take hrm)
  obtain ⟨h2, h3⟩ := at2_lt hrl hy
  rw [List.length_take] at h2
  have hat : at2 rs i j = some y := by
    unfold at2 at hy ⊢
    rw [List.getElem?_take, if_pos (by omega)] at hy
    exact hy
  obtain ⟨u, hu', hrr⟩ := h i j y hat
  refine ⟨u, ?_, hrr⟩
  rw [List.getElem?_take, if_pos]
  · exact hu'
  · have : (i + 1) * z ≤ k * z := Nat.mul_le_mul_right _ (by omega)
    rw [Nat.add_mul] at this; omega

theorem callCT_sound {cf : Cfg} (hcf : TblOk P cf) {H : Hp} {nx : Nat} {o : Oper} {ev : Operand → AV} {f : FuncId} {args : Array Operand} {ts : Array TypeId} (hf : ev (.func f) = .c (.a (.func (.func f) #[] #[])))
    (ho : o.op = .call { callee := .value (.func f), args, argTypes := ts }) {K : AV → Hp → Nat → Prop} (h : callCT cf H nx f (args.toList.map ev) K) : ∃ r H', K r H' nx ∧ ∀ F : Fr, OpW P F H H' nx nx o ev r := by
  unfold callCT at h
  split at h
  · rename_i ct id ver hct hargs
    split at h
    · rename_i e B hcut hB
      obtain ⟨hBe, hBz, hflat, htr⟩ := h
      obtain ⟨⟨fn, hfn, hname, hbody⟩, _, _, _, hret⟩ := hcf.2 f ct hct
      obtain ⟨con', hr, hK⟩ := hret e hcut _ _ htr
      refine ⟨_, _, hK, fun F m w ρ hrep hfree hops => ?_⟩
      have hρf : ρ (.func f) = .func (.func f) #[] #[] := rd_a (by have := hops (.func f) (by simp [ho, Op.operands, Call.operands]); rw [hf] at this; exact this)
      have hn : ¬ fn.name = "runtime.NumGoroutine" := by simpa using hname
      have hb : ¬ fn.body = none := by intro h; rw [h] at hbody; simp at hbody
      have hlen3 : args.size = 1 := by have := congrArg List.length hargs; simpa using this
      have hone : ∃ x, args = #[x] := by
        obtain ⟨l⟩ := args
        match l, hlen3 with
        | [x], _ => exact ⟨x, rfl⟩
      obtain ⟨x, rfl⟩ := hone
      have hex : (execOp ρ o).run P w = .ok (.enter f #[ρ x]) w := by
        simp [execOp, ho, resolve, Deferred.ofValue, hρf, invoke, callFunc, program, Sem.run, hfn, hn, hb]
      have hx0 : ev x = .own id ver := by simpa using hargs
      have hxr := hops x (by simp [ho, Op.operands, Call.operands])
      rw [hx0] at hxr
      obtain ⟨hB1, hB2⟩ := curB_spec hB
      obtain ⟨rs, xs, hm, hrows, hz0, hrl, hown, hrd⟩ := own_slice hrep hB1 hB2 hxr
      unfold Exec
      rw [hex]
      refine (hr w (ρ x) rs xs (by rw [hBz]; exact hrows) (by rw [hBz]; exact hz0) (by rw [hBz]; exact hrl) (by rw [hBz, ← hBe]; exact hown) (fun i j y hy => let ⟨u, hu, hrr⟩ := hrd i j y hy; ⟨u, by rw [hBz]; exact hu, hrr.plain (flat_plain hflat hrows hy)⟩)).mono
        fun ed w' ⟨p, n, cap, k, hsv, hk, hrows', he, hg, xs', hown', hrd'⟩ => ⟨_, he, ?_⟩
      rw [hBz] at hrows' hown' hrd'
      rw [← hBe] at hown'
      have hrl' : ∀ r ∈ rs.take k, r.length = B.z := fun r hrm => hrl r (List.mem_of_mem_take hrm)
      have hn2 : n = rs.length := by
        obtain ⟨p2, cap2, h1, _⟩ := ownsRow_val hown
        rw [hsv] at h1; cases h1; rfl
      subst hn2
      rw [hsv] at hown' hg hm
      have hown2 := ownsRow_cut hown' hk
      have hlen4 : (rs.take k).length = k := by simp; omega
      obtain ⟨g1, g2⟩ := hrep.bufStep (id := id) (row := (Value.slice p rs.length cap).ownBlock) (B' := ⟨ver + 1, B.e, B.z, con'⟩) (v' := .slice p k cap) (rs := rs.take k) (xs := xs'.take (k * B.z)) (H' := H.addBuf id ⟨ver + 1, B.e, B.z, con'⟩)
        hg (fun g hg => ⟨_, hm, hg⟩) (fun g hg => .inl (by cases p <;> exact hg))
        (fun B2 hB2' => by rw [hB1] at hB2'; cases hB2'; left; show B.ver < ver + 1; omega) (look_add ..) (fun i hi => look_add_ne _ _ _ _ hi) rfl rfl hrows' hz0 hrl' (by rw [hlen4]; exact hown2) (fun i j y hy => let ⟨u, hu, hr⟩ := (RdRow.cut hrl hrd') i j y hy; ⟨u, hu, hr.none⟩)
      refine ⟨_, g1, g2, fun i hi => ?_, rfl, _, look_add .., Nat.le_refl _, fun _ => by simp [Mp.addBf]⟩
      obtain ⟨h2, h3⟩ := hfree i hi
      refine ⟨h2, ?_⟩
      simp only [Mp.addBf]
      split
      · subst i; rw [hm] at h3; cases h3
      · exact h3
    · exact h.elim
  · exact h.elim

def minT (x y : AV) (K : AV → Prop) : Prop := match x, y with
  | .c (.i k a), .c (.i k' b) => k = k' ∧ K (.c (.i k (min a b)))
  | _, _ => False
def maxT (x y : AV) (K : AV → Prop) : Prop := match x, y with
  | .c (.i k a), .c (.i k' b) => k = k' ∧ K (.c (.i k (max a b)))
  | _, _ => False

theorem minT_sound {x y : AV} {K : AV → Prop} (h : minT x y K) : ∃ r, K r ∧ ∀ (F : Fr) (H : Hp) (m : Mp) (w : World) (u v : Value) (ts : Array TypeId) (ty : TypeId), RepA F H m w x u → RepA F H m w y v → Yl P F H m w (Builtin.min_ ts ty #[u, v]) r := by
  unfold minT at h
  split at h
  · obtain ⟨rfl, hK⟩ := h
    refine ⟨_, hK, fun F H m w u v ts ty hu hv => ?_⟩
    obtain rfl := rep_i hu
    obtain rfl := rep_i hv
    rename_i ka a b
    refine ⟨_, by simp [Builtin.min_, Builtin.min2]; rfl, ?_⟩
    have : min a b = if b < a then b else a := by rw [Int.min_def]; split <;> split <;> omega
    rw [this]; exact rep_int ..
  · exact h.elim
theorem maxT_sound {x y : AV} {K : AV → Prop} (h : maxT x y K) : ∃ r, K r ∧ ∀ (F : Fr) (H : Hp) (m : Mp) (w : World) (u v : Value) (ts : Array TypeId) (ty : TypeId), RepA F H m w x u → RepA F H m w y v → Yl P F H m w (Builtin.max_ ts ty #[u, v]) r := by
  unfold maxT at h
  split at h
  · obtain ⟨rfl, hK⟩ := h
    refine ⟨_, hK, fun F H m w u v ts ty hu hv => ?_⟩
    obtain rfl := rep_i hu
    obtain rfl := rep_i hv
    rename_i ka a b
    refine ⟨_, by simp [Builtin.max_, Builtin.max2]; rfl, ?_⟩
    have : max a b = if a < b then b else a := by rw [Int.max_def]; split <;> split <;> omega
    rw [this]; exact rep_int ..
  · exact h.elim

end Go.Abs
