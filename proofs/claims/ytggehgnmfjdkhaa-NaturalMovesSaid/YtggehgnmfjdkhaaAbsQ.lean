/-
  The rules in the form in which they are applied; what is to be simplified, and what is not.
-/
import Derived.Test.YtggehgnmfjdkhaaAbsP
namespace Go.Abs
set_option linter.unusedSimpArgs false
set_option linter.unusedVariables false
open Go.RowKit

section congr
variable {P : Program} {F : Fr} {cf : Cfg}

@[congr] theorem AWp_congr {c : Code} {Q : Exit → St → Prop} {st st' : St} (h : st = st') : AWp P F c Q st = AWp P F c Q st' := by rw [h]
@[congr] theorem evalOps_congr {dr : Bool} {ops os : List Oper} {K : St → Prop} {st st' : St} (h : st = st') : evalOps P cf dr ops os st K = evalOps P cf dr ops os st' K := by rw [h]
@[congr] theorem opE_congr {o : Op} {K : AV → St → Prop} {st st' : St} (h : st = st') : opE P cf st o K = opE P cf st' o K := by rw [h]
@[congr] theorem callE_congr {c : Call} {K : AV → St → Prop} {st st' : St} (h : st = st') : callE P cf st c K = callE P cf st' c K := by rw [h]
@[congr] theorem arT_congr {k : IntKind} {n n' : Int} {K : AV → Prop} (h : n = n') : arT k n K = arT k n' K := by rw [h]
@[congr] theorem intT_congr {op : BinOp} {k k' : IntKind} {a a' b b' : Int} {K : AV → Prop} (hk : k = k') (h : a = a') (h2 : b = b') : intT op k a b K = intT op k' a' b' K := by rw [hk, h, h2]
@[congr] theorem binT_congr {op : BinOp} {t : TypeId} {x x' y y' : AV} {K : AV → Prop} (h : x = x') (h2 : y = y') : binT P cf op t x y K = binT P cf op t x' y' K := by rw [h, h2]
@[congr] theorem unT_congr {op : UnOp} {x x' : AV} {K : AV → Prop} (h : x = x') : unT op x K = unT op x' K := by rw [h]
@[congr] theorem convT_congr {d : TypeId} {x x' : AV} {K : AV → Prop} (h : x = x') : convT P d x K = convT P d x' K := by rw [h]
@[congr] theorem pickT_congr {x x' : AV} {Ka Kb : Prop} (h : x = x') : pickT x Ka Kb = pickT x' Ka Kb := by rw [h]
@[congr] theorem loadT_congr {H H' : Hp} {t : TypeId} {x x' : AV} {K : AV → Prop} (h : H = H') (h2 : x = x') : loadT P H t x K = loadT P H' t x' K := by rw [h, h2]
@[congr] theorem indexAddrT_congr {H H' : Hp} {t : TypeId} {x x' i i' : AV} {K : AV → Prop} (h : H = H') (h2 : x = x') (h3 : i = i') : indexAddrT P H t x i K = indexAddrT P H' t x' i' K := by rw [h, h2, h3]
@[congr] theorem fieldAddrT_congr {s : TypeId} {x x' : AV} {f : Nat} {K : AV → Prop} (h : x = x') : fieldAddrT P s x f K = fieldAddrT P s x' f K := by rw [h]
@[congr] theorem fieldT_congr {s : TypeId} {x x' : AV} {f : Nat} {K : AV → Prop} (h : x = x') : fieldT P s x f K = fieldT P s x' f K := by rw [h]
@[congr] theorem indexT_congr {t : TypeId} {x x' i i' : AV} {K : AV → Prop} (h : x = x') (h2 : i = i') : indexT P t x i K = indexT P t x' i' K := by rw [h, h2]
@[congr] theorem extractT_congr {x x' : AV} {i : Nat} {K : AV → Prop} (h : x = x') : extractT x i K = extractT x' i K := by rw [h]
@[congr] theorem lenT_congr {H H' : Hp} {x x' : AV} {K : AV → Prop} (h : H = H') (h2 : x = x') : lenT H x K = lenT H' x' K := by rw [h, h2]
@[congr] theorem sliceT_congr {t : TypeId} {x x' : AV} {lo lo' hi hi' : Option AV} {K : AV → Prop} (h : x = x') (h2 : lo = lo') (h3 : hi = hi') : sliceT P t x lo hi K = sliceT P t x' lo' hi' K := by rw [h, h2, h3]
@[congr] theorem buildT_congr {t : TypeId} {ps ps' : List (Nat × AV)} {K : AV → Prop} (h : ps = ps') : buildT P t ps K = buildT P t ps' K := by rw [h]
@[congr] theorem litT_congr {t : TypeId} {n : Nat} {ps ps' : List (Nat × AV)} {K : AV → Prop} (h : ps = ps') : litT P t n ps K = litT P t n ps' K := by rw [h]
@[congr] theorem storeT_congr {H H' : Hp} {t : TypeId} {a a' x x' : AV} {K : Hp → Prop} (h : H = H') (h2 : a = a') (h3 : x = x') : storeT P H t a x K = storeT P H' t a' x' K := by rw [h, h2, h3]
@[congr] theorem appT_congr {H H' : Hp} {nx nx' : Nat} {t : TypeId} {a a' x x' : AV} {K : AV → Hp → Nat → Prop} (h : H = H') (h0 : nx = nx') (h2 : a = a') (h3 : x = x') : appT P H nx t a x K = appT P H' nx' t a' x' K := by rw [h, h0, h2, h3]
@[congr] theorem makeT_congr {H H' : Hp} {nx nx' : Nat} {t : TypeId} {a a' x x' : AV} {K : AV → Hp → Nat → Prop} (h : H = H') (h0 : nx = nx') (h2 : a = a') (h3 : x = x') : makeT P H nx t a x K = makeT P H' nx' t a' x' K := by rw [h, h0, h2, h3]
@[congr] theorem cutT_congr {H H' : Hp} {nx nx' : Nat} {t : TypeId} {x x' : AV} {lo lo' hi hi' : Option AV} {K : AV → Hp → Nat → Prop} (h : H = H') (h0 : nx = nx') (h1 : x = x') (h2 : lo = lo') (h3 : hi = hi') : cutT P H nx t x lo hi K = cutT P H' nx' t x' lo' hi' K := by rw [h, h0, h1, h2, h3]
@[congr] theorem callT_congr {H H' : Hp} {f : FuncId} {as as' : List AV} {K : AV → Prop} (h : H = H') (h2 : as = as') : callT cf H f as K = callT cf H' f as' K := by rw [h, h2]
@[congr] theorem callOT_congr {H H' : Hp} {nx nx' : Nat} {f : FuncId} {as as' : List AV} {K : AV → Hp → Nat → Prop} (h : H = H') (h1 : nx = nx') (h2 : as = as') : callOT cf H nx f as K = callOT cf H' nx' f as' K := by rw [h, h1, h2]
@[congr] theorem lit0T_congr {H H' : Hp} {nx nx' : Nat} {t : TypeId} {K : AV → Hp → Nat → Prop} (h : H = H') (h1 : nx = nx') : lit0T P H nx t K = lit0T P H' nx' t K := by rw [h, h1]
@[congr] theorem fzFor_congr {o : Op} {st st' : St} (h : st = st') : fzFor cf st o = fzFor cf st' o := by rw [h]
@[congr] theorem minT_congr {x x' y y' : AV} {K : AV → Prop} (h : x = x') (h2 : y = y') : minT x y K = minT x' y' K := by rw [h, h2]
@[congr] theorem maxT_congr {x x' y y' : AV} {K : AV → Prop} (h : x = x') (h2 : y = y') : maxT x y K = maxT x' y' K := by rw [h, h2]
end congr

/-- a guard's two ways -/
def gd (t want : Bool) (A B : Prop) : Prop := (t = want → A) ∧ (t = !want → B)
@[congr] theorem gd_congr {t t' want : Bool} {A B : Prop} (h : t = t') : gd t want A B = gd t' want A B := by rw [h]
theorem gd_tt {A B : Prop} : gd true true A B = A := by simp [gd]
theorem gd_tf {A B : Prop} : gd true false A B = B := by simp [gd]
theorem gd_ft {A B : Prop} : gd false true A B = B := by simp [gd]
theorem gd_ff {A B : Prop} : gd false false A B = A := by simp [gd]
theorem gd_dt {p : Prop} [Decidable p] {A B : Prop} : gd (decide p) true A B = ((p → A) ∧ (¬ p → B)) := by simp [gd]
theorem gd_df {p : Prop} [Decidable p] {A B : Prop} : gd (decide p) false A B = ((¬ p → A) ∧ (p → B)) := by simp [gd]
theorem gd_nt {p : Prop} [Decidable p] {A B : Prop} : gd (!decide p) true A B = ((¬ p → A) ∧ (p → B)) := by simp [gd]
theorem gd_gt {t : Bool} {A B : Prop} : gd t true A B = ((t = true → A) ∧ (t = false → B)) := by simp [gd]
theorem gd_gf {t : Bool} {A B : Prop} : gd t false A B = ((t = false → A) ∧ (t = true → B)) := by simp [gd]
theorem gd_nf {p : Prop} [Decidable p] {A B : Prop} : gd (!decide p) false A B = ((p → A) ∧ (¬ p → B)) := by simp [gd]

section steps
variable {P : Program} {cf : Cfg} {ops os : List Oper} {st : St} {K : St → Prop} {dst : Option Nat} {op : Op} {ty : TypeId} {pos : String} {after : Array Edge}

theorem ev_nil {dr : Bool} : evalOps P cf dr ops [] st K = K st := rfl
theorem ev_f : evalOps P cf false ops (⟨dst, op, ty, pos, after, none⟩ :: os) st K = opE P cf (fzFor cf st op) op (fun r st' => evalOps P cf false ops os (st'.putO dst r) K) := by simp [evalOps]
theorem ev_t : evalOps P cf true ops (⟨dst, op, ty, pos, after, none⟩ :: os) st K = (cutB cf st op = false ∧ opE P cf (fzFor cf st op) op (fun r st' => evalOps P cf true ops os (st'.putO dst r) K)) := by simp [evalOps]
theorem ev_fg {j : Nat} {want : Bool} : evalOps P cf false ops (⟨dst, op, ty, pos, after, some (j, want)⟩ :: os) st K = (match (ops[j]?).bind (·.dst) with
      | some g => match st.get g with
        | .c (.b t) => gd t want (opE P cf (fzFor cf (st.put g (.c (.b want))) op) op (fun r st' => evalOps P cf false ops os (st'.putO dst r) K))
            (evalOps P cf false ops os ((st.put g (.c (.b (!want)))).putO dst (.t [])) K)
        | .t _ => evalOps P cf false ops os (st.putO dst (.t [])) K
        | _ => False
      | none => False) := by
  simp only [evalOps, Bool.false_and, Bool.true_and, true_and]
  cases (ops[j]?).bind (·.dst) with
  | none => rfl
  | some g => cases st.get g with
    | c x => cases x <;> rfl
    | _ => rfl
theorem ev_tg {j : Nat} {want : Bool} : evalOps P cf true ops (⟨dst, op, ty, pos, after, some (j, want)⟩ :: os) st K = (match (ops[j]?).bind (·.dst) with
      | some g => match st.get g with
        | .c (.b t) => gd t want (cutB cf (st.put g (.c (.b want))) op = false ∧ opE P cf (fzFor cf (st.put g (.c (.b want))) op) op (fun r st' => evalOps P cf true ops os (st'.putO dst r) K))
            (evalOps P cf true ops os ((st.put g (.c (.b (!want)))).putO dst (.t [])) K)
        | .t _ => evalOps P cf true ops os (st.putO dst (.t [])) K
        | _ => False
      | none => False) := by
  simp only [evalOps, Bool.false_and, Bool.true_and, true_and]
  cases (ops[j]?).bind (·.dst) with
  | none => rfl
  | some g => cases st.get g with
    | c x => cases x <;> rfl
    | _ => rfl

def fzL (l : List AV) (st : St) : St := if l.any isOwn then st.fz (ownIds l) else st
def fzC (ct : Option CT) (l : List AV) (st : St) : St := match ct with
  | some ct => if ct.fresh || ct.own.isSome || (ct.cut.isSome && isOne l) then st else fzL l st
  | none => st
@[congr] theorem fzL_congr {l l' : List AV} {st : St} (h : l = l') : fzL l st = fzL l' st := by rw [h]
@[congr] theorem fzC_congr {ct ct' : Option CT} {l l' : List AV} {st : St} (h : ct = ct') (h2 : l = l') : fzC ct l st = fzC ct' l' st := by rw [h, h2]
theorem fz_move {x : Operand} : fzFor cf st (.move x) = st := rfl
theorem fz_assign {x : Operand} : fzFor cf st (.assign x) = st := rfl
theorem fz_pick {a b c : Operand} : fzFor cf st (.pick a b c) = st := rfl
theorem fz_alloc {e : TypeId} : fzFor cf st (.alloc e) = st := rfl
theorem fz_box {e : TypeId} {x : Operand} : fzFor cf st (.box e x) = st := rfl
theorem fz_lit {t : TypeId} {n : Nat} {ps : Array (Nat × Operand)} : fzFor cf st (.buildSlice t n ps) = st := rfl
theorem fz_load {t : TypeId} {x : Operand} : fzFor cf st (.load t x) = st := rfl
theorem fz_store {t : TypeId} {a x : Operand} : fzFor cf st (.store t a x) = st := rfl
theorem fz_bin {o : BinOp} {t t' : TypeId} {x y : Operand} : fzFor cf st (.binOp o t x y t') = st := rfl
theorem fz_un {o : UnOp} {t : TypeId} {x : Operand} : fzFor cf st (.unOp o t x) = st := rfl
theorem fz_conv {s d : TypeId} {x : Operand} : fzFor cf st (.convert s d x) = st := rfl
theorem fz_make {t : TypeId} {l c : Operand} : fzFor cf st (.makeSlice t l c) = st := rfl
theorem fz_slice {t : TypeId} {x : Operand} {lo hi m : Option Operand} : fzFor cf st (.slice t x lo hi m) = st := rfl
theorem fz_faddr {t : TypeId} {x : Operand} {f : Nat} : fzFor cf st (.fieldAddr t x f) = st := rfl
theorem fz_field {t : TypeId} {x : Operand} {f : Nat} : fzFor cf st (.field t x f) = st := rfl
theorem fz_iaddr {t : TypeId} {x i : Operand} : fzFor cf st (.indexAddr t x i) = st := rfl
theorem fz_index {t : TypeId} {x i : Operand} : fzFor cf st (.index t x i) = st := rfl
theorem fz_extract {x : Operand} {i : Nat} : fzFor cf st (.extract x i) = st := rfl
theorem fz_builtin {b : Builtin} {as : Array Operand} {ts : Array TypeId} : fzFor cf st (.call ⟨.builtin b, as, ts⟩) = st := rfl
theorem fz_call {f : FuncId} {as : Array Operand} {ts : Array TypeId} : fzFor cf st (.call ⟨.value (.func f), as, ts⟩) = fzC (cf.tbl f) (as.toList.map st.ev) st := by
  unfold fzC
  split
  · rename_i ct htb
    cases h1 : ct.fresh <;> cases h2 : ct.own <;> cases h3 : (ct.cut.isSome && isOne (as.toList.map st.ev)) <;> simp [fzFor, fzB, fzArgs, fzL, htb, h1, h2, h3]
  · rename_i htb
    simp [fzFor, fzB, htb]
theorem fz_build {t : TypeId} {ps : Array (Nat × Operand)} : fzFor cf st (.build t ps) = fzL (ps.toList.map fun p => st.ev p.2) st := rfl
end steps

section shape
variable {P : Program} {F : Fr} {Q : Exit → St → Prop} {st : St}

theorem then_n {c : Code} (h : AWp P F c Q st) : Then P F c Q .normal st := h
theorem then_ret {c : Code} (h : Q .ret st) : Then P F c Q .ret st := h
theorem then_exit {c : Code} {id : Nat} (h : Q (.exit id) st) : Then P F c Q (.exit id) st := h
theorem inb_n {id : Nat} (h : Q .normal st) : InBlock id Q .normal st := h
theorem inb_ret {id : Nat} (h : Q .ret st) : InBlock id Q .ret st := h
theorem inb_same {id : Nat} (h : Q .normal st) : InBlock id Q (.exit id) st := by simp [InBlock]; exact h
theorem inb_other {id id' : Nat} (hne : (id' == id) = false) (h : Q (.exit id') st) : InBlock id Q (.exit id') st := by
  have : id' ≠ id := by simpa using hne
  simp [InBlock, this]; exact h

/-- what a round of a loop must come to -/
def Round {ι : Type} (inv : ι → St) (μ : ι → Nat) (i : ι) (Q : Exit → St → Prop) : Exit → St → Prop
  | .normal, st => ∃ j, FitP st (inv j) ∧ μ j < μ i
  | e, st => Q e st

theorem round_n {ι : Type} {inv : ι → St} {μ : ι → Nat} {i : ι} (j : ι) (h : FitP st (inv j)) (hm : μ j < μ i) : Round inv μ i Q .normal st := ⟨j, h, hm⟩
theorem round_ret {ι : Type} {inv : ι → St} {μ : ι → Nat} {i : ι} (h : Q .ret st) : Round inv μ i Q .ret st := h
theorem round_exit {ι : Type} {inv : ι → St} {μ : ι → Nat} {i : ι} {id : Nat} (h : Q (.exit id) st) : Round inv μ i Q (.exit id) st := h

theorem loop_of {c : Code} {ι : Type} (inv : ι → St) (μ : ι → Nat) (i0 : ι) (h0 : FitP st (inv i0)) (hr : ∀ i, AWp P F c (Round inv μ i Q) (inv i)) : AWp P F (.loop c) Q st :=
  awp_loop inv μ i0 (fit_of h0) fun i => awp_mono (hr i) fun e st' h => by
    cases e with
    | normal => obtain ⟨j, h1, h2⟩ := h; exact ⟨j, fit_of h1, h2⟩
    | _ => exact h

/-- where ways meet -/
def Join {ι : Type} (mid : ι → St) (Q : Exit → St → Prop) : Exit → St → Prop
  | .normal, st => ∃ i, FitP st (mid i)
  | e, st => Q e st
theorem join_n {ι : Type} {mid : ι → St} (i : ι) (h : FitP st (mid i)) : Join mid Q .normal st := ⟨i, h⟩
theorem join_ret {ι : Type} {mid : ι → St} (h : Q .ret st) : Join mid Q .ret st := h
theorem join_exit {ι : Type} {mid : ι → St} {id : Nat} (h : Q (.exit id) st) : Join mid Q (.exit id) st := h
theorem seq_join {x y : Code} {ι : Type} (mid : ι → St) (hx : AWp P F x (Join mid Q) st) (hy : ∀ i, AWp P F y Q (mid i)) : AWp P F (.seq x y) Q st :=
  awp_seq (awp_mono hx fun e st' h => by
    cases e with
    | normal => obtain ⟨i, h⟩ := h; exact fun m a w hs => let ⟨m', hs'⟩ := fit_of h F m a w hs; hy i m' a w hs'
    | _ => exact h)

theorem endsO_own {rs : List ResultVar} {t id ver z : Nat} {e : TypeId} {con : C} {B : Buf} (hr : rs = [.tmp t]) (hg : st.get t = .own id ver) (hB : curB st.H id ver = some B) (he : B.e = e) (hz : B.z = z) (hc : B.con = con) (hf : flatC con = true) : EndsO rs e z con .ret st := ⟨.inl rfl, t, hr, hf, .inl ⟨id, ver, B, hg, hB, he, hz, hc⟩⟩
theorem endsO_nil {rs : List ResultVar} {t z : Nat} {e : TypeId} {con : C} (hr : rs = [.tmp t]) (hg : st.get t = .c .nil) (hc : con.rows = some (z, [])) (hz : 0 < z) (hf : flatC con = true) : EndsO rs e z con .ret st := ⟨.inl rfl, t, hr, hf, .inr ⟨hg, hc, hz⟩⟩

theorem ends_ret {rs : List ResultVar} {post : AV → Prop} {l : List (C ⊕ List C)} (h : ressO P st rs = some l) (hp : post (resAV l)) : Ends P rs post .ret st := ⟨.inl rfl, l, h, hp⟩
theorem ends_n {rs : List ResultVar} {post : AV → Prop} {l : List (C ⊕ List C)} (h : ressO P st rs = some l) (hp : post (resAV l)) : Ends P rs post .normal st := ⟨.inr rfl, l, h, hp⟩

theorem endsW_ret {rs : List ResultVar} {e e0 : TypeId} {con con0 : C} {l l0 : List (C ⊕ List C)} (h : ressO P st rs = some l0) (hB : look st.H.bor 0 = some ⟨e0, con0⟩) (he : e0 = e) (hf : flatC con = true) (hp : plainAV (resAV l) = true) (hl : l0 = l) (hc : con0 = con) :
    EndsW P rs e con l .ret st := ⟨.inl rfl, by rw [h, hl], hp, _, hB, he, hc, hf⟩
theorem endsW_n {rs : List ResultVar} {e e0 : TypeId} {con con0 : C} {l l0 : List (C ⊕ List C)} (h : ressO P st rs = some l0) (hB : look st.H.bor 0 = some ⟨e0, con0⟩) (he : e0 = e) (hf : flatC con = true) (hp : plainAV (resAV l) = true) (hl : l0 = l) (hc : con0 = con) :
    EndsW P rs e con l .normal st := ⟨.inr rfl, by rw [h, hl], hp, _, hB, he, hc, hf⟩

theorem endsC_ret {rs : List ResultVar} {t k k0 : Nat} {e e0 : TypeId} {con con0 : C} (hr : rs = [.tmp t]) (hg : st.get t = .bw 0 0 k0) (hB : look st.H.bor 0 = some ⟨e0, con0⟩) (he : e0 = e) (hc : con0 = con) (hf : flatC con = true) (hk : k0 = k) : EndsC rs e con k .ret st :=
  ⟨.inl rfl, t, hr, hf, by rw [hg, hk], _, hB, he, hc⟩

end shape

/-- one result told as another -/
def Tells (x r : AV) : Prop := ∀ (w : World) (S : Nat → Prop) (v : Value), RdR w S x v → RdR w S r v

theorem tells_eq {x r : AV} (h : x = r) : Tells x r := fun _ _ _ hv => h ▸ hv

theorem ret_eq {P : Program} {f : FuncId} {fn : Func} {c : Code} (hf : P.funcs[f]? = some fn) (hb : fn.body = some c) {as : List (C ⊕ List C)} {r : AV} (hn : as.length ≤ fn.ntmps)
    (h : ∀ F : Fr, AWp P F c (Ends P fn.results.toList (Tells · r)) { n := fn.ntmps, sl := argSl 0 as, H := ⟨[], [], []⟩, nx := 0 }) : Ret P f false as r := ret_of hf hb hn h r fun _ h => h

theorem InK_i64 (n : Int) : InK .i64 n = (-9223372036854775808 ≤ n ∧ n ≤ 9223372036854775807) := by simp [InK, IntKind.min, IntKind.max, IntKind.signed, IntKind.bits]
theorem InK_i32 (n : Int) : InK .i32 n = (-2147483648 ≤ n ∧ n ≤ 2147483647) := by simp [InK, IntKind.min, IntKind.max, IntKind.signed, IntKind.bits]

theorem verN_nil (bx : List (Nat × List AV)) (bo : List (Nat × Bor)) (n : Nat) : verN ⟨bx, [], bo⟩ n = 0 := rfl
theorem verN_cons (bx : List (Nat × List AV)) (i : Nat) (B : Buf) (l : List (Nat × Buf)) (bo : List (Nat × Bor)) (n : Nat) : verN ⟨bx, (i, B) :: l, bo⟩ n = if i == n then B.ver + 1 else verN ⟨bx, l, bo⟩ n := by
  simp only [verN, look]
  cases i == n <;> rfl

theorem toNat_add' (a b : Nat) : ((a : Int) + (b : Int)).toNat = a + b := by omega
theorem toNat_succ' (a : Nat) : ((a : Int) + 1).toNat = a + 1 := by omega

theorem look_nil {α : Type} (t : Nat) : look ([] : List (Nat × α)) t = none := rfl

theorem look_same {α : Type} (i : Nat) (x : α) (l : List (Nat × α)) : look ((i, x) :: l) i = some x := by simp [look]

end Go.Abs
