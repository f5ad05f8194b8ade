import Derived.Test.YtneecniebhhhlaaH19
import Derived.Test.YtneecniebhhhlaaH20
import Derived.Test.YtneecniebhhhlaaH22
namespace Go.Abs
set_option linter.unusedSimpArgs false
set_option linter.unusedVariables false
variable {P : Program}
def AllE (P : Program) : List (FuncId × CT) → Prop
  | [] => True
  | p :: l => (∃ big, TblOk P big ∧ big.tbl p.1 = some p.2) ∧ AllE P l
theorem listE_ok {flt : List TypeId} (hf : ∀ t ∈ flt, FltOk P t) {l : List (FuncId × CT)} (h : AllE P l) : TblOk P (listT l flt) := by
  refine ⟨hf, fun f ct hl => ?_⟩
  have key : ∀ {l : List (FuncId × CT)}, AllE P l → look l f = some ct → ∃ big, TblOk P big ∧ big.tbl f = some ct := by
    intro l
    induction l with
    | nil => intro _ h; simp [look] at h
    | cons p l ih =>
      intro ha h
      simp only [look] at h
      split at h
      · rename_i he
        cases h
        rw [← beq_iff_eq.1 he]; exact ha.1
      · exact ih ha.2 h
  obtain ⟨big, h1, h2⟩ := key h hl
  exact h1.2 f ct h2
end Go.Abs
namespace Go.Proofs.Ytneecniebhhhlaa
set_option linter.unusedSimpArgs false
set_option linter.unusedVariables false
open Go.Proofs.NatL

def bits (n v : Nat) : List Bool := (List.range n).map fun i => v.testBit i
end Go.Proofs.Ytneecniebhhhlaa

namespace Go.Proofs.Ytneecniebhhhlaa
set_option linter.unusedSimpArgs false
set_option linter.unusedVariables false
open Go.Abs Go.Proofs.NatL

def iF2CT (p : Int → Int → Prop) (f : Int → Int → AV) : CT := mkCT [nP, nP] false fun l K => match l with
  | [.inr [.b s, .ints .u32 xs], .inr [.b t, .ints .u32 ys]] => (okZ s xs = true ∧ InB 4294967296 xs ∧ okZ t ys = true ∧ InB 4294967296 ys ∧ p (sv 4294967296 s xs) (sv 4294967296 t ys)) ∧ K (f (sv 4294967296 s xs) (sv 4294967296 t ys))
  | _ => False
theorem iF2_ret {F : FuncId} {p : Int → Int → Prop} {f : Int → Int → AV} (h : ∀ a b : Int, p a b → (dg 4294967296 a.natAbs).length ≤ 128 → (dg 4294967296 b.natAbs).length ≤ 128 → Ret Try.prog F false [.inr (gI a), .inr (gI b)] (f a b))
    {s t : Bool} {xs ys : List Int} (hh : okZ s xs = true ∧ InB 4294967296 xs ∧ okZ t ys = true ∧ InB 4294967296 ys ∧ p (sv 4294967296 s xs) (sv 4294967296 t ys)) :
    Ret Try.prog F false [.inr [.b s, .ints .u32 xs], .inr [.b t, .ints .u32 ys]] (f (sv 4294967296 s xs) (sv 4294967296 t ys)) := by
  obtain ⟨h1, h2, h3, h4, h5⟩ := hh
  obtain ⟨a1, a2, a3⟩ := okZ_eq h1 h2
  obtain ⟨b1, b2, b3⟩ := okZ_eq h3 h4
  have := h _ _ h5 (by rw [← a2]; exact a3) (by rw [← b2]; exact b3)
  rw [gI, gI, ← a1, ← a2, ← b1, ← b2] at this
  exact this
theorem iF2_tr {F : FuncId} {p : Int → Int → Prop} {f : Int → Int → AV} (h : ∀ a b : Int, p a b → (dg 4294967296 a.natAbs).length ≤ 128 → (dg 4294967296 b.natAbs).length ≤ 128 → Ret Try.prog F false [.inr (gI a), .inr (gI b)] (f a b))
    (l : List (C ⊕ List C)) (K : AV → Prop) (hk : match l with
      | [.inr [.b s, .ints .u32 xs], .inr [.b t, .ints .u32 ys]] => (okZ s xs = true ∧ InB 4294967296 xs ∧ okZ t ys = true ∧ InB 4294967296 ys ∧ p (sv 4294967296 s xs) (sv 4294967296 t ys)) ∧ K (f (sv 4294967296 s xs) (sv 4294967296 t ys))
      | _ => False) : ∃ r, Ret Try.prog F false l r ∧ K r := by
  split at hk
  · exact ⟨_, iF2_ret h hk.1, hk.2⟩
  · exact hk.elim
def rCl (z : Int) : AV := .t [.inr (gI (cl 128 z)), .inr [.i .i64 (clC 128 z), .i .i64 (clI 128 z)]]
def rDiv (a b : Int) : AV := .t [.inr (gI (a.fdiv b)), .inr (gI (a.fmod b)), .inr [.i .i64 0, .i .i64 0]]
def rGcd (a b : Int) : AV := .t [.inr (gI (Nat.gcd a.natAbs b.natAbs : Nat)), .inr [.i .i64 0, .i .i64 0]]
def rCmp (a b : Int) : AV := .t [.inl (.i .i64 (cmpZ a b)), .inr [.i .i64 0, .i .i64 0]]
def ku1 : Cfg := addT 176 (iF2CT (fun _ _ => True) (fun a b => rCl (a + b))) it6
theorem ku1_ok : TblOk Try.prog ku1 := q_I it6_ok Try.func176 fun l K h =>
  iF2_tr (p := (fun _ _ => True)) (f := (fun a b => rCl (a + b))) (fun a b _ => iAdd_ok a b) l K h
def ku2 : Cfg := addT 177 (iF2CT (fun _ _ => True) (fun a b => rCl (a - b))) ku1
theorem ku2_ok : TblOk Try.prog ku2 := q_I ku1_ok Try.func177 fun l K h =>
  iF2_tr (p := (fun _ _ => True)) (f := (fun a b => rCl (a - b))) (fun a b _ => iSub_ok a b) l K h
def ku3 : Cfg := addT 75 (iF2CT (fun _ _ => True) (fun a b => rCl (a * b))) ku2
theorem ku3_ok : TblOk Try.prog ku3 := q_I ku2_ok Try.func75 fun l K h =>
  iF2_tr (p := (fun _ _ => True)) (f := (fun a b => rCl (a * b))) (fun a b _ => iMul_ok a b) l K h
def ku4 : Cfg := addT 34 (iF2CT (fun _ b => b ≠ 0) rDiv) ku3
theorem ku4_ok : TblOk Try.prog ku4 := q_I ku3_ok Try.func34 fun l K h =>
  iF2_tr (p := (fun _ b => b ≠ 0)) (f := rDiv) (fun a b hb => iDivMod_ok a b hb) l K h
def ku5 : Cfg := addT 35 (iF2CT (fun _ _ => True) rGcd) ku4
theorem ku5_ok : TblOk Try.prog ku5 := q_I ku4_ok Try.func35 fun l K h =>
  iF2_tr (p := (fun _ _ => True)) (f := rGcd) (fun a b _ => iGcd_ok a b) l K h
def ku6 : Cfg := addT 51 (iF2CT (fun _ _ => True) rCmp) ku5
theorem ku6_ok : TblOk Try.prog ku6 := q_I ku5_ok Try.func51 fun l K h =>
  iF2_tr (p := (fun _ _ => True)) (f := rCmp) (fun a b _ => iCmp_ok a b) l K h
attribute [go_sem] iF2CT rCl rDiv rGcd rCmp okZ_g

def iB2CT (ps : List (Option C ⊕ List (Option C))) (R : List (C ⊕ List C)) : CT := mkCT [nP, nP] false fun l K => match l with
  | [.inr [.b s, .ints .u32 xs], .inr [.b t, .ints .u32 ys]] => (xs.length ≤ 140737488355328 ∧ ys.length ≤ 140737488355328 ∧ (okZ s xs = false ∨ okZ s xs = true ∧ okZ t ys = false)) ∧ K (.t (R ++ [.inr [.i .i64 6, .i .i64 (if okZ s xs then -2 else -1)]]))
  | _ => False
attribute [go_sem] iB2CT

def kc : Cfg := listT [(28, iOfCT), (34, (iF2CT (fun _ b => b ≠ 0) rDiv)), (45, iTextCT), (39, sameIntCT), (53, numberCT)] [28]
attribute [go_sem] kc
def countsCT : CT := mkCT [] true fun l K => match l with
  | [] => K (.c (.b true))
  | _ => False
attribute [go_sem] countsCT

def kyt : Cfg := listT [(23, atCT), (38, noIntCT), (39, sameIntCT), (82, fitsCT)] [28]
attribute [go_sem] kyt
def yieldsCT : CT := mkCT [nP, .inr [none, none], nR, .inr [none, none]] true fun l K => match l with
  | [.inr [.b s, .ints .u32 xs], .inr [.i .i64 c, .i .i64 i], .inr [.b t, .ints .i64 ys], .inr [.i .i64 wc, .i .i64 wi]] =>
      ((Nrm s xs ∧ InB 65536 ys ∧ Trd ys ∧ ys.length ≤ 1048576) ∧ wc = 0 ∧ wi = 0 ∧ sv 4294967296 s xs = cl 128 (sv 65536 t ys) ∧ c = clC 128 (sv 65536 t ys) ∧ i = clI 128 (sv 65536 t ys)) ∧ K (.c (.b true))
  | _ => False
attribute [go_sem] yieldsCT

end Go.Proofs.Ytneecniebhhhlaa

namespace Go.Proofs.NatL
set_option linter.unusedSimpArgs false
set_option linter.unusedVariables false
def W40 : Nat := 4294967296 ^ 40
def FB (z : Int) : Prop := (dg 4294967296 z.natAbs).length ≤ 128
theorem W40_pos : 65536 ≤ W40 := by
  unfold W40
  exact Nat.le_trans (show 65536 ≤ 4294967296 ^ 1 by omega) (Nat.pow_le_pow_right (by omega) (by omega))
theorem FB_len {z : Int} (h : FB z) : (dg 4294967296 z.natAbs).length ≤ 128 := h
theorem FB_lt {z : Int} (h : z.natAbs < W40 * W40 * W40) : FB z := by
  refine dg_len_le (by omega) _ _ (Nat.lt_of_lt_of_le h ?_)
  unfold W40
  rw [← Nat.pow_add, ← Nat.pow_add]
  exact Nat.pow_le_pow_right (by omega) (by omega)
theorem FB_mono {y z : Int} (h : FB z) (hl : y.natAbs ≤ z.natAbs) : FB y := Nat.le_trans (dg_len_mono (by omega) hl) h
theorem W40_len {z : Int} : (dg 4294967296 z.natAbs).length ≤ 40 ↔ z.natAbs < W40 := by
  unfold W40
  obtain ⟨e, he⟩ : ∃ e, e = 40 := ⟨_, rfl⟩
  rw [← he]
  exact ⟨fun h => lt_of_len (by omega) h, fun h => dg_len_le (by omega) _ _ h⟩
theorem FB_of {z : Int} {k : Nat} (h : z.natAbs ≤ k * W40) (hk : k ≤ 65535) : FB z := by
  refine FB_lt ?_
  have h0 := W40_pos
  have h1 : W40 * W40 ≤ W40 * W40 * W40 := Nat.le_mul_of_pos_right _ (by omega)
  have h2 : (k + 1) * W40 ≤ W40 * W40 := Nat.mul_le_mul_right _ (by omega)
  rw [Nat.add_mul] at h2
  omega
theorem FB_of2 {z : Int} {k : Nat} (h : z.natAbs ≤ k * (W40 * W40)) (hk : k ≤ 65535) : FB z := by
  refine FB_lt ?_
  have h0 := W40_pos
  have hw : 0 < W40 * W40 := Nat.mul_pos (by omega) (by omega)
  have h2 : (k + 1) * (W40 * W40) ≤ W40 * (W40 * W40) := Nat.mul_le_mul_right _ (by omega)
  rw [Nat.add_mul] at h2
  have h3 : W40 * (W40 * W40) = W40 * W40 * W40 := by rw [Nat.mul_assoc]
  omega
def W80 : Nat := W40 * W40
theorem W80_ge : W40 ≤ W80 ∧ 65536 ≤ W80 := by
  unfold W80
  have := W40_pos
  have := Nat.le_mul_of_pos_right W40 (show 0 < W40 by omega)
  omega
theorem FB_w {z : Int} (h : z.natAbs ≤ 60000 * W80) : FB z := FB_of2 (k := 60000) h (by omega)
theorem FB_one : FB 1 := FB_of (k := 1) (by have := W40_pos; omega) (by omega)
theorem FB_neg_one : FB (-1) := FB_of (k := 1) (by have := W40_pos; omega) (by omega)
theorem FB_zero : FB 0 := FB_of (k := 1) (by simp) (by omega)
theorem cl_FB {z : Int} (h : FB z) : cl 128 z = z ∧ clC 128 z = 0 ∧ clI 128 z = 0 := cl_fit (FB_len h)
end Go.Proofs.NatL
namespace Go.Proofs.Ytneecniebhhhlaa
set_option linter.unusedSimpArgs false
set_option linter.unusedVariables false
open Go.Abs Go.Proofs.NatL

theorem gI_nrm {s : Bool} {xs : List Int} (h : Nrm s xs) : [.b s, .ints .u32 xs] = gI (sv 4294967296 s xs) := by
  obtain ⟨e1, e2⟩ := Nrm_eq h
  rw [gI, ← e1, ← e2]
theorem svg (z : Int) : sv 4294967296 (decide (z < 0)) (dg 4294967296 z.natAbs) = z := by rw [sv_d (by omega), sg_self]
def rg2CT (p : Int → Int → Prop) (f : Int → Int → AV) : CT := mkCT [nP, nP] false fun l K => match l with
  | [.inr [.b s, .ints .u32 xs], .inr [.b t, .ints .u32 ys]] => (Nrm s xs ∧ Nrm t ys ∧ FB (sv 4294967296 s xs) ∧ FB (sv 4294967296 t ys) ∧ p (sv 4294967296 s xs) (sv 4294967296 t ys)) ∧ K (f (sv 4294967296 s xs) (sv 4294967296 t ys))
  | _ => False
theorem rg2_tr {F : FuncId} {p : Int → Int → Prop} {f : Int → Int → AV} (h : ∀ a b : Int, FB a → FB b → p a b → Ret Try.prog F false [.inr (gI a), .inr (gI b)] (f a b))
    (l : List (C ⊕ List C)) (K : AV → Prop) (hk : match l with
      | [.inr [.b s, .ints .u32 xs], .inr [.b t, .ints .u32 ys]] => (Nrm s xs ∧ Nrm t ys ∧ FB (sv 4294967296 s xs) ∧ FB (sv 4294967296 t ys) ∧ p (sv 4294967296 s xs) (sv 4294967296 t ys)) ∧ K (f (sv 4294967296 s xs) (sv 4294967296 t ys))
      | _ => False) : ∃ r, Ret Try.prog F false l r ∧ K r := by
  split at hk
  · obtain ⟨⟨h1, h2, h3, h4, h5⟩, hk⟩ := hk
    have := h _ _ h3 h4 h5
    rw [← gI_nrm h1, ← gI_nrm h2] at this
    exact ⟨_, this, hk⟩
  · exact hk.elim
def oneI (z : Int) : AV := .g (gI z)
def add_R (a b : Int) : AV := .g (gI (a + b))
def sub_R (a b : Int) : AV := .g (gI (a - b))
def mul_R (a b : Int) : AV := .g (gI (a * b))
def lessR (a b : Int) : AV := .c (.b (decide (a < b)))
def dmR (a b : Int) : AV := .t [.inr (gI (a.fdiv b)), .inr (gI (a.fmod b))]
def rb1 : Cfg := listT [(176, (iF2CT (fun _ _ => True) (fun a b => rCl (a + b)))), (177, (iF2CT (fun _ _ => True) (fun a b => rCl (a - b)))), (75, (iF2CT (fun _ _ => True) (fun a b => rCl (a * b)))), (34, (iF2CT (fun _ b => b ≠ 0) rDiv)), (51, (iF2CT (fun _ _ => True) rCmp))] [28]
theorem rb1_ok : TblOk Try.prog rb1 := listT_ok (big := ku6) ku6_ok ⟨rfl, rfl, rfl, rfl, rfl, trivial⟩
attribute [go_sem] rb1
attribute [go_sem] svg sg_self rg2CT
set_option maxHeartbeats 1600000 in
theorem radd_ret (a b : Int) (ha : FB a) (hb : FB b) (hc : FB (a + b)) : Ret Try.prog 145 false [.inr (gI a), .inr (gI b)] (.g (gI (a + b))) := by
  have la := FB_len ha
  have lb := FB_len hb
  obtain ⟨e1, e2, e3⟩ := cl_FB hc
  simp only [gI]
  (refine q_H Try.func145 (fun F => ?_); simp only [q_z,q_y,Try.ntmps145,Try.results145])
  repeat' (first|(with_reducible first|apply q_a|apply q_b|apply q_c|apply q_d|apply q_e|apply q_f|apply q_g|apply q_h|apply q_i|apply q_j|apply q_k|apply q_m|apply q_n|apply q_o|apply q_p|refine q_l ?_)|((with_reducible first|refine q_q rb1_ok fun K hK=>?_|refine q_r rb1_ok fun K hK=>?_);simp (maxSteps:=2000000) only [go_sem,↓reduceIte,reduceCtorEq,Nat.reduceLeDiff,Nat.reduceLT,Nat.reduceBEq,Nat.reduceAdd,e1, e2, e3];(repeat1' with_reducible first|apply And.intro|(intro _;try exact q_v)|(refine hK _ ?_;clear hK K))<;>(try (clear hK K;exact q_u)))|(with_reducible refine q_s ?_;(first|apply q_J|apply q_K|apply q_L|apply q_M|apply q_N|apply q_O)<;>try (intro _;try exact q_v))|with_reducible refine q_t ?_)
  all_goals exact q_A rfl
def ra1 : Cfg := addT 145 (rg2CT (fun a b => FB (a + b)) add_R) ku6
theorem ra1_ok : TblOk Try.prog ra1 := q_I ku6_ok Try.func145 fun l K h =>
  rg2_tr (p := fun a b => FB (a + b)) (f := add_R) (fun a b ha hb hc => radd_ret a b ha hb hc) l K h
set_option maxHeartbeats 1600000 in
theorem rsub_ret (a b : Int) (ha : FB a) (hb : FB b) (hc : FB (a - b)) : Ret Try.prog 146 false [.inr (gI a), .inr (gI b)] (.g (gI (a - b))) := by
  have la := FB_len ha
  have lb := FB_len hb
  obtain ⟨e1, e2, e3⟩ := cl_FB hc
  simp only [gI]
  (refine q_H Try.func146 (fun F => ?_); simp only [q_z,q_y,Try.ntmps146,Try.results146])
  repeat' (first|(with_reducible first|apply q_a|apply q_b|apply q_c|apply q_d|apply q_e|apply q_f|apply q_g|apply q_h|apply q_i|apply q_j|apply q_k|apply q_m|apply q_n|apply q_o|apply q_p|refine q_l ?_)|((with_reducible first|refine q_q rb1_ok fun K hK=>?_|refine q_r rb1_ok fun K hK=>?_);simp (maxSteps:=2000000) only [go_sem,↓reduceIte,reduceCtorEq,Nat.reduceLeDiff,Nat.reduceLT,Nat.reduceBEq,Nat.reduceAdd,e1, e2, e3];(repeat1' with_reducible first|apply And.intro|(intro _;try exact q_v)|(refine hK _ ?_;clear hK K))<;>(try (clear hK K;exact q_u)))|(with_reducible refine q_s ?_;(first|apply q_J|apply q_K|apply q_L|apply q_M|apply q_N|apply q_O)<;>try (intro _;try exact q_v))|with_reducible refine q_t ?_)
  all_goals exact q_A rfl
def ra2 : Cfg := addT 146 (rg2CT (fun a b => FB (a - b)) sub_R) ra1
theorem ra2_ok : TblOk Try.prog ra2 := q_I ra1_ok Try.func146 fun l K h =>
  rg2_tr (p := fun a b => FB (a - b)) (f := sub_R) (fun a b ha hb hc => rsub_ret a b ha hb hc) l K h
set_option maxHeartbeats 1600000 in
theorem rmul_ret (a b : Int) (ha : FB a) (hb : FB b) (hc : FB (a * b)) : Ret Try.prog 147 false [.inr (gI a), .inr (gI b)] (.g (gI (a * b))) := by
  have la := FB_len ha
  have lb := FB_len hb
  obtain ⟨e1, e2, e3⟩ := cl_FB hc
  simp only [gI]
  (refine q_H Try.func147 (fun F => ?_); simp only [q_z,q_y,Try.ntmps147,Try.results147])
  repeat' (first|(with_reducible first|apply q_a|apply q_b|apply q_c|apply q_d|apply q_e|apply q_f|apply q_g|apply q_h|apply q_i|apply q_j|apply q_k|apply q_m|apply q_n|apply q_o|apply q_p|refine q_l ?_)|((with_reducible first|refine q_q rb1_ok fun K hK=>?_|refine q_r rb1_ok fun K hK=>?_);simp (maxSteps:=2000000) only [go_sem,↓reduceIte,reduceCtorEq,Nat.reduceLeDiff,Nat.reduceLT,Nat.reduceBEq,Nat.reduceAdd,e1, e2, e3];(repeat1' with_reducible first|apply And.intro|(intro _;try exact q_v)|(refine hK _ ?_;clear hK K))<;>(try (clear hK K;exact q_u)))|(with_reducible refine q_s ?_;(first|apply q_J|apply q_K|apply q_L|apply q_M|apply q_N|apply q_O)<;>try (intro _;try exact q_v))|with_reducible refine q_t ?_)
  all_goals exact q_A rfl
def ra3 : Cfg := addT 147 (rg2CT (fun a b => FB (a * b)) mul_R) ra2
theorem ra3_ok : TblOk Try.prog ra3 := q_I ra2_ok Try.func147 fun l K h =>
  rg2_tr (p := fun a b => FB (a * b)) (f := mul_R) (fun a b ha hb hc => rmul_ret a b ha hb hc) l K h
set_option maxHeartbeats 1600000 in
theorem rless_ret (a b : Int) (ha : FB a) (hb : FB b) : Ret Try.prog 143 false [.inr (gI a), .inr (gI b)] (.c (.b (decide (a < b)))) := by
  have la := FB_len ha
  have lb := FB_len hb
  have e : decide (cmpZ a b < 0) = decide (a < b) := by congr 1; apply propext; unfold cmpZ; (repeat' split) <;> omega
  simp only [gI]
  (refine q_H Try.func143 (fun F => ?_); simp only [q_z,q_y,Try.ntmps143,Try.results143])
  repeat' (first|(with_reducible first|apply q_a|apply q_b|apply q_c|apply q_d|apply q_e|apply q_f|apply q_g|apply q_h|apply q_i|apply q_j|apply q_k|apply q_m|apply q_n|apply q_o|apply q_p|refine q_l ?_)|((with_reducible first|refine q_q rb1_ok fun K hK=>?_|refine q_r rb1_ok fun K hK=>?_);simp (maxSteps:=2000000) only [go_sem,↓reduceIte,reduceCtorEq,Nat.reduceLeDiff,Nat.reduceLT,Nat.reduceBEq,Nat.reduceAdd,e];(repeat1' with_reducible first|apply And.intro|(intro _;try exact q_v)|(refine hK _ ?_;clear hK K))<;>(try (clear hK K;exact q_u)))|(with_reducible refine q_s ?_;(first|apply q_J|apply q_K|apply q_L|apply q_M|apply q_N|apply q_O)<;>try (intro _;try exact q_v))|with_reducible refine q_t ?_)
  all_goals exact q_A rfl
def ra4 : Cfg := addT 143 (rg2CT (fun _ _ => True) lessR) ra3
theorem ra4_ok : TblOk Try.prog ra4 := q_I ra3_ok Try.func143 fun l K h =>
  rg2_tr (p := fun _ _ => True) (f := lessR) (fun a b ha hb _ => rless_ret a b ha hb) l K h
set_option maxHeartbeats 1600000 in
theorem rdivMod_ret (a b : Int) (ha : FB a) (hb : FB b) (h0 : b ≠ 0) : Ret Try.prog 144 false [.inr (gI a), .inr (gI b)] (.t [.inr (gI (a.fdiv b)), .inr (gI (a.fmod b))]) := by
  have la := FB_len ha
  have lb := FB_len hb
  simp only [gI]
  (refine q_H Try.func144 (fun F => ?_); simp only [q_z,q_y,Try.ntmps144,Try.results144])
  repeat' (first|(with_reducible first|apply q_a|apply q_b|apply q_c|apply q_d|apply q_e|apply q_f|apply q_g|apply q_h|apply q_i|apply q_j|apply q_k|apply q_m|apply q_n|apply q_o|apply q_p|refine q_l ?_)|((with_reducible first|refine q_q rb1_ok fun K hK=>?_|refine q_r rb1_ok fun K hK=>?_);simp (maxSteps:=2000000) only [go_sem,↓reduceIte,reduceCtorEq,Nat.reduceLeDiff,Nat.reduceLT,Nat.reduceBEq,Nat.reduceAdd];(repeat1' with_reducible first|apply And.intro|(intro _;try exact q_v)|(refine hK _ ?_;clear hK K))<;>(try (clear hK K;exact q_u)))|(with_reducible refine q_s ?_;(first|apply q_J|apply q_K|apply q_L|apply q_M|apply q_N|apply q_O)<;>try (intro _;try exact q_v))|with_reducible refine q_t ?_)
  all_goals first | omega | exact q_A rfl
def ra5 : Cfg := addT 144 (rg2CT (fun _ b => b ≠ 0) dmR) ra4
theorem ra5_ok : TblOk Try.prog ra5 := q_I ra4_ok Try.func144 fun l K h =>
  rg2_tr (p := fun _ b => b ≠ 0) (f := dmR) (fun a b ha hb h0 => rdivMod_ret a b ha hb h0) l K h
attribute [go_sem] oneI add_R sub_R mul_R lessR dmR
end Go.Proofs.Ytneecniebhhhlaa
