import Derived.Test.YtlflfhcfljiciaaGreatE13
import Derived.Test.YtlflfhcfljiciaaGreatE14
namespace Go.Abs
set_option linter.unusedSimpArgs false
set_option linter.unusedVariables false
variable {P : Program}
def AllE (P : Program) : List (FuncId × CT) → Prop
  | [] => True
  | p :: l => (∃ big, TblOk P big ∧ big.tbl p.1 = some p.2) ∧ AllE P l
theorem listE_ok {flt : List TypeId} (hf : ∀ t ∈ flt, FltOk P t) {l : List (FuncId × CT)} (h : AllE P l) : TblOk P (listT l flt) := by
  refine ⟨hf, fun f ct hl => ?_⟩
  have key : ∀ {l : List (FuncId × CT)}, AllE P l → look l f = some ct → ∃ big, TblOk P big ∧ big.tbl f = some ct := by
    intro l
    induction l with
    | nil => intro _ h; simp [look] at h
    | cons p l ih =>
      intro ha h
      simp only [look] at h
      split at h
      · rename_i he
        cases h
        rw [← beq_iff_eq.1 he]; exact ha.1
      · exact ih ha.2 h
  obtain ⟨big, h1, h2⟩ := key h hl
  exact h1.2 f ct h2
end Go.Abs
namespace Go.Proofs.YtlflfhcfljiciaaGreat
set_option linter.unusedSimpArgs false
set_option linter.unusedVariables false
open Go.Proofs.NatL

def bits (n v : Nat) : List Bool := (List.range n).map fun i => v.testBit i
end Go.Proofs.YtlflfhcfljiciaaGreat

namespace Go.Proofs.YtlflfhcfljiciaaGreat
set_option linter.unusedSimpArgs false
set_option linter.unusedVariables false
open Go.Abs Go.Proofs.NatL

def iF2CT (p : Int → Int → Prop) (f : Int → Int → AV) : CT := mkCT [nP, nP] false fun l K => match l with
  | [.inr [.b s, .ints .u32 xs], .inr [.b t, .ints .u32 ys]] => (okZ s xs = true ∧ InB 4294967296 xs ∧ okZ t ys = true ∧ InB 4294967296 ys ∧ p (sv 4294967296 s xs) (sv 4294967296 t ys)) ∧ K (f (sv 4294967296 s xs) (sv 4294967296 t ys))
  | _ => False
theorem iF2_ret {F : FuncId} {p : Int → Int → Prop} {f : Int → Int → AV} (h : ∀ a b : Int, p a b → (dg 4294967296 a.natAbs).length ≤ 128 → (dg 4294967296 b.natAbs).length ≤ 128 → Ret Tryz.prog F false [.inr (gI a), .inr (gI b)] (f a b))
    {s t : Bool} {xs ys : List Int} (hh : okZ s xs = true ∧ InB 4294967296 xs ∧ okZ t ys = true ∧ InB 4294967296 ys ∧ p (sv 4294967296 s xs) (sv 4294967296 t ys)) :
    Ret Tryz.prog F false [.inr [.b s, .ints .u32 xs], .inr [.b t, .ints .u32 ys]] (f (sv 4294967296 s xs) (sv 4294967296 t ys)) := by
  obtain ⟨h1, h2, h3, h4, h5⟩ := hh
  obtain ⟨a1, a2, a3⟩ := okZ_eq h1 h2
  obtain ⟨b1, b2, b3⟩ := okZ_eq h3 h4
  have := h _ _ h5 (by rw [← a2]; exact a3) (by rw [← b2]; exact b3)
  rw [gI, gI, ← a1, ← a2, ← b1, ← b2] at this
  exact this
theorem iF2_tr {F : FuncId} {p : Int → Int → Prop} {f : Int → Int → AV} (h : ∀ a b : Int, p a b → (dg 4294967296 a.natAbs).length ≤ 128 → (dg 4294967296 b.natAbs).length ≤ 128 → Ret Tryz.prog F false [.inr (gI a), .inr (gI b)] (f a b))
    (l : List (C ⊕ List C)) (K : AV → Prop) (hk : match l with
      | [.inr [.b s, .ints .u32 xs], .inr [.b t, .ints .u32 ys]] => (okZ s xs = true ∧ InB 4294967296 xs ∧ okZ t ys = true ∧ InB 4294967296 ys ∧ p (sv 4294967296 s xs) (sv 4294967296 t ys)) ∧ K (f (sv 4294967296 s xs) (sv 4294967296 t ys))
      | _ => False) : ∃ r, Ret Tryz.prog F false l r ∧ K r := by
  split at hk
  · exact ⟨_, iF2_ret h hk.1, hk.2⟩
  · exact hk.elim
def rCl (z : Int) : AV := .t [.inr (gI (cl 128 z)), .inr [.i .i64 (clC 128 z), .i .i64 (clI 128 z)]]
def rDiv (a b : Int) : AV := .t [.inr (gI (a.fdiv b)), .inr (gI (a.fmod b)), .inr [.i .i64 0, .i .i64 0]]
def rGcd (a b : Int) : AV := .t [.inr (gI (Nat.gcd a.natAbs b.natAbs : Nat)), .inr [.i .i64 0, .i .i64 0]]
def rCmp (a b : Int) : AV := .t [.inl (.i .i64 (cmpZ a b)), .inr [.i .i64 0, .i .i64 0]]
def ku1 : Cfg := addT 77 (iF2CT (fun _ _ => True) (fun a b => rCl (a + b))) it6
theorem ku1_ok : TblOk Tryz.prog ku1 := q_I it6_ok Tryz.func77 fun l K h =>
  iF2_tr (p := (fun _ _ => True)) (f := (fun a b => rCl (a + b))) (fun a b _ => iAdd_ok a b) l K h
def ku2 : Cfg := addT 79 (iF2CT (fun _ _ => True) (fun a b => rCl (a - b))) ku1
theorem ku2_ok : TblOk Tryz.prog ku2 := q_I ku1_ok Tryz.func79 fun l K h =>
  iF2_tr (p := (fun _ _ => True)) (f := (fun a b => rCl (a - b))) (fun a b _ => iSub_ok a b) l K h
def ku3 : Cfg := addT 76 (iF2CT (fun _ _ => True) (fun a b => rCl (a * b))) ku2
theorem ku3_ok : TblOk Tryz.prog ku3 := q_I ku2_ok Tryz.func76 fun l K h =>
  iF2_tr (p := (fun _ _ => True)) (f := (fun a b => rCl (a * b))) (fun a b _ => iMul_ok a b) l K h
def ku4 : Cfg := addT 78 (iF2CT (fun _ b => b ≠ 0) rDiv) ku3
theorem ku4_ok : TblOk Tryz.prog ku4 := q_I ku3_ok Tryz.func78 fun l K h =>
  iF2_tr (p := (fun _ b => b ≠ 0)) (f := rDiv) (fun a b hb => iDivMod_ok a b hb) l K h
def ku5 : Cfg := ku4
theorem ku5_ok : TblOk Tryz.prog ku5 := ku4_ok
def ku6 : Cfg := addT 52 (iF2CT (fun _ _ => True) rCmp) ku5
theorem ku6_ok : TblOk Tryz.prog ku6 := q_I ku5_ok Tryz.func52 fun l K h =>
  iF2_tr (p := (fun _ _ => True)) (f := rCmp) (fun a b _ => iCmp_ok a b) l K h
attribute [go_sem] iF2CT rCl rDiv rGcd rCmp okZ_g
def iB2CT (ps : List (Option C ⊕ List (Option C))) (R : List (C ⊕ List C)) : CT := mkCT [nP, nP] false fun l K => match l with
  | [.inr [.b s, .ints .u32 xs], .inr [.b t, .ints .u32 ys]] => (xs.length ≤ 140737488355328 ∧ ys.length ≤ 140737488355328 ∧ (okZ s xs = false ∨ okZ s xs = true ∧ okZ t ys = false)) ∧ K (.t (R ++ [.inr [.i .i64 6, .i .i64 (if okZ s xs then -2 else -1)]]))
  | _ => False
attribute [go_sem] iB2CT
def kc : Cfg := listT [(27, iOfCT), (78, (iF2CT (fun _ b => b ≠ 0) rDiv)), (21, iTextCT), (29, sameIntCT), (16, numberCT)] [28]
attribute [go_sem] kc
def countsCT : CT := mkCT [] true fun l K => match l with
  | [] => K (.c (.b true))
  | _ => False
attribute [go_sem] countsCT
def kyt : Cfg := listT [(14, atCT), (58, noIntCT), (29, sameIntCT), (18, fitsCT)] [28]
attribute [go_sem] kyt
def yieldsCT : CT := mkCT [nP, .inr [none, none], nR, .inr [none, none]] true fun l K => match l with
  | [.inr [.b s, .ints .u32 xs], .inr [.i .i64 c, .i .i64 i], .inr [.b t, .ints .i64 ys], .inr [.i .i64 wc, .i .i64 wi]] =>
      ((Nrm s xs ∧ InB 65536 ys ∧ Trd ys ∧ ys.length ≤ 1048576) ∧ wc = 0 ∧ wi = 0 ∧ sv 4294967296 s xs = cl 128 (sv 65536 t ys) ∧ c = clC 128 (sv 65536 t ys) ∧ i = clI 128 (sv 65536 t ys)) ∧ K (.c (.b true))
  | _ => False
attribute [go_sem] yieldsCT
end Go.Proofs.YtlflfhcfljiciaaGreat

namespace Go.Proofs.NatL
set_option linter.unusedSimpArgs false
set_option linter.unusedVariables false
def rdN (n : Int) (d : Nat) : Int := n / ((Nat.gcd n.natAbs d : Nat) : Int)
def rdD (n : Int) (d : Nat) : Nat := d / Nat.gcd n.natAbs d
theorem rd_gpos (n : Int) {d : Nat} (hd : 0 < d) : 0 < Nat.gcd n.natAbs d := Nat.gcd_pos_of_pos_right _ hd
theorem rd_n (n : Int) (d : Nat) : n = rdN n d * ((Nat.gcd n.natAbs d : Nat) : Int) := by
  have h : ((Nat.gcd n.natAbs d : Nat) : Int) ∣ n := Int.ofNat_dvd_left.2 (Nat.gcd_dvd_left _ _)
  exact (Int.ediv_mul_cancel h).symm
theorem rdN_abs (n : Int) {d : Nat} (hd : 0 < d) : (rdN n d).natAbs = n.natAbs / Nat.gcd n.natAbs d := by
  have hg := rd_gpos n hd
  have h := congrArg Int.natAbs (rd_n n d)
  rw [Int.natAbs_mul, Int.natAbs_natCast] at h
  generalize Nat.gcd n.natAbs d = g at *
  rw [h, Nat.mul_div_cancel _ hg]
theorem rdN_neg (n : Int) {d : Nat} (hd : 0 < d) : decide (rdN n d < 0) = decide (n < 0) := by
  have hg := rd_gpos n hd
  have h := rd_n n d
  generalize Nat.gcd n.natAbs d = g at *
  generalize rdN n d = m at *
  have h1 : m < 0 → n < 0 := fun hm => by
    rw [h]; exact Int.mul_neg_of_neg_of_pos hm (by omega)
  have h2 : 0 ≤ m → 0 ≤ n := fun hm => by
    rw [h]; exact Int.mul_nonneg hm (by omega)
  exact decide_eq_decide.2 (by omega)
theorem rd_self {n : Int} {d : Nat} (h : Nat.gcd n.natAbs d = 1) : rdN n d = n ∧ rdD n d = d := by
  unfold rdN rdD
  rw [h]; simp
end Go.Proofs.NatL

namespace Go.Proofs.NatL
set_option linter.unusedSimpArgs false
set_option linter.unusedVariables false
def okQ (s : Bool) (xs : List Int) (t : Bool) (ys : List Int) : Bool := okZ s xs && okZ t ys && !t && decide (0 < ys.length) && decide (Nat.gcd (V 4294967296 xs) (V 4294967296 ys) = 1)
def RT (z : Int) (d : Nat) : Prop := 0 < d ∧ Nat.gcd z.natAbs d = 1 ∧ (dg 4294967296 z.natAbs).length ≤ 128 ∧ (dg 4294967296 d).length ≤ 128
theorem okQ_z {s t : Bool} {xs ys : List Int} (h : okQ s xs t ys = true) : okZ s xs = true ∧ okZ t ys = true ∧ t = false ∧ 0 < ys.length ∧ Nat.gcd (V 4294967296 xs) (V 4294967296 ys) = 1 := by
  unfold okQ at h
  simp only [Bool.and_eq_true, Bool.not_eq_true', decide_eq_true_eq] at h
  obtain ⟨⟨⟨⟨h1, h2⟩, h3⟩, h4⟩, h5⟩ := h
  exact ⟨h1, h2, h3, h4, h5⟩
theorem okQ_eq {s t : Bool} {xs ys : List Int} (h : okQ s xs t ys = true) (bx : InB 4294967296 xs) (by' : InB 4294967296 ys) :
    ∃ (z : Int) (d : Nat), sv 4294967296 s xs = z ∧ V 4294967296 ys = d ∧ s = decide (z < 0) ∧ xs = dg 4294967296 z.natAbs ∧ t = false ∧ ys = dg 4294967296 d ∧ RT z d := by
  obtain ⟨h1, h2, rfl, h4, h5⟩ := okQ_z h
  obtain ⟨a1, a2, a3⟩ := okZ_eq h1 bx
  obtain ⟨b1, b2, b3⟩ := okZ_eq h2 by'
  rw [sv_abs] at b2
  refine ⟨_, _, rfl, rfl, a1, a2, rfl, b2, ?_, ?_, ?_, ?_⟩
  · rw [b2] at h4; exact (dg_len_pos _ _ (by omega)).1 h4
  · rw [sv_abs]; exact h5
  · rw [← a2]; exact a3
  · rw [← b2]; exact b3
theorem okQ_g {z : Int} {d : Nat} (h : RT z d) : okQ (decide (z < 0)) (dg 4294967296 z.natAbs) false (dg 4294967296 d) = true := by
  obtain ⟨h1, h2, h3, h4⟩ := h
  have e := okZ_g (d : Int)
  rw [Int.natAbs_natCast, show decide ((d : Int) < 0) = false from decide_eq_false (by omega), decide_eq_true h4] at e
  unfold okQ
  rw [okZ_g, decide_eq_true h3, e, V_dg _ (by omega), V_dg _ (by omega), decide_eq_true h2, decide_eq_true ((dg_len_pos _ _ (by omega)).2 h1)]
  rfl
theorem dg_one (B : Nat) (hB : 2 ≤ B) : dg B 1 = [1] := by
  rw [dg_pos _ _ hB (by omega), Nat.mod_eq_of_lt (by omega), Nat.div_eq_of_lt (by omega)]; rfl
theorem dg_is1 {B : Nat} (hB : 2 ≤ B) {n : Nat} (h : (dg B n).length = 1) : (dg B n).getD 0 0 = n := by
  have h0 : 0 < n := (dg_len_pos B n hB).1 (by omega)
  have h1 := dg_pos B n hB h0
  have h2 : n / B = 0 := by
    rcases Nat.eq_zero_or_pos (n / B) with h3 | h3
    · exact h3
    · have := (dg_len_pos B _ hB).2 h3
      have h' := congrArg List.length h1
      rw [h, List.length_cons] at h'
      omega
  rw [h1, h2]
  have : n % B = n := by
    rw [Nat.mod_eq_of_lt]
    have := Nat.div_add_mod n B
    have := Nat.mod_lt n (show 0 < B by omega)
    rw [h2] at *
    omega
  simp [this]
def qbC : List (Bool × List Int × Bool × List Int) → Int
  | [] => 0
  | p :: l => if okQ p.1 p.2.1 p.2.2.1 p.2.2.2 then qbC l else 6
def qbX : Int → List (Bool × List Int × Bool × List Int) → Int
  | _, [] => 0
  | i, p :: l => if okQ p.1 p.2.1 p.2.2.1 p.2.2.2 then qbX (i + 1) l else -1 - i
def allQ (n : Nat) : List (Bool × List Int × Bool × List Int) → Prop
  | [] => True
  | p :: l => (p.2.1.length ≤ n ∧ p.2.2.2.length ≤ n ∧ InB 4294967296 p.2.1 ∧ InB 4294967296 p.2.2.2) ∧ allQ n l
abbrev q0 : Bool × List Int × Bool × List Int := (false, [], false, [])
theorem allQ_get {n : Nat} : ∀ {l : List (Bool × List Int × Bool × List Int)} {i : Nat}, allQ n l → (l.getD i q0).2.1.length ≤ n ∧ (l.getD i q0).2.2.2.length ≤ n ∧ InB 4294967296 (l.getD i q0).2.1 ∧ InB 4294967296 (l.getD i q0).2.2.2
  | [], i, _ => by simp [InB_nil]
  | p :: l, 0, h => h.1
  | p :: l, i + 1, h => by simpa using allQ_get (i := i) h.2
theorem drop_getQ (l : List (Bool × List Int × Bool × List Int)) (i : Nat) (h : i < l.length) : l.drop i = l.getD i q0 :: l.drop (i + 1) := by
  rw [List.drop_eq_getElem_cons h, List.getD_eq_getElem?_getD, List.getElem?_eq_getElem h]; rfl
end Go.Proofs.NatL
namespace Go.Proofs.YtlflfhcfljiciaaGreat
set_option linter.unusedSimpArgs false
set_option linter.unusedVariables false
open Go.Abs Go.Proofs.NatL

theorem okZ_okN {s : Bool} {xs : List Int} (h : okZ s xs = true) : okN xs = true := by
  unfold okZ at h
  obtain ⟨h1, h2⟩ := of_decide_eq_true h
  unfold okN
  refine decide_eq_true ⟨by omega, ?_⟩
  rcases h2 with ⟨rfl, _⟩ | ⟨_, h2⟩
  · exact .inl rfl
  · exact h2
abbrev nQ : Option C ⊕ List (Option C) := .inr [none, some (.ints .u32 []), none, some (.ints .u32 [])]
def qb1 : Cfg := listT [(49, ivalidCT), (50, gcGoodCT), (45, atCT)] [28]
theorem qb1_ok : TblOk Tryz.prog qb1 := listT_ok (big := it5) it5_ok ⟨rfl, rfl, rfl, trivial⟩
attribute [go_sem] qb1
def validQCT : CT := mkCT [nQ] true fun l K => match l with
  | [.inr [.b s, .ints .u32 xs, .b t, .ints .u32 ys]] => (xs.length ≤ 140737488355328 ∧ ys.length ≤ 140737488355328 ∧ InB 4294967296 xs ∧ InB 4294967296 ys) ∧ K (.c (.b (okQ s xs t ys)))
  | _ => False
set_option maxHeartbeats 1600000 in
theorem validQ_ret (s t : Bool) (xs ys : List Int) (h1 : xs.length ≤ 140737488355328) (h2 : ys.length ≤ 140737488355328) (b1 : InB 4294967296 xs) (b2 : InB 4294967296 ys) :
    Ret Tryz.prog 25 false [.inr [.b s, .ints .u32 xs, .b t, .ints .u32 ys]] (.c (.b (okQ s xs t ys))) := by
  cases e1 : okZ s xs
  · (refine q_H Tryz.func25 (fun F => ?_); simp only [q_z,q_y,Tryz.ntmps25,Tryz.results25])
    repeat' (first|(with_reducible first|apply q_a|apply q_b|apply q_c|apply q_d|apply q_e|apply q_f|apply q_g|apply q_h|apply q_i|apply q_j|apply q_k|apply q_m|apply q_n|apply q_o|apply q_p|refine q_l ?_)|((with_reducible first|refine q_q qb1_ok fun K hK=>?_|refine q_r qb1_ok fun K hK=>?_);simp (maxSteps:=2000000) only [go_sem,↓reduceIte,reduceCtorEq,Nat.reduceLeDiff,Nat.reduceLT,Nat.reduceBEq,Nat.reduceAdd,e1];(repeat1' with_reducible first|apply And.intro|(intro _;try exact q_v)|(refine hK _ ?_;clear hK K))<;>(try (clear hK K;exact q_u)))|(with_reducible refine q_s ?_;(first|apply q_J|apply q_K|apply q_L|apply q_M|apply q_N|apply q_O)<;>try (intro _;try exact q_v))|with_reducible refine q_t ?_)
    all_goals exact q_A (by simp [resAV, q_y, okQ, e1])
  cases e2 : okZ t ys
  · (refine q_H Tryz.func25 (fun F => ?_); simp only [q_z,q_y,Tryz.ntmps25,Tryz.results25])
    repeat' (first|(with_reducible first|apply q_a|apply q_b|apply q_c|apply q_d|apply q_e|apply q_f|apply q_g|apply q_h|apply q_i|apply q_j|apply q_k|apply q_m|apply q_n|apply q_o|apply q_p|refine q_l ?_)|((with_reducible first|refine q_q qb1_ok fun K hK=>?_|refine q_r qb1_ok fun K hK=>?_);simp (maxSteps:=2000000) only [go_sem,↓reduceIte,reduceCtorEq,Nat.reduceLeDiff,Nat.reduceLT,Nat.reduceBEq,Nat.reduceAdd,e1, e2];(repeat1' with_reducible first|apply And.intro|(intro _;try exact q_v)|(refine hK _ ?_;clear hK K))<;>(try (clear hK K;exact q_u)))|(with_reducible refine q_s ?_;(first|apply q_J|apply q_K|apply q_L|apply q_M|apply q_N|apply q_O)<;>try (intro _;try exact q_v))|with_reducible refine q_t ?_)
    all_goals exact q_A (by simp [resAV, q_y, okQ, e1, e2])
  have o1 := okZ_okN e1
  have o2 := okZ_okN e2
  cases t
  · rcases Nat.eq_zero_or_pos ys.length with h0 | h0
    · have e0 : ((ys.length : Int) = 0) = True := eq_true (by omega)
      (refine q_H Tryz.func25 (fun F => ?_); simp only [q_z,q_y,Tryz.ntmps25,Tryz.results25])
      repeat' (first|(with_reducible first|apply q_a|apply q_b|apply q_c|apply q_d|apply q_e|apply q_f|apply q_g|apply q_h|apply q_i|apply q_j|apply q_k|apply q_m|apply q_n|apply q_o|apply q_p|refine q_l ?_)|((with_reducible first|refine q_q qb1_ok fun K hK=>?_|refine q_r qb1_ok fun K hK=>?_);simp (maxSteps:=2000000) only [go_sem,↓reduceIte,reduceCtorEq,Nat.reduceLeDiff,Nat.reduceLT,Nat.reduceBEq,Nat.reduceAdd,e1, e2, e0];(repeat1' with_reducible first|apply And.intro|(intro _;try exact q_v)|(refine hK _ ?_;clear hK K))<;>(try (clear hK K;exact q_u)))|(with_reducible refine q_s ?_;(first|apply q_J|apply q_K|apply q_L|apply q_M|apply q_N|apply q_O)<;>try (intro _;try exact q_v))|with_reducible refine q_t ?_)
      all_goals exact q_A (by simp [resAV, q_y, okQ, h0])
    · have e0 : ((ys.length : Int) = 0) = False := eq_false (by omega)
      generalize hg : Nat.gcd (V 4294967296 xs) (V 4294967296 ys) = g at *
      have hgl : (dg 4294967296 g).length ≤ 600 := by
        rw [← hg]
        refine Nat.le_trans (dg_len_mono (by omega) (Nat.gcd_le_right _ ?_)) (m := (dg 4294967296 (V 4294967296 ys)).length) ?_
        · rw [← dg_V 4294967296 (by omega) ys b2 (okN_parts o2).2] at h0
          exact (dg_len_pos _ _ (by omega)).1 h0
        · rw [dg_V 4294967296 (by omega) ys b2 (okN_parts o2).2]; exact (okN_parts o2).1
      by_cases h1 : (dg 4294967296 g).length = 1
      · have e3 := dg_is1 (by omega) h1
        (refine q_H Tryz.func25 (fun F => ?_); simp only [q_z,q_y,Tryz.ntmps25,Tryz.results25])
        repeat' (first|(with_reducible first|apply q_a|apply q_b|apply q_c|apply q_d|apply q_e|apply q_f|apply q_g|apply q_h|apply q_i|apply q_j|apply q_k|apply q_m|apply q_n|apply q_o|apply q_p|refine q_l ?_)|((with_reducible first|refine q_q qb1_ok fun K hK=>?_|refine q_r qb1_ok fun K hK=>?_);simp (maxSteps:=2000000) only [go_sem,↓reduceIte,reduceCtorEq,Nat.reduceLeDiff,Nat.reduceLT,Nat.reduceBEq,Nat.reduceAdd,e1, e2, e0, hg, h1, e3];(repeat1' with_reducible first|apply And.intro|(intro _;try exact q_v)|(refine hK _ ?_;clear hK K))<;>(try (clear hK K;exact q_u)))|(with_reducible refine q_s ?_;(first|apply q_J|apply q_K|apply q_L|apply q_M|apply q_N|apply q_O)<;>try (intro _;try exact q_v))|with_reducible refine q_t ?_)
        all_goals exact q_A (by simp [resAV, q_y, okQ, e1, e2, hg, h0]; omega)
      · have e3 : g ≠ 1 := fun h => h1 (by rw [h, dg_one _ (by omega)]; rfl)
        have e4 : (((dg 4294967296 g).length : Int) = 1) = False := eq_false (by omega)
        (refine q_H Tryz.func25 (fun F => ?_); simp only [q_z,q_y,Tryz.ntmps25,Tryz.results25])
        repeat' (first|(with_reducible first|apply q_a|apply q_b|apply q_c|apply q_d|apply q_e|apply q_f|apply q_g|apply q_h|apply q_i|apply q_j|apply q_k|apply q_m|apply q_n|apply q_o|apply q_p|refine q_l ?_)|((with_reducible first|refine q_q qb1_ok fun K hK=>?_|refine q_r qb1_ok fun K hK=>?_);simp (maxSteps:=2000000) only [go_sem,↓reduceIte,reduceCtorEq,Nat.reduceLeDiff,Nat.reduceLT,Nat.reduceBEq,Nat.reduceAdd,e1, e2, e0, hg, e4];(repeat1' with_reducible first|apply And.intro|(intro _;try exact q_v)|(refine hK _ ?_;clear hK K))<;>(try (clear hK K;exact q_u)))|(with_reducible refine q_s ?_;(first|apply q_J|apply q_K|apply q_L|apply q_M|apply q_N|apply q_O)<;>try (intro _;try exact q_v))|with_reducible refine q_t ?_)
        all_goals exact q_A (by simp [resAV, q_y, okQ, e1, e2, hg, h0, e3])
  · (refine q_H Tryz.func25 (fun F => ?_); simp only [q_z,q_y,Tryz.ntmps25,Tryz.results25])
    repeat' (first|(with_reducible first|apply q_a|apply q_b|apply q_c|apply q_d|apply q_e|apply q_f|apply q_g|apply q_h|apply q_i|apply q_j|apply q_k|apply q_m|apply q_n|apply q_o|apply q_p|refine q_l ?_)|((with_reducible first|refine q_q qb1_ok fun K hK=>?_|refine q_r qb1_ok fun K hK=>?_);simp (maxSteps:=2000000) only [go_sem,↓reduceIte,reduceCtorEq,Nat.reduceLeDiff,Nat.reduceLT,Nat.reduceBEq,Nat.reduceAdd,e1, e2];(repeat1' with_reducible first|apply And.intro|(intro _;try exact q_v)|(refine hK _ ?_;clear hK K))<;>(try (clear hK K;exact q_u)))|(with_reducible refine q_s ?_;(first|apply q_J|apply q_K|apply q_L|apply q_M|apply q_N|apply q_O)<;>try (intro _;try exact q_v))|with_reducible refine q_t ?_)
    all_goals exact q_A (by simp [resAV, q_y, okQ])
def qt1 : Cfg := addT 25 validQCT ku6
theorem qt1_ok : TblOk Tryz.prog qt1 := q_I ku6_ok Tryz.func25 fun l K h => by
  split at h
  · exact ⟨_, (validQ_ret _ _ _ _ h.1.1 h.1.2.1 h.1.2.2.1 h.1.2.2.2).plain rfl, h.2⟩
  · exact h.elim
def qt2 : Cfg := addT 22 atCT qt1
theorem qt2_ok : TblOk Tryz.prog qt2 := q_I qt1_ok Tryz.func22 fun l K h => by
  split at h
  · refine ⟨_, Ret.plain ?_ rfl, h⟩
    (refine q_H Tryz.func22 (fun F => ?_); simp only [q_z,q_y,Tryz.ntmps22,Tryz.results22])
    repeat' (first|(with_reducible first|apply q_a|apply q_b|apply q_c|apply q_d|apply q_e|apply q_f|apply q_g|apply q_h|apply q_i|apply q_j|apply q_k|apply q_m|apply q_n|apply q_o|apply q_p|refine q_l ?_)|((with_reducible first|refine q_q qb1_ok fun K hK=>?_|refine q_r qb1_ok fun K hK=>?_);simp (maxSteps:=2000000) only [go_sem,↓reduceIte,reduceCtorEq,Nat.reduceLeDiff,Nat.reduceLT,Nat.reduceBEq,Nat.reduceAdd];(repeat1' with_reducible first|apply And.intro|(intro _;try exact q_v)|(refine hK _ ?_;clear hK K))<;>(try (clear hK K;exact q_u)))|(with_reducible refine q_s ?_;(first|apply q_J|apply q_K|apply q_L|apply q_M|apply q_N|apply q_O)<;>try (intro _;try exact q_v))|with_reducible refine q_t ?_)
    exact q_A rfl
  · exact h.elim
attribute [go_sem] validQCT
def qb2 : Cfg := listT [(25, validQCT), (22, atCT)] [28]
theorem qb2_ok : TblOk Tryz.prog qb2 := listT_ok (big := qt2) qt2_ok ⟨rfl, rfl, trivial⟩
attribute [go_sem] qb2
def rowQ (p : Bool × List Int × Bool × List Int) : List C := [.b p.1, .ints .u32 p.2.1, .b p.2.2.1, .ints .u32 p.2.2.2]
def unQ : List (List C) → Option (List (Bool × List Int × Bool × List Int))
  | [] => some []
  | [.b s, .ints .u32 xs, .b t, .ints .u32 ys] :: r => (unQ r).map ((s, xs, t, ys) :: ·)
  | _ :: _ => none
theorem unQ_some : ∀ {rows : List (List C)} {l : List (Bool × List Int × Bool × List Int)}, unQ rows = some l → rows = l.map rowQ
  | [], l, h => by simp [unQ] at h; subst h; rfl
  | r :: rows, l, h => by
    unfold unQ at h
    split at h
    · rename_i h0; cases h0
    · rename_i s xs t ys r' h0
      cases h0
      obtain ⟨l', h1, rfl⟩ := Option.map_eq_some_iff.1 h
      rw [unQ_some h1]; rfl
    · cases h
theorem rowQ_get (l : List (Bool × List Int × Bool × List Int)) (i : Nat) (h : i < l.length) : (l.map rowQ).getD i [] = [.b (l.getD i q0).1, .ints .u32 (l.getD i q0).2.1, .b (l.getD i q0).2.2.1, .ints .u32 (l.getD i q0).2.2.2] := by
  simp [List.getD_eq_getElem?_getD, List.getElem?_eq_getElem h, rowQ]
set_option maxHeartbeats 1600000 in
theorem qcheck_ret (l : List (Bool × List Int × Bool × List Int)) (hn : l.length ≤ 1000) (hl : allQ 140737488355328 l) :
    Ret Tryz.prog 20 false [.inl (.sl 4 (l.map rowQ))] (.g [.i .i64 (qbC l), .i .i64 (qbX 0 l)]) := by
  (refine q_H Tryz.func20 (fun F => ?_); simp only [q_z,q_y,Tryz.ntmps20,Tryz.results20])
  repeat' (first|(with_reducible first|apply q_a|apply q_b|apply q_c|apply q_d|apply q_e|apply q_f|apply q_g|apply q_h|apply q_i|apply q_j|apply q_k|apply q_m|apply q_n|apply q_o|apply q_p|refine q_l ?_)|((with_reducible first|refine q_q qb2_ok fun K hK=>?_|refine q_r qb2_ok fun K hK=>?_);simp (maxSteps:=2000000) only [go_sem,↓reduceIte,reduceCtorEq,Nat.reduceLeDiff,Nat.reduceLT,Nat.reduceBEq,Nat.reduceAdd,List.length_map];(repeat1' with_reducible first|apply And.intro|intro _|(refine hK _ ?_;clear hK K))<;>(try (clear hK K;exact q_u)))|(with_reducible refine q_s ?_;(first|apply q_J|apply q_K|apply q_L|apply q_M|apply q_N|apply q_O)<;>try intro _)|with_reducible refine q_t ?_)
  refine q_G (ι := { i : Nat // i ≤ l.length ∧ qbC (l.drop i) = qbC l ∧ qbX i (l.drop i) = qbX 0 l }) (fun i => ⟨20, [(2, .bx 0 0), (5, .c (.sl 4 (l.map rowQ))), (6, .c (.i .i64 l.length)), (7, .c (.i .i64 (i.1 : Nat)))], ⟨[(0, [.c (.i .i64 0), .c (.i .i64 0)])], [], []⟩, 1⟩) (fun i => l.length - i.1) ⟨0, by simp, rfl, rfl⟩ ?_ ?_
  · exact q_D
  rintro ⟨i, g1, g2, g3⟩
  simp only at g1 g2 g3 ⊢
  obtain ⟨n1, n2, n3, n4⟩ := allQ_get (i := i) hl
  rcases Nat.lt_or_ge i l.length with hi | hi
  · have hr := rowQ_get l i hi
    rw [drop_getQ l i hi, qbC] at g2
    rw [drop_getQ l i hi, qbX] at g3
    cases ho : okQ (l.getD i q0).1 (l.getD i q0).2.1 (l.getD i q0).2.2.1 (l.getD i q0).2.2.2
    · simp only [ho, Bool.false_eq_true, if_false] at g2 g3
      repeat' (first|(with_reducible first|apply q_a|apply q_b|apply q_c|apply q_d|apply q_e|apply q_f|apply q_g|apply q_h|apply q_i|apply q_j|apply q_k|apply q_m|apply q_n|apply q_o|apply q_p|refine q_l ?_)|((with_reducible first|refine q_q qb2_ok fun K hK=>?_|refine q_r qb2_ok fun K hK=>?_);simp (maxSteps:=2000000) only [go_sem,↓reduceIte,reduceCtorEq,Nat.reduceLeDiff,Nat.reduceLT,Nat.reduceBEq,Nat.reduceAdd,hr, ho, List.length_map];(repeat1' with_reducible first|apply And.intro|(intro _;try exact q_v)|(refine hK _ ?_;clear hK K))<;>(try (clear hK K;exact q_u)))|(with_reducible refine q_s ?_;(first|apply q_J|apply q_K|apply q_L|apply q_M|apply q_N|apply q_O)<;>try (intro _;try exact q_v))|with_reducible refine q_t ?_)
      all_goals first | omega | assumption | exact q_A (by rw [← g2, ← g3]; rfl) | skip
    · simp only [ho, if_true] at g2 g3
      repeat' (first|(with_reducible first|apply q_a|apply q_b|apply q_c|apply q_d|apply q_e|apply q_f|apply q_g|apply q_h|apply q_i|apply q_j|apply q_k|apply q_m|apply q_n|apply q_o|apply q_p|refine q_l ?_)|((with_reducible first|refine q_q qb2_ok fun K hK=>?_|refine q_r qb2_ok fun K hK=>?_);simp (maxSteps:=2000000) only [go_sem,↓reduceIte,reduceCtorEq,Nat.reduceLeDiff,Nat.reduceLT,Nat.reduceBEq,Nat.reduceAdd,hr, ho, List.length_map];(repeat1' with_reducible first|apply And.intro|(intro _;try exact q_v)|(refine hK _ ?_;clear hK K))<;>(try (clear hK K;exact q_u)))|(with_reducible refine q_s ?_;(first|apply q_J|apply q_K|apply q_L|apply q_M|apply q_N|apply q_O)<;>try (intro _;try exact q_v))|with_reducible refine q_t ?_)
      all_goals first | omega | assumption | skip
      refine q_F ⟨i + 1, hi, g2, by push_cast; exact g3⟩ ?_ (by simp only; omega)
      exact q_D
  · have hi' : i = l.length := by omega
    subst hi'
    rw [List.drop_length] at g2 g3
    repeat' (first|(with_reducible first|apply q_a|apply q_b|apply q_c|apply q_d|apply q_e|apply q_f|apply q_g|apply q_h|apply q_i|apply q_j|apply q_k|apply q_m|apply q_n|apply q_o|apply q_p|refine q_l ?_)|((with_reducible first|refine q_q qb2_ok fun K hK=>?_|refine q_r qb2_ok fun K hK=>?_);simp (maxSteps:=2000000) only [go_sem,↓reduceIte,reduceCtorEq,Nat.reduceLeDiff,Nat.reduceLT,Nat.reduceBEq,Nat.reduceAdd,List.length_map];(repeat1' with_reducible first|apply And.intro|(intro _;try exact q_v)|(refine hK _ ?_;clear hK K))<;>(try (clear hK K;exact q_u)))|(with_reducible refine q_s ?_;(first|apply q_J|apply q_K|apply q_L|apply q_M|apply q_N|apply q_O)<;>try (intro _;try exact q_v))|with_reducible refine q_t ?_)
    exact q_A (by rw [← g2, ← g3]; rfl)
def qcheckCT : CT := mkCT [] true fun l K => match l with
  | [.inl (.sl 4 rows)] => match unQ rows with
    | some l => (l.length ≤ 1000 ∧ allQ 140737488355328 l) ∧ K (.g [.i .i64 (qbC l), .i .i64 (qbX 0 l)])
    | none => False
  | _ => False
def qt3 : Cfg := addT 20 qcheckCT qt2
theorem qt3_ok : TblOk Tryz.prog qt3 := q_I qt2_ok Tryz.func20 fun l K h => by
  split at h
  · split at h
    · rename_i l hl
      rw [unQ_some hl]
      exact ⟨_, (qcheck_ret l h.1.1 h.1.2).plain rfl, h.2⟩
    · exact h.elim
  · exact h.elim
attribute [go_sem] qcheckCT unQ qbC qbX allQ
end Go.Proofs.YtlflfhcfljiciaaGreat

namespace Go.Proofs.NatL
set_option linter.unusedSimpArgs false
set_option linter.unusedVariables false
def fQ (z : Int) (d : Nat) : Prop := (dg 4294967296 z.natAbs).length ≤ 128 ∧ (dg 4294967296 d).length ≤ 128
instance decFQ (z : Int) (d : Nat) : Decidable (fQ z d) := by unfold fQ; infer_instance
def fN (z : Int) (d : Nat) : Int := if fQ z d then z else 0
def fD (z : Int) (d : Nat) : Nat := if fQ z d then d else 0
def fC (z : Int) (d : Nat) : Int := if fQ z d then 0 else 14
def fI (z : Int) (d : Nat) : Int := if fQ z d then 0 else -1
theorem f_fit {z : Int} {d : Nat} (h : fQ z d) : fN z d = z ∧ fD z d = d ∧ fC z d = 0 ∧ fI z d = 0 := by simp [fN, fD, fC, fI, h]
theorem f_big {z : Int} {d : Nat} (h : ¬ fQ z d) : fN z d = 0 ∧ fD z d = 0 ∧ fC z d = 14 ∧ fI z d = -1 := by simp [fN, fD, fC, fI, h]
theorem rd_sg (s : Bool) (m : Nat) {d : Nat} (hd : 0 < d) : rdN (sg s m) d = sg s (m / Nat.gcd m d) ∧ rdD (sg s m) d = d / Nat.gcd m d := by
  have h1 := rdN_abs (sg s m) hd
  have h2 := rdN_neg (sg s m) hd
  rw [sg_abs] at h1
  refine ⟨?_, by unfold rdD; rw [sg_abs]⟩
  have e := sg_self (rdN (sg s m) d)
  rw [h1, h2] at e
  rw [← e]
  rcases Nat.eq_zero_or_pos (m / Nat.gcd m d) with h | h
  · rw [h]; cases decide (sg s m < 0) <;> cases s <;> rfl
  · have hm : 0 < m := by
      rcases Nat.eq_zero_or_pos m with h0 | h0
      · rw [h0, Nat.zero_div] at h; omega
      · exact h0
    congr 1
    cases s
    · rw [sgf]; exact decide_eq_false (by omega)
    · rw [sgt]; exact decide_eq_true (by omega)
theorem sg_negd (s : Bool) (k : Nat) : decide (sg s k < 0) = (s && decide (0 < k)) := by
  cases s
  · rw [sgf, Bool.false_and]; exact decide_eq_false (by omega)
  · rw [sgt, Bool.true_and]; congr 1; exact propext ⟨fun h => by omega, fun h => by omega⟩
def plF (u : Bool) (a b : Int) : Int := if u = true then a - b else a + b
theorem plF_f (a b : Int) : plF false a b = a + b := rfl
theorem plF_t (a b : Int) : plF true a b = a - b := rfl
end Go.Proofs.NatL
namespace Go.Proofs.YtlflfhcfljiciaaGreat
set_option linter.unusedSimpArgs false
set_option linter.unusedVariables false
open Go.Abs Go.Proofs.NatL

abbrev nU : Option C ⊕ List (Option C) := .inl (some (.ints .u32 []))
def natCT (p : Nat → Nat → Prop) (f : Nat → Nat → AV) : CT := mkCT [nU, nU] false fun l K => match l with
  | [.inl (.ints .u32 xs), .inl (.ints .u32 ys)] => (InB 4294967296 xs ∧ Trd xs ∧ xs.length ≤ 300 ∧ InB 4294967296 ys ∧ Trd ys ∧ ys.length ≤ 300 ∧ p (V 4294967296 xs) (V 4294967296 ys)) ∧ K (f (V 4294967296 xs) (V 4294967296 ys))
  | _ => False
def oneN (k : Nat) : AV := .t [.inl (.ints .u32 (dg 4294967296 k)), .inr [.i .i64 0, .i .i64 0]]
def rAddN (m n : Nat) : AV := oneN (m + n)
def rSubN (m n : Nat) : AV := oneN (m - n)
def rMulN (m n : Nat) : AV := oneN (m * n)
def rGcdN (m n : Nat) : AV := oneN (Nat.gcd m n)
def rDivN (m n : Nat) : AV := .t [.inl (.ints .u32 (dg 4294967296 (m / n))), .inl (.ints .u32 (dg 4294967296 (m % n))), .inr [.i .i64 0, .i .i64 0]]
def rCmpN (m n : Nat) : AV := .t [.inl (.i .i64 (cmp3 m n)), .inr [.i .i64 0, .i .i64 0]]
theorem nat_tr {F : FuncId} {p : Nat → Nat → Prop} {f : Nat → Nat → AV} (hc : ∀ (m n : Nat), (dg 4294967296 m).length ≤ 300 → (dg 4294967296 n).length ≤ 300 → p m n → Ret Tryz.prog F false [.inl (.ints .u32 (dg 4294967296 m)), .inl (.ints .u32 (dg 4294967296 n))] (f m n))
    (l : List (C ⊕ List C)) (K : AV → Prop) (hk : match l with
      | [.inl (.ints .u32 xs), .inl (.ints .u32 ys)] => (InB 4294967296 xs ∧ Trd xs ∧ xs.length ≤ 300 ∧ InB 4294967296 ys ∧ Trd ys ∧ ys.length ≤ 300 ∧ p (V 4294967296 xs) (V 4294967296 ys)) ∧ K (f (V 4294967296 xs) (V 4294967296 ys))
      | _ => False) : ∃ r, Ret Tryz.prog F false l r ∧ K r := by
  split at hk
  · rename_i xs ys
    obtain ⟨⟨h1, h2, h3, h4, h5, h6, h7⟩, hk⟩ := hk
    have e1 := dg_V 4294967296 (by omega) xs h1 h2
    have e2 := dg_V 4294967296 (by omega) ys h4 h5
    have := hc (V 4294967296 xs) (V 4294967296 ys) (by rw [e1]; exact h3) (by rw [e2]; exact h6) h7
    rw [e1, e2] at this
    exact ⟨_, this, hk⟩
  · exact hk.elim
theorem nAdd_ret (m n : Nat) (lm : (dg 4294967296 m).length ≤ 300) (ln : (dg 4294967296 n).length ≤ 300) :
    Ret Tryz.prog 90 false [.inl (.ints .u32 (dg 4294967296 m)), .inl (.ints .u32 (dg 4294967296 n))] (rAddN m n) := by
  have h1 := okN_dg' (n := m) (by omega)
  have h2 := okN_dg' (n := n) (by omega)
  have := Add_ret _ _ (okN_LB h1) (okN_LB h2) (InB_dg _ (by omega) m) (InB_dg _ (by omega) n)
  obtain ⟨f1, f2, f3⟩ := fit_small (Nat.le_trans (add_len (k := 300) (by omega) lm ln) (by omega))
  rw [oneF_good h1 h2, addNd', f1, f2, f3] at this
  exact this
theorem nMul_ret (m n : Nat) (lm : (dg 4294967296 m).length ≤ 300) (ln : (dg 4294967296 n).length ≤ 300) :
    Ret Tryz.prog 88 false [.inl (.ints .u32 (dg 4294967296 m)), .inl (.ints .u32 (dg 4294967296 n))] (rMulN m n) := by
  have h1 := okN_dg' (n := m) (by omega)
  have h2 := okN_dg' (n := n) (by omega)
  have := Mul_ret _ _ (okN_LB h1) (okN_LB h2) (InB_dg _ (by omega) m) (InB_dg _ (by omega) n)
  obtain ⟨f1, f2, f3⟩ := fit_small (Nat.le_trans (mul_len (k := 300) (l := 300) (by omega) lm ln) (by omega))
  rw [oneF_good h1 h2, mulNd', f1, f2, f3] at this
  exact this
theorem nSub_ret (m n : Nat) (lm : (dg 4294967296 m).length ≤ 300) (ln : (dg 4294967296 n).length ≤ 300) (h : n ≤ m) :
    Ret Tryz.prog 91 false [.inl (.ints .u32 (dg 4294967296 m)), .inl (.ints .u32 (dg 4294967296 n))] (rSubN m n) := by
  have h1 := okN_dg' (n := m) (by omega)
  have h2 := okN_dg' (n := n) (by omega)
  have := Sub_ret _ _ (okN_LB h1) (okN_LB h2) (InB_dg _ (by omega) m) (InB_dg _ (by omega) n)
  obtain ⟨f1, f2, f3⟩ := subO_le h
  rw [oneF_good h1 h2] at this
  have h3 : (if V 4294967296 (dg 4294967296 m) < V 4294967296 (dg 4294967296 n) then [] else subN (dg 4294967296 m) (dg 4294967296 n)) = dg 4294967296 (m - n) := f1
  first
    | (rw [f1, f2, f3] at this; exact this)
    | (simp only [subO, subC, subI] at f1 f2 f3; rw [f1, f2, f3] at this; exact this)
theorem nCmp_ret (m n : Nat) (lm : (dg 4294967296 m).length ≤ 300) (ln : (dg 4294967296 n).length ≤ 300) :
    Ret Tryz.prog 74 false [.inl (.ints .u32 (dg 4294967296 m)), .inl (.ints .u32 (dg 4294967296 n))] (rCmpN m n) := by
  have h1 := okN_dg' (n := m) (by omega)
  have h2 := okN_dg' (n := n) (by omega)
  have := Cmp_ret _ _ (okN_LB h1) (okN_LB h2) (InB_dg _ (by omega) m) (InB_dg _ (by omega) n)
  rw [(chkC_zero h1 h2).1, (chkC_zero h1 h2).2, if_neg (by simp), V32, V32] at this
  exact this
theorem nGcd_ret (m n : Nat) (lm : (dg 4294967296 m).length ≤ 300) (ln : (dg 4294967296 n).length ≤ 300) :
    Ret Tryz.prog 50 false [.inl (.ints .u32 (dg 4294967296 m)), .inl (.ints .u32 (dg 4294967296 n))] (rGcdN m n) := by
  have h1 := okN_dg' (n := m) (by omega)
  have h2 := okN_dg' (n := n) (by omega)
  have := Gcd_ret _ _ (okN_LB h1) (okN_LB h2) (InB_dg _ (by omega) m) (InB_dg _ (by omega) n)
  simp only [gcO, (chkC_zero h1 h2).1, (chkC_zero h1 h2).2, if_true, V32] at this
  exact this
theorem nDiv_ret (m n : Nat) (lm : (dg 4294967296 m).length ≤ 300) (ln : (dg 4294967296 n).length ≤ 300) (h : 0 < n) :
    Ret Tryz.prog 73 false [.inl (.ints .u32 (dg 4294967296 m)), .inl (.ints .u32 (dg 4294967296 n))] (rDivN m n) := by
  have h1 := okN_dg' (n := m) (by omega)
  have h2 := okN_dg' (n := n) (by omega)
  have := dvGood_ok _ _ h1 h2 (InB_dg _ (by omega) m) (InB_dg _ (by omega) n) (by rw [V32]; exact h)
  rw [V32, V32] at this
  exact this
def tr2 (_ _ : Nat) : Prop := True
def le2 (m n : Nat) : Prop := n ≤ m
def pos2 (_ n : Nat) : Prop := 0 < n
theorem le2_d (m n : Nat) : le2 m n = (n ≤ m) := rfl
theorem pos2_d (m n : Nat) : pos2 m n = (0 < n) := rfl
theorem tr2_d (m n : Nat) : tr2 m n = True := rfl
def qn1 : Cfg := addT 90 (natCT tr2 rAddN) qt3
theorem qn1_ok : TblOk Tryz.prog qn1 := q_I qt3_ok Tryz.func90 fun l K h =>
  nat_tr (p := tr2) (f := rAddN) (fun m n a b _ => nAdd_ret m n a b) l K h
def qn2 : Cfg := addT 88 (natCT tr2 rMulN) qn1
theorem qn2_ok : TblOk Tryz.prog qn2 := q_I qn1_ok Tryz.func88 fun l K h =>
  nat_tr (p := tr2) (f := rMulN) (fun m n a b _ => nMul_ret m n a b) l K h
def qn3 : Cfg := addT 91 (natCT le2 rSubN) qn2
theorem qn3_ok : TblOk Tryz.prog qn3 := q_I qn2_ok Tryz.func91 fun l K h =>
  nat_tr (p := le2) (f := rSubN) (fun m n a b h => nSub_ret m n a b h) l K h
def qn4 : Cfg := addT 74 (natCT tr2 rCmpN) qn3
theorem qn4_ok : TblOk Tryz.prog qn4 := q_I qn3_ok Tryz.func74 fun l K h =>
  nat_tr (p := tr2) (f := rCmpN) (fun m n a b _ => nCmp_ret m n a b) l K h
def qn5 : Cfg := addT 50 (natCT tr2 rGcdN) qn4
theorem qn5_ok : TblOk Tryz.prog qn5 := q_I qn4_ok Tryz.func50 fun l K h =>
  nat_tr (p := tr2) (f := rGcdN) (fun m n a b _ => nGcd_ret m n a b) l K h
def qn6 : Cfg := addT 73 (natCT pos2 rDivN) qn5
theorem qn6_ok : TblOk Tryz.prog qn6 := q_I qn5_ok Tryz.func73 fun l K h =>
  nat_tr (p := pos2) (f := rDivN) (fun m n a b h => nDiv_ret m n a b h) l K h
attribute [go_sem] natCT oneN rAddN rSubN rMulN rGcdN rDivN rCmpN le2_d pos2_d tr2_d
abbrev gQ (z : Int) (d : Nat) : List C := [.b (decide (z < 0)), .ints .u32 (dg 4294967296 z.natAbs), .b false, .ints .u32 (dg 4294967296 d)]
def rF (z : Int) (d : Nat) : AV := .t [.inr (gQ (fN z d) (fD z d)), .inr [.i .i64 (fC z d), .i .i64 (fI z d)]]
def rQ (n : Int) (d : Nat) : AV := rF (rdN n d) (rdD n d)
def qb3 : Cfg := listT [(22, atCT), (50, (natCT tr2 rGcdN)), (73, (natCT pos2 rDivN))] [28]
theorem qb3_ok : TblOk Tryz.prog qb3 := listE_ok (by simp only [List.mem_singleton, forall_eq]; exact flt) ⟨⟨qt2, qt2_ok, rfl⟩, ⟨qn6, qn6_ok, rfl⟩, ⟨qn6, qn6_ok, rfl⟩, trivial⟩
attribute [go_sem] qb3
set_option maxHeartbeats 1600000 in
theorem reduced_ret (s : Bool) (m d : Nat) (lm : (dg 4294967296 m).length ≤ 300) (ld : (dg 4294967296 d).length ≤ 300) (hd : 0 < d) :
    Ret Tryz.prog 51 false [.inl (.b s), .inl (.ints .u32 (dg 4294967296 m)), .inl (.ints .u32 (dg 4294967296 d))] (rQ (sg s m) d) := by
  obtain ⟨e1, e2⟩ := rd_sg s m hd
  have hg : 0 < Nat.gcd m d := Nat.gcd_pos_of_pos_right _ hd
  have hgl : (dg 4294967296 (Nat.gcd m d)).length ≤ 300 := Nat.le_trans (dg_len_mono (by omega) (Nat.gcd_le_right _ hd)) ld
  unfold rQ
  rw [e1, e2]
  generalize hG : Nat.gcd m d = g at *
  have l1 : (dg 4294967296 (m / g)).length ≤ 300 := Nat.le_trans (dg_len_mono (by omega) (Nat.div_le_self _ _)) lm
  have hp := dg_len_pos 4294967296 (m / g) (by omega)
  have a1 := sg_abs s (m / g)
  have a2 := sg_negd s (m / g)
  have a3 : decide (0 < m / g) = decide (0 < ((dg 4294967296 (m / g)).length : Int)) := by congr 1; exact propext ⟨fun h => by omega, fun h => by omega⟩
  rw [a3] at a2
  by_cases hf : (dg 4294967296 (m / g)).length ≤ 128 ∧ (dg 4294967296 (d / g)).length ≤ 128
  · obtain ⟨f1, f2, f3, f4⟩ := f_fit (z := sg s (m / g)) (d := d / g) (by unfold fQ; rw [a1]; exact hf)
    obtain ⟨g1, g2⟩ := hf
    unfold rF
    rw [f1, f2, f3, f4, gQ, a1, a2]
    clear e1 e2 a1 a2 a3 f1 f2 f3 f4
    cases s
    all_goals
      (refine q_H Tryz.func51 (fun F => ?_); simp only [q_z,q_y,Tryz.ntmps51,Tryz.results51])
      repeat' (first|(with_reducible first|apply q_a|apply q_b|apply q_c|apply q_d|apply q_e|apply q_f|apply q_g|apply q_h|apply q_i|apply q_j|apply q_k|apply q_m|apply q_n|apply q_o|apply q_p|refine q_l ?_)|((with_reducible first|refine q_q qb3_ok fun K hK=>?_|refine q_r qb3_ok fun K hK=>?_);simp (maxSteps:=2000000) only [go_sem,↓reduceIte,reduceCtorEq,Nat.reduceLeDiff,Nat.reduceLT,Nat.reduceBEq,Nat.reduceAdd,V32, hG];(repeat1' with_reducible first|apply And.intro|(intro _;try exact q_v)|(refine hK _ ?_;clear hK K))<;>(try (clear hK K;exact q_u)))|(with_reducible refine q_s ?_;(first|apply q_J|apply q_K|apply q_L|apply q_M|apply q_N|apply q_O)<;>try (intro _;try exact q_v))|with_reducible refine q_t ?_)
      all_goals first | omega | exact q_A rfl | skip
  · obtain ⟨f1, f2, f3, f4⟩ := f_big (z := sg s (m / g)) (d := d / g) (by unfold fQ; rw [a1]; exact hf)
    unfold rF
    rw [f1, f2, f3, f4]
    clear e1 e2 a1 a2 a3 f1 f2 f3 f4
    by_cases h1 : (dg 4294967296 (m / g)).length ≤ 128
    · have h2 : ¬ (dg 4294967296 (d / g)).length ≤ 128 := fun h => hf ⟨h1, h⟩
      (refine q_H Tryz.func51 (fun F => ?_); simp only [q_z,q_y,Tryz.ntmps51,Tryz.results51])
      repeat' (first|(with_reducible first|apply q_a|apply q_b|apply q_c|apply q_d|apply q_e|apply q_f|apply q_g|apply q_h|apply q_i|apply q_j|apply q_k|apply q_m|apply q_n|apply q_o|apply q_p|refine q_l ?_)|((with_reducible first|refine q_q qb3_ok fun K hK=>?_|refine q_r qb3_ok fun K hK=>?_);simp (maxSteps:=2000000) only [go_sem,↓reduceIte,reduceCtorEq,Nat.reduceLeDiff,Nat.reduceLT,Nat.reduceBEq,Nat.reduceAdd,V32, hG];(repeat1' with_reducible first|apply And.intro|(intro _;try exact q_v)|(refine hK _ ?_;clear hK K))<;>(try (clear hK K;exact q_u)))|(with_reducible refine q_s ?_;(first|apply q_J|apply q_K|apply q_L|apply q_M|apply q_N|apply q_O)<;>try (intro _;try exact q_v))|with_reducible refine q_t ?_)
      all_goals first | omega | exact q_B [nQ] rfl rfl | skip
    · (refine q_H Tryz.func51 (fun F => ?_); simp only [q_z,q_y,Tryz.ntmps51,Tryz.results51])
      repeat' (first|(with_reducible first|apply q_a|apply q_b|apply q_c|apply q_d|apply q_e|apply q_f|apply q_g|apply q_h|apply q_i|apply q_j|apply q_k|apply q_m|apply q_n|apply q_o|apply q_p|refine q_l ?_)|((with_reducible first|refine q_q qb3_ok fun K hK=>?_|refine q_r qb3_ok fun K hK=>?_);simp (maxSteps:=2000000) only [go_sem,↓reduceIte,reduceCtorEq,Nat.reduceLeDiff,Nat.reduceLT,Nat.reduceBEq,Nat.reduceAdd,V32, hG];(repeat1' with_reducible first|apply And.intro|(intro _;try exact q_v)|(refine hK _ ?_;clear hK K))<;>(try (clear hK K;exact q_u)))|(with_reducible refine q_s ?_;(first|apply q_J|apply q_K|apply q_L|apply q_M|apply q_N|apply q_O)<;>try (intro _;try exact q_v))|with_reducible refine q_t ?_)
      all_goals first | omega | exact q_B [nQ] rfl rfl | skip
def reducedCT : CT := mkCT [.inl none, nU, nU] false fun l K => match l with
  | [.inl (.b s), .inl (.ints .u32 xs), .inl (.ints .u32 ys)] => (InB 4294967296 xs ∧ Trd xs ∧ xs.length ≤ 300 ∧ InB 4294967296 ys ∧ Trd ys ∧ ys.length ≤ 300 ∧ 0 < V 4294967296 ys) ∧ K (rQ (sv 4294967296 s xs) (V 4294967296 ys))
  | _ => False
def qt4 : Cfg := addT 51 reducedCT qt3
theorem qt4_ok : TblOk Tryz.prog qt4 := q_I qt3_ok Tryz.func51 fun l K h => by
  split at h
  · rename_i s xs ys
    obtain ⟨⟨h1, h2, h3, h4, h5, h6, h7⟩, h⟩ := h
    have e1 := dg_V 4294967296 (by omega) xs h1 h2
    have e2 := dg_V 4294967296 (by omega) ys h4 h5
    have := reduced_ret s (V 4294967296 xs) (V 4294967296 ys) (by rw [e1]; exact h3) (by rw [e2]; exact h6) h7
    rw [← sv32d, e1, e2] at this
    exact ⟨_, this, h⟩
  · exact h.elim
attribute [go_sem] reducedCT gQ rQ rF
def qb4 : Cfg := listT [(51, reducedCT), (88, (natCT tr2 rMulN)), (90, (natCT tr2 rAddN)), (91, (natCT le2 rSubN)), (74, (natCT tr2 rCmpN))] [28]
attribute [go_sem] qb4
def qplusCT : CT := mkCT [nQ, nQ] false fun l K => match l with
  | [.inr [.b s, .ints .u32 xs, .b p, .ints .u32 zs], .inr [.b t, .ints .u32 ys, .b q, .ints .u32 ws], .inl (.b u)] =>
      ((InB 4294967296 xs ∧ Trd xs ∧ xs.length ≤ 128 ∧ InB 4294967296 ys ∧ Trd ys ∧ ys.length ≤ 128 ∧ InB 4294967296 zs ∧ Trd zs ∧ zs.length ≤ 128 ∧ InB 4294967296 ws ∧ Trd ws ∧ ws.length ≤ 128) ∧ p = false ∧ q = false ∧ 0 < V 4294967296 zs ∧ 0 < V 4294967296 ws) ∧
      K (rQ (plF u (sv 4294967296 s xs * V 4294967296 ws) (sv 4294967296 t ys * V 4294967296 zs)) (V 4294967296 zs * V 4294967296 ws))
  | _ => False
def qt5 : Cfg := qt4
theorem qt5_ok : TblOk Tryz.prog qt5 := qt4_ok
attribute [go_sem] qplusCT plF_f plF_t
end Go.Proofs.YtlflfhcfljiciaaGreat
