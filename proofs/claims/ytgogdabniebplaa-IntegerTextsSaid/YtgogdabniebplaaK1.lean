import Derived.Test.YtgogdabniebplaaI4
import Derived.Test.YtgogdabniebplaaI5
import Derived.Test.YtgogdabniebplaaJ3
import Derived.Test.YtgogdabniebplaaP6
namespace Go.Proofs.Ytgogdabniebplaa
set_option linter.unusedSimpArgs false
set_option linter.unusedVariables false
open Go.Abs Go.Proofs.NatL

def iF2CT (p : Int → Int → Prop) (f : Int → Int → AV) : CT := mkCT [nP, nP] false fun l K => match l with
  | [.inr [.b s, .ints .u32 xs], .inr [.b t, .ints .u32 ys]] => (okZ s xs = true ∧ InB 4294967296 xs ∧ okZ t ys = true ∧ InB 4294967296 ys ∧ p (sv 4294967296 s xs) (sv 4294967296 t ys)) ∧ K (f (sv 4294967296 s xs) (sv 4294967296 t ys))
  | _ => False
theorem iF2_ret {F : FuncId} {p : Int → Int → Prop} {f : Int → Int → AV} (h : ∀ a b : Int, p a b → (dg 4294967296 a.natAbs).length ≤ 128 → (dg 4294967296 b.natAbs).length ≤ 128 → Ret Try.prog F false [.inr (gI a), .inr (gI b)] (f a b))
    {s t : Bool} {xs ys : List Int} (hh : okZ s xs = true ∧ InB 4294967296 xs ∧ okZ t ys = true ∧ InB 4294967296 ys ∧ p (sv 4294967296 s xs) (sv 4294967296 t ys)) :
    Ret Try.prog F false [.inr [.b s, .ints .u32 xs], .inr [.b t, .ints .u32 ys]] (f (sv 4294967296 s xs) (sv 4294967296 t ys)) := by
  obtain ⟨h1, h2, h3, h4, h5⟩ := hh
  obtain ⟨a1, a2, a3⟩ := okZ_eq h1 h2
  obtain ⟨b1, b2, b3⟩ := okZ_eq h3 h4
  have := h _ _ h5 (by rw [← a2]; exact a3) (by rw [← b2]; exact b3)
  rw [gI, gI, ← a1, ← a2, ← b1, ← b2] at this
  exact this
theorem iF2_tr {F : FuncId} {p : Int → Int → Prop} {f : Int → Int → AV} (h : ∀ a b : Int, p a b → (dg 4294967296 a.natAbs).length ≤ 128 → (dg 4294967296 b.natAbs).length ≤ 128 → Ret Try.prog F false [.inr (gI a), .inr (gI b)] (f a b))
    (l : List (C ⊕ List C)) (K : AV → Prop) (hk : match l with
      | [.inr [.b s, .ints .u32 xs], .inr [.b t, .ints .u32 ys]] => (okZ s xs = true ∧ InB 4294967296 xs ∧ okZ t ys = true ∧ InB 4294967296 ys ∧ p (sv 4294967296 s xs) (sv 4294967296 t ys)) ∧ K (f (sv 4294967296 s xs) (sv 4294967296 t ys))
      | _ => False) : ∃ r, Ret Try.prog F false l r ∧ K r := by
  split at hk
  · exact ⟨_, iF2_ret h hk.1, hk.2⟩
  · exact hk.elim
def rCl (z : Int) : AV := .t [.inr (gI (cl 128 z)), .inr [.i .i64 (clC 128 z), .i .i64 (clI 128 z)]]
def rDiv (a b : Int) : AV := .t [.inr (gI (a.fdiv b)), .inr (gI (a.fmod b)), .inr [.i .i64 0, .i .i64 0]]
def rGcd (a b : Int) : AV := .t [.inr (gI (Nat.gcd a.natAbs b.natAbs : Nat)), .inr [.i .i64 0, .i .i64 0]]
def rCmp (a b : Int) : AV := .t [.inl (.i .i64 (cmpZ a b)), .inr [.i .i64 0, .i .i64 0]]
def ku1 : Cfg := addT 158 (iF2CT (fun _ _ => True) (fun a b => rCl (a + b))) it6
theorem ku1_ok : TblOk Try.prog ku1 := q_I it6_ok Try.func158 fun l K h =>
  iF2_tr (p := (fun _ _ => True)) (f := (fun a b => rCl (a + b))) (fun a b _ => iAdd_ok a b) l K h
def ku2 : Cfg := addT 159 (iF2CT (fun _ _ => True) (fun a b => rCl (a - b))) ku1
theorem ku2_ok : TblOk Try.prog ku2 := q_I ku1_ok Try.func159 fun l K h =>
  iF2_tr (p := (fun _ _ => True)) (f := (fun a b => rCl (a - b))) (fun a b _ => iSub_ok a b) l K h
def ku3 : Cfg := addT 93 (iF2CT (fun _ _ => True) (fun a b => rCl (a * b))) ku2
theorem ku3_ok : TblOk Try.prog ku3 := q_I ku2_ok Try.func93 fun l K h =>
  iF2_tr (p := (fun _ _ => True)) (f := (fun a b => rCl (a * b))) (fun a b _ => iMul_ok a b) l K h
def ku4 : Cfg := addT 62 (iF2CT (fun _ b => b ≠ 0) rDiv) ku3
theorem ku4_ok : TblOk Try.prog ku4 := q_I ku3_ok Try.func62 fun l K h =>
  iF2_tr (p := (fun _ b => b ≠ 0)) (f := rDiv) (fun a b hb => iDivMod_ok a b hb) l K h
def ku5 : Cfg := addT 63 (iF2CT (fun _ _ => True) rGcd) ku4
theorem ku5_ok : TblOk Try.prog ku5 := q_I ku4_ok Try.func63 fun l K h =>
  iF2_tr (p := (fun _ _ => True)) (f := rGcd) (fun a b _ => iGcd_ok a b) l K h
def ku6 : Cfg := addT 75 (iF2CT (fun _ _ => True) rCmp) ku5
theorem ku6_ok : TblOk Try.prog ku6 := q_I ku5_ok Try.func75 fun l K h =>
  iF2_tr (p := (fun _ _ => True)) (f := rCmp) (fun a b _ => iCmp_ok a b) l K h
attribute [go_sem] iF2CT rCl rDiv rGcd rCmp okZ_g

def iB2CT (ps : List (Option C ⊕ List (Option C))) (R : List (C ⊕ List C)) : CT := mkCT [nP, nP] false fun l K => match l with
  | [.inr [.b s, .ints .u32 xs], .inr [.b t, .ints .u32 ys]] => (xs.length ≤ 140737488355328 ∧ ys.length ≤ 140737488355328 ∧ (okZ s xs = false ∨ okZ s xs = true ∧ okZ t ys = false)) ∧ K (.t (R ++ [.inr [.i .i64 6, .i .i64 (if okZ s xs then -2 else -1)]]))
  | _ => False
def kb1 : Cfg := addT 158 (iB2CT [] [.inr [.b false, .ints .u32 []]]) it6
theorem kb1_ok : TblOk Try.prog kb1 := q_I it6_ok Try.func158 fun l K h => by
  split at h
  · exact ⟨_, iAdd_bad _ _ _ _ h.1.1 h.1.2.1 h.1.2.2, h.2⟩
  · exact h.elim
def kb2 : Cfg := addT 159 (iB2CT [] [.inr [.b false, .ints .u32 []]]) kb1
theorem kb2_ok : TblOk Try.prog kb2 := q_I kb1_ok Try.func159 fun l K h => by
  split at h
  · exact ⟨_, iSub_bad _ _ _ _ h.1.1 h.1.2.1 h.1.2.2, h.2⟩
  · exact h.elim
def kb3 : Cfg := addT 93 (iB2CT [] [.inr [.b false, .ints .u32 []]]) kb2
theorem kb3_ok : TblOk Try.prog kb3 := q_I kb2_ok Try.func93 fun l K h => by
  split at h
  · exact ⟨_, iMul_bad _ _ _ _ h.1.1 h.1.2.1 h.1.2.2, h.2⟩
  · exact h.elim
def kb4 : Cfg := addT 63 (iB2CT [] [.inr [.b false, .ints .u32 []]]) kb3
theorem kb4_ok : TblOk Try.prog kb4 := q_I kb3_ok Try.func63 fun l K h => by
  split at h
  · exact ⟨_, iGcd_bad _ _ _ _ h.1.1 h.1.2.1 h.1.2.2, h.2⟩
  · exact h.elim
def kb5 : Cfg := addT 62 (iB2CT [] [.inr [.b false, .ints .u32 []], .inr [.b false, .ints .u32 []]]) kb4
theorem kb5_ok : TblOk Try.prog kb5 := q_I kb4_ok Try.func62 fun l K h => by
  split at h
  · exact ⟨_, iDivMod_bad _ _ _ _ h.1.1 h.1.2.1 h.1.2.2, h.2⟩
  · exact h.elim
def kb6 : Cfg := addT 75 (iB2CT [] [.inl (.i .i64 0)]) kb5
theorem kb6_ok : TblOk Try.prog kb6 := q_I kb5_ok Try.func75 fun l K h => by
  split at h
  · exact ⟨_, iCmp_bad _ _ _ _ h.1.1 h.1.2.1 h.1.2.2, h.2⟩
  · exact h.elim
attribute [go_sem] iB2CT

def kc : Cfg := listT [(28, iOfCT), (62, (iF2CT (fun _ b => b ≠ 0) rDiv)), (70, iTextCT), (55, sameIntCT), (41, numberCT)] [28]
theorem kc_ok : TblOk Try.prog kc := listE_ok (by simp only [List.mem_singleton, forall_eq]; exact flt) ⟨⟨iu1, iu1_ok, rfl⟩, ⟨ku4, ku4_ok, rfl⟩, ⟨iu2, iu2_ok, rfl⟩, ⟨jt12, jt12_ok, rfl⟩, ⟨jt12, jt12_ok, rfl⟩, trivial⟩
attribute [go_sem] kc
theorem ex1 : ((-7 : Int).fdiv 2) = -4 ∧ ((-7 : Int).fmod 2) = 1 ∧ ((7 : Int).fdiv (-2)) = -4 ∧ ((7 : Int).fmod (-2)) = -1 := by decide
theorem ex2 : (dg 4294967296 (-7 : Int).natAbs).length ≤ 128 ∧ (dg 4294967296 (2 : Int).natAbs).length ≤ 128 ∧ (dg 4294967296 (7 : Int).natAbs).length ≤ 128 ∧ (dg 4294967296 (-2 : Int).natAbs).length ≤ 128 ∧ (dg 4294967296 (-255 : Int).natAbs).length ≤ 128 := by decide +kernel
theorem ex3 : (strOf (textI (-255) (16 : Int).toNat)).toList = [45, 102, 102] := by decide +kernel
set_option maxRecDepth 100000 in
set_option maxHeartbeats 1600000 in
theorem counts_ret : Ret Try.prog 65 false [] (.c (.b true)) := by
  obtain ⟨e1, e2, e3, e4⟩ := ex1
  obtain ⟨d1, d2, d3, d4, d5⟩ := ex2
  have e5 := ex3
  (refine q_H Try.func65 (fun F => ?_); simp only [q_z,q_y,Try.ntmps65,Try.results65])
  repeat' (first|(with_reducible first|apply q_a|apply q_b|apply q_c|apply q_d|apply q_e|apply q_f|apply q_g|apply q_h|apply q_i|apply q_j|apply q_k|apply q_m|apply q_n|apply q_o|apply q_p|refine q_l ?_)|((with_reducible first|refine q_q kc_ok fun K hK=>?_|refine q_r kc_ok fun K hK=>?_);simp (maxSteps:=2000000) only [go_sem,↓reduceIte,reduceCtorEq,Nat.reduceLeDiff,Nat.reduceLT,Nat.reduceBEq,Nat.reduceAdd,e1, e2, e3, e4];(repeat1' with_reducible first|apply And.intro|intro _|(refine hK _ ?_;clear hK K))<;>(try (clear hK K;exact q_u)))|(with_reducible refine q_s ?_;(first|apply q_J|apply q_K|apply q_L|apply q_M|apply q_N|apply q_O)<;>try intro _)|with_reducible refine q_t ?_)
  all_goals first
    | (refine dg_len_le (by omega) _ _ ?_; decide +kernel)
    | (refine Nat.le_trans (dg_len_le (k := 1) (by omega) _ _ (by decide)) (by omega))
    | skip
  exact q_A (by simp only [resAV, q_y, AV.c.injEq, C.b.injEq, e5]; decide +kernel)
def countsCT : CT := mkCT [] true fun l K => match l with
  | [] => K (.c (.b true))
  | _ => False
def kd1 : Cfg := addT 65 countsCT jt12
theorem kd1_ok : TblOk Try.prog kd1 := q_I jt12_ok Try.func65 fun l K h => by
  split at h
  · exact ⟨_, counts_ret.plain rfl, h⟩
  · exact h.elim
attribute [go_sem] countsCT

def kyt : Cfg := listT [(23, atCT), (53, noIntCT), (55, sameIntCT), (42, fitsCT)] [28]
theorem kyt_ok : TblOk Try.prog kyt := listT_ok (big := jt12) jt12_ok ⟨rfl, rfl, rfl, rfl, trivial⟩
attribute [go_sem] kyt
set_option maxHeartbeats 1600000 in
theorem yields_ok (z : Int) (t : Bool) (lz : (dg 65536 z.natAbs).length ≤ 1048576) :
    Ret Try.prog 74 false [.inr (gI (cl 128 z)), .inr [.i .i64 (clC 128 z), .i .i64 (clI 128 z)], .inr (gRz z t), .inr [.i .i64 0, .i .i64 0]] (.c (.b true)) := by
  have hh := dg_half' z.natAbs 128
  have lc := Nat.le_trans (cl_len 128 z) (show 128 ≤ 16777216 by omega)
  by_cases h : (dg 4294967296 z.natAbs).length ≤ 128
  · obtain ⟨e1, e2, e3⟩ := cl_fit h
    have h2 := hh.2 h
    rw [e1] at lc
    rw [e1, e2, e3]
    (refine q_H Try.func74 (fun F => ?_); simp only [q_z,q_y,Try.ntmps74,Try.results74])
    repeat' (first|(with_reducible first|apply q_a|apply q_b|apply q_c|apply q_d|apply q_e|apply q_f|apply q_g|apply q_h|apply q_i|apply q_j|apply q_k|apply q_m|apply q_n|apply q_o|apply q_p|refine q_l ?_)|((with_reducible first|refine q_q kyt_ok fun K hK=>?_|refine q_r kyt_ok fun K hK=>?_);simp (maxSteps:=2000000) only [go_sem,↓reduceIte,reduceCtorEq,Nat.reduceLeDiff,Nat.reduceLT,Nat.reduceBEq,Nat.reduceAdd];(repeat1' with_reducible first|apply And.intro|(intro _;try exact q_v)|(refine hK _ ?_;clear hK K))<;>(try (clear hK K;exact q_u)))|(with_reducible refine q_s ?_;(first|apply q_J|apply q_K|apply q_L|apply q_M|apply q_N|apply q_O)<;>try (intro _;try exact q_v))|with_reducible refine q_t ?_)
    all_goals first | contradiction | omega | exact q_A rfl | exact q_A (by simp [resAV, q_y])
  · obtain ⟨e1, e2, e3⟩ := cl_big h
    have h2 : ¬ (dg 65536 z.natAbs).length ≤ 2 * 128 := fun k => h (hh.1 k)
    rw [e1] at lc
    rw [e1, e2, e3]
    (refine q_H Try.func74 (fun F => ?_); simp only [q_z,q_y,Try.ntmps74,Try.results74])
    repeat' (first|(with_reducible first|apply q_a|apply q_b|apply q_c|apply q_d|apply q_e|apply q_f|apply q_g|apply q_h|apply q_i|apply q_j|apply q_k|apply q_m|apply q_n|apply q_o|apply q_p|refine q_l ?_)|((with_reducible first|refine q_q kyt_ok fun K hK=>?_|refine q_r kyt_ok fun K hK=>?_);simp (maxSteps:=2000000) only [go_sem,↓reduceIte,reduceCtorEq,Nat.reduceLeDiff,Nat.reduceLT,Nat.reduceBEq,Nat.reduceAdd];(repeat1' with_reducible first|apply And.intro|(intro _;try exact q_v)|(refine hK _ ?_;clear hK K))<;>(try (clear hK K;exact q_u)))|(with_reducible refine q_s ?_;(first|apply q_J|apply q_K|apply q_L|apply q_M|apply q_N|apply q_O)<;>try (intro _;try exact q_v))|with_reducible refine q_t ?_)
    all_goals first | contradiction | omega | exact q_A rfl | exact q_A (by simp [resAV, q_y])
def yieldsCT : CT := mkCT [nP, .inr [none, none], nR, .inr [none, none]] true fun l K => match l with
  | [.inr [.b s, .ints .u32 xs], .inr [.i .i64 c, .i .i64 i], .inr [.b t, .ints .i64 ys], .inr [.i .i64 wc, .i .i64 wi]] =>
      ((Nrm s xs ∧ InB 65536 ys ∧ Trd ys ∧ ys.length ≤ 1048576) ∧ wc = 0 ∧ wi = 0 ∧ sv 4294967296 s xs = cl 128 (sv 65536 t ys) ∧ c = clC 128 (sv 65536 t ys) ∧ i = clI 128 (sv 65536 t ys)) ∧ K (.c (.b true))
  | _ => False
theorem gRz_of {t : Bool} {ys : List Int} (h1 : InB 65536 ys) (h2 : Trd ys) : gRz (sv 65536 t ys) t = [.b t, .ints .i64 ys] := by
  obtain ⟨e1, e2⟩ := sv_ys (s := t) h1 h2
  rw [e2, gRz_eq, ← e1]
def kd2 : Cfg := addT 74 yieldsCT kd1
theorem kd2_ok : TblOk Try.prog kd2 := q_I kd1_ok Try.func74 fun l K h => by
  split at h
  · rename_i s xs c i t ys wc wi
    obtain ⟨⟨⟨h1, h2, h3, h4⟩, rfl, rfl, h5, rfl, rfl⟩, h⟩ := h
    obtain ⟨e1, e2⟩ := Nrm_eq h1
    have := yields_ok (sv 65536 t ys) t (by rw [sv_abs, dg_V 65536 (by omega) ys h2 h3]; exact h4)
    rw [gRz_of h2 h3, ← h5, gI, ← e1, ← e2] at this
    exact ⟨_, this.plain rfl, h⟩
  · exact h.elim
attribute [go_sem] yieldsCT

end Go.Proofs.Ytgogdabniebplaa
