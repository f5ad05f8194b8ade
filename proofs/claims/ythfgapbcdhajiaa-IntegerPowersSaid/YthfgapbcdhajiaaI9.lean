import Derived.Test.YthfgapbcdhajiaaI8
namespace Go.Proofs.Ythfgapbcdhajiaa
set_option linter.unusedSimpArgs false
set_option linter.unusedVariables false
open Go.Abs Go.Proofs.NatL

theorem fit_sgn {k r : Nat} (h : r < 2 ^ (k + 1)) : FitK k (sgn k r) ∧ lo (k + 1) (sgn k r) = r := by
  have h3 : 2 ^ (k + 1) = 2 * 2 ^ k := by rw [Nat.pow_succ]; omega
  unfold sgn
  split
  · rename_i h1
    have hf : FitK k ((r : Int) - ((2 ^ (k + 1) : Nat) : Int)) := by unfold FitK; omega
    refine ⟨hf, ?_⟩
    have h2 := lo_eq (hf.mono (show k ≤ k + 1 by omega))
    rw [show sgB ((r : Int) - ((2 ^ (k + 1) : Nat) : Int)) = 1 by unfold sgB; rw [if_pos (by omega)]] at h2
    omega
  · rename_i h1
    exact ⟨by unfold FitK; omega, lo_nat h⟩
def ibackCT : CT := mkCT [.inl (some (.ints .u32 []))] false fun l K => match l with
  | [.inl (.ints .u32 xs)] => (0 < xs.length ∧ xs.length ≤ 1000 ∧ InB 4294967296 xs) ∧ K (rCz (sgn (32 * xs.length - 1) (V 4294967296 xs)))
  | _ => False
def iu7 : Cfg := addT 116 ibackCT iu6
theorem iu7_ok : TblOk Try.prog iu7 := q_I iu6_ok Try.func116 fun l K h => by
  split at h
  · rename_i xs
    obtain ⟨⟨h1, h2, h3⟩, h⟩ := h
    obtain ⟨n, hn⟩ : ∃ n, xs.length = n + 1 := ⟨xs.length - 1, by omega⟩
    have hp := pad_eq 4294967296 (by omega) xs h3
    have hv := V_lt 4294967296 (by omega) xs h3
    rw [hn] at h hp hv
    rw [pow32, show 32 * (n + 1) = 32 * n + 31 + 1 by omega] at hv
    rw [show 32 * (n + 1) - 1 = 32 * n + 31 by omega] at h
    obtain ⟨f1, f2⟩ := fit_sgn hv
    have := iback_ret n (sgn (32 * n + 31) (V 4294967296 xs)) (by omega) f1
    rw [show 32 * n + 32 = 32 * n + 31 + 1 by omega, f2, ← hp] at this
    exact ⟨_, this, h⟩
  · exact h.elim
attribute [go_sem] ibackCT rCz

def gAnd (x y : Int) : Int := ((x.toNat &&& y.toNat : Nat) : Int)
def gOr (x y : Int) : Int := ((x.toNat ||| y.toNat : Nat) : Int)
def gXor (x y : Int) : Int := ((x.toNat ^^^ y.toNat : Nat) : Int)
def gNot (x _ : Int) : Int := 4294967295 - x
def clsCT (g : Int → Int → Int) : CT := mkCT [] true fun l K => match l with
  | [.inl (.i .u32 x), .inl (.i .u32 y)] => (0 ≤ x ∧ x < 4294967296 ∧ 0 ≤ y ∧ y < 4294967296) ∧ K (.c (.i .u32 (g x y)))
  | _ => False
theorem clsAnd_ret (x y : Int) (h1 : 0 ≤ x) (h2 : x < 4294967296) (h3 : 0 ≤ y) (h4 : y < 4294967296) : Ret Try.prog 93 false [.inl (.i .u32 x), .inl (.i .u32 y)] (.c (.i .u32 (gAnd x y))) := by
  have e : bitI .and .u32 x y = gAnd x y := by
    rw [and_u32]
    unfold gAnd
    congr 1
    simp [ofInt32 x h1 h2, ofInt32 y h3 h4]
  (refine q_H Try.func93 (fun F => ?_); simp only [q_z,q_y,Try.ntmps93,Try.results93])
  repeat' (first|(with_reducible first|apply q_a|apply q_b|apply q_c|apply q_d|apply q_e|apply q_f|apply q_g|apply q_h|apply q_i|apply q_j|apply q_k|apply q_m|apply q_n|apply q_o|apply q_p|refine q_l ?_)|((with_reducible first|refine q_q cf0_ok fun K hK=>?_|refine q_r cf0_ok fun K hK=>?_);simp (maxSteps:=2000000) only [go_sem,↓reduceIte,reduceCtorEq,Nat.reduceLeDiff,Nat.reduceLT,Nat.reduceBEq,Nat.reduceAdd,e];(repeat1' with_reducible first|apply And.intro|intro _|(refine hK _ ?_;clear hK K))<;>(try (clear hK K;exact q_u)))|(with_reducible refine q_s ?_;(first|apply q_J|apply q_K|apply q_L|apply q_M|apply q_N|apply q_O)<;>try intro _)|with_reducible refine q_t ?_)
  exact q_A rfl
def iv1 : Cfg := addT 93 (clsCT gAnd) iu7
theorem iv1_ok : TblOk Try.prog iv1 := q_I iu7_ok Try.func93 fun l K h => by
  split at h
  · exact ⟨_, (clsAnd_ret _ _ h.1.1 h.1.2.1 h.1.2.2.1 h.1.2.2.2).plain rfl, h.2⟩
  · exact h.elim
theorem clsOr_ret (x y : Int) (h1 : 0 ≤ x) (h2 : x < 4294967296) (h3 : 0 ≤ y) (h4 : y < 4294967296) : Ret Try.prog 94 false [.inl (.i .u32 x), .inl (.i .u32 y)] (.c (.i .u32 (gOr x y))) := by
  have e : bitI .or .u32 x y = gOr x y := by
    rw [or_u32]
    unfold gOr
    congr 1
    simp [ofInt32 x h1 h2, ofInt32 y h3 h4]
  (refine q_H Try.func94 (fun F => ?_); simp only [q_z,q_y,Try.ntmps94,Try.results94])
  repeat' (first|(with_reducible first|apply q_a|apply q_b|apply q_c|apply q_d|apply q_e|apply q_f|apply q_g|apply q_h|apply q_i|apply q_j|apply q_k|apply q_m|apply q_n|apply q_o|apply q_p|refine q_l ?_)|((with_reducible first|refine q_q cf0_ok fun K hK=>?_|refine q_r cf0_ok fun K hK=>?_);simp (maxSteps:=2000000) only [go_sem,↓reduceIte,reduceCtorEq,Nat.reduceLeDiff,Nat.reduceLT,Nat.reduceBEq,Nat.reduceAdd,e];(repeat1' with_reducible first|apply And.intro|intro _|(refine hK _ ?_;clear hK K))<;>(try (clear hK K;exact q_u)))|(with_reducible refine q_s ?_;(first|apply q_J|apply q_K|apply q_L|apply q_M|apply q_N|apply q_O)<;>try intro _)|with_reducible refine q_t ?_)
  exact q_A rfl
def iv2 : Cfg := addT 94 (clsCT gOr) iv1
theorem iv2_ok : TblOk Try.prog iv2 := q_I iv1_ok Try.func94 fun l K h => by
  split at h
  · exact ⟨_, (clsOr_ret _ _ h.1.1 h.1.2.1 h.1.2.2.1 h.1.2.2.2).plain rfl, h.2⟩
  · exact h.elim
theorem clsXor_ret (x y : Int) (h1 : 0 ≤ x) (h2 : x < 4294967296) (h3 : 0 ≤ y) (h4 : y < 4294967296) : Ret Try.prog 95 false [.inl (.i .u32 x), .inl (.i .u32 y)] (.c (.i .u32 (gXor x y))) := by
  have e : bitI .xor .u32 x y = gXor x y := by
    rw [xor_u32]
    unfold gXor
    congr 1
    simp [ofInt32 x h1 h2, ofInt32 y h3 h4]
  (refine q_H Try.func95 (fun F => ?_); simp only [q_z,q_y,Try.ntmps95,Try.results95])
  repeat' (first|(with_reducible first|apply q_a|apply q_b|apply q_c|apply q_d|apply q_e|apply q_f|apply q_g|apply q_h|apply q_i|apply q_j|apply q_k|apply q_m|apply q_n|apply q_o|apply q_p|refine q_l ?_)|((with_reducible first|refine q_q cf0_ok fun K hK=>?_|refine q_r cf0_ok fun K hK=>?_);simp (maxSteps:=2000000) only [go_sem,↓reduceIte,reduceCtorEq,Nat.reduceLeDiff,Nat.reduceLT,Nat.reduceBEq,Nat.reduceAdd,e];(repeat1' with_reducible first|apply And.intro|intro _|(refine hK _ ?_;clear hK K))<;>(try (clear hK K;exact q_u)))|(with_reducible refine q_s ?_;(first|apply q_J|apply q_K|apply q_L|apply q_M|apply q_N|apply q_O)<;>try intro _)|with_reducible refine q_t ?_)
  exact q_A rfl
def iv3 : Cfg := addT 95 (clsCT gXor) iv2
theorem iv3_ok : TblOk Try.prog iv3 := q_I iv2_ok Try.func95 fun l K h => by
  split at h
  · exact ⟨_, (clsXor_ret _ _ h.1.1 h.1.2.1 h.1.2.2.1 h.1.2.2.2).plain rfl, h.2⟩
  · exact h.elim
theorem clsNot_ret (x y : Int) (h1 : 0 ≤ x) (h2 : x < 4294967296) : Ret Try.prog 96 false [.inl (.i .u32 x), .inl (.i .u32 y)] (.c (.i .u32 (gNot x y))) := by
  obtain ⟨n, rfl⟩ : ∃ n : Nat, x = n := ⟨x.toNat, by omega⟩
  have e := not_u32 n (by omega)
  have e2 : ((4294967295 - n : Nat) : Int) = gNot n y := by unfold gNot; omega
  (refine q_H Try.func96 (fun F => ?_); simp only [q_z,q_y,Try.ntmps96,Try.results96])
  repeat' (first|(with_reducible first|apply q_a|apply q_b|apply q_c|apply q_d|apply q_e|apply q_f|apply q_g|apply q_h|apply q_i|apply q_j|apply q_k|apply q_m|apply q_n|apply q_o|apply q_p|refine q_l ?_)|((with_reducible first|refine q_q cf0_ok fun K hK=>?_|refine q_r cf0_ok fun K hK=>?_);simp (maxSteps:=2000000) only [go_sem,↓reduceIte,reduceCtorEq,Nat.reduceLeDiff,Nat.reduceLT,Nat.reduceBEq,Nat.reduceAdd,e, e2];(repeat1' with_reducible first|apply And.intro|intro _|(refine hK _ ?_;clear hK K))<;>(try (clear hK K;exact q_u)))|(with_reducible refine q_s ?_;(first|apply q_J|apply q_K|apply q_L|apply q_M|apply q_N|apply q_O)<;>try intro _)|with_reducible refine q_t ?_)
  exact q_A rfl
def iv4 : Cfg := addT 96 (clsCT gNot) iv3
theorem iv4_ok : TblOk Try.prog iv4 := q_I iv3_ok Try.func96 fun l K h => by
  split at h
  · exact ⟨_, (clsNot_ret _ _ h.1.1 h.1.2.1).plain rfl, h.2⟩
  · exact h.elim
attribute [go_sem] clsCT

theorem zip_pad {g : Int → Int → Int} {xs ys : List Int} {n r : Nat} (hl : (List.zipWith g xs ys).length = n) (hi : InB 4294967296 (List.zipWith g xs ys)) (hv : V 4294967296 (List.zipWith g xs ys) = r) : List.zipWith g xs ys = pad 4294967296 n r := InB_map_pad hi hl hv
theorem V_notZ : ∀ (xs ys : List Int), xs.length = ys.length → InB 4294967296 xs → V 4294967296 (List.zipWith gNot xs ys) + (V 4294967296 xs + 1) = 4294967296 ^ xs.length ∧ InB 4294967296 (List.zipWith gNot xs ys)
  | [], [], _, _ => ⟨rfl, InB_nil _⟩
  | x :: xs, y :: ys, h, hx => by
    have h1 := hx x (List.mem_cons_self ..)
    obtain ⟨ih, ih2⟩ := V_notZ xs ys (by simpa using h) (fun z hz => hx z (List.mem_cons_of_mem _ hz))
    have e : (gNot x y).toNat + x.toNat = 4294967295 := by unfold gNot; omega
    refine ⟨?_, fun z hz => ?_⟩
    · simp only [List.zipWith_cons_cons, V, List.length_cons, Nat.pow_succ]
      rw [← ih]; omega
    · rw [List.zipWith_cons_cons, List.mem_cons] at hz
      rcases hz with rfl | hz
      · unfold gNot; omega
      · exact ih2 z hz
theorem fit_max {a b : Int} {n : Nat} (h1 : (dg 4294967296 a.natAbs).length ≤ n) (h2 : (dg 4294967296 b.natAbs).length ≤ n) : FitK (32 * n) a ∧ FitK (32 * n) b := ⟨fitK_len h1, fitK_len h2⟩
theorem opAnd {op : Nat → Nat → Nat} (ho : BitOp op) {a b : Int} {n : Nat} (ha : FitK (32 * n) a) (hb : FitK (32 * n) b) :
    List.zipWith (fun x y => ((op x.toNat y.toNat : Nat) : Int)) (pad 4294967296 (n + 1) (lo (32 * (n + 1)) a)) (pad 4294967296 (n + 1) (lo (32 * (n + 1)) b)) = pad 4294967296 (n + 1) (lo (32 * (n + 1)) (zop op a b)) := by
  have ha' := ha.mono (show 32 * n ≤ 32 * (n + 1) by omega)
  have hb' := hb.mono (show 32 * n ≤ 32 * (n + 1) by omega)
  have i1 := InB_pad 4294967296 (n + 1) (lo (32 * (n + 1)) a) (by omega)
  have i2 := InB_pad 4294967296 (n + 1) (lo (32 * (n + 1)) b) (by omega)
  refine InB_map_pad (InB_op ho _ _ i1 i2) (by simp [pad_len]) ?_
  rw [V_op ho _ _ (by simp [pad_len]) i1 i2, lo_zop ho ha' hb', V_pad _ _ _ (by omega) (by rw [pow32]; exact lo_lt _ _), V_pad _ _ _ (by omega) (by rw [pow32]; exact lo_lt _ _)]
theorem opNot {a b : Int} {n : Nat} (ha : FitK (32 * n) a) :
    List.zipWith gNot (pad 4294967296 (n + 1) (lo (32 * (n + 1)) a)) (pad 4294967296 (n + 1) (lo (32 * (n + 1)) b)) = pad 4294967296 (n + 1) (lo (32 * (n + 1)) (-a - 1)) := by
  have ha' := ha.mono (show 32 * n ≤ 32 * (n + 1) by omega)
  have i1 := InB_pad 4294967296 (n + 1) (lo (32 * (n + 1)) a) (by omega)
  obtain ⟨v1, v2⟩ := V_notZ (pad 4294967296 (n + 1) (lo (32 * (n + 1)) a)) (pad 4294967296 (n + 1) (lo (32 * (n + 1)) b)) (by simp [pad_len]) i1
  refine InB_map_pad v2 (by simp [pad_len]) ?_
  rw [V_pad _ _ _ (by omega) (by rw [pow32]; exact lo_lt _ _), pad_len, pow32] at v1
  rw [lo_not ha']; omega

def ibw : Cfg := listT [(61, icheckCT), (115, itwosCT), (116, ibackCT), (93, (clsCT gAnd)), (94, (clsCT gOr)), (95, (clsCT gXor)), (96, (clsCT gNot))] [27]
theorem ibw_ok : TblOk Try.prog ibw := listT_ok (big := iv4) iv4_ok ⟨rfl, rfl, rfl, rfl, rfl, rfl, rfl, trivial⟩
attribute [go_sem] ibw
set_option maxRecDepth 100000 in
set_option maxHeartbeats 3200000 in
theorem ibitAnd_ok (a b : Int) (la : (dg 4294967296 a.natAbs).length ≤ 128) (lb : (dg 4294967296 b.natAbs).length ≤ 128) :
    Ret Try.prog 92 false [.inr (gI a), .inr (gI b), .inl (.a (.func (.func 93) #[] #[]))] (rCz (zop (fun x y => x &&& y) a b)) := by
  have oa := (okZ_g a).trans (decide_eq_true la)
  have ob := (okZ_g b).trans (decide_eq_true lb)
  obtain ⟨n, hn, n1, n2, n3⟩ : ∃ n : Nat, n = max (dg 4294967296 a.natAbs).length (dg 4294967296 b.natAbs).length ∧ (dg 4294967296 a.natAbs).length ≤ n ∧ (dg 4294967296 b.natAbs).length ≤ n ∧ n ≤ 128 := ⟨_, rfl, by omega, by omega, by omega⟩
  have hmax : max ((dg 4294967296 a.natAbs).length : Int) ((dg 4294967296 b.natAbs).length : Int) = (n : Int) := by omega
  have f1 := fitK_len n1
  have f2 := fitK_len n2
  have hX : twv (decide (a < 0)) a.natAbs (n + 1) = lo (32 * (n + 1)) a := by
    have := twv_lo (s := decide (a < 0)) (m := a.natAbs) (n := n + 1) (fun h => by have := of_decide_eq_true h; omega) (by rw [sg_self]; exact f1.mono (by omega))
    rw [this, sg_self]
  have hY : twv (decide (b < 0)) b.natAbs (n + 1) = lo (32 * (n + 1)) b := by
    have := twv_lo (s := decide (b < 0)) (m := b.natAbs) (n := n + 1) (fun h => by have := of_decide_eq_true h; omega) (by rw [sg_self]; exact f2.mono (by omega))
    rw [this, sg_self]
  have hR : List.zipWith gAnd (pad 4294967296 (n + 1) (lo (32 * (n + 1)) a)) (pad 4294967296 (n + 1) (lo (32 * (n + 1)) b)) = _ := opAnd andOp f1 f2
  have hz : FitK (32 * n + 31) (zop (fun x y => x &&& y) a b) := by
    exact (zop_fit andOp f1 f2).mono (by omega)
  have hzs := (sgn_lo hz).1
  have hVR := V_pad 4294967296 (n + 1) (lo (32 * (n + 1)) (zop (fun x y => x &&& y) a b)) (by omega) (by rw [pow32]; exact lo_lt _ _)
  have hiR := InB_pad 4294967296 (n + 1) (lo (32 * (n + 1)) (zop (fun x y => x &&& y) a b)) (by omega)
  have hlR := pad_len 4294967296 (n + 1) (lo (32 * (n + 1)) (zop (fun x y => x &&& y) a b))
  have hiX := InB_pad 4294967296 (n + 1) (lo (32 * (n + 1)) a) (by omega)
  have hlX := pad_len 4294967296 (n + 1) (lo (32 * (n + 1)) a)
  have hiY := InB_pad 4294967296 (n + 1) (lo (32 * (n + 1)) b) (by omega)
  have hlY := pad_len 4294967296 (n + 1) (lo (32 * (n + 1)) b)
  have he1 : 32 * (n + 1) - 1 = 32 * n + 31 := by omega
  have he2 : 32 * (n + 1) = 32 * n + 31 + 1 := by omega
  have hzs2 : sgn (32 * (n + 1) - 1) (lo (32 * (n + 1)) (zop (fun x y => x &&& y) a b)) = zop (fun x y => x &&& y) a b := by rw [he1, he2]; exact hzs
  generalize pad 4294967296 (n + 1) (lo (32 * (n + 1)) (zop (fun x y => x &&& y) a b)) = R at *
  (refine q_H Try.func92 (fun F => ?_); simp only [q_z,q_y,Try.ntmps92,Try.results92])
  repeat' (first|(with_reducible first|apply q_a|apply q_b|apply q_c|apply q_d|apply q_e|apply q_f|apply q_g|apply q_h|apply q_i|apply q_j|apply q_k|apply q_m|apply q_n|apply q_o|apply q_p|refine q_l ?_)|((with_reducible first|refine q_q ibw_ok fun K hK=>?_|refine q_r ibw_ok fun K hK=>?_);simp (maxSteps:=2000000) only [go_sem,↓reduceIte,reduceCtorEq,Nat.reduceLeDiff,Nat.reduceLT,Nat.reduceBEq,Nat.reduceAdd,oa, ob, hmax, hX, hY, hlX];(repeat1' with_reducible first|apply And.intro|(intro _;try exact q_v)|(refine hK _ ?_;clear hK K))<;>(try (clear hK K;exact q_u)))|(with_reducible refine q_s ?_;(first|apply q_J|apply q_K|apply q_L|apply q_M|apply q_N|apply q_O)<;>try (intro _;try exact q_v))|with_reducible refine q_t ?_)
  all_goals first | omega | skip
  generalize pad 4294967296 (n + 1) (lo (32 * (n + 1)) a) = X at *
  generalize pad 4294967296 (n + 1) (lo (32 * (n + 1)) b) = Y at *
  refine q_G (ι := { i : Nat // i ≤ n + 1 }) (fun i => ⟨59, [(2, .c (.a (.func (.func 93) #[] #[]))), (6, .bx 2 0), (7, .bx 3 0), (10, .own 5 0), (11, .own 6 0), (37, .c (.i .i64 ((n + 1 : Nat) : Int))), (38, .c (.i .i64 (i.1 : Nat)))], ⟨[(3, [.c (.i .i64 0), .c (.i .i64 0)]), (2, [.c (.b false), .c .nil])], [(6, ⟨0, 73, 1, .ints .u32 Y⟩), (5, ⟨0, 73, 1, .ints .u32 (mixL R X i.1)⟩)], []⟩, 7⟩) (fun i => n + 1 - i.1) ⟨0, by omega⟩ ?_ ?_
  · simp only [mixL_zero]
    exact q_D
  rintro ⟨i, g1⟩
  simp only at g1 ⊢
  rcases Nat.lt_or_ge i (n + 1) with hi | hi
  · have hg := mixL_get (rs := R) (xs := X) (i := i) (0 : Int) (by rw [hlR, hlX]) (by omega)
    have hgl := mixL_len (rs := R) (xs := X) (i := i) (by rw [hlR, hlX]) (by omega)
    rw [hlX] at hgl
    have hbx := InB_getD (B := 4294967296) (by omega) hiX i
    have hby := InB_getD (B := 4294967296) (by omega) hiY i
    have hget : R.getD i 0 = gAnd (X.getD i 0) (Y.getD i 0) := by
      rw [← hR]
      simp [List.getD_eq_getElem?_getD, List.getElem?_zipWith, List.getElem?_eq_getElem (show i < X.length by omega), List.getElem?_eq_getElem (show i < Y.length by omega)]
    have hst := mixL_set (rs := R) (xs := X) (i := i) (0 : Int) (by rw [hlR, hlX]) (by omega) _ hget.symm
    repeat' (first|(with_reducible first|apply q_a|apply q_b|apply q_c|apply q_d|apply q_e|apply q_f|apply q_g|apply q_h|apply q_i|apply q_j|apply q_k|apply q_m|apply q_n|apply q_o|apply q_p|refine q_l ?_)|((with_reducible first|refine q_q ibw_ok fun K hK=>?_|refine q_r ibw_ok fun K hK=>?_);simp (maxSteps:=2000000) only [go_sem,↓reduceIte,reduceCtorEq,Nat.reduceLeDiff,Nat.reduceLT,Nat.reduceBEq,Nat.reduceAdd,hg, hgl, hlY, hst];(repeat1' with_reducible first|apply And.intro|(intro _;try exact q_v)|(refine hK _ ?_;clear hK K))<;>(try (clear hK K;exact q_u)))|(with_reducible refine q_s ?_;(first|apply q_J|apply q_K|apply q_L|apply q_M|apply q_N|apply q_O)<;>try (intro _;try exact q_v))|with_reducible refine q_t ?_)
    all_goals first | omega | skip
    refine q_F ⟨i + 1, by omega⟩ ?_ (by simp only; omega)
    exact q_D
  · have hi' : i = n + 1 := by omega
    subst hi'
    have hall := mixL_all R X (n + 1) (by omega) (by omega)
    simp only [hall]
    repeat' (first|(with_reducible first|apply q_a|apply q_b|apply q_c|apply q_d|apply q_e|apply q_f|apply q_g|apply q_h|apply q_i|apply q_j|apply q_k|apply q_m|apply q_n|apply q_o|apply q_p|refine q_l ?_)|((with_reducible first|refine q_q ibw_ok fun K hK=>?_|refine q_r ibw_ok fun K hK=>?_);simp (maxSteps:=2000000) only [go_sem,↓reduceIte,reduceCtorEq,Nat.reduceLeDiff,Nat.reduceLT,Nat.reduceBEq,Nat.reduceAdd,hlR, hVR, hzs2];(repeat1' with_reducible first|apply And.intro|(intro _;try exact q_v)|(refine hK _ ?_;clear hK K))<;>(try (clear hK K;exact q_u)))|(with_reducible refine q_s ?_;(first|apply q_J|apply q_K|apply q_L|apply q_M|apply q_N|apply q_O)<;>try (intro _;try exact q_v))|with_reducible refine q_t ?_)
    all_goals first | omega | assumption | exact q_A rfl | skip
set_option maxRecDepth 100000 in
set_option maxHeartbeats 3200000 in
theorem ibitOr_ok (a b : Int) (la : (dg 4294967296 a.natAbs).length ≤ 128) (lb : (dg 4294967296 b.natAbs).length ≤ 128) :
    Ret Try.prog 92 false [.inr (gI a), .inr (gI b), .inl (.a (.func (.func 94) #[] #[]))] (rCz (zop (fun x y => x ||| y) a b)) := by
  have oa := (okZ_g a).trans (decide_eq_true la)
  have ob := (okZ_g b).trans (decide_eq_true lb)
  obtain ⟨n, hn, n1, n2, n3⟩ : ∃ n : Nat, n = max (dg 4294967296 a.natAbs).length (dg 4294967296 b.natAbs).length ∧ (dg 4294967296 a.natAbs).length ≤ n ∧ (dg 4294967296 b.natAbs).length ≤ n ∧ n ≤ 128 := ⟨_, rfl, by omega, by omega, by omega⟩
  have hmax : max ((dg 4294967296 a.natAbs).length : Int) ((dg 4294967296 b.natAbs).length : Int) = (n : Int) := by omega
  have f1 := fitK_len n1
  have f2 := fitK_len n2
  have hX : twv (decide (a < 0)) a.natAbs (n + 1) = lo (32 * (n + 1)) a := by
    have := twv_lo (s := decide (a < 0)) (m := a.natAbs) (n := n + 1) (fun h => by have := of_decide_eq_true h; omega) (by rw [sg_self]; exact f1.mono (by omega))
    rw [this, sg_self]
  have hY : twv (decide (b < 0)) b.natAbs (n + 1) = lo (32 * (n + 1)) b := by
    have := twv_lo (s := decide (b < 0)) (m := b.natAbs) (n := n + 1) (fun h => by have := of_decide_eq_true h; omega) (by rw [sg_self]; exact f2.mono (by omega))
    rw [this, sg_self]
  have hR : List.zipWith gOr (pad 4294967296 (n + 1) (lo (32 * (n + 1)) a)) (pad 4294967296 (n + 1) (lo (32 * (n + 1)) b)) = _ := opAnd orOp f1 f2
  have hz : FitK (32 * n + 31) (zop (fun x y => x ||| y) a b) := by
    exact (zop_fit orOp f1 f2).mono (by omega)
  have hzs := (sgn_lo hz).1
  have hVR := V_pad 4294967296 (n + 1) (lo (32 * (n + 1)) (zop (fun x y => x ||| y) a b)) (by omega) (by rw [pow32]; exact lo_lt _ _)
  have hiR := InB_pad 4294967296 (n + 1) (lo (32 * (n + 1)) (zop (fun x y => x ||| y) a b)) (by omega)
  have hlR := pad_len 4294967296 (n + 1) (lo (32 * (n + 1)) (zop (fun x y => x ||| y) a b))
  have hiX := InB_pad 4294967296 (n + 1) (lo (32 * (n + 1)) a) (by omega)
  have hlX := pad_len 4294967296 (n + 1) (lo (32 * (n + 1)) a)
  have hiY := InB_pad 4294967296 (n + 1) (lo (32 * (n + 1)) b) (by omega)
  have hlY := pad_len 4294967296 (n + 1) (lo (32 * (n + 1)) b)
  have he1 : 32 * (n + 1) - 1 = 32 * n + 31 := by omega
  have he2 : 32 * (n + 1) = 32 * n + 31 + 1 := by omega
  have hzs2 : sgn (32 * (n + 1) - 1) (lo (32 * (n + 1)) (zop (fun x y => x ||| y) a b)) = zop (fun x y => x ||| y) a b := by rw [he1, he2]; exact hzs
  generalize pad 4294967296 (n + 1) (lo (32 * (n + 1)) (zop (fun x y => x ||| y) a b)) = R at *
  (refine q_H Try.func92 (fun F => ?_); simp only [q_z,q_y,Try.ntmps92,Try.results92])
  repeat' (first|(with_reducible first|apply q_a|apply q_b|apply q_c|apply q_d|apply q_e|apply q_f|apply q_g|apply q_h|apply q_i|apply q_j|apply q_k|apply q_m|apply q_n|apply q_o|apply q_p|refine q_l ?_)|((with_reducible first|refine q_q ibw_ok fun K hK=>?_|refine q_r ibw_ok fun K hK=>?_);simp (maxSteps:=2000000) only [go_sem,↓reduceIte,reduceCtorEq,Nat.reduceLeDiff,Nat.reduceLT,Nat.reduceBEq,Nat.reduceAdd,oa, ob, hmax, hX, hY, hlX];(repeat1' with_reducible first|apply And.intro|(intro _;try exact q_v)|(refine hK _ ?_;clear hK K))<;>(try (clear hK K;exact q_u)))|(with_reducible refine q_s ?_;(first|apply q_J|apply q_K|apply q_L|apply q_M|apply q_N|apply q_O)<;>try (intro _;try exact q_v))|with_reducible refine q_t ?_)
  all_goals first | omega | skip
  generalize pad 4294967296 (n + 1) (lo (32 * (n + 1)) a) = X at *
  generalize pad 4294967296 (n + 1) (lo (32 * (n + 1)) b) = Y at *
  refine q_G (ι := { i : Nat // i ≤ n + 1 }) (fun i => ⟨59, [(2, .c (.a (.func (.func 94) #[] #[]))), (6, .bx 2 0), (7, .bx 3 0), (10, .own 5 0), (11, .own 6 0), (37, .c (.i .i64 ((n + 1 : Nat) : Int))), (38, .c (.i .i64 (i.1 : Nat)))], ⟨[(3, [.c (.i .i64 0), .c (.i .i64 0)]), (2, [.c (.b false), .c .nil])], [(6, ⟨0, 73, 1, .ints .u32 Y⟩), (5, ⟨0, 73, 1, .ints .u32 (mixL R X i.1)⟩)], []⟩, 7⟩) (fun i => n + 1 - i.1) ⟨0, by omega⟩ ?_ ?_
  · simp only [mixL_zero]
    exact q_D
  rintro ⟨i, g1⟩
  simp only at g1 ⊢
  rcases Nat.lt_or_ge i (n + 1) with hi | hi
  · have hg := mixL_get (rs := R) (xs := X) (i := i) (0 : Int) (by rw [hlR, hlX]) (by omega)
    have hgl := mixL_len (rs := R) (xs := X) (i := i) (by rw [hlR, hlX]) (by omega)
    rw [hlX] at hgl
    have hbx := InB_getD (B := 4294967296) (by omega) hiX i
    have hby := InB_getD (B := 4294967296) (by omega) hiY i
    have hget : R.getD i 0 = gOr (X.getD i 0) (Y.getD i 0) := by
      rw [← hR]
      simp [List.getD_eq_getElem?_getD, List.getElem?_zipWith, List.getElem?_eq_getElem (show i < X.length by omega), List.getElem?_eq_getElem (show i < Y.length by omega)]
    have hst := mixL_set (rs := R) (xs := X) (i := i) (0 : Int) (by rw [hlR, hlX]) (by omega) _ hget.symm
    repeat' (first|(with_reducible first|apply q_a|apply q_b|apply q_c|apply q_d|apply q_e|apply q_f|apply q_g|apply q_h|apply q_i|apply q_j|apply q_k|apply q_m|apply q_n|apply q_o|apply q_p|refine q_l ?_)|((with_reducible first|refine q_q ibw_ok fun K hK=>?_|refine q_r ibw_ok fun K hK=>?_);simp (maxSteps:=2000000) only [go_sem,↓reduceIte,reduceCtorEq,Nat.reduceLeDiff,Nat.reduceLT,Nat.reduceBEq,Nat.reduceAdd,hg, hgl, hlY, hst];(repeat1' with_reducible first|apply And.intro|(intro _;try exact q_v)|(refine hK _ ?_;clear hK K))<;>(try (clear hK K;exact q_u)))|(with_reducible refine q_s ?_;(first|apply q_J|apply q_K|apply q_L|apply q_M|apply q_N|apply q_O)<;>try (intro _;try exact q_v))|with_reducible refine q_t ?_)
    all_goals first | omega | skip
    refine q_F ⟨i + 1, by omega⟩ ?_ (by simp only; omega)
    exact q_D
  · have hi' : i = n + 1 := by omega
    subst hi'
    have hall := mixL_all R X (n + 1) (by omega) (by omega)
    simp only [hall]
    repeat' (first|(with_reducible first|apply q_a|apply q_b|apply q_c|apply q_d|apply q_e|apply q_f|apply q_g|apply q_h|apply q_i|apply q_j|apply q_k|apply q_m|apply q_n|apply q_o|apply q_p|refine q_l ?_)|((with_reducible first|refine q_q ibw_ok fun K hK=>?_|refine q_r ibw_ok fun K hK=>?_);simp (maxSteps:=2000000) only [go_sem,↓reduceIte,reduceCtorEq,Nat.reduceLeDiff,Nat.reduceLT,Nat.reduceBEq,Nat.reduceAdd,hlR, hVR, hzs2];(repeat1' with_reducible first|apply And.intro|(intro _;try exact q_v)|(refine hK _ ?_;clear hK K))<;>(try (clear hK K;exact q_u)))|(with_reducible refine q_s ?_;(first|apply q_J|apply q_K|apply q_L|apply q_M|apply q_N|apply q_O)<;>try (intro _;try exact q_v))|with_reducible refine q_t ?_)
    all_goals first | omega | assumption | exact q_A rfl | skip
set_option maxRecDepth 100000 in
set_option maxHeartbeats 3200000 in
theorem ibitXor_ok (a b : Int) (la : (dg 4294967296 a.natAbs).length ≤ 128) (lb : (dg 4294967296 b.natAbs).length ≤ 128) :
    Ret Try.prog 92 false [.inr (gI a), .inr (gI b), .inl (.a (.func (.func 95) #[] #[]))] (rCz (zop (fun x y => x ^^^ y) a b)) := by
  have oa := (okZ_g a).trans (decide_eq_true la)
  have ob := (okZ_g b).trans (decide_eq_true lb)
  obtain ⟨n, hn, n1, n2, n3⟩ : ∃ n : Nat, n = max (dg 4294967296 a.natAbs).length (dg 4294967296 b.natAbs).length ∧ (dg 4294967296 a.natAbs).length ≤ n ∧ (dg 4294967296 b.natAbs).length ≤ n ∧ n ≤ 128 := ⟨_, rfl, by omega, by omega, by omega⟩
  have hmax : max ((dg 4294967296 a.natAbs).length : Int) ((dg 4294967296 b.natAbs).length : Int) = (n : Int) := by omega
  have f1 := fitK_len n1
  have f2 := fitK_len n2
  have hX : twv (decide (a < 0)) a.natAbs (n + 1) = lo (32 * (n + 1)) a := by
    have := twv_lo (s := decide (a < 0)) (m := a.natAbs) (n := n + 1) (fun h => by have := of_decide_eq_true h; omega) (by rw [sg_self]; exact f1.mono (by omega))
    rw [this, sg_self]
  have hY : twv (decide (b < 0)) b.natAbs (n + 1) = lo (32 * (n + 1)) b := by
    have := twv_lo (s := decide (b < 0)) (m := b.natAbs) (n := n + 1) (fun h => by have := of_decide_eq_true h; omega) (by rw [sg_self]; exact f2.mono (by omega))
    rw [this, sg_self]
  have hR : List.zipWith gXor (pad 4294967296 (n + 1) (lo (32 * (n + 1)) a)) (pad 4294967296 (n + 1) (lo (32 * (n + 1)) b)) = _ := opAnd xorOp f1 f2
  have hz : FitK (32 * n + 31) (zop (fun x y => x ^^^ y) a b) := by
    exact (zop_fit xorOp f1 f2).mono (by omega)
  have hzs := (sgn_lo hz).1
  have hVR := V_pad 4294967296 (n + 1) (lo (32 * (n + 1)) (zop (fun x y => x ^^^ y) a b)) (by omega) (by rw [pow32]; exact lo_lt _ _)
  have hiR := InB_pad 4294967296 (n + 1) (lo (32 * (n + 1)) (zop (fun x y => x ^^^ y) a b)) (by omega)
  have hlR := pad_len 4294967296 (n + 1) (lo (32 * (n + 1)) (zop (fun x y => x ^^^ y) a b))
  have hiX := InB_pad 4294967296 (n + 1) (lo (32 * (n + 1)) a) (by omega)
  have hlX := pad_len 4294967296 (n + 1) (lo (32 * (n + 1)) a)
  have hiY := InB_pad 4294967296 (n + 1) (lo (32 * (n + 1)) b) (by omega)
  have hlY := pad_len 4294967296 (n + 1) (lo (32 * (n + 1)) b)
  have he1 : 32 * (n + 1) - 1 = 32 * n + 31 := by omega
  have he2 : 32 * (n + 1) = 32 * n + 31 + 1 := by omega
  have hzs2 : sgn (32 * (n + 1) - 1) (lo (32 * (n + 1)) (zop (fun x y => x ^^^ y) a b)) = zop (fun x y => x ^^^ y) a b := by rw [he1, he2]; exact hzs
  generalize pad 4294967296 (n + 1) (lo (32 * (n + 1)) (zop (fun x y => x ^^^ y) a b)) = R at *
  (refine q_H Try.func92 (fun F => ?_); simp only [q_z,q_y,Try.ntmps92,Try.results92])
  repeat' (first|(with_reducible first|apply q_a|apply q_b|apply q_c|apply q_d|apply q_e|apply q_f|apply q_g|apply q_h|apply q_i|apply q_j|apply q_k|apply q_m|apply q_n|apply q_o|apply q_p|refine q_l ?_)|((with_reducible first|refine q_q ibw_ok fun K hK=>?_|refine q_r ibw_ok fun K hK=>?_);simp (maxSteps:=2000000) only [go_sem,↓reduceIte,reduceCtorEq,Nat.reduceLeDiff,Nat.reduceLT,Nat.reduceBEq,Nat.reduceAdd,oa, ob, hmax, hX, hY, hlX];(repeat1' with_reducible first|apply And.intro|(intro _;try exact q_v)|(refine hK _ ?_;clear hK K))<;>(try (clear hK K;exact q_u)))|(with_reducible refine q_s ?_;(first|apply q_J|apply q_K|apply q_L|apply q_M|apply q_N|apply q_O)<;>try (intro _;try exact q_v))|with_reducible refine q_t ?_)
  all_goals first | omega | skip
  generalize pad 4294967296 (n + 1) (lo (32 * (n + 1)) a) = X at *
  generalize pad 4294967296 (n + 1) (lo (32 * (n + 1)) b) = Y at *
  refine q_G (ι := { i : Nat // i ≤ n + 1 }) (fun i => ⟨59, [(2, .c (.a (.func (.func 95) #[] #[]))), (6, .bx 2 0), (7, .bx 3 0), (10, .own 5 0), (11, .own 6 0), (37, .c (.i .i64 ((n + 1 : Nat) : Int))), (38, .c (.i .i64 (i.1 : Nat)))], ⟨[(3, [.c (.i .i64 0), .c (.i .i64 0)]), (2, [.c (.b false), .c .nil])], [(6, ⟨0, 73, 1, .ints .u32 Y⟩), (5, ⟨0, 73, 1, .ints .u32 (mixL R X i.1)⟩)], []⟩, 7⟩) (fun i => n + 1 - i.1) ⟨0, by omega⟩ ?_ ?_
  · simp only [mixL_zero]
    exact q_D
  rintro ⟨i, g1⟩
  simp only at g1 ⊢
  rcases Nat.lt_or_ge i (n + 1) with hi | hi
  · have hg := mixL_get (rs := R) (xs := X) (i := i) (0 : Int) (by rw [hlR, hlX]) (by omega)
    have hgl := mixL_len (rs := R) (xs := X) (i := i) (by rw [hlR, hlX]) (by omega)
    rw [hlX] at hgl
    have hbx := InB_getD (B := 4294967296) (by omega) hiX i
    have hby := InB_getD (B := 4294967296) (by omega) hiY i
    have hget : R.getD i 0 = gXor (X.getD i 0) (Y.getD i 0) := by
      rw [← hR]
      simp [List.getD_eq_getElem?_getD, List.getElem?_zipWith, List.getElem?_eq_getElem (show i < X.length by omega), List.getElem?_eq_getElem (show i < Y.length by omega)]
    have hst := mixL_set (rs := R) (xs := X) (i := i) (0 : Int) (by rw [hlR, hlX]) (by omega) _ hget.symm
    repeat' (first|(with_reducible first|apply q_a|apply q_b|apply q_c|apply q_d|apply q_e|apply q_f|apply q_g|apply q_h|apply q_i|apply q_j|apply q_k|apply q_m|apply q_n|apply q_o|apply q_p|refine q_l ?_)|((with_reducible first|refine q_q ibw_ok fun K hK=>?_|refine q_r ibw_ok fun K hK=>?_);simp (maxSteps:=2000000) only [go_sem,↓reduceIte,reduceCtorEq,Nat.reduceLeDiff,Nat.reduceLT,Nat.reduceBEq,Nat.reduceAdd,hg, hgl, hlY, hst];(repeat1' with_reducible first|apply And.intro|(intro _;try exact q_v)|(refine hK _ ?_;clear hK K))<;>(try (clear hK K;exact q_u)))|(with_reducible refine q_s ?_;(first|apply q_J|apply q_K|apply q_L|apply q_M|apply q_N|apply q_O)<;>try (intro _;try exact q_v))|with_reducible refine q_t ?_)
    all_goals first | omega | skip
    refine q_F ⟨i + 1, by omega⟩ ?_ (by simp only; omega)
    exact q_D
  · have hi' : i = n + 1 := by omega
    subst hi'
    have hall := mixL_all R X (n + 1) (by omega) (by omega)
    simp only [hall]
    repeat' (first|(with_reducible first|apply q_a|apply q_b|apply q_c|apply q_d|apply q_e|apply q_f|apply q_g|apply q_h|apply q_i|apply q_j|apply q_k|apply q_m|apply q_n|apply q_o|apply q_p|refine q_l ?_)|((with_reducible first|refine q_q ibw_ok fun K hK=>?_|refine q_r ibw_ok fun K hK=>?_);simp (maxSteps:=2000000) only [go_sem,↓reduceIte,reduceCtorEq,Nat.reduceLeDiff,Nat.reduceLT,Nat.reduceBEq,Nat.reduceAdd,hlR, hVR, hzs2];(repeat1' with_reducible first|apply And.intro|(intro _;try exact q_v)|(refine hK _ ?_;clear hK K))<;>(try (clear hK K;exact q_u)))|(with_reducible refine q_s ?_;(first|apply q_J|apply q_K|apply q_L|apply q_M|apply q_N|apply q_O)<;>try (intro _;try exact q_v))|with_reducible refine q_t ?_)
    all_goals first | omega | assumption | exact q_A rfl | skip
set_option maxRecDepth 100000 in
set_option maxHeartbeats 3200000 in
theorem ibitNot_ok (a b : Int) (la : (dg 4294967296 a.natAbs).length ≤ 128) (lb : (dg 4294967296 b.natAbs).length ≤ 128) :
    Ret Try.prog 92 false [.inr (gI a), .inr (gI b), .inl (.a (.func (.func 96) #[] #[]))] (rCz (-a - 1)) := by
  have oa := (okZ_g a).trans (decide_eq_true la)
  have ob := (okZ_g b).trans (decide_eq_true lb)
  obtain ⟨n, hn, n1, n2, n3⟩ : ∃ n : Nat, n = max (dg 4294967296 a.natAbs).length (dg 4294967296 b.natAbs).length ∧ (dg 4294967296 a.natAbs).length ≤ n ∧ (dg 4294967296 b.natAbs).length ≤ n ∧ n ≤ 128 := ⟨_, rfl, by omega, by omega, by omega⟩
  have hmax : max ((dg 4294967296 a.natAbs).length : Int) ((dg 4294967296 b.natAbs).length : Int) = (n : Int) := by omega
  have f1 := fitK_len n1
  have f2 := fitK_len n2
  have hX : twv (decide (a < 0)) a.natAbs (n + 1) = lo (32 * (n + 1)) a := by
    have := twv_lo (s := decide (a < 0)) (m := a.natAbs) (n := n + 1) (fun h => by have := of_decide_eq_true h; omega) (by rw [sg_self]; exact f1.mono (by omega))
    rw [this, sg_self]
  have hY : twv (decide (b < 0)) b.natAbs (n + 1) = lo (32 * (n + 1)) b := by
    have := twv_lo (s := decide (b < 0)) (m := b.natAbs) (n := n + 1) (fun h => by have := of_decide_eq_true h; omega) (by rw [sg_self]; exact f2.mono (by omega))
    rw [this, sg_self]
  have hR : List.zipWith gNot (pad 4294967296 (n + 1) (lo (32 * (n + 1)) a)) (pad 4294967296 (n + 1) (lo (32 * (n + 1)) b)) = _ := opNot (b := b) f1
  have hz : FitK (32 * n + 31) (-a - 1) := by
    exact (fitK_not f1).mono (by omega)
  have hzs := (sgn_lo hz).1
  have hVR := V_pad 4294967296 (n + 1) (lo (32 * (n + 1)) (-a - 1)) (by omega) (by rw [pow32]; exact lo_lt _ _)
  have hiR := InB_pad 4294967296 (n + 1) (lo (32 * (n + 1)) (-a - 1)) (by omega)
  have hlR := pad_len 4294967296 (n + 1) (lo (32 * (n + 1)) (-a - 1))
  have hiX := InB_pad 4294967296 (n + 1) (lo (32 * (n + 1)) a) (by omega)
  have hlX := pad_len 4294967296 (n + 1) (lo (32 * (n + 1)) a)
  have hiY := InB_pad 4294967296 (n + 1) (lo (32 * (n + 1)) b) (by omega)
  have hlY := pad_len 4294967296 (n + 1) (lo (32 * (n + 1)) b)
  have he1 : 32 * (n + 1) - 1 = 32 * n + 31 := by omega
  have he2 : 32 * (n + 1) = 32 * n + 31 + 1 := by omega
  have hzs2 : sgn (32 * (n + 1) - 1) (lo (32 * (n + 1)) (-a - 1)) = -a - 1 := by rw [he1, he2]; exact hzs
  generalize pad 4294967296 (n + 1) (lo (32 * (n + 1)) (-a - 1)) = R at *
  (refine q_H Try.func92 (fun F => ?_); simp only [q_z,q_y,Try.ntmps92,Try.results92])
  repeat' (first|(with_reducible first|apply q_a|apply q_b|apply q_c|apply q_d|apply q_e|apply q_f|apply q_g|apply q_h|apply q_i|apply q_j|apply q_k|apply q_m|apply q_n|apply q_o|apply q_p|refine q_l ?_)|((with_reducible first|refine q_q ibw_ok fun K hK=>?_|refine q_r ibw_ok fun K hK=>?_);simp (maxSteps:=2000000) only [go_sem,↓reduceIte,reduceCtorEq,Nat.reduceLeDiff,Nat.reduceLT,Nat.reduceBEq,Nat.reduceAdd,oa, ob, hmax, hX, hY, hlX];(repeat1' with_reducible first|apply And.intro|(intro _;try exact q_v)|(refine hK _ ?_;clear hK K))<;>(try (clear hK K;exact q_u)))|(with_reducible refine q_s ?_;(first|apply q_J|apply q_K|apply q_L|apply q_M|apply q_N|apply q_O)<;>try (intro _;try exact q_v))|with_reducible refine q_t ?_)
  all_goals first | omega | skip
  generalize pad 4294967296 (n + 1) (lo (32 * (n + 1)) a) = X at *
  generalize pad 4294967296 (n + 1) (lo (32 * (n + 1)) b) = Y at *
  refine q_G (ι := { i : Nat // i ≤ n + 1 }) (fun i => ⟨59, [(2, .c (.a (.func (.func 96) #[] #[]))), (6, .bx 2 0), (7, .bx 3 0), (10, .own 5 0), (11, .own 6 0), (37, .c (.i .i64 ((n + 1 : Nat) : Int))), (38, .c (.i .i64 (i.1 : Nat)))], ⟨[(3, [.c (.i .i64 0), .c (.i .i64 0)]), (2, [.c (.b false), .c .nil])], [(6, ⟨0, 73, 1, .ints .u32 Y⟩), (5, ⟨0, 73, 1, .ints .u32 (mixL R X i.1)⟩)], []⟩, 7⟩) (fun i => n + 1 - i.1) ⟨0, by omega⟩ ?_ ?_
  · simp only [mixL_zero]
    exact q_D
  rintro ⟨i, g1⟩
  simp only at g1 ⊢
  rcases Nat.lt_or_ge i (n + 1) with hi | hi
  · have hg := mixL_get (rs := R) (xs := X) (i := i) (0 : Int) (by rw [hlR, hlX]) (by omega)
    have hgl := mixL_len (rs := R) (xs := X) (i := i) (by rw [hlR, hlX]) (by omega)
    rw [hlX] at hgl
    have hbx := InB_getD (B := 4294967296) (by omega) hiX i
    have hby := InB_getD (B := 4294967296) (by omega) hiY i
    have hget : R.getD i 0 = gNot (X.getD i 0) (Y.getD i 0) := by
      rw [← hR]
      simp [List.getD_eq_getElem?_getD, List.getElem?_zipWith, List.getElem?_eq_getElem (show i < X.length by omega), List.getElem?_eq_getElem (show i < Y.length by omega)]
    have hst := mixL_set (rs := R) (xs := X) (i := i) (0 : Int) (by rw [hlR, hlX]) (by omega) _ hget.symm
    repeat' (first|(with_reducible first|apply q_a|apply q_b|apply q_c|apply q_d|apply q_e|apply q_f|apply q_g|apply q_h|apply q_i|apply q_j|apply q_k|apply q_m|apply q_n|apply q_o|apply q_p|refine q_l ?_)|((with_reducible first|refine q_q ibw_ok fun K hK=>?_|refine q_r ibw_ok fun K hK=>?_);simp (maxSteps:=2000000) only [go_sem,↓reduceIte,reduceCtorEq,Nat.reduceLeDiff,Nat.reduceLT,Nat.reduceBEq,Nat.reduceAdd,hg, hgl, hlY, hst];(repeat1' with_reducible first|apply And.intro|(intro _;try exact q_v)|(refine hK _ ?_;clear hK K))<;>(try (clear hK K;exact q_u)))|(with_reducible refine q_s ?_;(first|apply q_J|apply q_K|apply q_L|apply q_M|apply q_N|apply q_O)<;>try (intro _;try exact q_v))|with_reducible refine q_t ?_)
    all_goals first | omega | skip
    refine q_F ⟨i + 1, by omega⟩ ?_ (by simp only; omega)
    exact q_D
  · have hi' : i = n + 1 := by omega
    subst hi'
    have hall := mixL_all R X (n + 1) (by omega) (by omega)
    simp only [hall]
    repeat' (first|(with_reducible first|apply q_a|apply q_b|apply q_c|apply q_d|apply q_e|apply q_f|apply q_g|apply q_h|apply q_i|apply q_j|apply q_k|apply q_m|apply q_n|apply q_o|apply q_p|refine q_l ?_)|((with_reducible first|refine q_q ibw_ok fun K hK=>?_|refine q_r ibw_ok fun K hK=>?_);simp (maxSteps:=2000000) only [go_sem,↓reduceIte,reduceCtorEq,Nat.reduceLeDiff,Nat.reduceLT,Nat.reduceBEq,Nat.reduceAdd,hlR, hVR, hzs2];(repeat1' with_reducible first|apply And.intro|(intro _;try exact q_v)|(refine hK _ ?_;clear hK K))<;>(try (clear hK K;exact q_u)))|(with_reducible refine q_s ?_;(first|apply q_J|apply q_K|apply q_L|apply q_M|apply q_N|apply q_O)<;>try (intro _;try exact q_v))|with_reducible refine q_t ?_)
    all_goals first | omega | assumption | exact q_A rfl | skip
end Go.Proofs.Ythfgapbcdhajiaa
