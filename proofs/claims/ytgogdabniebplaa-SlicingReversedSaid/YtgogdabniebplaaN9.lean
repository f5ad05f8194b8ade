import Derived.Test.YtgogdabniebplaaN7
import Derived.Test.YtgogdabniebplaaN5
namespace Go.Proofs.Ytgogdabniebplaa
set_option linter.unusedSimpArgs false
set_option linter.unusedVariables false
open Go.Abs Go.Proofs.NatL

theorem trd1 {y : Int} (h : Trd [y]) : y ≠ 0 := by
  rcases h with h | h
  · simp at h
  · simpa using h

theorem bl_V (xs : List Int) (h0 : 0 < xs.length) (bx : InB 4294967296 xs) (tx : Trd xs) : 32 * (xs.length - 1) + bl (xs.getD (xs.length - 1) 0).toNat = bl (V 4294967296 xs) := by
  have h1 := V_ge_of_trd (by omega) xs bx tx h0
  have e : (4294967296 : Nat) ^ (xs.length - 1) = 2 ^ (32 * (xs.length - 1)) := by rw [show (4294967296 : Nat) = 2 ^ 32 from rfl, ← Nat.pow_mul]
  rw [e] at h1
  rw [bl_shr _ _ h1, ← e, ← V_drop_div 4294967296 (by omega) xs bx, V_drop 4294967296 xs _ (by omega), List.drop_eq_nil_of_le (by omega)]
  simp [V]

set_option maxHeartbeats 1600000 in
theorem Bits_ret (xs : List Int) (hx : xs.length ≤ 140737488355328) (bx : InB 4294967296 xs) :
    Ret Try.prog 145 false [.inl (.ints .u32 xs)] (.t [.inl (.i .i64 ((if okN xs then bl (V 4294967296 xs) else 0 : Nat) : Int)), .inr [.i .i64 (if okN xs then 0 else 6), .i .i64 (if okN xs then 0 else -1)]]) := by
  by_cases ho : okN xs = true
  · have ox' : xs.length ≤ 600 ∧ Trd xs := by simpa [okN] using ho
    have b1 := InB_getD (by omega) bx (xs.length - 1)
    have hl : bl (xs.getD (xs.length - 1) 0).toNat ≤ 32 := bl_lt _ _ (by simp only [show (2 : Nat) ^ 32 = 4294967296 from rfl]; omega)
    have e0 : ((xs.length : Int) - 1).toNat = xs.length - 1 := by omega
    (refine q_H Try.func145 (fun F => ?_); simp only [q_z,q_y,Try.ntmps145,Try.results145])
    repeat' (first|(with_reducible first|apply q_a|apply q_b|apply q_c|apply q_d|apply q_e|apply q_f|apply q_g|apply q_h|apply q_i|apply q_j|apply q_k|apply q_m|apply q_n|apply q_o|apply q_p|refine q_l ?_)|((with_reducible first|refine q_q cf21_ok fun K hK=>?_|refine q_r cf21_ok fun K hK=>?_);simp (maxSteps:=2000000) only [go_sem,↓reduceIte,reduceCtorEq,Nat.reduceLeDiff,Nat.reduceLT,Nat.reduceBEq,Nat.reduceAdd];(repeat1' with_reducible first|apply And.intro|intro _|(refine hK _ ?_;clear hK K))<;>(try (clear hK K;exact q_u)))|(with_reducible refine q_s ?_;(first|apply q_J|apply q_K|apply q_L|apply q_M|apply q_N|apply q_O)<;>try intro _)|with_reducible refine q_t ?_)
    all_goals try (rw [e0])
    all_goals try (exact b1.1)
    all_goals try (exact b1.2)
    all_goals try omega
    · exfalso; simp_all
    · rename_i h0
      have : xs = [] := List.eq_nil_of_length_eq_zero (by omega)
      subst this
      exact q_A (by simp [resAV, okN, Trd, V, bl])
    · rename_i h0
      have h1 := bl_V xs (by omega) bx ox'.2
      refine q_A ?_
      simp only [resAV, if_pos ho, AV.t.injEq, List.cons.injEq, Sum.inl.injEq, C.i.injEq, true_and, and_true]
      omega
  · (refine q_H Try.func145 (fun F => ?_); simp only [q_z,q_y,Try.ntmps145,Try.results145])
    repeat' (first|(with_reducible first|apply q_a|apply q_b|apply q_c|apply q_d|apply q_e|apply q_f|apply q_g|apply q_h|apply q_i|apply q_j|apply q_k|apply q_m|apply q_n|apply q_o|apply q_p|refine q_l ?_)|((with_reducible first|refine q_q cf21_ok fun K hK=>?_|refine q_r cf21_ok fun K hK=>?_);simp (maxSteps:=2000000) only [go_sem,↓reduceIte,reduceCtorEq,Nat.reduceLeDiff,Nat.reduceLT,Nat.reduceBEq,Nat.reduceAdd];(repeat1' with_reducible first|apply And.intro|intro _|(refine hK _ ?_;clear hK K))<;>(try (clear hK K;exact q_u)))|(with_reducible refine q_s ?_;(first|apply q_J|apply q_K|apply q_L|apply q_M|apply q_N|apply q_O)<;>try intro _)|with_reducible refine q_t ?_)
    · exact q_A (by simp [resAV, ho])
    all_goals (exfalso; simp_all)

def bitsCT : CT := mkCT [.inl (some (.ints .u32 []))] true fun l K => match l with
  | [.inl (.ints .u32 xs)] => (xs.length ≤ 140737488355328 ∧ InB 4294967296 xs) ∧ K (.t [.inl (.i .i64 ((if okN xs then bl (V 4294967296 xs) else 0 : Nat) : Int)), .inr [.i .i64 (if okN xs then 0 else 6), .i .i64 (if okN xs then 0 else -1)]])
  | _ => False
def cg2 : Cfg := addT 145 bitsCT cf21
theorem cg2_ok : TblOk Try.prog cg2 := q_I cf21_ok Try.func145 fun l K h => by
  split at h
  · exact ⟨_, (Bits_ret _ h.1.1 h.1.2).plain rfl, h.2⟩
  · exact h.elim
attribute [go_sem] cg2 bitsCT

theorem dg1 (n : Nat) (h0 : 0 < n) (h1 : n < 4294967296) : dg 4294967296 n = [(n : Int)] := by
  rw [dg_pos _ _ (by omega) h0, Nat.mod_eq_of_lt h1, Nat.div_eq_of_lt h1, dg_zero]

attribute [go_sem] decide_true decide_false
def sameCT : CT := mkCT [.inl (some (.ints .u32 [])), .inl (some (.ints .u32 []))] true fun l K => match l with
  | [.inl (.ints .u32 xs), .inl (.ints .u32 ys)] => (xs.length ≤ 16777216 ∧ ys.length ≤ 16777216) ∧ K (.c (.b (decide (xs = ys))))
  | _ => False
def limbsCT : CT := mkCT [.inl (some (.ints .i64 []))] false fun l K => match l with
  | [.inl (.ints .i64 xs)] => (xs.length ≤ 4194304 ∧ InB 65536 xs ∧ Trd xs) ∧ K (.c (.ints .u32 (dg 4294967296 (V 65536 xs))))
  | _ => False
def ch1 : Cfg := addT 56 limbsCT cf8
theorem ch1_ok : TblOk Try.prog ch1 := q_I cf8_ok Try.func56 fun l K h => by
  split at h
  · exact ⟨_, limbs_ret _ h.1.1 h.1.2.1 h.1.2.2, h.2⟩
  · exact h.elim
def ch2 : Cfg := addT 123 sameCT ch1
theorem ch2_ok : TblOk Try.prog ch2 := q_I ch1_ok Try.func123 fun l K h => by
  split at h
  · exact ⟨_, (sameLimbs_ret _ _ h.1.1 h.1.2).plain rfl, h.2⟩
  · exact h.elim
attribute [go_sem] ch1 limbsCT ch2 sameCT

theorem dg_len_iff {B : Nat} (hB : 2 ≤ B) (n k : Nat) : (dg B n).length ≤ k ↔ n < B ^ k := by
  constructor
  · intro h
    rcases Nat.lt_or_ge n (B ^ k) with h1 | h1
    · exact h1
    · have := dg_len_gt hB n k h1; omega
  · exact dg_len_le hB n k
theorem dg_half (n k : Nat) : (dg 65536 n).length ≤ 2 * k ↔ (dg 4294967296 n).length ≤ k := by
  rw [dg_len_iff (by omega), dg_len_iff (by omega), Nat.pow_mul]
theorem dg_half_le (n k : Nat) (h : (dg 65536 n).length ≤ k) : (dg 4294967296 n).length ≤ k := (dg_half n k).1 (by omega)

theorem chkC_zero {xs ys : List Int} (h : okN xs = true) (k : okN ys = true) : chkC xs ys = 0 ∧ chkI xs ys = 0 := by simp [chkC, chkI, h, k]
theorem okN_parts {xs : List Int} (h : okN xs = true) : xs.length ≤ 600 ∧ Trd xs := by simpa [okN] using h
theorem chkC_bad {xs ys : List Int} (h : ¬ (okN xs = true ∧ okN ys = true)) : chkC xs ys ≠ 0 := by
  unfold chkC
  cases hx : okN xs <;> cases hy : okN ys <;> simp_all

def goodCT (n : List Int → List Int → List Int) (c i : List Int → List Int → Int) : CT := mkCT [.inl (some (.ints .u32 [])), .inl (some (.ints .u32 []))] false fun l K => match l with
  | [.inl (.ints .u32 xs), .inl (.ints .u32 ys)] => (okN xs = true ∧ okN ys = true ∧ InB 4294967296 xs ∧ InB 4294967296 ys) ∧ K (.t [.inl (.ints .u32 (n xs ys)), .inr [.i .i64 (c xs ys), .i .i64 (i xs ys)]])
  | _ => False
theorem oneF_good {xs ys n : List Int} {c i : Int} (h : okN xs = true) (k : okN ys = true) : oneF xs ys n c i = .t [.inl (.ints .u32 n), .inr [.i .i64 c, .i .i64 i]] := by
  unfold oneF; rw [if_neg]; simp [(chkC_zero h k).1]
theorem okN_LB {xs : List Int} (h : okN xs = true) : xs.length ≤ 140737488355328 := Nat.le_trans (okN_parts h).1 (by omega)
def subO (xs ys : List Int) : List Int := if V 4294967296 xs < V 4294967296 ys then [] else subN xs ys
def subC (xs ys : List Int) : Int := if V 4294967296 xs < V 4294967296 ys then 4 else 0
def subI (xs ys : List Int) : Int := if V 4294967296 xs < V 4294967296 ys then -2 else 0
def db1 : Cfg := addT 128 (goodCT (fun xs ys => fitN (addN xs ys)) (fun xs ys => fitC (addN xs ys)) (fun xs ys => fitI (addN xs ys))) ch2
theorem db1_ok : TblOk Try.prog db1 := q_I ch2_ok Try.func128 fun l K h => by
  split at h
  · obtain ⟨⟨h1, h2, h3, h4⟩, h⟩ := h
    have := Add_ret _ _ (okN_LB h1) (okN_LB h2) h3 h4
    rw [oneF_good h1 h2] at this
    exact ⟨_, this, h⟩
  · exact h.elim
def db2 : Cfg := addT 147 (goodCT (fun xs ys => fitN (mulN xs ys)) (fun xs ys => fitC (mulN xs ys)) (fun xs ys => fitI (mulN xs ys))) db1
theorem db2_ok : TblOk Try.prog db2 := q_I db1_ok Try.func147 fun l K h => by
  split at h
  · obtain ⟨⟨h1, h2, h3, h4⟩, h⟩ := h
    have := Mul_ret _ _ (okN_LB h1) (okN_LB h2) h3 h4
    rw [oneF_good h1 h2] at this
    exact ⟨_, this, h⟩
  · exact h.elim
def db3 : Cfg := addT 129 (goodCT subO subC subI) db2
theorem db3_ok : TblOk Try.prog db3 := q_I db2_ok Try.func129 fun l K h => by
  split at h
  · obtain ⟨⟨h1, h2, h3, h4⟩, h⟩ := h
    have := Sub_ret _ _ (okN_LB h1) (okN_LB h2) h3 h4
    rw [oneF_good h1 h2] at this
    exact ⟨_, this, h⟩
  · exact h.elim
def CmpCT : CT := mkCT [.inl (some (.ints .u32 [])), .inl (some (.ints .u32 []))] true fun l K => match l with
  | [.inl (.ints .u32 xs), .inl (.ints .u32 ys)] => (okN xs = true ∧ okN ys = true ∧ InB 4294967296 xs ∧ InB 4294967296 ys) ∧ K (.t [.inl (.i .i64 (cmp3 (V 4294967296 xs) (V 4294967296 ys))), .inr [.i .i64 0, .i .i64 0]])
  | _ => False
def db4 : Cfg := addT 144 CmpCT db3
theorem db4_ok : TblOk Try.prog db4 := q_I db3_ok Try.func144 fun l K h => by
  split at h
  · obtain ⟨⟨h1, h2, h3, h4⟩, h⟩ := h
    have := Cmp_ret _ _ (okN_LB h1) (okN_LB h2) h3 h4
    rw [(chkC_zero h1 h2).1, (chkC_zero h1 h2).2, if_neg (by simp)] at this
    exact ⟨_, this.plain rfl, h⟩
  · exact h.elim
def db6 : Cfg := addT 67 ofCT db4
theorem db6_ok : TblOk Try.prog db6 := q_I db4_ok Try.func67 fun l K h => by
  split at h
  · exact ⟨_, of_ret _ h.1.1 h.1.2, h.2⟩
  · exact h.elim
attribute [go_sem] V65 I65 T65 V32 I32 T32 I0 T0 V0
def rnumCT (p : List Int → List Int → Prop) (f : Nat → Nat → Nat) : CT := mkCT [.inl (some (.ints .i64 [])), .inl (some (.ints .i64 []))] false fun l K => match l with
  | [.inl (.ints .i64 xs), .inl (.ints .i64 ys)] => (xs.length ≤ 4194304 ∧ ys.length ≤ 4194304 ∧ InB 65536 xs ∧ InB 65536 ys ∧ Trd xs ∧ Trd ys ∧ p xs ys) ∧ K (.c (.ints .i64 (dg 65536 (f (V 65536 xs) (V 65536 ys)))))
  | _ => False
def rcmpCT : CT := mkCT [.inl (some (.ints .i64 [])), .inl (some (.ints .i64 []))] true fun l K => match l with
  | [.inl (.ints .i64 xs), .inl (.ints .i64 ys)] => (xs.length ≤ 4194304 ∧ ys.length ≤ 4194304 ∧ InB 65536 xs ∧ InB 65536 ys ∧ Trd xs ∧ Trd ys) ∧ K (.c (.i .i64 (cmp3 (V 65536 xs) (V 65536 ys))))
  | _ => False
def db7 : Cfg := addT 117 rcmpCT db6
theorem db7_ok : TblOk Try.prog db7 := q_I db6_ok Try.func117 fun l K h => by
  split at h
  · obtain ⟨⟨h1, h2, h3, h4, h5, h6⟩, h⟩ := h
    exact ⟨_, (rcompare_ret _ _ h1 h2 h3 h4 h5 h6).plain rfl, h⟩
  · exact h.elim
def db8 : Cfg := addT 116 (rnumCT (fun _ _ => True) (· + ·)) db7
theorem db8_ok : TblOk Try.prog db8 := q_I db7_ok Try.func116 fun l K h => by
  split at h
  · obtain ⟨⟨h1, h2, h3, h4, h5, h6, h7⟩, h⟩ := h
    exact ⟨_, plus_ret _ _ h1 h2 h3 h4, h⟩
  · exact h.elim
def db9 : Cfg := addT 119 (rnumCT (fun _ _ => True) (· * ·)) db8
theorem db9_ok : TblOk Try.prog db9 := q_I db8_ok Try.func119 fun l K h => by
  split at h
  · obtain ⟨⟨h1, h2, h3, h4, h5, h6, h7⟩, h⟩ := h
    exact ⟨_, times_ret _ _ h1 h2 h3 h4, h⟩
  · exact h.elim
def db10 : Cfg := addT 118 (rnumCT (fun xs ys => V 65536 ys ≤ V 65536 xs) (· - ·)) db9
theorem db10_ok : TblOk Try.prog db10 := q_I db9_ok Try.func118 fun l K h => by
  split at h
  · obtain ⟨⟨h1, h2, h3, h4, h5, h6, h7⟩, h⟩ := h
    exact ⟨_, minus_ret _ _ h1 (V_le_len (by omega) h3 h4 h6 h7) h3 h4 h7, h⟩
  · exact h.elim
def okTCT : CT := mkCT [.inl (some (.ints .u32 []))] true fun l K => match l with
  | [.inl (.ints .u32 xs)] => okN xs = true ∧ K (.c (.b true))
  | _ => False
def db12 : Cfg := addT 169 okTCT db10
theorem db12_ok : TblOk Try.prog db12 := q_I db10_ok Try.func169 fun l K h => by
  split at h
  · obtain ⟨h1, h⟩ := h
    have := valid_ret _ (okN_LB h1)
    rw [h1] at this
    exact ⟨_, this.plain rfl, h⟩
  · exact h.elim
def db13 : Cfg := db12
theorem db13_ok : TblOk Try.prog db13 := db12_ok
attribute [go_sem] db1 db2 db3 db4 db6 db7 db8 db9 db10 db12 db13 goodCT CmpCT rnumCT rcmpCT okTCT

theorem fit_dg (n : Nat) : fitN (dg 4294967296 n) = (if (dg 4294967296 n).length ≤ 600 then dg 4294967296 n else []) ∧ fitC (dg 4294967296 n) = (if (dg 4294967296 n).length ≤ 600 then 0 else 14) ∧ fitI (dg 4294967296 n) = (if (dg 4294967296 n).length ≤ 600 then 0 else -1) := by
  have e : trimL (dg 4294967296 n) = dg 4294967296 n := trimL_stop _ (dg_trd 4294967296 (by omega) n)
  simp only [fitN, fitC, fitI, e, and_self]
theorem fitN_len (xs : List Int) : (fitN xs).length ≤ 600 := by
  unfold fitN; split <;> simp_all

end Go.Proofs.Ytgogdabniebplaa
