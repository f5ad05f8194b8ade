import Derived.Test.YtlflfhcfljiciaaGreatE12
import Derived.Test.YtlflfhcfljiciaaGreatE24
import Derived.Test.YtlflfhcfljiciaaGreatE3
import Derived.Test.YtlflfhcfljiciaaGreatE4
import Derived.Test.YtlflfhcfljiciaaGreatE5
namespace Go.Proofs.NatL
set_option linter.unusedSimpArgs false
set_option linter.unusedVariables false
theorem prZ_no {l : List Int} (hk : strokeAt l = none) : prZ l = (pz 10 l).map fun a => (a, 1) := by
  have h1 : pz 10 [49] = some 1 := by decide
  simp only [prZ, spL, spR, spB, hk, h1]
  cases pz 10 l <;> rfl
theorem prZ_bad {l : List Int} {k : Nat} (hk : strokeAt l = some k) (h : pz 10 (l.take k) = none ∨ pz 10 (l.drop (k + 1)) = none ∨ ∃ b, pz 10 (l.drop (k + 1)) = some b ∧ ¬ 1 < b) : prZ l = none := by
  simp only [prZ, spL, spR, spB, hk]
  rcases h with h | h | ⟨b, h, hb⟩
  · rw [h]
  · rw [h]; cases pz 10 (l.take k) <;> rfl
  · rw [h]
    cases pz 10 (l.take k) with
    | none => rfl
    | some a => exact if_pos ⟨rfl, hb⟩
theorem prZ_good {l : List Int} {k : Nat} (hk : strokeAt l = some k) {a b : Int} (h1 : pz 10 (l.take k) = some a) (h2 : pz 10 (l.drop (k + 1)) = some b) (hb : 1 < b) : prZ l = some (a, b) := by
  simp only [prZ, spL, spR, spB, hk, h1, h2]
  exact if_neg (fun h => h.2 hb)
end Go.Proofs.NatL
namespace Go.Proofs.YtlflfhcfljiciaaGreat
set_option linter.unusedSimpArgs false
set_option linter.unusedVariables false
open Go.Abs Go.Proofs.NatL

def pqN (l : List Int) : Int := match prZ l with | some (a, b) => if l.length ≤ 4000 ∧ fQ a b.natAbs ∧ Nat.gcd a.natAbs b.natAbs = 1 then a else 0 | none => 0
def pqD (l : List Int) : Nat := match prZ l with | some (a, b) => if l.length ≤ 4000 ∧ fQ a b.natAbs ∧ Nat.gcd a.natAbs b.natAbs = 1 then b.natAbs else 0 | none => 0
def pqC (l : List Int) : Int := if 4000 < l.length then 3 else match prZ l with | some (a, b) => if fQ a b.natAbs then (if Nat.gcd a.natAbs b.natAbs = 1 then 0 else 6) else 14 | none => 1
def pqI (l : List Int) : Int := if 4000 < l.length then -1 else match prZ l with | some (a, b) => if fQ a b.natAbs then (if Nat.gcd a.natAbs b.natAbs = 1 then 0 else -1) else -1 | none => -1
def rPq (l : List Int) : AV := .t [.inr (gQ (pqN l) (pqD l)), fltQ (pqC l) (pqI l)]
theorem pq_long {l : List Int} (h : 4000 < l.length) : pqN l = 0 ∧ pqD l = 0 ∧ pqC l = 3 ∧ pqI l = -1 := by
  have h' : ¬ l.length ≤ 4000 := by omega
  refine ⟨?_, ?_, if_pos h, if_pos h⟩
  · unfold pqN; split <;> simp [h']
  · unfold pqD; split <;> simp [h']
theorem pq_none {l : List Int} (h : ¬ 4000 < l.length) (hp : prZ l = none) : pqN l = 0 ∧ pqD l = 0 ∧ pqC l = 1 ∧ pqI l = -1 := by
  unfold pqN pqD pqC pqI; rw [hp, if_neg h, if_neg h]; exact ⟨rfl, rfl, rfl, rfl⟩
theorem pq_big {l : List Int} {a b : Int} (h : ¬ 4000 < l.length) (hp : prZ l = some (a, b)) (hf : ¬ fQ a b.natAbs) : pqN l = 0 ∧ pqD l = 0 ∧ pqC l = 14 ∧ pqI l = -1 := by
  unfold pqN pqD pqC pqI; rw [hp, if_neg h, if_neg h]; simp [hf]
theorem pq_form {l : List Int} {a b : Int} (h : ¬ 4000 < l.length) (hp : prZ l = some (a, b)) (hf : fQ a b.natAbs) (hg : Nat.gcd a.natAbs b.natAbs ≠ 1) : pqN l = 0 ∧ pqD l = 0 ∧ pqC l = 6 ∧ pqI l = -1 := by
  unfold pqN pqD pqC pqI; rw [hp, if_neg h, if_neg h]; simp [hf, hg]
theorem pq_ok {l : List Int} {a b : Int} (h : ¬ 4000 < l.length) (hp : prZ l = some (a, b)) (hf : fQ a b.natAbs) (hg : Nat.gcd a.natAbs b.natAbs = 1) : pqN l = a ∧ pqD l = b.natAbs ∧ pqC l = 0 ∧ pqI l = 0 := by
  have h' : l.length ≤ 4000 := by omega
  unfold pqN pqD pqC pqI; rw [hp, if_neg h, if_neg h]; simp [hf, hg, h']
theorem poQ_pq {l : List Int} (h : ¬ 4000 < l.length) : poQ l = rPq l := by
  unfold poQ rPq
  cases hp : prZ l with
  | none =>
    obtain ⟨e1, e2, e3, e4⟩ := pq_none h hp
    rw [e1, e2, e3, e4]; rfl
  | some p =>
    obtain ⟨a, b⟩ := p
    simp only
    by_cases hf : fQ a b.natAbs
    · rw [if_pos hf]
      by_cases hg : Nat.gcd a.natAbs b.natAbs = 1
      · obtain ⟨e1, e2, e3, e4⟩ := pq_ok h hp hf hg
        rw [if_pos hg, e1, e2, e3, e4]
      · obtain ⟨e1, e2, e3, e4⟩ := pq_form h hp hf hg
        rw [if_neg hg, e1, e2, e3, e4]; rfl
    · obtain ⟨e1, e2, e3, e4⟩ := pq_big h hp hf
      rw [if_neg hf, e1, e2, e3, e4]; rfl
def qparseCT : CT := mkCT [] false fun l K => match l with
  | [.inl (.str s)] => K (rPq (bytesOf s))
  | _ => False
def qx1 : Cfg := addT 5 qparseCT qt20
theorem qx1_ok : TblOk Tryz.prog qx1 := q_I qt20_ok Tryz.func5 fun l K h => by
  split at h
  · rename_i s
    have hs := str_size s
    by_cases h4 : 4000 < (bytesOf s).length
    · have := qparse_long s (by omega)
      unfold rPq at h
      obtain ⟨e1, e2, e3, e4⟩ := pq_long h4
      rw [e1, e2, e3, e4] at h
      exact ⟨_, this, h⟩
    · have := qparse_ok s (by omega)
      rw [poQ_pq h4] at this
      exact ⟨_, this, h⟩
  · exact h.elim
attribute [go_sem] qparseCT rPq
def qv7 : Cfg := listT [(4, qtextCT), (5, qparseCT), (6, partsCT), (7, qcheckCT), (8, ratioOfCT), (9, textOfCT), (11, smallCT), (10, rcmpCT), (12, sameRatioCT), (14, atCT), (13, givesCT), (15, intTextCT), (16, numberCT), (17, (rI2CT 4194304 ordF)), (18, fitsCT), (19, commonCT)] [28]
theorem qv7_ok : TblOk Tryz.prog qv7 := listE_ok (by simp only [List.mem_singleton, forall_eq]; exact flt) ⟨⟨qt18, qt18_ok, rfl⟩, ⟨qx1, qx1_ok, rfl⟩, ⟨qt20, qt20_ok, rfl⟩, ⟨rq15, rq15_ok, rfl⟩, ⟨rq2, rq2_ok, rfl⟩, ⟨jx2, jx2_ok, rfl⟩, ⟨jt15, jt15_ok, rfl⟩, ⟨jt15, jt15_ok, rfl⟩, ⟨rq12, rq12_ok, rfl⟩, ⟨jt15, jt15_ok, rfl⟩, ⟨rq16, rq16_ok, rfl⟩, ⟨jx2, jx2_ok, rfl⟩, ⟨jt12, jt12_ok, rfl⟩, ⟨jt15, jt15_ok, rfl⟩, ⟨jt15, jt15_ok, rfl⟩, ⟨jt15, jt15_ok, rfl⟩, trivial⟩
attribute [go_sem] qv7
theorem it_none {l : List Int} (h : pz 10 l = none) : intTextO 10 l = .t [.inr [.b false, .ints .i64 []], .inl (.b false)] := by unfold intTextO; rw [h]
theorem it_some {l : List Int} {z : Int} (h : pz 10 l = some z) : intTextO 10 l = .t [.inr (gR z), .inl (.b true)] := by unfold intTextO; rw [h]
theorem ten : (10 : Int).toNat = 10 := rfl
theorem emp_eqQ : (ByteArray.toList { data := #[] } == ByteArray.toList { data := #[] }) = true := by rw [str_eq]; decide
set_option maxRecDepth 100000 in
set_option maxHeartbeats 12800000 in
theorem qtexts_ret (s t : Bool) (xs ys : List Int) (tx : ByteArray) (h : xs.length ≤ 140737488355328 ∧ ys.length ≤ 140737488355328) (b : InB 4294967296 xs ∧ InB 4294967296 ys) (ht : tx.size ≤ Go.maxLen) :
    Ret Tryz.prog 3 false [.inr [.b s, .ints .u32 xs, .b t, .ints .u32 ys], .inl (.str tx)] (.c (.b true)) := by
  obtain ⟨h1, h2⟩ := h
  obtain ⟨b1, b2⟩ := b
  have k1 : dg 4294967296 (0 : Int).natAbs = [] := dg_zeroA _
  have k2 : dg 4294967296 0 = [] := rfl
  have hml : Go.maxLen ≤ 9223372036854775807 := by decide +kernel
  have d1 : (dg 65536 1).length ≤ 1 := by decide
  (refine q_H Tryz.func3 (fun F => ?_); simp only [q_z,q_y,Tryz.ntmps3,Tryz.results3])
  refine seq_cut5 (ι := Unit) (fun _ => ⟨184, [(1, .c (.str tx)), (4, .c (.b false)), (7, .bx 2 0), (8, .bx 3 0)],
    ⟨[(3, [.c (.i .i64 (pqC (bytesOf tx))), .c (.i .i64 (pqI (bytesOf tx)))]), (2, aQ (pqN (bytesOf tx)) (pqD (bytesOf tx)))], [], []⟩, 8⟩) (fun Y hY => ?_) ?_
  · cases o1 : okQ s xs t ys
    · repeat' (first|(with_reducible first|apply q_a|apply q_b|apply q_c|apply q_d|apply q_e|apply q_f|apply q_g|apply q_h|apply q_i|apply q_j|apply q_k|apply q_m|apply q_n|apply q_o|apply q_p|refine q_l ?_)|((with_reducible first|refine q_q qv7_ok fun K hK=>?_|refine q_r qv7_ok fun K hK=>?_);simp (maxSteps:=2000000) only [go_sem,↓reduceIte,reduceCtorEq,Nat.reduceLeDiff,Nat.reduceLT,Nat.reduceBEq,Nat.reduceAdd,o1, emp_eqQ];(repeat1' with_reducible first|apply And.intro|(intro _;try exact q_v)|(refine hK _ ?_;clear hK K))<;>(try (clear hK K;exact q_u)))|(with_reducible refine q_s ?_;(first|apply q_J|apply q_K|apply q_L|apply q_M|apply q_N|apply q_O)<;>try (intro _;try exact q_v))|with_reducible refine q_t ?_)
      all_goals first | omega | assumption | exact cut_fit hY () q_D | skip
    obtain ⟨e1, hx⟩ := gQ_of o1 b1 b2
    simp only [gQ, List.cons.injEq, C.b.injEq, C.ints.injEq, true_and, and_true] at e1
    obtain ⟨e1, e2, e3, e4⟩ := e1
    have v1 : sv 4294967296 s xs = sv 4294967296 s xs := rfl
    generalize sv 4294967296 s xs = z at *
    generalize V 4294967296 ys = d at *
    subst e1 e2 e3 e4
    have o1 := okQ_g hx
    obtain ⟨hd, lz, ld⟩ := RT_parts hx
    obtain ⟨mz, md⟩ := RT_len65 hx
    have s1 : (strOf (textI z 10)).size ≤ 4097 := by rw [str_size, text_bytes z 10 (by omega) (by omega)]; exact textI_len z 10 (by omega) lz
    have s2 : (strOf (textI (d : Int) 10)).size ≤ 4097 := by rw [str_size, text_bytes (d : Int) 10 (by omega) (by omega)]; exact textI_len (d : Int) 10 (by omega) (by rw [Int.natAbs_natCast]; exact ld)
    have s3 : ({ data := #[47] } : ByteArray).size = 1 := rfl
    have s4 : ({ data := #[47] } ++ strOf (textI (d : Int) 10) : ByteArray).size = 1 + (strOf (textI (d : Int) 10)).size := by rw [ByteArray.size_append, s3]
    have w1 : d = 1 → ((txQ z d).toList == (strOf (textI z 10)).toList) = true := fun h => by rw [str_eq, txQ_bytes, if_pos h, text_bytes z 10 (by omega) (by omega)]; exact decide_eq_true rfl
    have w2 : d ≠ 1 → ((txQ z d).toList == (strOf (textI z 10) ++ ({ data := #[47] } ++ strOf (textI (d : Int) 10))).toList) = true := fun h => by
      rw [str_eq, txQ_bytes, if_neg h, bytes_app, bytes_app, text_bytes z 10 (by omega) (by omega), text_bytes (d : Int) 10 (by omega) (by omega), lit_stroke]
      exact decide_eq_true rfl
    have hts := str_size (txQ z d)
    have hc := cmp3_z d 1
    have pr := prZ_text (z := z) hx.1
    have hgz := hx.2.1
    have z1 := Nrm_g z
    have z2 := Nrm_n d
    by_cases hl : 4000 < (bytesOf (txQ z d)).length
    · obtain ⟨p1, p2, p3, p4⟩ := pq_long hl
      by_cases h1' : d = 1
      · have w1 := w1 h1'
        repeat' (first|(with_reducible first|apply q_a|apply q_b|apply q_c|apply q_d|apply q_e|apply q_f|apply q_g|apply q_h|apply q_i|apply q_j|apply q_k|apply q_m|apply q_n|apply q_o|apply q_p|refine q_l ?_)|((with_reducible first|refine q_q qv7_ok fun K hK=>?_|refine q_r qv7_ok fun K hK=>?_);simp (maxSteps:=2000000) only [go_sem,↓reduceIte,reduceCtorEq,Nat.reduceLeDiff,Nat.reduceLT,Nat.reduceBEq,Nat.reduceAdd,o1, sv32, V32, sv65, V65, sv65n, ten, toNat_one, w1, p1, p2, p3, p4, k1, k2];(repeat1' with_reducible first|apply And.intro|(intro _;try exact q_v)|(refine hK _ ?_;clear hK K))<;>(try (clear hK K;exact q_u)))|(with_reducible refine q_s ?_;(first|apply q_J|apply q_K|apply q_L|apply q_M|apply q_N|apply q_O)<;>try (intro _;try exact q_v))|with_reducible refine q_t ?_)
        all_goals first | omega | assumption | exact cut_fit hY () q_D | skip
      · have w2 := w2 h1'
        repeat' (first|(with_reducible first|apply q_a|apply q_b|apply q_c|apply q_d|apply q_e|apply q_f|apply q_g|apply q_h|apply q_i|apply q_j|apply q_k|apply q_m|apply q_n|apply q_o|apply q_p|refine q_l ?_)|((with_reducible first|refine q_q qv7_ok fun K hK=>?_|refine q_r qv7_ok fun K hK=>?_);simp (maxSteps:=2000000) only [go_sem,↓reduceIte,reduceCtorEq,Nat.reduceLeDiff,Nat.reduceLT,Nat.reduceBEq,Nat.reduceAdd,o1, sv32, V32, sv65, V65, sv65n, ten, toNat_one, s3, s4, w2, p1, p2, p3, p4, k1, k2];(repeat1' with_reducible first|apply And.intro|(intro _;try exact q_v)|(refine hK _ ?_;clear hK K))<;>(try (clear hK K;exact q_u)))|(with_reducible refine q_s ?_;(first|apply q_J|apply q_K|apply q_L|apply q_M|apply q_N|apply q_O)<;>try (intro _;try exact q_v))|with_reducible refine q_t ?_)
        all_goals first | omega | assumption | exact cut_fit hY () q_D | skip
    · obtain ⟨p1, p2, p3, p4⟩ := pq_ok hl pr ⟨lz, by rw [Int.natAbs_natCast]; exact ld⟩ (by rw [Int.natAbs_natCast]; exact hgz)
      rw [Int.natAbs_natCast] at p2
      by_cases h1' : d = 1
      · have w1 := w1 h1'
        repeat' (first|(with_reducible first|apply q_a|apply q_b|apply q_c|apply q_d|apply q_e|apply q_f|apply q_g|apply q_h|apply q_i|apply q_j|apply q_k|apply q_m|apply q_n|apply q_o|apply q_p|refine q_l ?_)|((with_reducible first|refine q_q qv7_ok fun K hK=>?_|refine q_r qv7_ok fun K hK=>?_);simp (maxSteps:=2000000) only [go_sem,↓reduceIte,reduceCtorEq,Nat.reduceLeDiff,Nat.reduceLT,Nat.reduceBEq,Nat.reduceAdd,o1, sv32, V32, sv65, V65, sv65n, sv32n, ten, toNat_one, w1, p1, p2, p3, p4, z1, z2];(repeat1' with_reducible first|apply And.intro|(intro _;try exact q_v)|(refine hK _ ?_;clear hK K))<;>(try (clear hK K;exact q_u)))|(with_reducible refine q_s ?_;(first|apply q_J|apply q_K|apply q_L|apply q_M|apply q_N|apply q_O)<;>try (intro _;try exact q_v))|with_reducible refine q_t ?_)
        all_goals first | omega | assumption | exact cut_fit hY () q_D | skip
      · have w2 := w2 h1'
        repeat' (first|(with_reducible first|apply q_a|apply q_b|apply q_c|apply q_d|apply q_e|apply q_f|apply q_g|apply q_h|apply q_i|apply q_j|apply q_k|apply q_m|apply q_n|apply q_o|apply q_p|refine q_l ?_)|((with_reducible first|refine q_q qv7_ok fun K hK=>?_|refine q_r qv7_ok fun K hK=>?_);simp (maxSteps:=2000000) only [go_sem,↓reduceIte,reduceCtorEq,Nat.reduceLeDiff,Nat.reduceLT,Nat.reduceBEq,Nat.reduceAdd,o1, sv32, V32, sv65, V65, sv65n, sv32n, ten, toNat_one, s3, s4, w2, p1, p2, p3, p4, z1, z2];(repeat1' with_reducible first|apply And.intro|(intro _;try exact q_v)|(refine hK _ ?_;clear hK K))<;>(try (clear hK K;exact q_u)))|(with_reducible refine q_s ?_;(first|apply q_J|apply q_K|apply q_L|apply q_M|apply q_N|apply q_O)<;>try (intro _;try exact q_v))|with_reducible refine q_t ?_)
        all_goals first | omega | assumption | exact cut_fit hY () q_D | skip
  · intro _
    have hsz := str_size tx
    clear b1 b2 h1 h2
    by_cases hl : 4000 < (bytesOf tx).length
    · obtain ⟨p1, p2, p3, p4⟩ := pq_long hl
      rw [p1, p2, p3, p4]
      repeat' (first|(with_reducible first|apply q_a|apply q_b|apply q_c|apply q_d|apply q_e|apply q_f|apply q_g|apply q_h|apply q_i|apply q_j|apply q_k|apply q_m|apply q_n|apply q_o|apply q_p|refine q_l ?_)|((with_reducible first|refine q_q qv7_ok fun K hK=>?_|refine q_r qv7_ok fun K hK=>?_);simp (maxSteps:=2000000) only [go_sem,↓reduceIte,reduceCtorEq,Nat.reduceLeDiff,Nat.reduceLT,Nat.reduceBEq,Nat.reduceAdd,k1, k2];(repeat1' with_reducible first|apply And.intro|(intro _;try exact q_v)|(refine hK _ ?_;clear hK K))<;>(try (clear hK K;exact q_u)))|(with_reducible refine q_s ?_;(first|apply q_J|apply q_K|apply q_L|apply q_M|apply q_N|apply q_O)<;>try (intro _;try exact q_v))|with_reducible refine q_t ?_)
      all_goals first | omega | assumption | exact q_A rfl | skip
    -- the place of the stroke
    repeat' (first|(with_reducible first|apply q_a|apply q_b|apply q_c|apply q_d|apply q_e|apply q_f|apply q_g|apply q_h|apply q_i|apply q_j|apply q_k|apply q_m|apply q_n|apply q_o|apply q_p|refine q_l ?_)|((with_reducible first|refine q_q qv7_ok fun K hK=>?_|refine q_r qv7_ok fun K hK=>?_);simp (maxSteps:=2000000) only [go_sem,↓reduceIte,reduceCtorEq,Nat.reduceLeDiff,Nat.reduceLT,Nat.reduceBEq,Nat.reduceAdd,hsz];(repeat1' with_reducible first|apply And.intro|(intro _;try exact q_v)|(refine hK _ ?_;clear hK K))<;>(try (clear hK K;exact q_u)))|(with_reducible refine q_s ?_;(first|apply q_J|apply q_K|apply q_L|apply q_M|apply q_N|apply q_O)<;>try (intro _;try exact q_v))|with_reducible refine q_t ?_)
    refine q_G (ι := { i : Nat // i ≤ (bytesOf tx).length ∧ ∀ j, j < i → (bytesOf tx).getD j 0 ≠ 47 })
      (fun i => ⟨184, [(1, .c (.str tx)), (4, .c (.b false)), (7, .bx 2 0), (8, .bx 3 0), (14, .c (.i .i64 (i.1 : Nat)))], ⟨[(3, [.c (.i .i64 (pqC (bytesOf tx))), .c (.i .i64 (pqI (bytesOf tx)))]), (2, aQ (pqN (bytesOf tx)) (pqD (bytesOf tx)))], [], []⟩, 8⟩)
      (fun i => (bytesOf tx).length - i.1) ⟨0, by omega, fun j h => by omega⟩ ?_ ?_
    · exact q_D
    rintro ⟨i, g1, g2⟩
    simp only at g1 g2 ⊢
    have hat := str_at tx i
    rcases Nat.lt_or_ge i (bytesOf tx).length with hi | hi
    · by_cases h47 : (bytesOf tx).getD i 0 = 47
      · -- a stroke
        have hk : strokeAt (bytesOf tx) = some i := by
          unfold strokeAt
          rw [List.findIdx?_eq_some_iff_getElem]
          refine ⟨hi, by rw [getD_eq _ _ hi] at h47; simpa using h47, fun j hj => ?_⟩
          have := g2 j hj
          rw [getD_eq _ _ (by omega)] at this
          simpa using this
        obtain ⟨b1, b2⟩ := bytes_sub tx i hi
        rw [hsz] at b2
        have bL : (bytesOf (tx.extract 0 i)).length ≤ 4097 := by rw [b1, List.length_take]; omega
        have bR : (bytesOf (tx.extract (i + 1) (bytesOf tx).length)).length ≤ 4097 := by rw [b2, List.length_drop]; omega
        have bad := prZ_bad hk
        have good := fun {a b : Int} => prZ_good (a := a) (b := b) hk
        have ei : ((i : Int) + 1).toNat = i + 1 := by omega
        rw [← b1, ← b2] at bad good
        generalize hL : bytesOf (tx.extract 0 i) = L at *
        generalize hR : bytesOf (tx.extract (i + 1) (bytesOf tx).length) = R at *
        cases hp : pz 10 L with
        | none =>
          have i1 := it_none hp
          obtain ⟨p1, p2, p3, p4⟩ := pq_none hl (bad (.inl hp))
          rw [p1, p2, p3, p4]
          cases hq : pz 10 R with
          | none =>
            have i2 := it_none hq
            repeat' (first|(with_reducible first|apply q_a|apply q_b|apply q_c|apply q_d|apply q_e|apply q_f|apply q_g|apply q_h|apply q_i|apply q_j|apply q_k|apply q_m|apply q_n|apply q_o|apply q_p|refine q_l ?_)|((with_reducible first|refine q_q qv7_ok fun K hK=>?_|refine q_r qv7_ok fun K hK=>?_);simp (maxSteps:=2000000) only [go_sem,↓reduceIte,reduceCtorEq,Nat.reduceLeDiff,Nat.reduceLT,Nat.reduceBEq,Nat.reduceAdd,str_size, str_at, h47, ei, hL, hR, ten, i1, i2, k1, k2];(repeat1' with_reducible first|apply And.intro|(intro _;try exact q_v)|(refine hK _ ?_;clear hK K))<;>(try (clear hK K;exact q_u)))|(with_reducible refine q_s ?_;(first|apply q_J|apply q_K|apply q_L|apply q_M|apply q_N|apply q_O)<;>try (intro _;try exact q_v))|with_reducible refine q_t ?_)
            all_goals first | omega | assumption | exact q_A rfl | skip
          | some b =>
            have i2 := it_some hq
            repeat' (first|(with_reducible first|apply q_a|apply q_b|apply q_c|apply q_d|apply q_e|apply q_f|apply q_g|apply q_h|apply q_i|apply q_j|apply q_k|apply q_m|apply q_n|apply q_o|apply q_p|refine q_l ?_)|((with_reducible first|refine q_q qv7_ok fun K hK=>?_|refine q_r qv7_ok fun K hK=>?_);simp (maxSteps:=2000000) only [go_sem,↓reduceIte,reduceCtorEq,Nat.reduceLeDiff,Nat.reduceLT,Nat.reduceBEq,Nat.reduceAdd,str_size, str_at, h47, ei, hL, hR, ten, i1, i2, k1, k2];(repeat1' with_reducible first|apply And.intro|(intro _;try exact q_v)|(refine hK _ ?_;clear hK K))<;>(try (clear hK K;exact q_u)))|(with_reducible refine q_s ?_;(first|apply q_J|apply q_K|apply q_L|apply q_M|apply q_N|apply q_O)<;>try (intro _;try exact q_v))|with_reducible refine q_t ?_)
            all_goals first | omega | assumption | exact q_A rfl | skip
        | some a =>
          have i1 := it_some hp
          cases hq : pz 10 R with
          | none =>
            have i2 := it_none hq
            obtain ⟨p1, p2, p3, p4⟩ := pq_none hl (bad (.inr (.inl hq)))
            rw [p1, p2, p3, p4]
            repeat' (first|(with_reducible first|apply q_a|apply q_b|apply q_c|apply q_d|apply q_e|apply q_f|apply q_g|apply q_h|apply q_i|apply q_j|apply q_k|apply q_m|apply q_n|apply q_o|apply q_p|refine q_l ?_)|((with_reducible first|refine q_q qv7_ok fun K hK=>?_|refine q_r qv7_ok fun K hK=>?_);simp (maxSteps:=2000000) only [go_sem,↓reduceIte,reduceCtorEq,Nat.reduceLeDiff,Nat.reduceLT,Nat.reduceBEq,Nat.reduceAdd,str_size, str_at, h47, ei, hL, hR, ten, i1, i2, k1, k2];(repeat1' with_reducible first|apply And.intro|(intro _;try exact q_v)|(refine hK _ ?_;clear hK K))<;>(try (clear hK K;exact q_u)))|(with_reducible refine q_s ?_;(first|apply q_J|apply q_K|apply q_L|apply q_M|apply q_N|apply q_O)<;>try (intro _;try exact q_v))|with_reducible refine q_t ?_)
            all_goals first | omega | assumption | exact q_A rfl | skip
          | some b =>
            have i2 := it_some hq
            have lb := pz_lenQ hq bR
            have la := pz_lenQ hp bL
            have hc1 := cmpZ_gt b 1
            have d3 : (dg 65536 (1 : Int).natAbs).length ≤ 1 := by decide
            by_cases hb : 1 < b
            · have hb1 := hc1.2 hb
              have good := good hp hq hb
              have hfq := fQ_65 a b.natAbs
              by_cases hf : fQ a b.natAbs
              · obtain ⟨fa, fb⟩ := hfq.1 hf
                have fa' : decide (((dg 65536 a.natAbs).length : Int) ≤ 2 * 128) = true := decide_eq_true (by omega)
                have fb' : decide (((dg 65536 b.natAbs).length : Int) ≤ 2 * 128) = true := decide_eq_true (by omega)
                have hcg := cmp3_z (Nat.gcd a.natAbs b.natAbs) 1
                have hgl : (dg 65536 (Nat.gcd a.natAbs b.natAbs)).length ≤ 256 := Nat.le_trans (dg_len_mono (by omega) (Nat.gcd_le_right _ (by omega))) fb
                have d1 : (dg 65536 1).length ≤ 1 := by decide
                have g3 := fN_len a b.natAbs
                by_cases hg : Nat.gcd a.natAbs b.natAbs = 1
                · obtain ⟨p1, p2, p3, p4⟩ := pq_ok hl good hf hg
                  obtain ⟨q1, q2, q3, q4⟩ := f_fit hf
                  rw [p1, p2, p3, p4]
                  have hcg1 := hcg.2 hg
                  have la1 := hf.1
                  have lb1 := hf.2
                  repeat' (first|(with_reducible first|apply q_a|apply q_b|apply q_c|apply q_d|apply q_e|apply q_f|apply q_g|apply q_h|apply q_i|apply q_j|apply q_k|apply q_m|apply q_n|apply q_o|apply q_p|refine q_l ?_)|((with_reducible first|refine q_q qv7_ok fun K hK=>?_|refine q_r qv7_ok fun K hK=>?_);simp (maxSteps:=2000000) only [go_sem,↓reduceIte,reduceCtorEq,Nat.reduceLeDiff,Nat.reduceLT,Nat.reduceBEq,Nat.reduceAdd,str_size, str_at, h47, ei, hL, hR, ten, i1, i2, sv65, V65, sv32, V32, sv32n, fa', fb', hg, hcg1, toNat_one, Nrm_g, Nrm_n, q1, q2, q3, q4];(repeat1' with_reducible first|apply And.intro|(intro _;try exact q_v)|(refine hK _ ?_;clear hK K))<;>(try (clear hK K;exact q_u)))|(with_reducible refine q_s ?_;(first|apply q_J|apply q_K|apply q_L|apply q_M|apply q_N|apply q_O)<;>try (intro _;try exact q_v))|with_reducible refine q_t ?_)
                  all_goals first | omega | assumption | exact q_A rfl | skip
                · obtain ⟨p1, p2, p3, p4⟩ := pq_form hl good hf hg
                  rw [p1, p2, p3, p4]
                  have hcg1 : ¬ cmp3 (Nat.gcd a.natAbs b.natAbs) 1 = 0 := fun h => hg (hcg.1 h)
                  repeat' (first|(with_reducible first|apply q_a|apply q_b|apply q_c|apply q_d|apply q_e|apply q_f|apply q_g|apply q_h|apply q_i|apply q_j|apply q_k|apply q_m|apply q_n|apply q_o|apply q_p|refine q_l ?_)|((with_reducible first|refine q_q qv7_ok fun K hK=>?_|refine q_r qv7_ok fun K hK=>?_);simp (maxSteps:=2000000) only [go_sem,↓reduceIte,reduceCtorEq,Nat.reduceLeDiff,Nat.reduceLT,Nat.reduceBEq,Nat.reduceAdd,str_size, str_at, h47, ei, hL, hR, ten, i1, i2, sv65, V65, fa', fb', toNat_one, k1, k2];(repeat1' with_reducible first|apply And.intro|(intro _;try exact q_v)|(refine hK _ ?_;clear hK K))<;>(try (clear hK K;exact q_u)))|(with_reducible refine q_s ?_;(first|apply q_J|apply q_K|apply q_L|apply q_M|apply q_N|apply q_O)<;>try (intro _;try exact q_v))|with_reducible refine q_t ?_)
                  all_goals first | omega | assumption | exact q_A rfl | skip
              · obtain ⟨p1, p2, p3, p4⟩ := pq_big hl good hf
                rw [p1, p2, p3, p4]
                by_cases fa : (dg 65536 a.natAbs).length ≤ 256
                · have fb : ¬ (dg 65536 b.natAbs).length ≤ 256 := fun h => hf (hfq.2 ⟨fa, h⟩)
                  have fa' : decide (((dg 65536 a.natAbs).length : Int) ≤ 2 * 128) = true := decide_eq_true (by omega)
                  have fb' : decide (((dg 65536 b.natAbs).length : Int) ≤ 2 * 128) = false := decide_eq_false (by omega)
                  repeat' (first|(with_reducible first|apply q_a|apply q_b|apply q_c|apply q_d|apply q_e|apply q_f|apply q_g|apply q_h|apply q_i|apply q_j|apply q_k|apply q_m|apply q_n|apply q_o|apply q_p|refine q_l ?_)|((with_reducible first|refine q_q qv7_ok fun K hK=>?_|refine q_r qv7_ok fun K hK=>?_);simp (maxSteps:=2000000) only [go_sem,↓reduceIte,reduceCtorEq,Nat.reduceLeDiff,Nat.reduceLT,Nat.reduceBEq,Nat.reduceAdd,str_size, str_at, h47, ei, hL, hR, ten, i1, i2, sv65, V65, fa', fb', toNat_one, k1, k2];(repeat1' with_reducible first|apply And.intro|(intro _;try exact q_v)|(refine hK _ ?_;clear hK K))<;>(try (clear hK K;exact q_u)))|(with_reducible refine q_s ?_;(first|apply q_J|apply q_K|apply q_L|apply q_M|apply q_N|apply q_O)<;>try (intro _;try exact q_v))|with_reducible refine q_t ?_)
                  all_goals first | omega | assumption | exact q_A rfl | skip
                · have fa' : decide (((dg 65536 a.natAbs).length : Int) ≤ 2 * 128) = false := decide_eq_false (by omega)
                  repeat' (first|(with_reducible first|apply q_a|apply q_b|apply q_c|apply q_d|apply q_e|apply q_f|apply q_g|apply q_h|apply q_i|apply q_j|apply q_k|apply q_m|apply q_n|apply q_o|apply q_p|refine q_l ?_)|((with_reducible first|refine q_q qv7_ok fun K hK=>?_|refine q_r qv7_ok fun K hK=>?_);simp (maxSteps:=2000000) only [go_sem,↓reduceIte,reduceCtorEq,Nat.reduceLeDiff,Nat.reduceLT,Nat.reduceBEq,Nat.reduceAdd,str_size, str_at, h47, ei, hL, hR, ten, i1, i2, sv65, V65, fa', toNat_one, k1, k2];(repeat1' with_reducible first|apply And.intro|(intro _;try exact q_v)|(refine hK _ ?_;clear hK K))<;>(try (clear hK K;exact q_u)))|(with_reducible refine q_s ?_;(first|apply q_J|apply q_K|apply q_L|apply q_M|apply q_N|apply q_O)<;>try (intro _;try exact q_v))|with_reducible refine q_t ?_)
                  all_goals first | omega | assumption | exact q_A rfl | skip
            · obtain ⟨p1, p2, p3, p4⟩ := pq_none hl (bad (.inr (.inr ⟨b, hq, hb⟩)))
              rw [p1, p2, p3, p4]
              have hb1 : ¬ 0 < cmpZ b 1 := fun h => hb (hc1.1 h)
              have hb1' := decide_eq_false hb1
              repeat' (first|(with_reducible first|apply q_a|apply q_b|apply q_c|apply q_d|apply q_e|apply q_f|apply q_g|apply q_h|apply q_i|apply q_j|apply q_k|apply q_m|apply q_n|apply q_o|apply q_p|refine q_l ?_)|((with_reducible first|refine q_q qv7_ok fun K hK=>?_|refine q_r qv7_ok fun K hK=>?_);simp (maxSteps:=2000000) only [go_sem,↓reduceIte,reduceCtorEq,Nat.reduceLeDiff,Nat.reduceLT,Nat.reduceBEq,Nat.reduceAdd,str_size, str_at, h47, ei, hL, hR, ten, i1, i2, sv65, V65, toNat_one, hb1', k1, k2];(repeat1' with_reducible first|apply And.intro|(intro _;try exact q_v)|(refine hK _ ?_;clear hK K))<;>(try (clear hK K;exact q_u)))|(with_reducible refine q_s ?_;(first|apply q_J|apply q_K|apply q_L|apply q_M|apply q_N|apply q_O)<;>try (intro _;try exact q_v))|with_reducible refine q_t ?_)
              all_goals first | omega | assumption | exact q_A rfl | skip
      · -- another letter
        repeat' (first|(with_reducible first|apply q_a|apply q_b|apply q_c|apply q_d|apply q_e|apply q_f|apply q_g|apply q_h|apply q_i|apply q_j|apply q_k|apply q_m|apply q_n|apply q_o|apply q_p|refine q_l ?_)|((with_reducible first|refine q_q qv7_ok fun K hK=>?_|refine q_r qv7_ok fun K hK=>?_);simp (maxSteps:=2000000) only [go_sem,↓reduceIte,reduceCtorEq,Nat.reduceLeDiff,Nat.reduceLT,Nat.reduceBEq,Nat.reduceAdd,str_size, str_at, h47];(repeat1' with_reducible first|apply And.intro|(intro _;try exact q_v)|(refine hK _ ?_;clear hK K))<;>(try (clear hK K;exact q_u)))|(with_reducible refine q_s ?_;(first|apply q_J|apply q_K|apply q_L|apply q_M|apply q_N|apply q_O)<;>try (intro _;try exact q_v))|with_reducible refine q_t ?_)
        all_goals first | omega | assumption | skip
        all_goals
          refine q_F ⟨i + 1, hi, fun j hj => ?_⟩ ?_ (by simp only; omega)
          · rcases Nat.lt_or_ge j i with k | k
            · exact g2 j k
            · obtain rfl : j = i := by omega
              exact h47
          · exact q_D
    · -- no stroke
      obtain rfl : i = (bytesOf tx).length := by omega
      have hk : strokeAt (bytesOf tx) = none := stroke_no (fun x hx => by
        obtain ⟨j, hj, rfl⟩ := List.getElem_of_mem hx
        have := g2 j hj
        rwa [getD_eq _ _ hj] at this)
      have b1 : bytesOf (tx.extract 0 (bytesOf tx).length) = bytesOf tx := by rw [str_sub, List.take_length, List.drop_zero]
      have hpr := prZ_no hk
      have bL : (bytesOf tx).length ≤ 4097 := by omega
      cases hp : pz 10 (bytesOf tx) with
      | none =>
        have i1 := it_none hp
        rw [hp] at hpr
        obtain ⟨p1, p2, p3, p4⟩ := pq_none hl hpr
        rw [p1, p2, p3, p4]
        repeat' (first|(with_reducible first|apply q_a|apply q_b|apply q_c|apply q_d|apply q_e|apply q_f|apply q_g|apply q_h|apply q_i|apply q_j|apply q_k|apply q_m|apply q_n|apply q_o|apply q_p|refine q_l ?_)|((with_reducible first|refine q_q qv7_ok fun K hK=>?_|refine q_r qv7_ok fun K hK=>?_);simp (maxSteps:=2000000) only [go_sem,↓reduceIte,reduceCtorEq,Nat.reduceLeDiff,Nat.reduceLT,Nat.reduceBEq,Nat.reduceAdd,str_size, b1, ten, i1, k1, k2];(repeat1' with_reducible first|apply And.intro|(intro _;try exact q_v)|(refine hK _ ?_;clear hK K))<;>(try (clear hK K;exact q_u)))|(with_reducible refine q_s ?_;(first|apply q_J|apply q_K|apply q_L|apply q_M|apply q_N|apply q_O)<;>try (intro _;try exact q_v))|with_reducible refine q_t ?_)
        all_goals first | omega | assumption | exact q_A rfl | skip
      | some a =>
        have i1 := it_some hp
        rw [hp] at hpr
        have la := pz_lenQ hp bL
        have hfq := fQ_65 a (1 : Int).natAbs
        have d3 : (dg 65536 (1 : Int).natAbs).length ≤ 1 := by decide
        have fb' : decide (((dg 65536 (1 : Int).natAbs).length : Int) ≤ 2 * 128) = true := decide_eq_true (by omega)
        have hg : Nat.gcd a.natAbs (1 : Int).natAbs = 1 := Nat.gcd_one_right _
        by_cases hf : fQ a (1 : Int).natAbs
        · obtain ⟨fa, fb⟩ := hfq.1 hf
          have fa' : decide (((dg 65536 a.natAbs).length : Int) ≤ 2 * 128) = true := decide_eq_true (by omega)
          obtain ⟨p1, p2, p3, p4⟩ := pq_ok hl hpr hf hg
          obtain ⟨q1, q2, q3, q4⟩ := f_fit hf
          rw [p1, p2, p3, p4]
          have hcg1 : cmp3 1 1 = 0 := by decide
          have la1 := hf.1
          have lb1 := hf.2
          repeat' (first|(with_reducible first|apply q_a|apply q_b|apply q_c|apply q_d|apply q_e|apply q_f|apply q_g|apply q_h|apply q_i|apply q_j|apply q_k|apply q_m|apply q_n|apply q_o|apply q_p|refine q_l ?_)|((with_reducible first|refine q_q qv7_ok fun K hK=>?_|refine q_r qv7_ok fun K hK=>?_);simp (maxSteps:=2000000) only [go_sem,↓reduceIte,reduceCtorEq,Nat.reduceLeDiff,Nat.reduceLT,Nat.reduceBEq,Nat.reduceAdd,str_size, b1, ten, i1, sv65, V65, sv32, V32, sv32n, fa', fb', hg, hcg1, toNat_one, Nrm_g, Nrm_n, q1, q2, q3, q4];(repeat1' with_reducible first|apply And.intro|(intro _;try exact q_v)|(refine hK _ ?_;clear hK K))<;>(try (clear hK K;exact q_u)))|(with_reducible refine q_s ?_;(first|apply q_J|apply q_K|apply q_L|apply q_M|apply q_N|apply q_O)<;>try (intro _;try exact q_v))|with_reducible refine q_t ?_)
          all_goals first | omega | assumption | exact q_A rfl | skip
        · obtain ⟨p1, p2, p3, p4⟩ := pq_big hl hpr hf
          rw [p1, p2, p3, p4]
          have fa : ¬ (dg 65536 a.natAbs).length ≤ 256 := fun h => hf (hfq.2 ⟨h, by omega⟩)
          have fa' : decide (((dg 65536 a.natAbs).length : Int) ≤ 2 * 128) = false := decide_eq_false (by omega)
          repeat' (first|(with_reducible first|apply q_a|apply q_b|apply q_c|apply q_d|apply q_e|apply q_f|apply q_g|apply q_h|apply q_i|apply q_j|apply q_k|apply q_m|apply q_n|apply q_o|apply q_p|refine q_l ?_)|((with_reducible first|refine q_q qv7_ok fun K hK=>?_|refine q_r qv7_ok fun K hK=>?_);simp (maxSteps:=2000000) only [go_sem,↓reduceIte,reduceCtorEq,Nat.reduceLeDiff,Nat.reduceLT,Nat.reduceBEq,Nat.reduceAdd,str_size, b1, ten, i1, sv65, V65, fa', fb', toNat_one, k1, k2];(repeat1' with_reducible first|apply And.intro|(intro _;try exact q_v)|(refine hK _ ?_;clear hK K))<;>(try (clear hK K;exact q_u)))|(with_reducible refine q_s ?_;(first|apply q_J|apply q_K|apply q_L|apply q_M|apply q_N|apply q_O)<;>try (intro _;try exact q_v))|with_reducible refine q_t ?_)
          all_goals first | omega | assumption | exact q_A rfl | skip
end Go.Proofs.YtlflfhcfljiciaaGreat

namespace Go.Proofs.YtlflfhcfljiciaaGreat
set_option linter.unusedSimpArgs false
set_option linter.unusedVariables false
open Go.Abs Go.Proofs.NatL Go.ChangeShapes Go.WideShapes Go.ChangeAt Go.RowKit

theorem own_knob : ownKnob Tryz.prog.godebug = none := by kernel_rfl
theorem kids : Kids Tryz.prog (· < Tryz.prog.types.size) := kids_rows (by kernel_rfl) (by kernel_rfl)
theorem full : ∀ t e, t < Tryz.prog.types.size → Tryz.prog.underlying t = some (.slice e) → 0 < Tryz.prog.cellsOf e := slices_full_of Tryz.prog (by kernel_rfl)
theorem cells_u32 : Tryz.prog.cellsOf 56 = 1 := by kernel_rfl
theorem bytes_u32 : Tryz.prog.bytesOf 56 = 4 := by kernel_rfl

theorem u32_in {xs : List Int} (h : ∀ n ∈ xs, (Lit.int .u32 n).wf = true) : InB 4294967296 xs := fun x hx => by
  have := bounds_u32 (h x hx)
  omega

end Go.Proofs.YtlflfhcfljiciaaGreat

namespace Go.Proofs.YtlflfhcfljiciaaGreat
set_option linter.unusedSimpArgs false
set_option linter.unusedVariables false
open Go.Abs Go.Proofs.NatL Go.ChangeShapes Go.WideShapes Go.ChangeAt Go.RowKit

theorem cells_bool : Tryz.prog.cellsOf 4 = 1 := by kernel_rfl
theorem cells_limbs : Tryz.prog.cellsOf 22 = 1 := by kernel_rfl

end Go.Proofs.YtlflfhcfljiciaaGreat

namespace Go.Proofs.YtlflfhcfljiciaaGreat
set_option linter.unusedSimpArgs false
set_option linter.unusedVariables false
open Go.Abs Go.Proofs.NatL Go.ChangeShapes Go.WideShapes Go.ChangeAt Go.RowKit

set_option maxRecDepth 100000 in
theorem open_str {H : Type} {enc : TypeId × Value → H} {W : World} {base : Nat} {v : Value} {d : DataW H} {p : List MemPlace} (hval : Value.okWide Tryz.prog W .any base 9 v) (h : DataW.Trod enc Tryz.prog W 0 (fun _ => true) true 9 v d p) :
    ∃ s : ByteArray, v = .string s ∧ s.size ≤ maxLen := by
  obtain ⟨fuel, hf⟩ := h
  obtain ⟨s, hc, _, hm⟩ := DataW.trod_string Tryz.underlying9 hf
  exact ⟨s, one_of Tryz.underlying9 rfl hval hc rfl, hm⟩

set_option maxRecDepth 100000 in
theorem int_cells {H : Type} {enc : TypeId × Value → H} {W : World} {fuel : Nat} {cs : List Value} {x : DataW H × List MemPlace} (h : DataW.trod enc Tryz.prog W 0 (fun _ => true) true fuel 24 cs = some x) (hs : Sized Tryz.prog 24 x.1) :
    ∃ (s : Bool) (xs : List Int), RdL W Top [.b s, .ints .u32 xs] cs ∧ xs.length ≤ 140737488355328 ∧ InB 4294967296 xs := by
  obtain ⟨y0, y1, n, rfl, hl, h0, h1⟩ := trod_struct2 Tryz.underlying24 h
  simp only at h0 h1 hl
  rw [cells_bool] at h0
  rw [cells_limbs] at h1
  obtain ⟨s, e0, rfl⟩ := DataW.trod_bool Tryz.underlying4 h0
  obtain ⟨xs, u, e1, ho, hrd, hm, hw, hd⟩ := rd_ints Tryz.underlying22 Tryz.underlying56 cells_u32 h1
  obtain ⟨s0, hs'⟩ := szd_cons (szd_struct Tryz.underlying24 hs)
  obtain ⟨s1, -⟩ := szd_cons hs'
  have hl2 := szd_slice (n := xs.length) Tryz.underlying22 s1 (by
    rcases hd with ⟨h1, h2⟩ | h1
    · exact .inl ⟨h1, by rw [h2]; rfl⟩
    · exact .inr h1)
  rw [bytes_u32] at hl2
  have hcells : cs = [.bool s, u] := by
    have hlen : cs.length = 2 := by rw [hl]; kernel_rfl
    match cs, hlen with
    | [a, b], _ =>
      simp at e0 e1
      rw [e0, e1]
  refine ⟨s, xs, ?_, by simp only [reachBytes] at hl2; omega, u32_in hw⟩
  rw [hcells]
  exact rdL_append (rdL_one (.b s)) (rdL_one hrd)

theorem cells_Int : Tryz.prog.cellsOf 24 = 2 := by kernel_rfl

end Go.Proofs.YtlflfhcfljiciaaGreat

namespace Go.Proofs.YtlflfhcfljiciaaGreat
set_option linter.unusedSimpArgs false
set_option linter.unusedVariables false
open Go.Abs Go.Proofs.NatL Go.ChangeShapes Go.WideShapes Go.ChangeAt Go.RowKit

set_option maxRecDepth 100000 in
theorem open_Ratio {H : Type} {enc : TypeId × Value → H} {W : World} {base : Nat} {v : Value} {d : DataW H} {p : List MemPlace} (hval : Value.okWide Tryz.prog W .any base 26 v) (h : DataW.Trod enc Tryz.prog W 0 (fun _ => true) true 26 v d p) (hs : Sized Tryz.prog 26 d) :
    ∃ (s0 : Bool) (xs0 : List Int) (s1 : Bool) (xs1 : List Int), RdS W Top (.inr [.b s0, .ints .u32 xs0, .b s1, .ints .u32 xs1]) v ∧
      (xs0.length ≤ 140737488355328 ∧ xs1.length ≤ 140737488355328) ∧ (InB 4294967296 xs0 ∧ InB 4294967296 xs1) := by
  obtain ⟨cs, rfl, hcs⟩ := okWide_struct Tryz.underlying26 hval
  obtain ⟨fuel, hf⟩ := h
  obtain ⟨ys, n, _, hy, hl, hlen, hfs⟩ := DataW.trod_struct Tryz.underlying26 hf
  cases hy
  match ys, hlen with
  | [y0, y1], _ =>
  have f0 : DataW.trod enc Tryz.prog W 0 (fun _ => true) true n 24 ((cs.toList.drop 0).take (Tryz.prog.cellsOf 24)) = some y0 := hfs 0 _ rfl
  rw [cells_Int] at f0
  have f1 : DataW.trod enc Tryz.prog W 0 (fun _ => true) true n 24 ((cs.toList.drop 2).take (Tryz.prog.cellsOf 24)) = some y1 := hfs 1 _ rfl
  rw [cells_Int] at f1
  have hl : cs.toList.length = Tryz.prog.cellsOf 26 := hl
  obtain ⟨z0, hs⟩ := szd_cons (szd_struct Tryz.underlying26 hs)
  obtain ⟨z1, hs⟩ := szd_cons hs
  obtain ⟨s0, xs0, r0, l0, b0⟩ := int_cells f0 z0
  obtain ⟨s1, xs1, r1, l1, b1⟩ := int_cells f1 z1
  refine ⟨s0, xs0, s1, xs1, ⟨cs, rfl, ?_⟩, ⟨l0, l1⟩, ⟨b0, b1⟩⟩
  have hlen : cs.toList.length = 4 := by rw [hl]; kernel_rfl
  match hq : cs.toList, hlen with
  | [a0, a1, a2, a3], _ =>
  rw [hq] at r0 r1
  simp only [List.drop_zero, List.drop_succ_cons, List.take_succ_cons, List.take_zero, List.cons.injEq, and_true] at r0 r1
  exact rdL_append r0 r1
end Go.Proofs.YtlflfhcfljiciaaGreat
