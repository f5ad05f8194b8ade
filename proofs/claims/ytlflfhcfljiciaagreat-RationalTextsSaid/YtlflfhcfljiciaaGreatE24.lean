import Derived.Test.YtlflfhcfljiciaaGreatE22
import Derived.Test.YtlflfhcfljiciaaGreatE23
import Derived.Test.YtlflfhcfljiciaaGreatE3
namespace Go.Proofs.NatL
set_option linter.unusedSimpArgs false
set_option linter.unusedVariables false
def spL (l : List Int) : List Int := match strokeAt l with | some k => l.take k | none => l
def spR (l : List Int) : List Int := match strokeAt l with | some k => l.drop (k + 1) | none => [49]
def spB (l : List Int) : Bool := (strokeAt l).isSome
def prZ (l : List Int) : Option (Int × Int) := match pz 10 (spL l), pz 10 (spR l) with
  | some a, some b => if spB l = true ∧ ¬ 1 < b then none else some (a, b)
  | _, _ => none
end Go.Proofs.NatL
namespace Go.Proofs.YtlflfhcfljiciaaGreat
set_option linter.unusedSimpArgs false
set_option linter.unusedVariables false
open Go.Abs Go.Proofs.NatL

def cutO (s : ByteArray) : AV := match strokeAt (bytesOf s) with
  | some k => .t [.inl (.str (s.extract 0 k)), .inl (.str (s.extract (k + 1) s.size)), .inl (.b true)]
  | none => .t [.inl (.str s), .inl (.str { data := #[] }), .inl (.b false)]
def sindexCT : CT := mkCT [] true fun l K => match l with
  | [.inl (.str s), .inl (.str t)] => bytesOf t = [47] ∧ K (.c (.i .i64 (match strokeAt (bytesOf s) with | some k => (k : Int) | none => -1)))
  | _ => False
def sc2 : Cfg := addT 65 sindexCT sc1
theorem sc2_ok : TblOk Tryz.prog sc2 := q_I sc1_ok Tryz.func65 fun l K h => by
  split at h
  · exact ⟨_, (sindex_ret _ _ h.1).plain rfl, h.2⟩
  · exact h.elim
attribute [go_sem] sindexCT
def scb2 : Cfg := listT [(65, sindexCT)] [28]
theorem scb2_ok : TblOk Tryz.prog scb2 := listT_ok (big := sc2) sc2_ok ⟨rfl, trivial⟩
attribute [go_sem] scb2
set_option maxHeartbeats 1600000 in
theorem slcut_ret (s t : ByteArray) (ht : bytesOf t = [47]) (hm : s.size ≤ Go.maxLen) : Ret Tryz.prog 44 false [.inl (.str s), .inl (.str t)] (cutO s) := by
  have hs := str_size t
  have hsz := str_size s
  rw [ht] at hs
  have hs : t.size = 1 := hs
  have hml : Go.maxLen ≤ 9223372036854775807 := by decide +kernel
  unfold cutO
  cases hk : strokeAt (bytesOf s) with
  | some k =>
    obtain ⟨k1, k2, k3⟩ := stroke_some hk
    have e1 : ((k : Int) + 1).toNat = k + 1 := by omega
    (refine q_H Tryz.func44 (fun F => ?_); simp only [q_z,q_y,Tryz.ntmps44,Tryz.results44])
    repeat' (first|(with_reducible first|apply q_a|apply q_b|apply q_c|apply q_d|apply q_e|apply q_f|apply q_g|apply q_h|apply q_i|apply q_j|apply q_k|apply q_m|apply q_n|apply q_o|apply q_p|refine q_l ?_)|((with_reducible first|refine q_q scb2_ok fun K hK=>?_|refine q_r scb2_ok fun K hK=>?_);simp (maxSteps:=2000000) only [go_sem,↓reduceIte,reduceCtorEq,Nat.reduceLeDiff,Nat.reduceLT,Nat.reduceBEq,Nat.reduceAdd,hk, hs, ht, e1];(repeat1' with_reducible first|apply And.intro|(intro _;try exact q_v)|(refine hK _ ?_;clear hK K))<;>(try (clear hK K;exact q_u)))|(with_reducible refine q_s ?_;(first|apply q_J|apply q_K|apply q_L|apply q_M|apply q_N|apply q_O)<;>try (intro _;try exact q_v))|with_reducible refine q_t ?_)
    all_goals first | omega | assumption | exact q_A rfl | skip
  | none =>
    (refine q_H Tryz.func44 (fun F => ?_); simp only [q_z,q_y,Tryz.ntmps44,Tryz.results44])
    repeat' (first|(with_reducible first|apply q_a|apply q_b|apply q_c|apply q_d|apply q_e|apply q_f|apply q_g|apply q_h|apply q_i|apply q_j|apply q_k|apply q_m|apply q_n|apply q_o|apply q_p|refine q_l ?_)|((with_reducible first|refine q_q scb2_ok fun K hK=>?_|refine q_r scb2_ok fun K hK=>?_);simp (maxSteps:=2000000) only [go_sem,↓reduceIte,reduceCtorEq,Nat.reduceLeDiff,Nat.reduceLT,Nat.reduceBEq,Nat.reduceAdd,hk, ht];(repeat1' with_reducible first|apply And.intro|(intro _;try exact q_v)|(refine hK _ ?_;clear hK K))<;>(try (clear hK K;exact q_u)))|(with_reducible refine q_s ?_;(first|apply q_J|apply q_K|apply q_L|apply q_M|apply q_N|apply q_O)<;>try (intro _;try exact q_v))|with_reducible refine q_t ?_)
    all_goals first | omega | assumption | exact q_A rfl | skip
def scutCT : CT := mkCT [] true fun l K => match l with
  | [.inl (.str s), .inl (.str t)] => (bytesOf t = [47] ∧ s.size ≤ Go.maxLen) ∧ K (cutO s)
  | _ => False
theorem cutO_some {s : ByteArray} {k : Nat} (h : strokeAt (bytesOf s) = some k) : cutO s = .t [.inl (.str (s.extract 0 k)), .inl (.str (s.extract (k + 1) s.size)), .inl (.b true)] := by unfold cutO; rw [h]
theorem cutO_none {s : ByteArray} (h : strokeAt (bytesOf s) = none) : cutO s = .t [.inl (.str s), .inl (.str { data := #[] }), .inl (.b false)] := by unfold cutO; rw [h]
def sc3 : Cfg := addT 44 scutCT sc2
theorem sc3_ok : TblOk Tryz.prog sc3 := q_I sc2_ok Tryz.func44 fun l K h => by
  split at h
  · exact ⟨_, (slcut_ret _ _ h.1.1 h.1.2).plain (by unfold cutO; split <;> rfl), h.2⟩
  · exact h.elim
attribute [go_sem] scutCT
def scb3 : Cfg := listT [(44, scutCT)] [28]
theorem scb3_ok : TblOk Tryz.prog scb3 := listT_ok (big := sc3) sc3_ok ⟨rfl, trivial⟩
attribute [go_sem] scb3
set_option maxHeartbeats 1600000 in
theorem scut_ret (s t : ByteArray) (ht : bytesOf t = [47]) (hm : s.size ≤ Go.maxLen) : Ret Tryz.prog 23 false [.inl (.str s), .inl (.str t)] (cutO s) := by
  cases hk : strokeAt (bytesOf s) with
  | some k =>
    have hc := cutO_some hk
    rw [hc]
    (refine q_H Tryz.func23 (fun F => ?_); simp only [q_z,q_y,Tryz.ntmps23,Tryz.results23])
    repeat' (first|(with_reducible first|apply q_a|apply q_b|apply q_c|apply q_d|apply q_e|apply q_f|apply q_g|apply q_h|apply q_i|apply q_j|apply q_k|apply q_m|apply q_n|apply q_o|apply q_p|refine q_l ?_)|((with_reducible first|refine q_q scb3_ok fun K hK=>?_|refine q_r scb3_ok fun K hK=>?_);simp (maxSteps:=2000000) only [go_sem,↓reduceIte,reduceCtorEq,Nat.reduceLeDiff,Nat.reduceLT,Nat.reduceBEq,Nat.reduceAdd,hc, ht];(repeat1' with_reducible first|apply And.intro|(intro _;try exact q_v)|(refine hK _ ?_;clear hK K))<;>(try (clear hK K;exact q_u)))|(with_reducible refine q_s ?_;(first|apply q_J|apply q_K|apply q_L|apply q_M|apply q_N|apply q_O)<;>try (intro _;try exact q_v))|with_reducible refine q_t ?_)
    all_goals first | omega | assumption | exact q_A rfl | skip
  | none =>
    have hc := cutO_none hk
    rw [hc]
    (refine q_H Tryz.func23 (fun F => ?_); simp only [q_z,q_y,Tryz.ntmps23,Tryz.results23])
    repeat' (first|(with_reducible first|apply q_a|apply q_b|apply q_c|apply q_d|apply q_e|apply q_f|apply q_g|apply q_h|apply q_i|apply q_j|apply q_k|apply q_m|apply q_n|apply q_o|apply q_p|refine q_l ?_)|((with_reducible first|refine q_q scb3_ok fun K hK=>?_|refine q_r scb3_ok fun K hK=>?_);simp (maxSteps:=2000000) only [go_sem,↓reduceIte,reduceCtorEq,Nat.reduceLeDiff,Nat.reduceLT,Nat.reduceBEq,Nat.reduceAdd,hc, ht];(repeat1' with_reducible first|apply And.intro|(intro _;try exact q_v)|(refine hK _ ?_;clear hK K))<;>(try (clear hK K;exact q_u)))|(with_reducible refine q_s ?_;(first|apply q_J|apply q_K|apply q_L|apply q_M|apply q_N|apply q_O)<;>try (intro _;try exact q_v))|with_reducible refine q_t ?_)
    all_goals first | omega | assumption | exact q_A rfl | skip
def sc4 : Cfg := addT 23 scutCT sc3
theorem sc4_ok : TblOk Tryz.prog sc4 := q_I sc3_ok Tryz.func23 fun l K h => by
  split at h
  · exact ⟨_, (scut_ret _ _ h.1.1 h.1.2).plain (by unfold cutO; split <;> rfl), h.2⟩
  · exact h.elim

def iReadCT : CT := mkCT [] false fun l K => match l with
  | [.inl (.str s), .inl (.i .i64 b)] => (b = 10 ∧ (bytesOf s).length ≤ 4097) ∧ K (parseO 10 (bytesOf s))
  | _ => False
theorem po_no {l : List Int} (h : pz 10 l = none) : parseO 10 l = .t [.inr [.b false, .ints .u32 []], .inr [.i .i64 1, .i .i64 (-1)]] := by unfold parseO; rw [h]
theorem po_yes {l : List Int} {z : Int} (h : pz 10 l = some z) : parseO 10 l = .t [.inr (gI (cl 128 z)), .inr [.i .i64 (clC 128 z), .i .i64 (clI 128 z)]] := by unfold parseO; rw [h]
def iu8 : Cfg := addT 24 iReadCT iu7
theorem iu8_ok : TblOk Tryz.prog iu8 := q_I iu7_ok Tryz.func24 fun l K h => by
  split at h
  · rename_i s b
    obtain ⟨⟨rfl, h1⟩, h2⟩ := h
    obtain ⟨_, _, hr, _⟩ := iu7_ok.2 24 iParseCT rfl
    exact hr rfl rfl [.inl (.str s), .inl (.i .i64 10)] K ⟨fun h => by omega, fun _ => ⟨fun h => by omega, fun _ => h2⟩⟩
  · exact h.elim
attribute [go_sem] iReadCT
theorem lit_one : bytesOf { data := #[49] } = [49] := rfl
theorem pz_one : pz 10 [49] = some 1 := by decide
theorem dv10 (c : Int) : dv 10 c = if 48 ≤ c ∧ c ≤ 57 then c - 48 else -1 := by unfold dv; (repeat' split) <;> omega
theorem rdv_first (c : Int) (r : List Int) (hc : 1 ≤ dv 10 c) : 10 ^ r.length ≤ rdv 10 ((c :: r).map (dv 10)) := by
  rw [List.map_cons, rdv_cons, List.length_map]
  have : 1 * 10 ^ r.length ≤ (dv 10 c).toNat * 10 ^ r.length := Nat.mul_le_mul_right _ (by omega)
  omega
theorem pz_big {l : List Int} {z : Int} (h : pz 10 l = some z) : 0 < l.length ∧ (((l = [49] ∨ l.getD 0 0 = 45 ∨ l = [48]) ∧ z ≤ 1) ∨ ((l ≠ [49] ∧ l.getD 0 0 ≠ 45 ∧ l ≠ [48]) ∧ 1 < z)) := by
  unfold pz at h
  split at h
  · rename_i g
    obtain ⟨h1, h2, _⟩ := pzR_canon (by omega) h
    refine ⟨g.1, .inl ⟨.inr (.inl g.2), ?_⟩⟩
    rw [h1, sgt]; omega
  · rename_i g
    obtain ⟨h1, _, h3, h4, h5⟩ := pzR_canon (by omega) h
    rw [sgf] at h1
    match l, h3 with
    | c :: r, _ =>
      have h4c := h4 c (List.mem_cons_self ..)
      have hd := dv10 c
      have hc : (c :: r).getD 0 0 = c := rfl
      have hne : c ≠ 45 := by intro e; rw [e] at h4c; revert h4c; decide
      refine ⟨by simp, ?_⟩
      match r with
      | [] =>
        have hz : z = dv 10 c := by
          rw [h1]
          show ((rdv 10 [dv 10 c] : Nat) : Int) = _
          simp only [rdv, List.foldl_cons, List.foldl_nil]; omega
        rw [hd] at hz h4c
        split at hz
        · rename_i hr
          by_cases k : c = 49 ∨ c = 48
          · left
            refine ⟨?_, by omega⟩
            rcases k with k | k
            · left; rw [k]
            · right; right; rw [k]
          · right
            refine ⟨⟨fun e => k (.inl ?_), hne, fun e => k (.inr ?_)⟩, by omega⟩
            · simpa using e
            · simpa using e
        · rename_i hr; rw [if_neg hr] at h4c; omega
      | d :: r =>
        right
        have hc48 : c ≠ 48 := fun e => h5 ⟨e, .inl (by simp)⟩
        have h1c : 1 ≤ dv 10 c := by rw [hd] at h4c ⊢; split at h4c <;> omega
        have := rdv_first c (d :: r) h1c
        have h10 : 10 ≤ 10 ^ (d :: r).length := by
          rw [List.length_cons, Nat.pow_succ]
          have := Nat.pow_pos (n := r.length) (show 0 < 10 by omega)
          omega
        refine ⟨⟨by simp, hne, by simp⟩, by omega⟩
theorem pz_lenQ {l : List Int} {z : Int} (h : pz 10 l = some z) (hl : l.length ≤ 4097) : (dg 65536 z.natAbs).length ≤ 1048576 := Nat.le_trans (pz_len (by omega) (by omega) h) (by omega)
def poQ (l : List Int) : AV := match prZ l with
  | none => .t [zQ, fltQ 1 (-1)]
  | some (a, b) => if fQ a b.natAbs then (if Nat.gcd a.natAbs b.natAbs = 1 then .t [.inr (gQ a b.natAbs), fltQ 0 0] else .t [zQ, fltQ 6 (-1)]) else .t [zQ, fltQ 14 (-1)]
theorem bytes_sub (s : ByteArray) (k : Nat) (hk : k < (bytesOf s).length) : bytesOf (s.extract 0 k) = (bytesOf s).take k ∧ bytesOf (s.extract (k + 1) s.size) = (bytesOf s).drop (k + 1) := by
  refine ⟨by rw [str_sub, List.drop_zero], ?_⟩
  rw [str_sub, str_size, List.take_length]
def qb18 : Cfg := listT [(22, atCT), (23, scutCT), (24, iReadCT), (25, validQCT)] [28]
theorem qb18_ok : TblOk Tryz.prog qb18 := listE_ok (by simp only [List.mem_singleton, forall_eq]; exact flt) ⟨⟨qt2, qt2_ok, rfl⟩, ⟨sc4, sc4_ok, rfl⟩, ⟨iu8, iu8_ok, rfl⟩, ⟨qt1, qt1_ok, rfl⟩, trivial⟩
attribute [go_sem] qb18
set_option maxRecDepth 100000 in
set_option maxHeartbeats 6400000 in
theorem qparse_ok (s : ByteArray) (hs : s.size ≤ 4000) : Ret Tryz.prog 5 false [.inl (.str s)] (poQ (bytesOf s)) := by
  have hml : 4000 ≤ Go.maxLen := by decide +kernel
  have hsz := str_size s
  unfold poQ prZ spL spR spB
  cases hk : strokeAt (bytesOf s) with
  | none =>
    have hc := cutO_none hk
    have p1' := po_yes pz_one
    simp only [Option.isSome_none, Bool.false_eq_true, false_and, if_false, pz_one]
    have hl1 : (dg 4294967296 (1 : Int).natAbs).length ≤ 128 := by decide
    obtain ⟨c4, c5, c6⟩ := cl_fit (k := 128) hl1
    cases hp : pz 10 (bytesOf s) with
    | none =>
      have p1 := po_no hp
      (refine q_H Tryz.func5 (fun F => ?_); simp only [q_z,q_y,Tryz.ntmps5,Tryz.results5])
      repeat' (first|(with_reducible first|apply q_a|apply q_b|apply q_c|apply q_d|apply q_e|apply q_f|apply q_g|apply q_h|apply q_i|apply q_j|apply q_k|apply q_m|apply q_n|apply q_o|apply q_p|refine q_l ?_)|((with_reducible first|refine q_q qb18_ok fun K hK=>?_|refine q_r qb18_ok fun K hK=>?_);simp (maxSteps:=2000000) only [go_sem,↓reduceIte,reduceCtorEq,Nat.reduceLeDiff,Nat.reduceLT,Nat.reduceBEq,Nat.reduceAdd,hc, p1, p1', lit_stroke, lit_one, c4, c5, c6];(repeat1' with_reducible first|apply And.intro|(intro _;try exact q_v)|(refine hK _ ?_;clear hK K))<;>(try (clear hK K;exact q_u)))|(with_reducible refine q_s ?_;(first|apply q_J|apply q_K|apply q_L|apply q_M|apply q_N|apply q_O)<;>try (intro _;try exact q_v))|with_reducible refine q_t ?_)
      all_goals first | omega | assumption | exact q_B [nQ] rfl rfl | skip
    | some a =>
      have p1 := po_yes hp
      simp only
      have hg : Nat.gcd a.natAbs (1 : Int).natAbs = 1 := Nat.gcd_one_right _
      rw [if_pos hg]
      by_cases ha : (dg 4294967296 a.natAbs).length ≤ 128
      · obtain ⟨c1, c2, c3⟩ := cl_fit ha
        have hq : RT a 1 := ⟨by omega, hg, ha, hl1⟩
        have oq : okQ (decide (a < 0)) (dg 4294967296 a.natAbs) (decide ((1 : Int) < 0)) (dg 4294967296 (1 : Int).natAbs) = true := okQ_g hq
        rw [if_pos ⟨ha, hl1⟩]
        (refine q_H Tryz.func5 (fun F => ?_); simp only [q_z,q_y,Tryz.ntmps5,Tryz.results5])
        repeat' (first|(with_reducible first|apply q_a|apply q_b|apply q_c|apply q_d|apply q_e|apply q_f|apply q_g|apply q_h|apply q_i|apply q_j|apply q_k|apply q_m|apply q_n|apply q_o|apply q_p|refine q_l ?_)|((with_reducible first|refine q_q qb18_ok fun K hK=>?_|refine q_r qb18_ok fun K hK=>?_);simp (maxSteps:=2000000) only [go_sem,↓reduceIte,reduceCtorEq,Nat.reduceLeDiff,Nat.reduceLT,Nat.reduceBEq,Nat.reduceAdd,hc, p1, p1', lit_stroke, lit_one, c1, c2, c3, c4, c5, c6, oq];(repeat1' with_reducible first|apply And.intro|(intro _;try exact q_v)|(refine hK _ ?_;clear hK K))<;>(try (clear hK K;exact q_u)))|(with_reducible refine q_s ?_;(first|apply q_J|apply q_K|apply q_L|apply q_M|apply q_N|apply q_O)<;>try (intro _;try exact q_v))|with_reducible refine q_t ?_)
        all_goals first | omega | assumption | exact q_A rfl | skip
      · obtain ⟨c1, c2, c3⟩ := cl_big ha
        rw [if_neg (fun h => ha h.1)]
        (refine q_H Tryz.func5 (fun F => ?_); simp only [q_z,q_y,Tryz.ntmps5,Tryz.results5])
        repeat' (first|(with_reducible first|apply q_a|apply q_b|apply q_c|apply q_d|apply q_e|apply q_f|apply q_g|apply q_h|apply q_i|apply q_j|apply q_k|apply q_m|apply q_n|apply q_o|apply q_p|refine q_l ?_)|((with_reducible first|refine q_q qb18_ok fun K hK=>?_|refine q_r qb18_ok fun K hK=>?_);simp (maxSteps:=2000000) only [go_sem,↓reduceIte,reduceCtorEq,Nat.reduceLeDiff,Nat.reduceLT,Nat.reduceBEq,Nat.reduceAdd,hc, p1, p1', lit_stroke, lit_one, c1, c2, c3, c4, c5, c6];(repeat1' with_reducible first|apply And.intro|(intro _;try exact q_v)|(refine hK _ ?_;clear hK K))<;>(try (clear hK K;exact q_u)))|(with_reducible refine q_s ?_;(first|apply q_J|apply q_K|apply q_L|apply q_M|apply q_N|apply q_O)<;>try (intro _;try exact q_v))|with_reducible refine q_t ?_)
        all_goals first | omega | assumption | exact q_B [nQ] rfl rfl | skip
  | some k =>
    obtain ⟨k1, k2, k3⟩ := stroke_some hk
    obtain ⟨b1, b2⟩ := bytes_sub s k k1
    have hc := cutO_some hk
    have b2' : bytesOf (s.extract (k + 1) (bytesOf s).length) = (bytesOf s).drop (k + 1) := by rw [← hsz]; exact b2
    simp only [Option.isSome_some, true_and]
    have hkk : ∀ j, strokeAt (bytesOf s) = some j → j = k := fun j hj => by rw [hk] at hj; cases hj; rfl
    generalize hL : (bytesOf s).take k = L at *
    generalize hR : (bytesOf s).drop (k + 1) = R at *
    have lL : L.length ≤ 4097 := by rw [← hL, List.length_take]; omega
    have lR : R.length ≤ 4097 := by rw [← hR, List.length_drop]; omega
    have hR0 := str_at (s.extract (k + 1) s.size) 0
    rw [b2] at hR0
    have hRs := str_size (s.extract (k + 1) s.size)
    rw [b2] at hRs
    have hLs := str_size (s.extract 0 k)
    rw [b1] at hLs
    cases hp : pz 10 L with
    | none =>
      have p1 := po_no hp
      simp only
      cases hq : pz 10 R with
      | none =>
        have p2 := po_no hq
        (refine q_H Tryz.func5 (fun F => ?_); simp only [q_z,q_y,Tryz.ntmps5,Tryz.results5])
        repeat' (first|(with_reducible first|apply q_a|apply q_b|apply q_c|apply q_d|apply q_e|apply q_f|apply q_g|apply q_h|apply q_i|apply q_j|apply q_k|apply q_m|apply q_n|apply q_o|apply q_p|refine q_l ?_)|((with_reducible first|refine q_q qb18_ok fun K hK=>?_|refine q_r qb18_ok fun K hK=>?_);simp (maxSteps:=2000000) only [go_sem,↓reduceIte,reduceCtorEq,Nat.reduceLeDiff,Nat.reduceLT,Nat.reduceBEq,Nat.reduceAdd,hc, p1, p2, b1, b2, lit_stroke];(repeat1' with_reducible first|apply And.intro|(intro _;try exact q_v)|(refine hK _ ?_;clear hK K))<;>(try (clear hK K;exact q_u)))|(with_reducible refine q_s ?_;(first|apply q_J|apply q_K|apply q_L|apply q_M|apply q_N|apply q_O)<;>try (intro _;try exact q_v))|with_reducible refine q_t ?_)
        all_goals first | omega | assumption | exact q_B [nQ] rfl rfl | skip
      | some b =>
        have p2 := po_yes hq
        (refine q_H Tryz.func5 (fun F => ?_); simp only [q_z,q_y,Tryz.ntmps5,Tryz.results5])
        repeat' (first|(with_reducible first|apply q_a|apply q_b|apply q_c|apply q_d|apply q_e|apply q_f|apply q_g|apply q_h|apply q_i|apply q_j|apply q_k|apply q_m|apply q_n|apply q_o|apply q_p|refine q_l ?_)|((with_reducible first|refine q_q qb18_ok fun K hK=>?_|refine q_r qb18_ok fun K hK=>?_);simp (maxSteps:=2000000) only [go_sem,↓reduceIte,reduceCtorEq,Nat.reduceLeDiff,Nat.reduceLT,Nat.reduceBEq,Nat.reduceAdd,hc, p1, p2, b1, b2, lit_stroke];(repeat1' with_reducible first|apply And.intro|(intro _;try exact q_v)|(refine hK _ ?_;clear hK K))<;>(try (clear hK K;exact q_u)))|(with_reducible refine q_s ?_;(first|apply q_J|apply q_K|apply q_L|apply q_M|apply q_N|apply q_O)<;>try (intro _;try exact q_v))|with_reducible refine q_t ?_)
        all_goals first | omega | assumption | exact q_B [nQ] rfl rfl | skip
    | some a =>
      have p1 := po_yes hp
      cases hq : pz 10 R with
      | none =>
        have p2 := po_no hq
        simp only
        (refine q_H Tryz.func5 (fun F => ?_); simp only [q_z,q_y,Tryz.ntmps5,Tryz.results5])
        repeat' (first|(with_reducible first|apply q_a|apply q_b|apply q_c|apply q_d|apply q_e|apply q_f|apply q_g|apply q_h|apply q_i|apply q_j|apply q_k|apply q_m|apply q_n|apply q_o|apply q_p|refine q_l ?_)|((with_reducible first|refine q_q qb18_ok fun K hK=>?_|refine q_r qb18_ok fun K hK=>?_);simp (maxSteps:=2000000) only [go_sem,↓reduceIte,reduceCtorEq,Nat.reduceLeDiff,Nat.reduceLT,Nat.reduceBEq,Nat.reduceAdd,hc, p1, p2, b1, b2, lit_stroke];(repeat1' with_reducible first|apply And.intro|(intro _;try exact q_v)|(refine hK _ ?_;clear hK K))<;>(try (clear hK K;exact q_u)))|(with_reducible refine q_s ?_;(first|apply q_J|apply q_K|apply q_L|apply q_M|apply q_N|apply q_O)<;>try (intro _;try exact q_v))|with_reducible refine q_t ?_)
        all_goals first | omega | assumption | exact q_B [nQ] rfl rfl | skip
      | some b =>
        have p2 := po_yes hq
        simp only
        obtain ⟨r0, rb⟩ := pz_big hq
        by_cases hb : 1 < b
        · have rb : R ≠ [49] ∧ R.getD 0 0 ≠ 45 ∧ R ≠ [48] := by
            rcases rb with ⟨_, rb⟩ | ⟨rb, _⟩
            · omega
            · exact rb
          obtain ⟨rb1, rb2, rb3⟩ := rb
          have rb1' : decide (R = [49]) = false := decide_eq_false rb1
          have rb3' : decide (R = [48]) = false := decide_eq_false rb3
          rw [if_neg (fun h => h hb)]
          simp only
          have hnb : decide (b < 0) = false := decide_eq_false (by omega)
          by_cases ha : (dg 4294967296 a.natAbs).length ≤ 128
          · obtain ⟨c1, c2, c3⟩ := cl_fit ha
            by_cases hbl : (dg 4294967296 b.natAbs).length ≤ 128
            · obtain ⟨c4, c5, c6⟩ := cl_fit hbl
              rw [if_pos ⟨ha, hbl⟩]
              by_cases hg : Nat.gcd a.natAbs b.natAbs = 1
              · have oq := okQ_g (z := a) (d := b.natAbs) ⟨by omega, hg, ha, hbl⟩
                rw [if_pos hg]
                (refine q_H Tryz.func5 (fun F => ?_); simp only [q_z,q_y,Tryz.ntmps5,Tryz.results5])
                repeat' (first|(with_reducible first|apply q_a|apply q_b|apply q_c|apply q_d|apply q_e|apply q_f|apply q_g|apply q_h|apply q_i|apply q_j|apply q_k|apply q_m|apply q_n|apply q_o|apply q_p|refine q_l ?_)|((with_reducible first|refine q_q qb18_ok fun K hK=>?_|refine q_r qb18_ok fun K hK=>?_);simp (maxSteps:=2000000) only [go_sem,↓reduceIte,reduceCtorEq,Nat.reduceLeDiff,Nat.reduceLT,Nat.reduceBEq,Nat.reduceAdd,hc, p1, p2, b1, b2, b2', lit_stroke, str_eq, str_size, str_at, lit_one, lit_zero, toNat_one, rb1', rb3', c1, c2, c3, c4, c5, c6, hnb, oq];(repeat1' with_reducible first|apply And.intro|(intro _;try exact q_v)|(refine hK _ ?_;clear hK K))<;>(try (clear hK K;exact q_u)))|(with_reducible refine q_s ?_;(first|apply q_J|apply q_K|apply q_L|apply q_M|apply q_N|apply q_O)<;>try (intro _;try exact q_v))|with_reducible refine q_t ?_)
                all_goals first | omega | assumption | exact q_A rfl | skip
              · have oq : okQ (decide (a < 0)) (dg 4294967296 a.natAbs) false (dg 4294967296 b.natAbs) = false := by
                  unfold okQ
                  rw [V32, V32, decide_eq_false hg, Bool.and_false]
                rw [if_neg hg]
                (refine q_H Tryz.func5 (fun F => ?_); simp only [q_z,q_y,Tryz.ntmps5,Tryz.results5])
                repeat' (first|(with_reducible first|apply q_a|apply q_b|apply q_c|apply q_d|apply q_e|apply q_f|apply q_g|apply q_h|apply q_i|apply q_j|apply q_k|apply q_m|apply q_n|apply q_o|apply q_p|refine q_l ?_)|((with_reducible first|refine q_q qb18_ok fun K hK=>?_|refine q_r qb18_ok fun K hK=>?_);simp (maxSteps:=2000000) only [go_sem,↓reduceIte,reduceCtorEq,Nat.reduceLeDiff,Nat.reduceLT,Nat.reduceBEq,Nat.reduceAdd,hc, p1, p2, b1, b2, b2', lit_stroke, str_eq, str_size, str_at, lit_one, lit_zero, toNat_one, rb1', rb3', c1, c2, c3, c4, c5, c6, hnb, oq];(repeat1' with_reducible first|apply And.intro|(intro _;try exact q_v)|(refine hK _ ?_;clear hK K))<;>(try (clear hK K;exact q_u)))|(with_reducible refine q_s ?_;(first|apply q_J|apply q_K|apply q_L|apply q_M|apply q_N|apply q_O)<;>try (intro _;try exact q_v))|with_reducible refine q_t ?_)
                all_goals first | omega | assumption | exact q_B [nQ] rfl rfl | skip
            · obtain ⟨c4, c5, c6⟩ := cl_big hbl
              rw [if_neg (fun h => hbl h.2)]
              (refine q_H Tryz.func5 (fun F => ?_); simp only [q_z,q_y,Tryz.ntmps5,Tryz.results5])
              repeat' (first|(with_reducible first|apply q_a|apply q_b|apply q_c|apply q_d|apply q_e|apply q_f|apply q_g|apply q_h|apply q_i|apply q_j|apply q_k|apply q_m|apply q_n|apply q_o|apply q_p|refine q_l ?_)|((with_reducible first|refine q_q qb18_ok fun K hK=>?_|refine q_r qb18_ok fun K hK=>?_);simp (maxSteps:=2000000) only [go_sem,↓reduceIte,reduceCtorEq,Nat.reduceLeDiff,Nat.reduceLT,Nat.reduceBEq,Nat.reduceAdd,hc, p1, p2, b1, b2, b2', lit_stroke, str_eq, str_size, str_at, lit_one, lit_zero, toNat_one, rb1', rb3', c1, c2, c3, c4, c5, c6];(repeat1' with_reducible first|apply And.intro|(intro _;try exact q_v)|(refine hK _ ?_;clear hK K))<;>(try (clear hK K;exact q_u)))|(with_reducible refine q_s ?_;(first|apply q_J|apply q_K|apply q_L|apply q_M|apply q_N|apply q_O)<;>try (intro _;try exact q_v))|with_reducible refine q_t ?_)
              all_goals first | omega | assumption | exact q_B [nQ] rfl rfl | skip
          · obtain ⟨c1, c2, c3⟩ := cl_big ha
            have hb1c : clC 128 b ≠ 1 := by unfold clC; split <;> omega
            rw [if_neg (fun h => ha h.1)]
            (refine q_H Tryz.func5 (fun F => ?_); simp only [q_z,q_y,Tryz.ntmps5,Tryz.results5])
            repeat' (first|(with_reducible first|apply q_a|apply q_b|apply q_c|apply q_d|apply q_e|apply q_f|apply q_g|apply q_h|apply q_i|apply q_j|apply q_k|apply q_m|apply q_n|apply q_o|apply q_p|refine q_l ?_)|((with_reducible first|refine q_q qb18_ok fun K hK=>?_|refine q_r qb18_ok fun K hK=>?_);simp (maxSteps:=2000000) only [go_sem,↓reduceIte,reduceCtorEq,Nat.reduceLeDiff,Nat.reduceLT,Nat.reduceBEq,Nat.reduceAdd,hc, p1, p2, b1, b2, b2', lit_stroke, str_eq, str_size, str_at, lit_one, lit_zero, toNat_one, rb1', rb3', c1, c2, c3];(repeat1' with_reducible first|apply And.intro|(intro _;try exact q_v)|(refine hK _ ?_;clear hK K))<;>(try (clear hK K;exact q_u)))|(with_reducible refine q_s ?_;(first|apply q_J|apply q_K|apply q_L|apply q_M|apply q_N|apply q_O)<;>try (intro _;try exact q_v))|with_reducible refine q_t ?_)
            all_goals first | omega | assumption | exact q_B [nQ] rfl rfl | skip
        · have rb : R = [49] ∨ R.getD 0 0 = 45 ∨ R = [48] := by
            rcases rb with ⟨rb, _⟩ | ⟨_, rb⟩
            · exact rb
            · omega
          rw [if_pos hb]
          simp only
          by_cases g1 : R = [49]
          · have g1' : decide (R = [49]) = true := decide_eq_true g1
            (refine q_H Tryz.func5 (fun F => ?_); simp only [q_z,q_y,Tryz.ntmps5,Tryz.results5])
            repeat' (first|(with_reducible first|apply q_a|apply q_b|apply q_c|apply q_d|apply q_e|apply q_f|apply q_g|apply q_h|apply q_i|apply q_j|apply q_k|apply q_m|apply q_n|apply q_o|apply q_p|refine q_l ?_)|((with_reducible first|refine q_q qb18_ok fun K hK=>?_|refine q_r qb18_ok fun K hK=>?_);simp (maxSteps:=2000000) only [go_sem,↓reduceIte,reduceCtorEq,Nat.reduceLeDiff,Nat.reduceLT,Nat.reduceBEq,Nat.reduceAdd,hc, p1, p2, b1, b2, b2', lit_stroke, str_eq, str_size, str_at, lit_one, lit_zero, toNat_one, g1'];(repeat1' with_reducible first|apply And.intro|(intro _;try exact q_v)|(refine hK _ ?_;clear hK K))<;>(try (clear hK K;exact q_u)))|(with_reducible refine q_s ?_;(first|apply q_J|apply q_K|apply q_L|apply q_M|apply q_N|apply q_O)<;>try (intro _;try exact q_v))|with_reducible refine q_t ?_)
            all_goals first | omega | assumption | exact q_B [nQ] rfl rfl | skip
          · have g1' : decide (R = [49]) = false := decide_eq_false g1
            by_cases g2 : R.getD 0 0 = 45
            · (refine q_H Tryz.func5 (fun F => ?_); simp only [q_z,q_y,Tryz.ntmps5,Tryz.results5])
              repeat' (first|(with_reducible first|apply q_a|apply q_b|apply q_c|apply q_d|apply q_e|apply q_f|apply q_g|apply q_h|apply q_i|apply q_j|apply q_k|apply q_m|apply q_n|apply q_o|apply q_p|refine q_l ?_)|((with_reducible first|refine q_q qb18_ok fun K hK=>?_|refine q_r qb18_ok fun K hK=>?_);simp (maxSteps:=2000000) only [go_sem,↓reduceIte,reduceCtorEq,Nat.reduceLeDiff,Nat.reduceLT,Nat.reduceBEq,Nat.reduceAdd,hc, p1, p2, b1, b2, b2', lit_stroke, str_eq, str_size, str_at, lit_one, lit_zero, toNat_one, g1', g2];(repeat1' with_reducible first|apply And.intro|(intro _;try exact q_v)|(refine hK _ ?_;clear hK K))<;>(try (clear hK K;exact q_u)))|(with_reducible refine q_s ?_;(first|apply q_J|apply q_K|apply q_L|apply q_M|apply q_N|apply q_O)<;>try (intro _;try exact q_v))|with_reducible refine q_t ?_)
              all_goals first | omega | assumption | exact q_B [nQ] rfl rfl | skip
            · have g3' : decide (R = [48]) = true := decide_eq_true (by rcases rb with h | h | h; exact absurd h g1; exact absurd h g2; exact h)
              (refine q_H Tryz.func5 (fun F => ?_); simp only [q_z,q_y,Tryz.ntmps5,Tryz.results5])
              repeat' (first|(with_reducible first|apply q_a|apply q_b|apply q_c|apply q_d|apply q_e|apply q_f|apply q_g|apply q_h|apply q_i|apply q_j|apply q_k|apply q_m|apply q_n|apply q_o|apply q_p|refine q_l ?_)|((with_reducible first|refine q_q qb18_ok fun K hK=>?_|refine q_r qb18_ok fun K hK=>?_);simp (maxSteps:=2000000) only [go_sem,↓reduceIte,reduceCtorEq,Nat.reduceLeDiff,Nat.reduceLT,Nat.reduceBEq,Nat.reduceAdd,hc, p1, p2, b1, b2, b2', lit_stroke, str_eq, str_size, str_at, lit_one, lit_zero, toNat_one, g1', g3'];(repeat1' with_reducible first|apply And.intro|(intro _;try exact q_v)|(refine hK _ ?_;clear hK K))<;>(try (clear hK K;exact q_u)))|(with_reducible refine q_s ?_;(first|apply q_J|apply q_K|apply q_L|apply q_M|apply q_N|apply q_O)<;>try (intro _;try exact q_v))|with_reducible refine q_t ?_)
              all_goals first | omega | assumption | exact q_B [nQ] rfl rfl | skip
set_option maxHeartbeats 1600000 in
theorem qparse_long (s : ByteArray) (hs : 4000 < s.size) : Ret Tryz.prog 5 false [.inl (.str s)] (.t [zQ, fltQ 3 (-1)]) := by
  (refine q_H Tryz.func5 (fun F => ?_); simp only [q_z,q_y,Tryz.ntmps5,Tryz.results5])
  repeat' (first|(with_reducible first|apply q_a|apply q_b|apply q_c|apply q_d|apply q_e|apply q_f|apply q_g|apply q_h|apply q_i|apply q_j|apply q_k|apply q_m|apply q_n|apply q_o|apply q_p|refine q_l ?_)|((with_reducible first|refine q_q qb18_ok fun K hK=>?_|refine q_r qb18_ok fun K hK=>?_);simp (maxSteps:=2000000) only [go_sem,↓reduceIte,reduceCtorEq,Nat.reduceLeDiff,Nat.reduceLT,Nat.reduceBEq,Nat.reduceAdd];(repeat1' with_reducible first|apply And.intro|(intro _;try exact q_v)|(refine hK _ ?_;clear hK K))<;>(try (clear hK K;exact q_u)))|(with_reducible refine q_s ?_;(first|apply q_J|apply q_K|apply q_L|apply q_M|apply q_N|apply q_O)<;>try (intro _;try exact q_v))|with_reducible refine q_t ?_)
  all_goals first | omega | assumption | exact q_B [nQ] rfl rfl | skip
end Go.Proofs.YtlflfhcfljiciaaGreat

namespace Go.Abs
set_option linter.unusedSimpArgs false
set_option linter.unusedVariables false
open Go.RowKit
variable {P : Program}
theorem seq_cut5 {F : Fr} {Q : Exit → St → Prop} {st : St} {a0 a1 a2 a3 a4 Y : Code} {ι : Type} (mid : ι → St) (h1 : ∀ Y', (∀ i, AWp P F Y' Q (mid i)) → AWp P F (.seq a0 (.seq a1 (.seq a2 (.seq a3 (.seq a4 Y'))))) Q st) (h2 : ∀ i, AWp P F Y Q (mid i)) : AWp P F (.seq a0 (.seq a1 (.seq a2 (.seq a3 (.seq a4 Y))))) Q st := h1 Y h2
theorem cut_fit {F : Fr} {Q : Exit → St → Prop} {st : St} {Y : Code} {ι : Type} {mid : ι → St} (hY : ∀ i, AWp P F Y Q (mid i)) (i : ι) (h : FitP st (mid i)) : AWp P F Y Q st := awp_told (mid i) h (hY i)
end Go.Abs

namespace Go.Proofs.YtlflfhcfljiciaaGreat
set_option linter.unusedSimpArgs false
set_option linter.unusedVariables false
open Go.Abs Go.Proofs.NatL

theorem chr_no47 (d : Nat) (h : d < 10) : chr (d : Int) ≠ 47 := by rw [chr_eq d (by omega)]; split <;> omega
theorem textI_no47 (z : Int) : ∀ x ∈ textI z 10, x ≠ 47 := by
  intro x hx
  unfold textI at hx
  rcases List.mem_append.1 hx with h | h
  · split at h
    · rcases List.mem_singleton.1 h with rfl; omega
    · cases h
  · split at h
    · rcases List.mem_singleton.1 h with rfl; omega
    · obtain ⟨y, hy, rfl⟩ := List.mem_map.1 h
      have := InB_dg 10 (by omega) z.natAbs y (List.mem_reverse.1 hy)
      obtain ⟨d, rfl⟩ : ∃ d : Nat, y = d := ⟨y.toNat, by omega⟩
      exact chr_no47 d (by omega)
theorem stroke_no {l : List Int} (h : ∀ x ∈ l, x ≠ 47) : strokeAt l = none := by
  unfold strokeAt
  rw [List.findIdx?_eq_none_iff]
  intro x hx
  simpa using h x hx
theorem stroke_mid {l r : List Int} (h : ∀ x ∈ l, x ≠ 47) : strokeAt (l ++ 47 :: r) = some l.length := by
  unfold strokeAt
  rw [List.findIdx?_eq_some_iff_getElem]
  refine ⟨by simp, by simp, fun j hj => ?_⟩
  rw [List.getElem_append_left hj]
  simpa using h _ (List.getElem_mem hj)
theorem bytes_app (s t : ByteArray) : bytesOf (s ++ t) = bytesOf s ++ bytesOf t := by
  unfold bytesOf
  have : (s ++ t).data = s.data ++ t.data := ByteArray.data_append
  rw [this]; simp
theorem txQ_bytes (z : Int) (d : Nat) : bytesOf (txQ z d) = if d = 1 then textI z 10 else textI z 10 ++ 47 :: textI (d : Int) 10 := by
  unfold txQ
  split
  · exact text_bytes z 10 (by omega) (by omega)
  · rw [bytes_app, bytes_app, text_bytes z 10 (by omega) (by omega), text_bytes (d : Int) 10 (by omega) (by omega), lit_stroke]
    simp
theorem prZ_text {z : Int} {d : Nat} (hd : 0 < d) : prZ (bytesOf (txQ z d)) = some (z, (d : Int)) := by
  rw [txQ_bytes]
  split
  · rename_i h
    subst h
    have hk := stroke_no (textI_no47 z)
    simp only [prZ, spL, spR, spB, hk, pz_text z 10 (by omega) (by omega), pz_one]
    rfl
  · rename_i h
    have hk := stroke_mid (r := textI (d : Int) 10) (textI_no47 z)
    have e1 : (textI z 10 ++ 47 :: textI (d : Int) 10).take (textI z 10).length = textI z 10 := by simp
    have e2 : (textI z 10 ++ 47 :: textI (d : Int) 10).drop ((textI z 10).length + 1) = textI (d : Int) 10 := by
      rw [List.drop_append]
      simp
    simp only [prZ, spL, spR, spB, hk, e1, e2, pz_text z 10 (by omega) (by omega), pz_text (d : Int) 10 (by omega) (by omega)]
    rw [if_neg (fun h => h.2 (by omega))]
end Go.Proofs.YtlflfhcfljiciaaGreat
