import Derived.Test.YtlflfhcfljiciaaGreatE14
import Derived.Test.YtlflfhcfljiciaaGreatE19
namespace Go.Proofs.YtlflfhcfljiciaaGreat
set_option linter.unusedSimpArgs false
set_option linter.unusedVariables false
open Go.Abs Go.Proofs.NatL

theorem lit_minus : bytesOf { data := #[45] } = [45] := rfl
def jxa : Cfg := listT [(33, figCT), (36, readCT)] [28]
theorem jxa_ok : TblOk Tryz.prog jxa := listT_ok (big := nt12) nt12_ok ⟨rfl, rfl, trivial⟩
attribute [go_sem] jxa
set_option maxRecDepth 100000 in
set_option maxHeartbeats 3200000 in
theorem textOf_true (m b : Nat) (h1 : 2 ≤ b) (h2 : b ≤ 36) (lm : (dg 65536 m).length ≤ 65536) :
    Ret Tryz.prog 9 false [.inr [.b true, .ints .i64 (dg 65536 m)], .inl (.i .i64 b)] (.c (.str (strOf (textI (sg true m) b)))) := by
  have hp := dg_len_pos b m h1
  have din : InB b (dg b m).reverse := fun z hz => InB_dg b h1 _ z (List.mem_reverse.1 hz)
  have lit := lit_full
  have llen := digB_len 36
  have hbn : (dg b m).length ≤ 1048576 := by
    obtain ⟨e, he⟩ : ∃ e : Nat, e = 65536 := ⟨_, rfl⟩
    have := lt_of_len (B := 65536) (a := m) (k := e) (by omega) (by omega)
    rw [show (65536 : Nat) = 2 ^ 16 from rfl, ← Nat.pow_mul] at this
    exact Nat.le_trans (dg_len_two b m h1 (16 * e) this) (by omega)
  by_cases hm : m = 0
  · subst hm
    have e : strOf (textI (sg true 0) b) = { data := #[48] } := by cases b <;> rfl
    have e2 : (dg b 0).reverse = [] := by rw [dg_zero]; rfl
    rw [e]
    (refine q_H Tryz.func9 (fun F => ?_); simp only [q_z,q_y,Tryz.ntmps9,Tryz.results9])
    repeat' (first|(with_reducible first|apply q_a|apply q_b|apply q_c|apply q_d|apply q_e|apply q_f|apply q_g|apply q_h|apply q_i|apply q_j|apply q_k|apply q_m|apply q_n|apply q_o|apply q_p|refine q_l ?_)|((with_reducible first|refine q_q jxa_ok fun K hK=>?_|refine q_r jxa_ok fun K hK=>?_);simp (maxSteps:=2000000) only [go_sem,↓reduceIte,reduceCtorEq,Nat.reduceLeDiff,Nat.reduceLT,Nat.reduceBEq,Nat.reduceAdd,V65, e2];(repeat1' with_reducible first|apply And.intro|(intro _;try exact q_v)|(refine hK _ ?_;clear hK K))<;>(try (clear hK K;exact q_u)))|(with_reducible refine q_s ?_;(first|apply q_J|apply q_K|apply q_L|apply q_M|apply q_N|apply q_O)<;>try (intro _;try exact q_v))|with_reducible refine q_t ?_)
    exact q_A rfl
  have hpos := hp.2 (by omega)
  have hz : sg true m ≠ 0 := by simp only [sgt, sgf]; omega
  have ht : textI (sg true m) b = [45] ++ (dg b m).reverse.map chr := by
    have e1 : (sg true m).natAbs = m := by simp only [sgt, sgf]; omega
    unfold textI
    rw [if_neg hz, e1]
    first
      | rw [if_pos (show sg true m < 0 by rw [sgt]; omega)]
      | rw [if_neg (show ¬ sg true m < 0 by rw [sgf]; omega)]
  rw [← List.length_reverse] at hbn hpos
  rw [ht]
  generalize hds : (dg b m).reverse = ds at *
  (refine q_H Tryz.func9 (fun F => ?_); simp only [q_z,q_y,Tryz.ntmps9,Tryz.results9])
  repeat' (first|(with_reducible first|apply q_a|apply q_b|apply q_c|apply q_d|apply q_e|apply q_f|apply q_g|apply q_h|apply q_i|apply q_j|apply q_k|apply q_m|apply q_n|apply q_o|apply q_p|refine q_l ?_)|((with_reducible first|refine q_q (cvT_ok jxa_ok) fun K hK=>?_|refine q_r (cvT_ok jxa_ok) fun K hK=>?_);simp (maxSteps:=2000000) only [go_sem,↓reduceIte,reduceCtorEq,Nat.reduceLeDiff,Nat.reduceLT,Nat.reduceBEq,Nat.reduceAdd,V65, hds, str_size, lit_minus, lit_none, ml0, ml1];(repeat1' with_reducible first|apply And.intro|(intro _;try exact q_v)|(refine hK _ ?_;clear hK K))<;>(try (clear hK K;exact q_u)))|(with_reducible refine q_s ?_;(first|apply q_J|apply q_K|apply q_L|apply q_M|apply q_N|apply q_O)<;>try (intro _;try exact q_v))|with_reducible refine q_t ?_)
  refine q_G (ι := { i : Nat // i ≤ ds.length }) (fun i => ⟨36, [(5, .c (.ints .i64 ds)), (7, .own 1 0), (8, .c (.i .i64 (i.1 : Nat)))], ⟨[], [(1, ⟨0, 5, 1, .ints .u8 ([45] ++ (ds.take i.1).map chr)⟩)], []⟩, 2⟩) (fun i => ds.length - i.1) ⟨0, by omega⟩ ?_ ?_
  · exact q_D
  rintro ⟨i, g1⟩
  simp only at g1 ⊢
  have b1 := InB_getD (by omega) din i
  have hml : ((ds.take i).map chr).length = i := by simp; omega
  rcases Nat.lt_or_ge i ds.length with hi | hi
  · have hm := map_snoc chr ds i hi
    obtain ⟨d, hd⟩ : ∃ d : Nat, ds.getD i 0 = d := ⟨_, (Int.toNat_of_nonneg b1.1).symm⟩
    have hat := digB_at 36 d (by omega)
    repeat' (first|(with_reducible first|apply q_a|apply q_b|apply q_c|apply q_d|apply q_e|apply q_f|apply q_g|apply q_h|apply q_i|apply q_j|apply q_k|apply q_m|apply q_n|apply q_o|apply q_p|refine q_l ?_)|((with_reducible first|refine q_q jxa_ok fun K hK=>?_|refine q_r jxa_ok fun K hK=>?_);simp (maxSteps:=2000000) only [go_sem,↓reduceIte,reduceCtorEq,Nat.reduceLeDiff,Nat.reduceLT,Nat.reduceBEq,Nat.reduceAdd,hml, hd, toNat_one, str_size, str_at, lit, llen, hat];(repeat1' with_reducible first|apply And.intro|(intro _;try exact q_v)|(refine hK _ ?_;clear hK K))<;>(try (clear hK K;exact q_u)))|(with_reducible refine q_s ?_;(first|apply q_J|apply q_K|apply q_L|apply q_M|apply q_N|apply q_O)<;>try (intro _;try exact q_v))|with_reducible refine q_t ?_)
    refine q_F ⟨i + 1, hi⟩ ?_ (by simp only; omega)
    simp only [hm, hd]
    exact q_D
  · have hi' : i = ds.length := by omega
    subst hi'
    rw [List.take_length]
    repeat' (first|(with_reducible first|apply q_a|apply q_b|apply q_c|apply q_d|apply q_e|apply q_f|apply q_g|apply q_h|apply q_i|apply q_j|apply q_k|apply q_m|apply q_n|apply q_o|apply q_p|refine q_l ?_)|((with_reducible first|refine q_q jxa_ok fun K hK=>?_|refine q_r jxa_ok fun K hK=>?_);simp (maxSteps:=2000000) only [go_sem,↓reduceIte,reduceCtorEq,Nat.reduceLeDiff,Nat.reduceLT,Nat.reduceBEq,Nat.reduceAdd];(repeat1' with_reducible first|apply And.intro|(intro _;try exact q_v)|(refine hK _ ?_;clear hK K))<;>(try (clear hK K;exact q_u)))|(with_reducible refine q_s ?_;(first|apply q_J|apply q_K|apply q_L|apply q_M|apply q_N|apply q_O)<;>try (intro _;try exact q_v))|with_reducible refine q_t ?_)
    exact q_A rfl
set_option maxRecDepth 100000 in
set_option maxHeartbeats 3200000 in
theorem textOf_false (m b : Nat) (h1 : 2 ≤ b) (h2 : b ≤ 36) (lm : (dg 65536 m).length ≤ 65536) :
    Ret Tryz.prog 9 false [.inr [.b false, .ints .i64 (dg 65536 m)], .inl (.i .i64 b)] (.c (.str (strOf (textI (sg false m) b)))) := by
  have hp := dg_len_pos b m h1
  have din : InB b (dg b m).reverse := fun z hz => InB_dg b h1 _ z (List.mem_reverse.1 hz)
  have lit := lit_full
  have llen := digB_len 36
  have hbn : (dg b m).length ≤ 1048576 := by
    obtain ⟨e, he⟩ : ∃ e : Nat, e = 65536 := ⟨_, rfl⟩
    have := lt_of_len (B := 65536) (a := m) (k := e) (by omega) (by omega)
    rw [show (65536 : Nat) = 2 ^ 16 from rfl, ← Nat.pow_mul] at this
    exact Nat.le_trans (dg_len_two b m h1 (16 * e) this) (by omega)
  by_cases hm : m = 0
  · subst hm
    have e : strOf (textI (sg false 0) b) = { data := #[48] } := by cases b <;> rfl
    have e2 : (dg b 0).reverse = [] := by rw [dg_zero]; rfl
    rw [e]
    (refine q_H Tryz.func9 (fun F => ?_); simp only [q_z,q_y,Tryz.ntmps9,Tryz.results9])
    repeat' (first|(with_reducible first|apply q_a|apply q_b|apply q_c|apply q_d|apply q_e|apply q_f|apply q_g|apply q_h|apply q_i|apply q_j|apply q_k|apply q_m|apply q_n|apply q_o|apply q_p|refine q_l ?_)|((with_reducible first|refine q_q jxa_ok fun K hK=>?_|refine q_r jxa_ok fun K hK=>?_);simp (maxSteps:=2000000) only [go_sem,↓reduceIte,reduceCtorEq,Nat.reduceLeDiff,Nat.reduceLT,Nat.reduceBEq,Nat.reduceAdd,V65, e2];(repeat1' with_reducible first|apply And.intro|(intro _;try exact q_v)|(refine hK _ ?_;clear hK K))<;>(try (clear hK K;exact q_u)))|(with_reducible refine q_s ?_;(first|apply q_J|apply q_K|apply q_L|apply q_M|apply q_N|apply q_O)<;>try (intro _;try exact q_v))|with_reducible refine q_t ?_)
    exact q_A rfl
  have hpos := hp.2 (by omega)
  have hz : sg false m ≠ 0 := by simp only [sgt, sgf]; omega
  have ht : textI (sg false m) b = ([] : List Int) ++ (dg b m).reverse.map chr := by
    have e1 : (sg false m).natAbs = m := by simp only [sgt, sgf]; omega
    unfold textI
    rw [if_neg hz, e1]
    first
      | rw [if_pos (show sg false m < 0 by rw [sgt]; omega)]
      | rw [if_neg (show ¬ sg false m < 0 by rw [sgf]; omega)]
  rw [← List.length_reverse] at hbn hpos
  rw [ht]
  generalize hds : (dg b m).reverse = ds at *
  (refine q_H Tryz.func9 (fun F => ?_); simp only [q_z,q_y,Tryz.ntmps9,Tryz.results9])
  repeat' (first|(with_reducible first|apply q_a|apply q_b|apply q_c|apply q_d|apply q_e|apply q_f|apply q_g|apply q_h|apply q_i|apply q_j|apply q_k|apply q_m|apply q_n|apply q_o|apply q_p|refine q_l ?_)|((with_reducible first|refine q_q (cvT_ok jxa_ok) fun K hK=>?_|refine q_r (cvT_ok jxa_ok) fun K hK=>?_);simp (maxSteps:=2000000) only [go_sem,↓reduceIte,reduceCtorEq,Nat.reduceLeDiff,Nat.reduceLT,Nat.reduceBEq,Nat.reduceAdd,V65, hds, str_size, lit_minus, lit_none, ml0, ml1];(repeat1' with_reducible first|apply And.intro|(intro _;try exact q_v)|(refine hK _ ?_;clear hK K))<;>(try (clear hK K;exact q_u)))|(with_reducible refine q_s ?_;(first|apply q_J|apply q_K|apply q_L|apply q_M|apply q_N|apply q_O)<;>try (intro _;try exact q_v))|with_reducible refine q_t ?_)
  refine q_G (ι := { i : Nat // i ≤ ds.length }) (fun i => ⟨36, [(5, .c (.ints .i64 ds)), (7, .own 1 0), (8, .c (.i .i64 (i.1 : Nat)))], ⟨[], [(1, ⟨0, 5, 1, .ints .u8 (([] : List Int) ++ (ds.take i.1).map chr)⟩)], []⟩, 2⟩) (fun i => ds.length - i.1) ⟨0, by omega⟩ ?_ ?_
  · exact q_D
  rintro ⟨i, g1⟩
  simp only at g1 ⊢
  have b1 := InB_getD (by omega) din i
  have hml : ((ds.take i).map chr).length = i := by simp; omega
  rcases Nat.lt_or_ge i ds.length with hi | hi
  · have hm := map_snoc chr ds i hi
    obtain ⟨d, hd⟩ : ∃ d : Nat, ds.getD i 0 = d := ⟨_, (Int.toNat_of_nonneg b1.1).symm⟩
    have hat := digB_at 36 d (by omega)
    repeat' (first|(with_reducible first|apply q_a|apply q_b|apply q_c|apply q_d|apply q_e|apply q_f|apply q_g|apply q_h|apply q_i|apply q_j|apply q_k|apply q_m|apply q_n|apply q_o|apply q_p|refine q_l ?_)|((with_reducible first|refine q_q jxa_ok fun K hK=>?_|refine q_r jxa_ok fun K hK=>?_);simp (maxSteps:=2000000) only [go_sem,↓reduceIte,reduceCtorEq,Nat.reduceLeDiff,Nat.reduceLT,Nat.reduceBEq,Nat.reduceAdd,hml, hd, toNat_one, str_size, str_at, lit, llen, hat];(repeat1' with_reducible first|apply And.intro|(intro _;try exact q_v)|(refine hK _ ?_;clear hK K))<;>(try (clear hK K;exact q_u)))|(with_reducible refine q_s ?_;(first|apply q_J|apply q_K|apply q_L|apply q_M|apply q_N|apply q_O)<;>try (intro _;try exact q_v))|with_reducible refine q_t ?_)
    refine q_F ⟨i + 1, hi⟩ ?_ (by simp only; omega)
    simp only [hm, hd]
    exact q_D
  · have hi' : i = ds.length := by omega
    subst hi'
    rw [List.take_length]
    repeat' (first|(with_reducible first|apply q_a|apply q_b|apply q_c|apply q_d|apply q_e|apply q_f|apply q_g|apply q_h|apply q_i|apply q_j|apply q_k|apply q_m|apply q_n|apply q_o|apply q_p|refine q_l ?_)|((with_reducible first|refine q_q jxa_ok fun K hK=>?_|refine q_r jxa_ok fun K hK=>?_);simp (maxSteps:=2000000) only [go_sem,↓reduceIte,reduceCtorEq,Nat.reduceLeDiff,Nat.reduceLT,Nat.reduceBEq,Nat.reduceAdd];(repeat1' with_reducible first|apply And.intro|(intro _;try exact q_v)|(refine hK _ ?_;clear hK K))<;>(try (clear hK K;exact q_u)))|(with_reducible refine q_s ?_;(first|apply q_J|apply q_K|apply q_L|apply q_M|apply q_N|apply q_O)<;>try (intro _;try exact q_v))|with_reducible refine q_t ?_)
    exact q_A rfl
def textOfCT : CT := mkCT [nR] true fun l K => match l with
  | [.inr [.b s, .ints .i64 ys], .inl (.i .i64 b)] => (InB 65536 ys ∧ Trd ys ∧ ys.length ≤ 65536 ∧ 2 ≤ b ∧ b ≤ 36) ∧ K (.c (.str (strOf (textI (sv 65536 s ys) b.toNat))))
  | _ => False
def jx1 : Cfg := addT 9 textOfCT nt12
theorem jx1_ok : TblOk Tryz.prog jx1 := q_I nt12_ok Tryz.func9 fun l K h => by
  split at h
  · rename_i s ys b
    obtain ⟨⟨h1, h2, h3, h4, h5⟩, h⟩ := h
    obtain ⟨e1, e2⟩ := sv_ys (s := s) h1 h2
    obtain ⟨n, rfl⟩ : ∃ n : Nat, b = n := ⟨b.toNat, by omega⟩
    rw [e2, Int.toNat_natCast] at h
    refine ⟨_, Ret.plain ?_ rfl, h⟩
    rw [e1] at h3 ⊢
    rw [V65]
    cases s
    · exact textOf_false _ n (by omega) (by omega) h3
    · exact textOf_true _ n (by omega) (by omega) h3
  · exact h.elim
attribute [go_sem] textOfCT
theorem rdv_len {b : Nat} {ds : List Int} (h1 : 2 ≤ b) (h2 : b ≤ 36) (hd : InB b ds) : (dg 65536 (rdv b ds)).length ≤ ds.length := by
  refine dg_len_le (by omega) _ _ ?_
  have e := rdv_rev b ds.reverse
  rw [List.reverse_reverse] at e
  rw [e]
  have := V_lt b (by omega) ds.reverse (fun x hx => hd x (List.mem_reverse.1 hx))
  rw [List.length_reverse] at this
  exact Nat.lt_of_lt_of_le this (Nat.pow_le_pow_left (by omega) _)
theorem inB_dv {b : Nat} (hb : b ≤ 36) {r : List Int} (h : ∀ c ∈ r, 0 ≤ dv b c) : InB b (r.map (dv b)) := fun x hx => by
  obtain ⟨c, hc, rfl⟩ := List.mem_map.1 hx
  have := h c hc
  have := dv_cases b c hb
  omega
theorem pz_len {b : Nat} {l : List Int} {z : Int} (h1 : 2 ≤ b) (h2 : b ≤ 36) (h : pz b l = some z) : (dg 65536 z.natAbs).length ≤ l.length := by
  have key : ∀ neg r, pzR b neg r = some z → (dg 65536 z.natAbs).length ≤ r.length := fun neg r h => by
    obtain ⟨e, _, _, hg, _⟩ := pzR_canon h1 h
    have := rdv_len h1 h2 (inB_dv h2 hg)
    rw [List.length_map] at this
    have e2 : z.natAbs = rdv b (r.map (dv b)) := by rw [e]; cases neg <;> simp [sg]
    rw [e2]; exact this
  unfold pz at h
  split at h
  · exact Nat.le_trans (key _ _ h) (by simp)
  · exact key _ _ h
set_option maxRecDepth 100000 in
set_option maxHeartbeats 3200000 in
theorem intText_true (s : ByteArray) (b : Nat) (h1 : 2 ≤ b) (h2 : b ≤ 36) (hs : s.size ≤ 4097) (hA : 0 < (bytesOf s).length ∧ (bytesOf s).getD 0 0 = 45) (r : List Int) (hr : r = if true = true then (bytesOf s).drop 1 else bytesOf s) :
    Ret Tryz.prog 15 false [.inl (.str s), .inl (.i .i64 b)] (match pzR b true r with
      | none => .t [.inr [.b false, .ints .i64 []], .inl (.b false)]
      | some z => .t [.inr (gR z), .inl (.b true)]) := by
  have hsz := str_size s
  have lit := lit_full
  have llen := digB_len 36
  generalize htx : bytesOf s = tx at *
  have hR : bytesOf (s.extract 1 tx.length) = r := by
    first
      | (rw [str_sub, htx, List.take_length]; exact hr.symm)
      | (rw [htx]; exact hr.symm)
  have hlen : r.length ≤ 4097 := by
    rw [hr]
    split
    · rw [List.length_drop]; omega
    · omega
  first
    | (have hrt : r = tx := by
         rw [hr]; rfl
       subst hrt)
    | skip
  have h45 : (tx.getD 0 0 = 45) = (true = true) := by
    first
      | exact propext ⟨fun _ => rfl, fun _ => hA.2⟩
      | (refine propext ⟨fun e => absurd e (fun e => hA ⟨?_, e⟩), fun e => by cases e⟩
         cases tx with
         | nil => simp at e
         | cons x l => simp)
  by_cases h0 : r = []
  · have hp : pzR b true r = none := by unfold pzR; rw [if_pos (.inl h0)]
    rw [hp]
    (refine q_H Tryz.func15 (fun F => ?_); simp only [q_z,q_y,Tryz.ntmps15,Tryz.results15])
    repeat' (first|(with_reducible first|apply q_a|apply q_b|apply q_c|apply q_d|apply q_e|apply q_f|apply q_g|apply q_h|apply q_i|apply q_j|apply q_k|apply q_m|apply q_n|apply q_o|apply q_p|refine q_l ?_)|((with_reducible first|refine q_q jxa_ok fun K hK=>?_|refine q_r jxa_ok fun K hK=>?_);simp (maxSteps:=2000000) only [go_sem,↓reduceIte,reduceCtorEq,Nat.reduceLeDiff,Nat.reduceLT,Nat.reduceBEq,Nat.reduceAdd,toNat_one, str_size, str_at, str_eq, htx, hR, h45, decide_true, decide_false, h0, lit_none, decide_true];(repeat1' with_reducible first|apply And.intro|(intro _;try exact q_v)|(refine hK _ ?_;clear hK K))<;>(try (clear hK K;exact q_u)))|(with_reducible refine q_s ?_;(first|apply q_J|apply q_K|apply q_L|apply q_M|apply q_N|apply q_O)<;>try (intro _;try exact q_v))|with_reducible refine q_t ?_)
    all_goals first | omega | exact q_B [nR, .inl none] rfl rfl
  have h0' : decide (r = []) = false := decide_eq_false h0
  have hpos : 0 < r.length := List.length_pos_iff.2 h0
  by_cases h48 : r.getD 0 0 = 48 ∧ (1 < r.length ∨ true = true)
  · have hp : pzR b true r = none := by unfold pzR; rw [if_pos (.inr h48)]
    have h48' := h48.1
    rw [hp]
    (refine q_H Tryz.func15 (fun F => ?_); simp only [q_z,q_y,Tryz.ntmps15,Tryz.results15])
    repeat' (first|(with_reducible first|apply q_a|apply q_b|apply q_c|apply q_d|apply q_e|apply q_f|apply q_g|apply q_h|apply q_i|apply q_j|apply q_k|apply q_m|apply q_n|apply q_o|apply q_p|refine q_l ?_)|((with_reducible first|refine q_q jxa_ok fun K hK=>?_|refine q_r jxa_ok fun K hK=>?_);simp (maxSteps:=2000000) only [go_sem,↓reduceIte,reduceCtorEq,Nat.reduceLeDiff,Nat.reduceLT,Nat.reduceBEq,Nat.reduceAdd,toNat_one, str_size, str_at, str_eq, htx, hR, h45, decide_true, decide_false, h0', h48', lit_none];(repeat1' with_reducible first|apply And.intro|(intro _;try exact q_v)|(refine hK _ ?_;clear hK K))<;>(try (clear hK K;exact q_u)))|(with_reducible refine q_s ?_;(first|apply q_J|apply q_K|apply q_L|apply q_M|apply q_N|apply q_O)<;>try (intro _;try exact q_v))|with_reducible refine q_t ?_)
    all_goals first | omega | exact q_B [nR, .inl none] rfl rfl | (exfalso; have := h48.2; simp at this; omega)
  have hcase : (true = false ∧ r.getD 0 0 = 48) ∨ ¬ r.getD 0 0 = 48 := by
    by_cases hz : r.getD 0 0 = 48
    · left
      refine ⟨?_, hz⟩
      first
        | rfl
        | exact absurd ⟨hz, .inr rfl⟩ h48
    · exact .inr hz
  rcases hcase with ⟨hS, hz⟩ | hz
  all_goals try (exact absurd hS (by decide))
  all_goals
    first | have h48n : ¬ 1 < r.length := fun h => h48 ⟨hz, .inl h⟩ | skip
    (refine q_H Tryz.func15 (fun F => ?_); simp only [q_z,q_y,Tryz.ntmps15,Tryz.results15])
    repeat' (first|(with_reducible first|apply q_a|apply q_b|apply q_c|apply q_d|apply q_e|apply q_f|apply q_g|apply q_h|apply q_i|apply q_j|apply q_k|apply q_m|apply q_n|apply q_o|apply q_p|refine q_l ?_)|((with_reducible first|refine q_q jxa_ok fun K hK=>?_|refine q_r jxa_ok fun K hK=>?_);simp (maxSteps:=2000000) only [go_sem,↓reduceIte,reduceCtorEq,Nat.reduceLeDiff,Nat.reduceLT,Nat.reduceBEq,Nat.reduceAdd,toNat_one, str_size, str_at, str_eq, htx, hR, h45, decide_true, decide_false, h0', hz, lit_none];(repeat1' with_reducible first|apply And.intro|(intro _;try exact q_v)|(refine hK _ ?_;clear hK K))<;>(try (clear hK K;exact q_u)))|(with_reducible refine q_s ?_;(first|apply q_J|apply q_K|apply q_L|apply q_M|apply q_N|apply q_O)<;>try (intro _;try exact q_v))|with_reducible refine q_t ?_)
    refine q_G (ι := { i : Nat // i ≤ r.length ∧ ∀ c ∈ r.take i, 0 ≤ dv b c }) (fun i => ⟨68, [(0, .c (.str (s.extract 1 tx.length))), (1, .c (.i .i64 b)), (4, .bx 0 0), (6, .c (.b true)), (7, .own 1 0), (8, .c (.i .i64 (i.1 : Nat)))], ⟨[(0, [.c (.b false), .c .nil])], [(1, ⟨0, 3, 1, .ints .i64 ((r.take i.1).map (dv b))⟩)], []⟩, 2⟩) (fun i => r.length - i.1) ⟨0, by omega, by simp⟩ ?_ ?_
    · exact q_D
    rintro ⟨i, g1, g2⟩
    simp only at g1 g2 ⊢
    have hml2 : ((r.take i).map (dv b)).length = i := by simp; omega
    have hd := dv_cases b (r.getD i 0) h2
    rcases Nat.lt_or_ge i r.length with hi | hi
    · repeat' (first|(with_reducible first|apply q_a|apply q_b|apply q_c|apply q_d|apply q_e|apply q_f|apply q_g|apply q_h|apply q_i|apply q_j|apply q_k|apply q_m|apply q_n|apply q_o|apply q_p|refine q_l ?_)|((with_reducible first|refine q_q jxa_ok fun K hK=>?_|refine q_r jxa_ok fun K hK=>?_);simp (maxSteps:=2000000) only [go_sem,↓reduceIte,reduceCtorEq,Nat.reduceLeDiff,Nat.reduceLT,Nat.reduceBEq,Nat.reduceAdd,toNat_one, str_size, str_at, htx, hR];(repeat1' with_reducible first|apply And.intro|(intro _;try exact q_v)|(refine hK _ ?_;clear hK K))<;>(try (clear hK K;exact q_u)))|(with_reducible refine q_s ?_;(first|apply q_J|apply q_K|apply q_L|apply q_M|apply q_N|apply q_O)<;>try (intro _;try exact q_v))|with_reducible refine q_t ?_)
      refine q_G (ι := { k : Nat // k ≤ b }) (fun k => ⟨68, [(0, .c (.str (s.extract 1 tx.length))), (1, .c (.i .i64 b)), (4, .bx 0 0), (6, .c (.b true)), (7, .own 1 0), (8, .c (.i .i64 (i : Nat))), (9, .c (.i .i64 (dv k.1 (r.getD i 0)))), (10, .c (.i .i64 (k.1 : Nat)))], ⟨[(0, [.c (.b false), .c .nil])], [(1, ⟨0, 3, 1, .ints .i64 ((r.take i).map (dv b))⟩)], []⟩, 2⟩) (fun k => b - k.1) ⟨0, by omega⟩ ?_ ?_
      · simp only [dv_zero]
        exact q_D
      rintro ⟨k, k1⟩
      simp only at k1 ⊢
      rcases Nat.lt_or_ge k b with hk | hk
      · have hs := dv_succ k (by omega) (r.getD i 0)
        have hat := digB_at 36 k (by omega)
        by_cases hc : chr (k : Int) = r.getD i 0
        · rw [if_pos hc] at hs
          repeat' (first|(with_reducible first|apply q_a|apply q_b|apply q_c|apply q_d|apply q_e|apply q_f|apply q_g|apply q_h|apply q_i|apply q_j|apply q_k|apply q_m|apply q_n|apply q_o|apply q_p|refine q_l ?_)|((with_reducible first|refine q_q jxa_ok fun K hK=>?_|refine q_r jxa_ok fun K hK=>?_);simp (maxSteps:=2000000) only [go_sem,↓reduceIte,reduceCtorEq,Nat.reduceLeDiff,Nat.reduceLT,Nat.reduceBEq,Nat.reduceAdd,toNat_one, str_size, str_at, htx, hR, h45, decide_true, decide_false, lit, llen, digL_at, hc];(repeat1' with_reducible first|apply And.intro|(intro _;try exact q_v)|(refine hK _ ?_;clear hK K))<;>(try (clear hK K;exact q_u)))|(with_reducible refine q_s ?_;(first|apply q_J|apply q_K|apply q_L|apply q_M|apply q_N|apply q_O)<;>try (intro _;try exact q_v))|with_reducible refine q_t ?_)
          refine q_F ⟨k + 1, hk⟩ ?_ (by simp only; omega)
          simp only [hs]
          exact q_D
        · rw [if_neg hc] at hs
          repeat' (first|(with_reducible first|apply q_a|apply q_b|apply q_c|apply q_d|apply q_e|apply q_f|apply q_g|apply q_h|apply q_i|apply q_j|apply q_k|apply q_m|apply q_n|apply q_o|apply q_p|refine q_l ?_)|((with_reducible first|refine q_q jxa_ok fun K hK=>?_|refine q_r jxa_ok fun K hK=>?_);simp (maxSteps:=2000000) only [go_sem,↓reduceIte,reduceCtorEq,Nat.reduceLeDiff,Nat.reduceLT,Nat.reduceBEq,Nat.reduceAdd,toNat_one, str_size, str_at, htx, hR, h45, decide_true, decide_false, lit, llen, digL_at, hc];(repeat1' with_reducible first|apply And.intro|(intro _;try exact q_v)|(refine hK _ ?_;clear hK K))<;>(try (clear hK K;exact q_u)))|(with_reducible refine q_s ?_;(first|apply q_J|apply q_K|apply q_L|apply q_M|apply q_N|apply q_O)<;>try (intro _;try exact q_v))|with_reducible refine q_t ?_)
          refine q_F ⟨k + 1, hk⟩ ?_ (by simp only; omega)
          simp only [hs]
          exact q_D
      · have hk' : k = b := by omega
        subst hk'
        by_cases hc : 0 ≤ dv k (r.getD i 0)
        · have hms := map_snoc (dv k) r i hi
          repeat' (first|(with_reducible first|apply q_a|apply q_b|apply q_c|apply q_d|apply q_e|apply q_f|apply q_g|apply q_h|apply q_i|apply q_j|apply q_k|apply q_m|apply q_n|apply q_o|apply q_p|refine q_l ?_)|((with_reducible first|refine q_q jxa_ok fun K hK=>?_|refine q_r jxa_ok fun K hK=>?_);simp (maxSteps:=2000000) only [go_sem,↓reduceIte,reduceCtorEq,Nat.reduceLeDiff,Nat.reduceLT,Nat.reduceBEq,Nat.reduceAdd,hml2];(repeat1' with_reducible first|apply And.intro|(intro _;try exact q_v)|(refine hK _ ?_;clear hK K))<;>(try (clear hK K;exact q_u)))|(with_reducible refine q_s ?_;(first|apply q_J|apply q_K|apply q_L|apply q_M|apply q_N|apply q_O)<;>try (intro _;try exact q_v))|with_reducible refine q_t ?_)
          refine q_F ⟨i + 1, hi, ?_⟩ ?_ (by simp only; omega)
          · intro c hc2
            rw [List.take_succ_eq_append_getElem hi] at hc2
            rcases List.mem_append.1 hc2 with h | h
            · exact g2 c h
            · rw [getD_eq _ _ hi] at hc
              simp at h; subst h; exact hc
          · simp only [hms]
            exact q_D
        · have hp : pzR k true r = none := by
            unfold pzR
            rw [if_neg (fun h => h.elim h0 h48), if_neg (fun h => hc (by rw [getD_eq _ _ hi]; exact h _ (List.getElem_mem hi)))]
          rw [hp]
          repeat' (first|(with_reducible first|apply q_a|apply q_b|apply q_c|apply q_d|apply q_e|apply q_f|apply q_g|apply q_h|apply q_i|apply q_j|apply q_k|apply q_m|apply q_n|apply q_o|apply q_p|refine q_l ?_)|((with_reducible first|refine q_q jxa_ok fun K hK=>?_|refine q_r jxa_ok fun K hK=>?_);simp (maxSteps:=2000000) only [go_sem,↓reduceIte,reduceCtorEq,Nat.reduceLeDiff,Nat.reduceLT,Nat.reduceBEq,Nat.reduceAdd,hml2];(repeat1' with_reducible first|apply And.intro|(intro _;try exact q_v)|(refine hK _ ?_;clear hK K))<;>(try (clear hK K;exact q_u)))|(with_reducible refine q_s ?_;(first|apply q_J|apply q_K|apply q_L|apply q_M|apply q_N|apply q_O)<;>try (intro _;try exact q_v))|with_reducible refine q_t ?_)
          all_goals first | omega | exact q_B [nR, .inl none] rfl rfl
    · have hi' : i = r.length := by omega
      subst hi'
      rw [List.take_length] at g2
      have hp : pzR b true r = some (sg true (rdv b (r.map (dv b)))) := by
        unfold pzR
        rw [if_neg (fun h => h.elim h0 h48), if_pos g2]
      have hcan := pzR_canon h1 hp
      have hib := inB_dv h2 g2
      have e1 : (sg true (rdv b (r.map (dv b)))).natAbs = rdv b (r.map (dv b)) := by simp only [sgt, sgf]; omega
      have e2 : decide (sg true (rdv b (r.map (dv b))) < 0) = true := by
        have := hcan.2.1
        simp only [sgt, sgf, forall_const, reduceCtorEq, false_implies] at this ⊢
        first | (refine decide_eq_true ?_; omega) | (refine decide_eq_false ?_; omega)
      have lm : (r.map (dv b)).length ≤ 65536 := by rw [List.length_map]; omega
      rw [hp]
      repeat' (first|(with_reducible first|apply q_a|apply q_b|apply q_c|apply q_d|apply q_e|apply q_f|apply q_g|apply q_h|apply q_i|apply q_j|apply q_k|apply q_m|apply q_n|apply q_o|apply q_p|refine q_l ?_)|((with_reducible first|refine q_q jxa_ok fun K hK=>?_|refine q_r jxa_ok fun K hK=>?_);simp (maxSteps:=2000000) only [go_sem,↓reduceIte,reduceCtorEq,Nat.reduceLeDiff,Nat.reduceLT,Nat.reduceBEq,Nat.reduceAdd,List.take_length, str_size, htx, hR];(repeat1' with_reducible first|apply And.intro|(intro _;try exact q_v)|(refine hK _ ?_;clear hK K))<;>(try (clear hK K;exact q_u)))|(with_reducible refine q_s ?_;(first|apply q_J|apply q_K|apply q_L|apply q_M|apply q_N|apply q_O)<;>try (intro _;try exact q_v))|with_reducible refine q_t ?_)
      refine q_A ?_
      simp only [gR, e1, e2]
      rfl
set_option maxRecDepth 100000 in
set_option maxHeartbeats 3200000 in
theorem intText_false (s : ByteArray) (b : Nat) (h1 : 2 ≤ b) (h2 : b ≤ 36) (hs : s.size ≤ 4097) (hA : ¬ (0 < (bytesOf s).length ∧ (bytesOf s).getD 0 0 = 45)) (r : List Int) (hr : r = if false = true then (bytesOf s).drop 1 else bytesOf s) :
    Ret Tryz.prog 15 false [.inl (.str s), .inl (.i .i64 b)] (match pzR b false r with
      | none => .t [.inr [.b false, .ints .i64 []], .inl (.b false)]
      | some z => .t [.inr (gR z), .inl (.b true)]) := by
  have hsz := str_size s
  have lit := lit_full
  have llen := digB_len 36
  generalize htx : bytesOf s = tx at *
  have hR : bytesOf s = r := by
    first
      | (rw [str_sub, htx, List.take_length]; exact hr.symm)
      | (rw [htx]; exact hr.symm)
  have hlen : r.length ≤ 4097 := by
    rw [hr]
    split
    · rw [List.length_drop]; omega
    · omega
  first
    | (have hrt : r = tx := by
         rw [hr]; rfl
       subst hrt)
    | skip
  have h45 : (r.getD 0 0 = 45) = (false = true) := by
    first
      | exact propext ⟨fun _ => rfl, fun _ => hA.2⟩
      | (refine propext ⟨fun e => absurd e (fun e => hA ⟨?_, e⟩), fun e => by cases e⟩
         cases r with
         | nil => simp at e
         | cons x l => simp)
  by_cases h0 : r = []
  · have hp : pzR b false r = none := by unfold pzR; rw [if_pos (.inl h0)]
    rw [hp]
    (refine q_H Tryz.func15 (fun F => ?_); simp only [q_z,q_y,Tryz.ntmps15,Tryz.results15])
    repeat' (first|(with_reducible first|apply q_a|apply q_b|apply q_c|apply q_d|apply q_e|apply q_f|apply q_g|apply q_h|apply q_i|apply q_j|apply q_k|apply q_m|apply q_n|apply q_o|apply q_p|refine q_l ?_)|((with_reducible first|refine q_q jxa_ok fun K hK=>?_|refine q_r jxa_ok fun K hK=>?_);simp (maxSteps:=2000000) only [go_sem,↓reduceIte,reduceCtorEq,Nat.reduceLeDiff,Nat.reduceLT,Nat.reduceBEq,Nat.reduceAdd,toNat_one, str_size, str_at, str_eq, htx, hR, h45, decide_true, decide_false, h0, lit_none, decide_true];(repeat1' with_reducible first|apply And.intro|(intro _;try exact q_v)|(refine hK _ ?_;clear hK K))<;>(try (clear hK K;exact q_u)))|(with_reducible refine q_s ?_;(first|apply q_J|apply q_K|apply q_L|apply q_M|apply q_N|apply q_O)<;>try (intro _;try exact q_v))|with_reducible refine q_t ?_)
    all_goals first | omega | exact q_B [nR, .inl none] rfl rfl
  have h0' : decide (r = []) = false := decide_eq_false h0
  have hpos : 0 < r.length := List.length_pos_iff.2 h0
  by_cases h48 : r.getD 0 0 = 48 ∧ (1 < r.length ∨ false = true)
  · have hp : pzR b false r = none := by unfold pzR; rw [if_pos (.inr h48)]
    have h48' := h48.1
    rw [hp]
    (refine q_H Tryz.func15 (fun F => ?_); simp only [q_z,q_y,Tryz.ntmps15,Tryz.results15])
    repeat' (first|(with_reducible first|apply q_a|apply q_b|apply q_c|apply q_d|apply q_e|apply q_f|apply q_g|apply q_h|apply q_i|apply q_j|apply q_k|apply q_m|apply q_n|apply q_o|apply q_p|refine q_l ?_)|((with_reducible first|refine q_q jxa_ok fun K hK=>?_|refine q_r jxa_ok fun K hK=>?_);simp (maxSteps:=2000000) only [go_sem,↓reduceIte,reduceCtorEq,Nat.reduceLeDiff,Nat.reduceLT,Nat.reduceBEq,Nat.reduceAdd,toNat_one, str_size, str_at, str_eq, htx, hR, h45, decide_true, decide_false, h0', h48', lit_none];(repeat1' with_reducible first|apply And.intro|(intro _;try exact q_v)|(refine hK _ ?_;clear hK K))<;>(try (clear hK K;exact q_u)))|(with_reducible refine q_s ?_;(first|apply q_J|apply q_K|apply q_L|apply q_M|apply q_N|apply q_O)<;>try (intro _;try exact q_v))|with_reducible refine q_t ?_)
    all_goals first | omega | exact q_B [nR, .inl none] rfl rfl | (exfalso; have := h48.2; simp at this; omega)
  have hcase : (false = false ∧ r.getD 0 0 = 48) ∨ ¬ r.getD 0 0 = 48 := by
    by_cases hz : r.getD 0 0 = 48
    · left
      refine ⟨?_, hz⟩
      first
        | rfl
        | exact absurd ⟨hz, .inr rfl⟩ h48
    · exact .inr hz
  rcases hcase with ⟨hS, hz⟩ | hz
  all_goals try (exact absurd hS (by decide))
  all_goals
    first | have h48n : ¬ 1 < r.length := fun h => h48 ⟨hz, .inl h⟩ | skip
    (refine q_H Tryz.func15 (fun F => ?_); simp only [q_z,q_y,Tryz.ntmps15,Tryz.results15])
    repeat' (first|(with_reducible first|apply q_a|apply q_b|apply q_c|apply q_d|apply q_e|apply q_f|apply q_g|apply q_h|apply q_i|apply q_j|apply q_k|apply q_m|apply q_n|apply q_o|apply q_p|refine q_l ?_)|((with_reducible first|refine q_q jxa_ok fun K hK=>?_|refine q_r jxa_ok fun K hK=>?_);simp (maxSteps:=2000000) only [go_sem,↓reduceIte,reduceCtorEq,Nat.reduceLeDiff,Nat.reduceLT,Nat.reduceBEq,Nat.reduceAdd,toNat_one, str_size, str_at, str_eq, htx, hR, h45, decide_true, decide_false, h0', hz, lit_none];(repeat1' with_reducible first|apply And.intro|(intro _;try exact q_v)|(refine hK _ ?_;clear hK K))<;>(try (clear hK K;exact q_u)))|(with_reducible refine q_s ?_;(first|apply q_J|apply q_K|apply q_L|apply q_M|apply q_N|apply q_O)<;>try (intro _;try exact q_v))|with_reducible refine q_t ?_)
    refine q_G (ι := { i : Nat // i ≤ r.length ∧ ∀ c ∈ r.take i, 0 ≤ dv b c }) (fun i => ⟨68, [(0, .c (.str s)), (1, .c (.i .i64 b)), (4, .bx 0 0), (6, .c (.b false)), (7, .own 1 0), (8, .c (.i .i64 (i.1 : Nat)))], ⟨[(0, [.c (.b false), .c .nil])], [(1, ⟨0, 3, 1, .ints .i64 ((r.take i.1).map (dv b))⟩)], []⟩, 2⟩) (fun i => r.length - i.1) ⟨0, by omega, by simp⟩ ?_ ?_
    · exact q_D
    rintro ⟨i, g1, g2⟩
    simp only at g1 g2 ⊢
    have hml2 : ((r.take i).map (dv b)).length = i := by simp; omega
    have hd := dv_cases b (r.getD i 0) h2
    rcases Nat.lt_or_ge i r.length with hi | hi
    · repeat' (first|(with_reducible first|apply q_a|apply q_b|apply q_c|apply q_d|apply q_e|apply q_f|apply q_g|apply q_h|apply q_i|apply q_j|apply q_k|apply q_m|apply q_n|apply q_o|apply q_p|refine q_l ?_)|((with_reducible first|refine q_q jxa_ok fun K hK=>?_|refine q_r jxa_ok fun K hK=>?_);simp (maxSteps:=2000000) only [go_sem,↓reduceIte,reduceCtorEq,Nat.reduceLeDiff,Nat.reduceLT,Nat.reduceBEq,Nat.reduceAdd,toNat_one, str_size, str_at, htx, hR];(repeat1' with_reducible first|apply And.intro|(intro _;try exact q_v)|(refine hK _ ?_;clear hK K))<;>(try (clear hK K;exact q_u)))|(with_reducible refine q_s ?_;(first|apply q_J|apply q_K|apply q_L|apply q_M|apply q_N|apply q_O)<;>try (intro _;try exact q_v))|with_reducible refine q_t ?_)
      refine q_G (ι := { k : Nat // k ≤ b }) (fun k => ⟨68, [(0, .c (.str s)), (1, .c (.i .i64 b)), (4, .bx 0 0), (6, .c (.b false)), (7, .own 1 0), (8, .c (.i .i64 (i : Nat))), (9, .c (.i .i64 (dv k.1 (r.getD i 0)))), (10, .c (.i .i64 (k.1 : Nat)))], ⟨[(0, [.c (.b false), .c .nil])], [(1, ⟨0, 3, 1, .ints .i64 ((r.take i).map (dv b))⟩)], []⟩, 2⟩) (fun k => b - k.1) ⟨0, by omega⟩ ?_ ?_
      · simp only [dv_zero]
        exact q_D
      rintro ⟨k, k1⟩
      simp only at k1 ⊢
      rcases Nat.lt_or_ge k b with hk | hk
      · have hs := dv_succ k (by omega) (r.getD i 0)
        have hat := digB_at 36 k (by omega)
        by_cases hc : chr (k : Int) = r.getD i 0
        · rw [if_pos hc] at hs
          repeat' (first|(with_reducible first|apply q_a|apply q_b|apply q_c|apply q_d|apply q_e|apply q_f|apply q_g|apply q_h|apply q_i|apply q_j|apply q_k|apply q_m|apply q_n|apply q_o|apply q_p|refine q_l ?_)|((with_reducible first|refine q_q jxa_ok fun K hK=>?_|refine q_r jxa_ok fun K hK=>?_);simp (maxSteps:=2000000) only [go_sem,↓reduceIte,reduceCtorEq,Nat.reduceLeDiff,Nat.reduceLT,Nat.reduceBEq,Nat.reduceAdd,toNat_one, str_size, str_at, htx, hR, h45, decide_true, decide_false, lit, llen, digL_at, hc];(repeat1' with_reducible first|apply And.intro|(intro _;try exact q_v)|(refine hK _ ?_;clear hK K))<;>(try (clear hK K;exact q_u)))|(with_reducible refine q_s ?_;(first|apply q_J|apply q_K|apply q_L|apply q_M|apply q_N|apply q_O)<;>try (intro _;try exact q_v))|with_reducible refine q_t ?_)
          refine q_F ⟨k + 1, hk⟩ ?_ (by simp only; omega)
          simp only [hs]
          exact q_D
        · rw [if_neg hc] at hs
          repeat' (first|(with_reducible first|apply q_a|apply q_b|apply q_c|apply q_d|apply q_e|apply q_f|apply q_g|apply q_h|apply q_i|apply q_j|apply q_k|apply q_m|apply q_n|apply q_o|apply q_p|refine q_l ?_)|((with_reducible first|refine q_q jxa_ok fun K hK=>?_|refine q_r jxa_ok fun K hK=>?_);simp (maxSteps:=2000000) only [go_sem,↓reduceIte,reduceCtorEq,Nat.reduceLeDiff,Nat.reduceLT,Nat.reduceBEq,Nat.reduceAdd,toNat_one, str_size, str_at, htx, hR, h45, decide_true, decide_false, lit, llen, digL_at, hc];(repeat1' with_reducible first|apply And.intro|(intro _;try exact q_v)|(refine hK _ ?_;clear hK K))<;>(try (clear hK K;exact q_u)))|(with_reducible refine q_s ?_;(first|apply q_J|apply q_K|apply q_L|apply q_M|apply q_N|apply q_O)<;>try (intro _;try exact q_v))|with_reducible refine q_t ?_)
          refine q_F ⟨k + 1, hk⟩ ?_ (by simp only; omega)
          simp only [hs]
          exact q_D
      · have hk' : k = b := by omega
        subst hk'
        by_cases hc : 0 ≤ dv k (r.getD i 0)
        · have hms := map_snoc (dv k) r i hi
          repeat' (first|(with_reducible first|apply q_a|apply q_b|apply q_c|apply q_d|apply q_e|apply q_f|apply q_g|apply q_h|apply q_i|apply q_j|apply q_k|apply q_m|apply q_n|apply q_o|apply q_p|refine q_l ?_)|((with_reducible first|refine q_q jxa_ok fun K hK=>?_|refine q_r jxa_ok fun K hK=>?_);simp (maxSteps:=2000000) only [go_sem,↓reduceIte,reduceCtorEq,Nat.reduceLeDiff,Nat.reduceLT,Nat.reduceBEq,Nat.reduceAdd,hml2];(repeat1' with_reducible first|apply And.intro|(intro _;try exact q_v)|(refine hK _ ?_;clear hK K))<;>(try (clear hK K;exact q_u)))|(with_reducible refine q_s ?_;(first|apply q_J|apply q_K|apply q_L|apply q_M|apply q_N|apply q_O)<;>try (intro _;try exact q_v))|with_reducible refine q_t ?_)
          refine q_F ⟨i + 1, hi, ?_⟩ ?_ (by simp only; omega)
          · intro c hc2
            rw [List.take_succ_eq_append_getElem hi] at hc2
            rcases List.mem_append.1 hc2 with h | h
            · exact g2 c h
            · rw [getD_eq _ _ hi] at hc
              simp at h; subst h; exact hc
          · simp only [hms]
            exact q_D
        · have hp : pzR k false r = none := by
            unfold pzR
            rw [if_neg (fun h => h.elim h0 h48), if_neg (fun h => hc (by rw [getD_eq _ _ hi]; exact h _ (List.getElem_mem hi)))]
          rw [hp]
          repeat' (first|(with_reducible first|apply q_a|apply q_b|apply q_c|apply q_d|apply q_e|apply q_f|apply q_g|apply q_h|apply q_i|apply q_j|apply q_k|apply q_m|apply q_n|apply q_o|apply q_p|refine q_l ?_)|((with_reducible first|refine q_q jxa_ok fun K hK=>?_|refine q_r jxa_ok fun K hK=>?_);simp (maxSteps:=2000000) only [go_sem,↓reduceIte,reduceCtorEq,Nat.reduceLeDiff,Nat.reduceLT,Nat.reduceBEq,Nat.reduceAdd,hml2];(repeat1' with_reducible first|apply And.intro|(intro _;try exact q_v)|(refine hK _ ?_;clear hK K))<;>(try (clear hK K;exact q_u)))|(with_reducible refine q_s ?_;(first|apply q_J|apply q_K|apply q_L|apply q_M|apply q_N|apply q_O)<;>try (intro _;try exact q_v))|with_reducible refine q_t ?_)
          all_goals first | omega | exact q_B [nR, .inl none] rfl rfl
    · have hi' : i = r.length := by omega
      subst hi'
      rw [List.take_length] at g2
      have hp : pzR b false r = some (sg false (rdv b (r.map (dv b)))) := by
        unfold pzR
        rw [if_neg (fun h => h.elim h0 h48), if_pos g2]
      have hcan := pzR_canon h1 hp
      have hib := inB_dv h2 g2
      have e1 : (sg false (rdv b (r.map (dv b)))).natAbs = rdv b (r.map (dv b)) := by simp only [sgt, sgf]; omega
      have e2 : decide (sg false (rdv b (r.map (dv b))) < 0) = false := by
        have := hcan.2.1
        simp only [sgt, sgf, forall_const, reduceCtorEq, false_implies] at this ⊢
        first | (refine decide_eq_true ?_; omega) | (refine decide_eq_false ?_; omega)
      have lm : (r.map (dv b)).length ≤ 65536 := by rw [List.length_map]; omega
      rw [hp]
      repeat' (first|(with_reducible first|apply q_a|apply q_b|apply q_c|apply q_d|apply q_e|apply q_f|apply q_g|apply q_h|apply q_i|apply q_j|apply q_k|apply q_m|apply q_n|apply q_o|apply q_p|refine q_l ?_)|((with_reducible first|refine q_q jxa_ok fun K hK=>?_|refine q_r jxa_ok fun K hK=>?_);simp (maxSteps:=2000000) only [go_sem,↓reduceIte,reduceCtorEq,Nat.reduceLeDiff,Nat.reduceLT,Nat.reduceBEq,Nat.reduceAdd,List.take_length, str_size, htx, hR];(repeat1' with_reducible first|apply And.intro|(intro _;try exact q_v)|(refine hK _ ?_;clear hK K))<;>(try (clear hK K;exact q_u)))|(with_reducible refine q_s ?_;(first|apply q_J|apply q_K|apply q_L|apply q_M|apply q_N|apply q_O)<;>try (intro _;try exact q_v))|with_reducible refine q_t ?_)
      refine q_A ?_
      simp only [gR, e1, e2]
      rfl
def intTextO (b : Nat) (l : List Int) : AV := match pz b l with
  | none => .t [.inr [.b false, .ints .i64 []], .inl (.b false)]
  | some z => .t [.inr (gR z), .inl (.b true)]
def intTextCT : CT := mkCT [] false fun l K => match l with
  | [.inl (.str s), .inl (.i .i64 b)] => ((bytesOf s).length ≤ 4097 ∧ 2 ≤ b ∧ b ≤ 36) ∧ K (intTextO b.toNat (bytesOf s))
  | _ => False
def jx2 : Cfg := addT 15 intTextCT jx1
theorem jx2_ok : TblOk Tryz.prog jx2 := q_I jx1_ok Tryz.func15 fun l K h => by
  split at h
  · rename_i s b
    obtain ⟨⟨h1, h2, h3⟩, h⟩ := h
    obtain ⟨n, rfl⟩ : ∃ n : Nat, b = n := ⟨b.toNat, by omega⟩
    rw [Int.toNat_natCast] at h
    have hs := str_size s
    refine ⟨intTextO n (bytesOf s), ?_, h⟩
    unfold intTextO pz
    by_cases hA : 0 < (bytesOf s).length ∧ (bytesOf s).getD 0 0 = 45
    · rw [if_pos hA]
      exact intText_true s n (by omega) (by omega) (by omega) hA _ rfl
    · rw [if_neg hA]
      exact intText_false s n (by omega) (by omega) (by omega) hA _ rfl
  · exact h.elim
attribute [go_sem] intTextCT
end Go.Proofs.YtlflfhcfljiciaaGreat
