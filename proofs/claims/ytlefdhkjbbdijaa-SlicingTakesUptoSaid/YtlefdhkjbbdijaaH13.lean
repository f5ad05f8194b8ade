import Derived.Test.YtlefdhkjbbdijaaH12
namespace Go.Proofs.Ytlefdhkjbbdijaa
set_option linter.unusedSimpArgs false
set_option linter.unusedVariables false
open Go.Abs Go.Proofs.NatL

theorem two_limbs (m : Nat) (h : m < 18446744073709551616) : trimL [((m % 4294967296 : Nat) : Int), ((m / 4294967296 : Nat) : Int)] = dg 4294967296 m := by
  rw [trimL_eq 4294967296 (by omega) _ (InB_two ⟨by omega, by omega⟩ ⟨by omega, by omega⟩)]
  congr 1
  simp only [V, Int.toNat_natCast]
  omega
set_option maxHeartbeats 1600000 in
theorem iOf_ret (n : Int) (hn : -9223372036854775808 ≤ n ∧ n ≤ 9223372036854775807) : Ret Try.prog 13 false [.inl (.i .i64 n)] (.g (gI n)) := by
  obtain ⟨m, hm⟩ : ∃ m : Nat, m = n.natAbs := ⟨_, rfl⟩
  have hml : m < 18446744073709551616 := by omega
  have hlo : ((m : Int)) % 4294967296 = ((m % 4294967296 : Nat) : Int) := by omega
  have hhi : ((m : Int)) / 4294967296 % 4294967296 = ((m / 4294967296 : Nat) : Int) := by omega
  have ht := two_limbs m hml
  simp only [gI, ← hm]
  have key : ∀ st : Bool, st = decide (n < 0) → Ret Try.prog 13 false [.inl (.i .i64 n)] (.g [.b st, .ints .u32 (dg 4294967296 m)]) := by
    intro st hst
    by_cases h : n < 0
    · have e1 : (0 - n % 18446744073709551616) % 18446744073709551616 = (m : Int) := by omega
      have e0 : decide (n < 0) = true := decide_eq_true h
      (refine q_H Try.func13 (fun F => ?_); simp only [q_z,q_y,Try.ntmps13,Try.results13])
      repeat' (first|(with_reducible first|apply q_a|apply q_b|apply q_c|apply q_d|apply q_e|apply q_f|apply q_g|apply q_h|apply q_i|apply q_j|apply q_k|apply q_m|apply q_n|apply q_o|apply q_p|refine q_l ?_)|((with_reducible first|refine q_q ib_ok fun K hK=>?_|refine q_r ib_ok fun K hK=>?_);simp (maxSteps:=2000000) only [go_sem,↓reduceIte,reduceCtorEq,Nat.reduceLeDiff,Nat.reduceLT,Nat.reduceBEq,Nat.reduceAdd,e1, hlo, hhi];(repeat1' with_reducible first|apply And.intro|(intro _;try exact q_v)|(refine hK _ ?_;clear hK K))<;>(try (clear hK K;exact q_u)))|(with_reducible refine q_s ?_;(first|apply q_J|apply q_K|apply q_L|apply q_M|apply q_N|apply q_O)<;>try (intro _;try exact q_v))|with_reducible refine q_t ?_)
      generalize hX : [((m % 4294967296 : Nat) : Int), ((m / 4294967296 : Nat) : Int)] = xs at *
      have hxl : xs.length = 2 := by rw [← hX]; rfl
      refine q_G (ι := { k : Nat // k ≤ 2 ∧ trimL (xs.take k) = trimL xs }) (fun k => ⟨38, [(0, .c (.i .i64 n)), (2, .bx 0 0), (4, .c (.ints .u32 (xs.take k.1)))], ⟨[(0, [.c (.b false), .c .nil])], [], []⟩, 1⟩) (fun k => k.1) ⟨2, by omega, by rw [List.take_of_length_le (by omega)]⟩ ?_ ?_
      · ((simp only [go_sem,↓reduceIte,reduceCtorEq,Nat.reduceLeDiff,Nat.reduceLT,Nat.reduceBEq,Nat.reduceAdd])<;>(try (simp;done))<;>(try ((simp only [C.i.injEq,C.b.injEq,C.ints.injEq,C.bools.injEq,List.append_cancel_left_eq,List.cons.injEq,true_and,and_true]);(repeat' with_reducible apply And.intro)<;>(first|rfl|assumption|omega|(simp;omega)|(congr 1;omega)|(congr 2;omega)))))
        all_goals (rw [← hX]; rfl)
      rintro ⟨k, h1, h2⟩
      simp only at h1 h2 ⊢
      have ek : 0 < k → ((k : Int) - 1).toNat = k - 1 := fun _ => by omega
      have e3 : (xs.take k).length = k := by simp; omega
      have e2 : 0 < k → (xs.take k).getD (k - 1) 0 = xs.getD (k - 1) 0 := fun h => by
        simp only [List.getD_eq_getElem?_getD, List.getElem?_take]
        rw [if_pos (by omega)]
      rcases Nat.eq_zero_or_pos k with hk | hk
      · subst hk
        rw [List.take_zero] at h2
        repeat' (first|(with_reducible first|apply q_a|apply q_b|apply q_c|apply q_d|apply q_e|apply q_f|apply q_g|apply q_h|apply q_i|apply q_j|apply q_k|apply q_m|apply q_n|apply q_o|apply q_p|refine q_l ?_)|((with_reducible first|refine q_q ib_ok fun K hK=>?_|refine q_r ib_ok fun K hK=>?_);simp (maxSteps:=2000000) only [go_sem,↓reduceIte,reduceCtorEq,Nat.reduceLeDiff,Nat.reduceLT,Nat.reduceBEq,Nat.reduceAdd,List.take_zero, e0];(repeat1' with_reducible first|apply And.intro|(intro _;try exact q_v)|(refine hK _ ?_;clear hK K))<;>(try (clear hK K;exact q_u)))|(with_reducible refine q_s ?_;(first|apply q_J|apply q_K|apply q_L|apply q_M|apply q_N|apply q_O)<;>try (intro _;try exact q_v))|with_reducible refine q_t ?_)
        exact q_A (by rw [hst, e0, ← ht, ← h2]; rfl)
      · have ek := ek hk
        have e2 := e2 hk
        have tk : (xs.take k).take (k - 1) = xs.take (k - 1) := by rw [List.take_take, Nat.min_eq_left (by omega)]
        by_cases hz : xs.getD (k - 1) 0 = 0
        · repeat' (first|(with_reducible first|apply q_a|apply q_b|apply q_c|apply q_d|apply q_e|apply q_f|apply q_g|apply q_h|apply q_i|apply q_j|apply q_k|apply q_m|apply q_n|apply q_o|apply q_p|refine q_l ?_)|((with_reducible first|refine q_q ib_ok fun K hK=>?_|refine q_r ib_ok fun K hK=>?_);simp (maxSteps:=2000000) only [go_sem,↓reduceIte,reduceCtorEq,Nat.reduceLeDiff,Nat.reduceLT,Nat.reduceBEq,Nat.reduceAdd,e3, ek, e2, hz, tk];(repeat1' with_reducible first|apply And.intro|(intro _;try exact q_v)|(refine hK _ ?_;clear hK K))<;>(try (clear hK K;exact q_u)))|(with_reducible refine q_s ?_;(first|apply q_J|apply q_K|apply q_L|apply q_M|apply q_N|apply q_O)<;>try (intro _;try exact q_v))|with_reducible refine q_t ?_)
          have := trimL_drop (xs.take k) (by omega) (by rw [e3, e2]; exact hz)
          rw [e3, tk] at this
          refine q_F ⟨k - 1, by omega, by rw [this, h2]⟩ ?_ (by simp only; omega)
          exact q_D
        · have hs := trimL_stop (xs.take k) (.inr (by rw [e3, e2]; exact hz))
          repeat' (first|(with_reducible first|apply q_a|apply q_b|apply q_c|apply q_d|apply q_e|apply q_f|apply q_g|apply q_h|apply q_i|apply q_j|apply q_k|apply q_m|apply q_n|apply q_o|apply q_p|refine q_l ?_)|((with_reducible first|refine q_q ib_ok fun K hK=>?_|refine q_r ib_ok fun K hK=>?_);simp (maxSteps:=2000000) only [go_sem,↓reduceIte,reduceCtorEq,Nat.reduceLeDiff,Nat.reduceLT,Nat.reduceBEq,Nat.reduceAdd,e3, ek, e2, e0];(repeat1' with_reducible first|apply And.intro|(intro _;try exact q_v)|(refine hK _ ?_;clear hK K))<;>(try (clear hK K;exact q_u)))|(with_reducible refine q_s ?_;(first|apply q_J|apply q_K|apply q_L|apply q_M|apply q_N|apply q_O)<;>try (intro _;try exact q_v))|with_reducible refine q_t ?_)
          exact q_A (by rw [hst, e0, ← ht, ← h2, hs]; rfl)
    · have e1 : n % 18446744073709551616 = (m : Int) := by omega
      have e0 : decide (n < 0) = false := decide_eq_false h
      (refine q_H Try.func13 (fun F => ?_); simp only [q_z,q_y,Try.ntmps13,Try.results13])
      repeat' (first|(with_reducible first|apply q_a|apply q_b|apply q_c|apply q_d|apply q_e|apply q_f|apply q_g|apply q_h|apply q_i|apply q_j|apply q_k|apply q_m|apply q_n|apply q_o|apply q_p|refine q_l ?_)|((with_reducible first|refine q_q ib_ok fun K hK=>?_|refine q_r ib_ok fun K hK=>?_);simp (maxSteps:=2000000) only [go_sem,↓reduceIte,reduceCtorEq,Nat.reduceLeDiff,Nat.reduceLT,Nat.reduceBEq,Nat.reduceAdd,e1, hlo, hhi];(repeat1' with_reducible first|apply And.intro|(intro _;try exact q_v)|(refine hK _ ?_;clear hK K))<;>(try (clear hK K;exact q_u)))|(with_reducible refine q_s ?_;(first|apply q_J|apply q_K|apply q_L|apply q_M|apply q_N|apply q_O)<;>try (intro _;try exact q_v))|with_reducible refine q_t ?_)
      generalize hX : [((m % 4294967296 : Nat) : Int), ((m / 4294967296 : Nat) : Int)] = xs at *
      have hxl : xs.length = 2 := by rw [← hX]; rfl
      refine q_G (ι := { k : Nat // k ≤ 2 ∧ trimL (xs.take k) = trimL xs }) (fun k => ⟨38, [(0, .c (.i .i64 n)), (2, .bx 0 0), (4, .c (.ints .u32 (xs.take k.1)))], ⟨[(0, [.c (.b false), .c .nil])], [], []⟩, 1⟩) (fun k => k.1) ⟨2, by omega, by rw [List.take_of_length_le (by omega)]⟩ ?_ ?_
      · ((simp only [go_sem,↓reduceIte,reduceCtorEq,Nat.reduceLeDiff,Nat.reduceLT,Nat.reduceBEq,Nat.reduceAdd])<;>(try (simp;done))<;>(try ((simp only [C.i.injEq,C.b.injEq,C.ints.injEq,C.bools.injEq,List.append_cancel_left_eq,List.cons.injEq,true_and,and_true]);(repeat' with_reducible apply And.intro)<;>(first|rfl|assumption|omega|(simp;omega)|(congr 1;omega)|(congr 2;omega)))))
        all_goals (rw [← hX]; rfl)
      rintro ⟨k, h1, h2⟩
      simp only at h1 h2 ⊢
      have ek : 0 < k → ((k : Int) - 1).toNat = k - 1 := fun _ => by omega
      have e3 : (xs.take k).length = k := by simp; omega
      have e2 : 0 < k → (xs.take k).getD (k - 1) 0 = xs.getD (k - 1) 0 := fun h => by
        simp only [List.getD_eq_getElem?_getD, List.getElem?_take]
        rw [if_pos (by omega)]
      rcases Nat.eq_zero_or_pos k with hk | hk
      · subst hk
        rw [List.take_zero] at h2
        repeat' (first|(with_reducible first|apply q_a|apply q_b|apply q_c|apply q_d|apply q_e|apply q_f|apply q_g|apply q_h|apply q_i|apply q_j|apply q_k|apply q_m|apply q_n|apply q_o|apply q_p|refine q_l ?_)|((with_reducible first|refine q_q ib_ok fun K hK=>?_|refine q_r ib_ok fun K hK=>?_);simp (maxSteps:=2000000) only [go_sem,↓reduceIte,reduceCtorEq,Nat.reduceLeDiff,Nat.reduceLT,Nat.reduceBEq,Nat.reduceAdd,List.take_zero, e0];(repeat1' with_reducible first|apply And.intro|(intro _;try exact q_v)|(refine hK _ ?_;clear hK K))<;>(try (clear hK K;exact q_u)))|(with_reducible refine q_s ?_;(first|apply q_J|apply q_K|apply q_L|apply q_M|apply q_N|apply q_O)<;>try (intro _;try exact q_v))|with_reducible refine q_t ?_)
        exact q_A (by rw [hst, e0, ← ht, ← h2]; rfl)
      · have ek := ek hk
        have e2 := e2 hk
        have tk : (xs.take k).take (k - 1) = xs.take (k - 1) := by rw [List.take_take, Nat.min_eq_left (by omega)]
        by_cases hz : xs.getD (k - 1) 0 = 0
        · repeat' (first|(with_reducible first|apply q_a|apply q_b|apply q_c|apply q_d|apply q_e|apply q_f|apply q_g|apply q_h|apply q_i|apply q_j|apply q_k|apply q_m|apply q_n|apply q_o|apply q_p|refine q_l ?_)|((with_reducible first|refine q_q ib_ok fun K hK=>?_|refine q_r ib_ok fun K hK=>?_);simp (maxSteps:=2000000) only [go_sem,↓reduceIte,reduceCtorEq,Nat.reduceLeDiff,Nat.reduceLT,Nat.reduceBEq,Nat.reduceAdd,e3, ek, e2, hz, tk];(repeat1' with_reducible first|apply And.intro|(intro _;try exact q_v)|(refine hK _ ?_;clear hK K))<;>(try (clear hK K;exact q_u)))|(with_reducible refine q_s ?_;(first|apply q_J|apply q_K|apply q_L|apply q_M|apply q_N|apply q_O)<;>try (intro _;try exact q_v))|with_reducible refine q_t ?_)
          have := trimL_drop (xs.take k) (by omega) (by rw [e3, e2]; exact hz)
          rw [e3, tk] at this
          refine q_F ⟨k - 1, by omega, by rw [this, h2]⟩ ?_ (by simp only; omega)
          exact q_D
        · have hs := trimL_stop (xs.take k) (.inr (by rw [e3, e2]; exact hz))
          repeat' (first|(with_reducible first|apply q_a|apply q_b|apply q_c|apply q_d|apply q_e|apply q_f|apply q_g|apply q_h|apply q_i|apply q_j|apply q_k|apply q_m|apply q_n|apply q_o|apply q_p|refine q_l ?_)|((with_reducible first|refine q_q ib_ok fun K hK=>?_|refine q_r ib_ok fun K hK=>?_);simp (maxSteps:=2000000) only [go_sem,↓reduceIte,reduceCtorEq,Nat.reduceLeDiff,Nat.reduceLT,Nat.reduceBEq,Nat.reduceAdd,e3, ek, e2, e0];(repeat1' with_reducible first|apply And.intro|(intro _;try exact q_v)|(refine hK _ ?_;clear hK K))<;>(try (clear hK K;exact q_u)))|(with_reducible refine q_s ?_;(first|apply q_J|apply q_K|apply q_L|apply q_M|apply q_N|apply q_O)<;>try (intro _;try exact q_v))|with_reducible refine q_t ?_)
          exact q_A (by rw [hst, e0, ← ht, ← h2, hs]; rfl)
  exact key _ rfl
def iOfCT : CT := mkCT [] false fun l K => match l with
  | [.inl (.i .i64 n)] => (-9223372036854775808 ≤ n ∧ n ≤ 9223372036854775807) ∧ K (.g (gI n))
  | _ => False
def iu1 : Cfg := addT 13 iOfCT it5
theorem iu1_ok : TblOk Try.prog iu1 := q_I it5_ok Try.func13 fun l K h => by
  split at h
  · exact ⟨_, iOf_ret _ h.1, h.2⟩
  · exact h.elim
attribute [go_sem] iOfCT
def digL : List UInt8 := [48, 49, 50, 51, 52, 53, 54, 55, 56, 57, 97, 98, 99, 100, 101, 102, 103, 104, 105, 106, 107, 108, 109, 110, 111, 112, 113, 114, 115, 116, 117, 118, 119, 120, 121, 122]
def chr (d : Int) : Int := ((digL.getD d.toNat 0).toNat : Nat)
def textI (z : Int) (b : Nat) : List Int := (if z < 0 then [45] else []) ++ (if z = 0 then [48] else (dg b z.natAbs).reverse.map chr)
theorem map_snoc (f : Int → Int) (ds : List Int) (i : Nat) (h : i < ds.length) : (ds.take (i + 1)).map f = (ds.take i).map f ++ [f (ds.getD i 0)] := by
  rw [List.take_succ_eq_append_getElem h, List.map_append, getD_eq _ _ h]; rfl
theorem bl_128 {n : Nat} (h : (dg 4294967296 n).length ≤ 128) : bl n ≤ 4096 := by
  obtain ⟨k, hk⟩ : ∃ k, k = 128 := ⟨_, rfl⟩
  rw [← hk] at h
  have h1 := lt_of_len (B := 4294967296) (by omega) h
  rw [show (4294967296 : Nat) = 2 ^ 32 from rfl, ← Nat.pow_mul] at h1
  have := bl_lt n _ h1
  omega
def ibt : Cfg := listT [(87, icheckCT), (121, digG)] [30]
theorem ibt_ok : TblOk Try.prog ibt := listT_ok (big := it5) it5_ok ⟨rfl, rfl, trivial⟩
attribute [go_sem] ibt
set_option maxRecDepth 100000 in
set_option maxHeartbeats 3200000 in
theorem iText_ok (a : Int) (b : Nat) (h1 : 2 ≤ b) (h2 : b ≤ 36) (la : (dg 4294967296 a.natAbs).length ≤ 128) :
    Ret Try.prog 97 false [.inr (gI a), .inl (.i .i64 b)] (.t [.inl (.str (strOf (textI a b))), .inr [.i .i64 0, .i .i64 0]]) := by
  have oa := (okZ_g a).trans (decide_eq_true la)
  have ka := okN_128 la
  have dl : (dg b a.natAbs).length ≤ 4096 := Nat.le_trans (dg_len_two b a.natAbs h1 _ (lt_bl _)) (bl_128 la)
  have dp := dg_len_pos b a.natAbs h1
  have din : InB b (dg b a.natAbs).reverse := fun z hz => InB_dg b h1 _ z (List.mem_reverse.1 hz)
  have htx : ∀ pre : List Int, pre = (if a < 0 then [45] else []) → strOf (textI a b) = strOf (pre ++ (if a = 0 then [48] else (dg b a.natAbs).reverse.map chr)) := fun pre h => by rw [h]; rfl
  rw [← List.length_reverse] at dl dp
  generalize hds : (dg b a.natAbs).reverse = ds at *
  by_cases hneg : a < 0
  · have htx := htx [45] (by rw [if_pos hneg])
    rw [if_neg (by omega)] at htx
    have e0 : decide (a < 0) = true := decide_eq_true hneg
    simp only [gI, e0] at oa ⊢
    (refine q_H Try.func97 (fun F => ?_); simp only [q_z,q_y,Try.ntmps97,Try.results97])
    repeat' (first|(with_reducible first|apply q_a|apply q_b|apply q_c|apply q_d|apply q_e|apply q_f|apply q_g|apply q_h|apply q_i|apply q_j|apply q_k|apply q_m|apply q_n|apply q_o|apply q_p|refine q_l ?_)|((with_reducible first|refine q_q ibt_ok fun K hK=>?_|refine q_r ibt_ok fun K hK=>?_);simp (maxSteps:=2000000) only [go_sem,↓reduceIte,reduceCtorEq,Nat.reduceLeDiff,Nat.reduceLT,Nat.reduceBEq,Nat.reduceAdd,oa, ka, hds];(repeat1' with_reducible first|apply And.intro|(intro _;try exact q_v)|(refine hK _ ?_;clear hK K))<;>(try (clear hK K;exact q_u)))|(with_reducible refine q_s ?_;(first|apply q_J|apply q_K|apply q_L|apply q_M|apply q_N|apply q_O)<;>try (intro _;try exact q_v))|with_reducible refine q_t ?_)
    refine q_G (ι := { i : Nat // i ≤ ds.length }) (fun i => ⟨56, [(5, .bx 1 0), (7, .c (.ints .i64 ds)), (9, .own 4 0), (35, .c (.ints .i64 ds)), (36, .c (.i .i64 ds.length)), (37, .c (.i .i64 (i.1 : Nat)))], ⟨[(1, [.c (.i .i64 0), .c (.i .i64 0)])], [(4, ⟨0, 5, 1, .ints .u8 ([45] ++ (ds.take i.1).map chr)⟩)], []⟩, 5⟩) (fun i => ds.length - i.1) ⟨0, by simp⟩ ?_ ?_
    · exact q_D
    rintro ⟨i, g1⟩
    simp only at g1 ⊢
    have b1 := InB_getD (by omega) din i
    have hml : ((ds.take i).map chr).length = i := by simp; omega
    rcases Nat.lt_or_ge i ds.length with hi | hi
    · have hm := map_snoc chr ds i hi
      repeat' (first|(with_reducible first|apply q_a|apply q_b|apply q_c|apply q_d|apply q_e|apply q_f|apply q_g|apply q_h|apply q_i|apply q_j|apply q_k|apply q_m|apply q_n|apply q_o|apply q_p|refine q_l ?_)|((with_reducible first|refine q_q ibt_ok fun K hK=>?_|refine q_r ibt_ok fun K hK=>?_);simp (maxSteps:=2000000) only [go_sem,↓reduceIte,reduceCtorEq,Nat.reduceLeDiff,Nat.reduceLT,Nat.reduceBEq,Nat.reduceAdd,hml];(repeat1' with_reducible first|apply And.intro|(intro _;try exact q_v)|(refine hK _ ?_;clear hK K))<;>(try (clear hK K;exact q_u)))|(with_reducible refine q_s ?_;(first|apply q_J|apply q_K|apply q_L|apply q_M|apply q_N|apply q_O)<;>try (intro _;try exact q_v))|with_reducible refine q_t ?_)
      refine q_F ⟨i + 1, hi⟩ ?_ (by simp only; omega)
      simp only [hm]
      exact q_D
    · have hi' : i = ds.length := by omega
      subst hi'
      rw [List.take_length]
      repeat' (first|(with_reducible first|apply q_a|apply q_b|apply q_c|apply q_d|apply q_e|apply q_f|apply q_g|apply q_h|apply q_i|apply q_j|apply q_k|apply q_m|apply q_n|apply q_o|apply q_p|refine q_l ?_)|((with_reducible first|refine q_q ibt_ok fun K hK=>?_|refine q_r ibt_ok fun K hK=>?_);simp (maxSteps:=2000000) only [go_sem,↓reduceIte,reduceCtorEq,Nat.reduceLeDiff,Nat.reduceLT,Nat.reduceBEq,Nat.reduceAdd];(repeat1' with_reducible first|apply And.intro|(intro _;try exact q_v)|(refine hK _ ?_;clear hK K))<;>(try (clear hK K;exact q_u)))|(with_reducible refine q_s ?_;(first|apply q_J|apply q_K|apply q_L|apply q_M|apply q_N|apply q_O)<;>try (intro _;try exact q_v))|with_reducible refine q_t ?_)
      exact q_A (by rw [htx]; rfl)
  · have htx := htx [] (by rw [if_neg hneg])
    have e0 : decide (a < 0) = false := decide_eq_false hneg
    simp only [gI, e0] at oa ⊢
    (refine q_H Try.func97 (fun F => ?_); simp only [q_z,q_y,Try.ntmps97,Try.results97])
    repeat' (first|(with_reducible first|apply q_a|apply q_b|apply q_c|apply q_d|apply q_e|apply q_f|apply q_g|apply q_h|apply q_i|apply q_j|apply q_k|apply q_m|apply q_n|apply q_o|apply q_p|refine q_l ?_)|((with_reducible first|refine q_q ibt_ok fun K hK=>?_|refine q_r ibt_ok fun K hK=>?_);simp (maxSteps:=2000000) only [go_sem,↓reduceIte,reduceCtorEq,Nat.reduceLeDiff,Nat.reduceLT,Nat.reduceBEq,Nat.reduceAdd,oa, ka, hds];(repeat1' with_reducible first|apply And.intro|(intro _;try exact q_v)|(refine hK _ ?_;clear hK K))<;>(try (clear hK K;exact q_u)))|(with_reducible refine q_s ?_;(first|apply q_J|apply q_K|apply q_L|apply q_M|apply q_N|apply q_O)<;>try (intro _;try exact q_v))|with_reducible refine q_t ?_)
    refine q_G (ι := { i : Nat // i ≤ ds.length }) (fun i => ⟨56, [(5, .bx 1 0), (7, .c (.ints .i64 ds)), (9, .own 4 0), (35, .c (.ints .i64 ds)), (36, .c (.i .i64 ds.length)), (37, .c (.i .i64 (i.1 : Nat)))], ⟨[(1, [.c (.i .i64 0), .c (.i .i64 0)])], [(4, ⟨0, 5, 1, .ints .u8 ((ds.take i.1).map chr)⟩)], []⟩, 5⟩) (fun i => ds.length - i.1) ⟨0, by simp⟩ ?_ ?_
    · exact q_D
    rintro ⟨i, g1⟩
    simp only at g1 ⊢
    have b1 := InB_getD (by omega) din i
    have hml : ((ds.take i).map chr).length = i := by simp; omega
    rcases Nat.lt_or_ge i ds.length with hi | hi
    · have hm := map_snoc chr ds i hi
      repeat' (first|(with_reducible first|apply q_a|apply q_b|apply q_c|apply q_d|apply q_e|apply q_f|apply q_g|apply q_h|apply q_i|apply q_j|apply q_k|apply q_m|apply q_n|apply q_o|apply q_p|refine q_l ?_)|((with_reducible first|refine q_q ibt_ok fun K hK=>?_|refine q_r ibt_ok fun K hK=>?_);simp (maxSteps:=2000000) only [go_sem,↓reduceIte,reduceCtorEq,Nat.reduceLeDiff,Nat.reduceLT,Nat.reduceBEq,Nat.reduceAdd,hml];(repeat1' with_reducible first|apply And.intro|(intro _;try exact q_v)|(refine hK _ ?_;clear hK K))<;>(try (clear hK K;exact q_u)))|(with_reducible refine q_s ?_;(first|apply q_J|apply q_K|apply q_L|apply q_M|apply q_N|apply q_O)<;>try (intro _;try exact q_v))|with_reducible refine q_t ?_)
      refine q_F ⟨i + 1, hi⟩ ?_ (by simp only; omega)
      simp only [hm]
      exact q_D
    · have hi' : i = ds.length := by omega
      subst hi'
      rw [List.take_length]
      by_cases hz : a = 0
      · have h0 : ds = [] := List.eq_nil_of_length_eq_zero (by omega)
        subst h0
        rw [if_pos hz] at htx
        repeat' (first|(with_reducible first|apply q_a|apply q_b|apply q_c|apply q_d|apply q_e|apply q_f|apply q_g|apply q_h|apply q_i|apply q_j|apply q_k|apply q_m|apply q_n|apply q_o|apply q_p|refine q_l ?_)|((with_reducible first|refine q_q ibt_ok fun K hK=>?_|refine q_r ibt_ok fun K hK=>?_);simp (maxSteps:=2000000) only [go_sem,↓reduceIte,reduceCtorEq,Nat.reduceLeDiff,Nat.reduceLT,Nat.reduceBEq,Nat.reduceAdd];(repeat1' with_reducible first|apply And.intro|(intro _;try exact q_v)|(refine hK _ ?_;clear hK K))<;>(try (clear hK K;exact q_u)))|(with_reducible refine q_s ?_;(first|apply q_J|apply q_K|apply q_L|apply q_M|apply q_N|apply q_O)<;>try (intro _;try exact q_v))|with_reducible refine q_t ?_)
        exact q_A (by rw [htx]; rfl)
      · rw [if_neg hz] at htx
        repeat' (first|(with_reducible first|apply q_a|apply q_b|apply q_c|apply q_d|apply q_e|apply q_f|apply q_g|apply q_h|apply q_i|apply q_j|apply q_k|apply q_m|apply q_n|apply q_o|apply q_p|refine q_l ?_)|((with_reducible first|refine q_q ibt_ok fun K hK=>?_|refine q_r ibt_ok fun K hK=>?_);simp (maxSteps:=2000000) only [go_sem,↓reduceIte,reduceCtorEq,Nat.reduceLeDiff,Nat.reduceLT,Nat.reduceBEq,Nat.reduceAdd];(repeat1' with_reducible first|apply And.intro|(intro _;try exact q_v)|(refine hK _ ?_;clear hK K))<;>(try (clear hK K;exact q_u)))|(with_reducible refine q_s ?_;(first|apply q_J|apply q_K|apply q_L|apply q_M|apply q_N|apply q_O)<;>try (intro _;try exact q_v))|with_reducible refine q_t ?_)
        exact q_A (by rw [htx]; rfl)
def iTextCT : CT := mkCT [nP] true fun l K => match l with
  | [.inr [.b s, .ints .u32 xs], .inl (.i .i64 b)] => (okZ s xs = true ∧ InB 4294967296 xs ∧ 2 ≤ b ∧ b ≤ 36) ∧ K (.t [.inl (.str (strOf (textI (sv 4294967296 s xs) b.toNat))), .inr [.i .i64 0, .i .i64 0]])
  | _ => False
def iu2 : Cfg := addT 97 iTextCT iu1
theorem iu2_ok : TblOk Try.prog iu2 := q_I iu1_ok Try.func97 fun l K h => by
  split at h
  · rename_i s xs b
    obtain ⟨⟨h1, h2, h3, h4⟩, h⟩ := h
    obtain ⟨e1, e2, e3⟩ := okZ_eq h1 h2
    obtain ⟨n, rfl⟩ : ∃ n : Nat, b = n := ⟨b.toNat, by omega⟩
    have := iText_ok (sv 4294967296 s xs) n (by omega) (by omega) (by rw [← e2]; exact e3)
    simp only [gI, ← e1, ← e2] at this
    exact ⟨_, this.plain rfl, by simpa using h⟩
  · exact h.elim
attribute [go_sem] iTextCT
set_option maxHeartbeats 800000 in
theorem equal_ret (xs ys : List Int) (hx : xs.length ≤ 16777216) (hy : ys.length ≤ 16777216) : Ret Try.prog 115 false [.inl (.ints .u32 xs), .inl (.ints .u32 ys)] (.c (.b (decide (xs = ys)))) := by
  (refine q_H Try.func115 (fun F => ?_); simp only [q_z,q_y,Try.ntmps115,Try.results115])
  repeat' (first|(with_reducible first|apply q_a|apply q_b|apply q_c|apply q_d|apply q_e|apply q_f|apply q_g|apply q_h|apply q_i|apply q_j|apply q_k|apply q_m|apply q_n|apply q_o|apply q_p|refine q_l ?_)|((with_reducible first|refine q_q cf0_ok fun K hK=>?_|refine q_r cf0_ok fun K hK=>?_);simp (maxSteps:=2000000) only [go_sem,↓reduceIte,reduceCtorEq,Nat.reduceLeDiff,Nat.reduceLT,Nat.reduceBEq,Nat.reduceAdd];(repeat1' with_reducible first|apply And.intro|intro _|(refine hK _ ?_;clear hK K))<;>(try (clear hK K;exact q_u)))|(with_reducible refine q_s ?_;(first|apply q_J|apply q_K|apply q_L|apply q_M|apply q_N|apply q_O)<;>try intro _)|with_reducible refine q_t ?_)
  · rename_i hl
    exact q_A (by simp only [resAV, q_y]; rw [decide_eq_false (fun h => hl (by rw [h]))])
  rename_i hl
  have hl : xs.length = ys.length := by omega
  refine q_G (ι := { i : Nat // i ≤ xs.length ∧ xs.take i = ys.take i }) (fun i => ⟨26, [(0, .c (.ints .u32 xs)), (1, .c (.ints .u32 ys)), (12, .c (.i .i64 xs.length)), (13, .c (.i .i64 i.1))], ⟨[], [], []⟩, 0⟩) (fun i => xs.length - i.1) ⟨0, by simp, by simp⟩ ?_ ?_
  · exact q_D
  rintro ⟨i, h1, h2⟩
  simp only
  repeat' (first|(with_reducible first|apply q_a|apply q_b|apply q_c|apply q_d|apply q_e|apply q_f|apply q_g|apply q_h|apply q_i|apply q_j|apply q_k|apply q_m|apply q_n|apply q_o|apply q_p|refine q_l ?_)|((with_reducible first|refine q_q cf0_ok fun K hK=>?_|refine q_r cf0_ok fun K hK=>?_);simp (maxSteps:=2000000) only [go_sem,↓reduceIte,reduceCtorEq,Nat.reduceLeDiff,Nat.reduceLT,Nat.reduceBEq,Nat.reduceAdd];(repeat1' with_reducible first|apply And.intro|intro _|(refine hK _ ?_;clear hK K))<;>(try (clear hK K;exact q_u)))|(with_reducible refine q_s ?_;(first|apply q_J|apply q_K|apply q_L|apply q_M|apply q_N|apply q_O)<;>try intro _)|with_reducible refine q_t ?_)
  · rename_i h3 hne
    exact q_A (by simp only [resAV, q_y]; rw [decide_eq_false (fun h => hne (by rw [h]))])
  · rename_i h3 he
    refine q_F ⟨i + 1, by omega, ?_⟩ ?_ ?_
    · rw [List.take_succ_eq_append_getElem (by omega), List.take_succ_eq_append_getElem (by omega), h2]
      have e : xs.getD i 0 = ys.getD i 0 := by omega
      rw [getD_eq xs i (by omega), getD_eq ys i (by omega)] at e
      rw [e]
    · exact q_D
    · show xs.length - (i + 1) < xs.length - i
      omega
  · rename_i h3
    rw [List.take_of_length_le (by omega), List.take_of_length_le (by omega)] at h2
    exact q_A (by simp only [resAV, q_y]; rw [decide_eq_true h2])
def iu3 : Cfg := addT 115 sameCT iu2
theorem iu3_ok : TblOk Try.prog iu3 := q_I iu2_ok Try.func115 fun l K h => by
  split at h
  · exact ⟨_, (equal_ret _ _ h.1.1 h.1.2).plain rfl, h.2⟩
  · exact h.elim

end Go.Proofs.Ytlefdhkjbbdijaa

namespace Go.Proofs.NatL
set_option linter.unusedSimpArgs false
set_option linter.unusedVariables false
def smallZ (a : Int) : Bool := decide (-9223372036854775808 ≤ a ∧ a ≤ 9223372036854775807)
def smV (a : Int) : Int := if smallZ a then a else 0
def smC (a : Int) : Int := if smallZ a then 0 else 14
def smI (a : Int) : Int := if smallZ a then 0 else -1
theorem sm_fit {a : Int} (h : -9223372036854775808 ≤ a ∧ a ≤ 9223372036854775807) : smV a = a ∧ smC a = 0 ∧ smI a = 0 := by simp [smV, smC, smI, smallZ, h]
theorem sm_big {a : Int} (h : ¬ (-9223372036854775808 ≤ a ∧ a ≤ 9223372036854775807)) : smV a = 0 ∧ smC a = 14 ∧ smI a = -1 := by
  have : smallZ a = false := decide_eq_false h
  simp [smV, smC, smI, this]
end Go.Proofs.NatL
namespace Go.Proofs.Ytlefdhkjbbdijaa
set_option linter.unusedSimpArgs false
set_option linter.unusedVariables false
open Go.Abs Go.Proofs.NatL
theorem sm_or (i u : Nat) (x : Int) (hi : i ≤ 1) (hu : u < 4294967296 ^ i) (h0 : 0 ≤ x) (h1 : x < 4294967296) : bitI .or .u64 (u : Int) (shlI .u64 x (32 * (i : Int))) = ((u + 4294967296 ^ i * x.toNat : Nat) : Int) := by
  rcases (show i = 0 ∨ i = 1 by omega) with rfl | rfl
  · have hu0 : u = 0 := by simpa using hu
    subst hu0
    have h2 := shl64 x 0 (by omega) h0 h1
    rw [Int.pow_zero, Int.mul_one] at h2
    rw [show (32 * ((0 : Nat) : Int)) = ((0 : Nat) : Int) by omega, h2, or64 _ _ (by omega) (by omega) (by omega) (by omega)]
    first | (simp; done) | (simp; omega)
  · have hu1 : u < 4294967296 := by simpa using hu
    rw [show (32 * ((1 : Nat) : Int)) = 32 by omega, shl64_32 x h0 h1, or64_hi' _ _ h0 h1 (by omega) (by omega)]
    first | (simp; done) | (simp; omega)

set_option maxHeartbeats 3200000 in
theorem iSmall_false (m : Nat) (hs : false = true → 0 < m) (lm : (dg 4294967296 m).length ≤ 128) (ho : okZ false (dg 4294967296 m) = true) :
    Ret Try.prog 130 false [.inr [.b false, .ints .u32 (dg 4294967296 m)]] (.t [.inl (.i .i64 (smV (sg false m))), .inr [.i .i64 (smC (sg false m)), .i .i64 (smI (sg false m))]]) := by
  have hb := I32 m
  have hv : V 4294967296 (dg 4294967296 m) = m := V_dg 4294967296 (by omega) m
  have hlong : 2 < (dg 4294967296 m).length → ¬ (-9223372036854775808 ≤ sg false m ∧ sg false m ≤ 9223372036854775807) := fun h hh => by
    have h2 : ¬ m < 4294967296 ^ 2 := fun h3 => by have := dg_len_le (B := 4294967296) (by omega) m 2 h3; omega
    simp only [sgt, sgf] at hh; omega
  generalize dg 4294967296 m = xs at *
  simp only [sgt, sgf, forall_const, reduceCtorEq, false_implies] at hlong hs ⊢
  (refine q_H Try.func130 (fun F => ?_); simp only [q_z,q_y,Try.ntmps130,Try.results130])
  repeat' (first|(with_reducible first|apply q_a|apply q_b|apply q_c|apply q_d|apply q_e|apply q_f|apply q_g|apply q_h|apply q_i|apply q_j|apply q_k|apply q_m|apply q_n|apply q_o|apply q_p|refine q_l ?_)|((with_reducible first|refine q_q ib_ok fun K hK=>?_|refine q_r ib_ok fun K hK=>?_);simp (maxSteps:=2000000) only [go_sem,↓reduceIte,reduceCtorEq,Nat.reduceLeDiff,Nat.reduceLT,Nat.reduceBEq,Nat.reduceAdd,ho];(repeat1' with_reducible first|apply And.intro|(intro _;try exact q_v)|(refine hK _ ?_;clear hK K))<;>(try (clear hK K;exact q_u)))|(with_reducible refine q_s ?_;(first|apply q_J|apply q_K|apply q_L|apply q_M|apply q_N|apply q_O)<;>try (intro _;try exact q_v))|with_reducible refine q_t ?_)
  refine q_G (ι := { p : Nat × Nat // p.1 ≤ xs.length ∧ p.1 ≤ 2 ∧ p.2 = V 4294967296 (xs.take p.1) }) (fun p => ⟨49, [(1, .bx 0 0), (3, .bx 1 0), (5, .c (.i .u64 (p.1.2 : Nat))), (17, .c (.ints .u32 xs)), (18, .c (.i .i64 xs.length)), (19, .c (.i .i64 (p.1.1 : Nat)))], ⟨[(1, [.c (.i .i64 0), .c (.i .i64 0)]), (0, [.c (.b false), .c (.ints .u32 xs)])], [], []⟩, 3⟩) (fun p => xs.length - p.1.1) ⟨(0, 0), by simp, by simp, by simp [V]⟩ ?_ ?_
  · exact q_D
  rintro ⟨⟨i, u⟩, g1, g2, g3⟩
  simp only at g1 g2 g3 ⊢
  have hx := InB_getD (B := 4294967296) (by omega) (of_eq_true hb) i
  have hu : u < 4294967296 ^ i := by
    rw [g3]
    refine Nat.lt_of_lt_of_le (V_lt _ (by omega) _ (InB_take (of_eq_true hb) i)) (Nat.pow_le_pow_right (by omega) (by simp; omega))
  have hu2 : u < 18446744073709551616 := Nat.lt_of_lt_of_le hu (Nat.le_trans (Nat.pow_le_pow_right (by omega) g2) (by decide))
  rcases Nat.lt_or_ge i xs.length with hi | hi
  · have hor := fun h => sm_or i u _ h hu hx.1 hx.2
    have hnx := V_take_succ 4294967296 xs i hi
    repeat' (first|(with_reducible first|apply q_a|apply q_b|apply q_c|apply q_d|apply q_e|apply q_f|apply q_g|apply q_h|apply q_i|apply q_j|apply q_k|apply q_m|apply q_n|apply q_o|apply q_p|refine q_l ?_)|((with_reducible first|refine q_q ib_ok fun K hK=>?_|refine q_r ib_ok fun K hK=>?_);simp (maxSteps:=2000000) only [go_sem,↓reduceIte,reduceCtorEq,Nat.reduceLeDiff,Nat.reduceLT,Nat.reduceBEq,Nat.reduceAdd];(repeat1' with_reducible first|apply And.intro|(intro _;try exact q_v)|(refine hK _ ?_;clear hK K))<;>(try (clear hK K;exact q_u)))|(with_reducible refine q_s ?_;(first|apply q_J|apply q_K|apply q_L|apply q_M|apply q_N|apply q_O)<;>try (intro _;try exact q_v))|with_reducible refine q_t ?_)
    · obtain ⟨e1, e2, e3⟩ := sm_big (hlong (by omega))
      exact q_A (by simp only [resAV, e1, e2, e3])
    · have hw : xs.getD i 0 % 18446744073709551616 = xs.getD i 0 := Int.emod_eq_of_lt hx.1 (by omega)
      have hor := hor (by omega)
      simp only [hw, hor]
      refine q_F ⟨(i + 1, u + 4294967296 ^ i * (xs.getD i 0).toNat), hi, by simp only; omega, by simp only; rw [hnx, g3]⟩ ?_ (by simp only; omega)
      exact q_D
  · have hi' : xs.take i = xs := List.take_of_length_le hi
    rw [hi', hv] at g3
    subst g3
    repeat' (first|(with_reducible first|apply q_a|apply q_b|apply q_c|apply q_d|apply q_e|apply q_f|apply q_g|apply q_h|apply q_i|apply q_j|apply q_k|apply q_m|apply q_n|apply q_o|apply q_p|refine q_l ?_)|((with_reducible first|refine q_q ib_ok fun K hK=>?_|refine q_r ib_ok fun K hK=>?_);simp (maxSteps:=2000000) only [go_sem,↓reduceIte,reduceCtorEq,Nat.reduceLeDiff,Nat.reduceLT,Nat.reduceBEq,Nat.reduceAdd];(repeat1' with_reducible first|apply And.intro|(intro _;try exact q_v)|(refine hK _ ?_;clear hK K))<;>(try (clear hK K;exact q_u)))|(with_reducible refine q_s ?_;(first|apply q_J|apply q_K|apply q_L|apply q_M|apply q_N|apply q_O)<;>try (intro _;try exact q_v))|with_reducible refine q_t ?_)
    all_goals
      rename_i q
      simp only [Bool.bne_true, Bool.bne_false, Bool.not_eq_true', Bool.not_eq_false', decide_eq_true_eq, decide_eq_false_iff_not] at q
      by_cases hr : -9223372036854775808 ≤ sg false u ∧ sg false u ≤ 9223372036854775807
      · obtain ⟨e1, e2, e3⟩ := sm_fit hr
        simp only [sgt, sgf] at hr e1 e2 e3
        first | (exfalso; omega) | (refine q_A ?_; simp only [resAV, e1, e2, e3, AV.t.injEq, List.cons.injEq, Sum.inl.injEq, C.i.injEq, true_and, and_true]; omega) | exact q_A (by simp only [resAV, e1, e2, e3])
      · obtain ⟨e1, e2, e3⟩ := sm_big hr
        simp only [sgt, sgf] at hr e1 e2 e3
        first | (exfalso; omega) | exact q_A (by simp only [resAV, e1, e2, e3])
set_option maxHeartbeats 3200000 in
theorem iSmall_true (m : Nat) (hs : true = true → 0 < m) (lm : (dg 4294967296 m).length ≤ 128) (ho : okZ true (dg 4294967296 m) = true) :
    Ret Try.prog 130 false [.inr [.b true, .ints .u32 (dg 4294967296 m)]] (.t [.inl (.i .i64 (smV (sg true m))), .inr [.i .i64 (smC (sg true m)), .i .i64 (smI (sg true m))]]) := by
  have hb := I32 m
  have hv : V 4294967296 (dg 4294967296 m) = m := V_dg 4294967296 (by omega) m
  have hlong : 2 < (dg 4294967296 m).length → ¬ (-9223372036854775808 ≤ sg true m ∧ sg true m ≤ 9223372036854775807) := fun h hh => by
    have h2 : ¬ m < 4294967296 ^ 2 := fun h3 => by have := dg_len_le (B := 4294967296) (by omega) m 2 h3; omega
    simp only [sgt, sgf] at hh; omega
  generalize dg 4294967296 m = xs at *
  simp only [sgt, sgf, forall_const, reduceCtorEq, false_implies] at hlong hs ⊢
  (refine q_H Try.func130 (fun F => ?_); simp only [q_z,q_y,Try.ntmps130,Try.results130])
  repeat' (first|(with_reducible first|apply q_a|apply q_b|apply q_c|apply q_d|apply q_e|apply q_f|apply q_g|apply q_h|apply q_i|apply q_j|apply q_k|apply q_m|apply q_n|apply q_o|apply q_p|refine q_l ?_)|((with_reducible first|refine q_q ib_ok fun K hK=>?_|refine q_r ib_ok fun K hK=>?_);simp (maxSteps:=2000000) only [go_sem,↓reduceIte,reduceCtorEq,Nat.reduceLeDiff,Nat.reduceLT,Nat.reduceBEq,Nat.reduceAdd,ho];(repeat1' with_reducible first|apply And.intro|(intro _;try exact q_v)|(refine hK _ ?_;clear hK K))<;>(try (clear hK K;exact q_u)))|(with_reducible refine q_s ?_;(first|apply q_J|apply q_K|apply q_L|apply q_M|apply q_N|apply q_O)<;>try (intro _;try exact q_v))|with_reducible refine q_t ?_)
  refine q_G (ι := { p : Nat × Nat // p.1 ≤ xs.length ∧ p.1 ≤ 2 ∧ p.2 = V 4294967296 (xs.take p.1) }) (fun p => ⟨49, [(1, .bx 0 0), (3, .bx 1 0), (5, .c (.i .u64 (p.1.2 : Nat))), (17, .c (.ints .u32 xs)), (18, .c (.i .i64 xs.length)), (19, .c (.i .i64 (p.1.1 : Nat)))], ⟨[(1, [.c (.i .i64 0), .c (.i .i64 0)]), (0, [.c (.b true), .c (.ints .u32 xs)])], [], []⟩, 3⟩) (fun p => xs.length - p.1.1) ⟨(0, 0), by simp, by simp, by simp [V]⟩ ?_ ?_
  · exact q_D
  rintro ⟨⟨i, u⟩, g1, g2, g3⟩
  simp only at g1 g2 g3 ⊢
  have hx := InB_getD (B := 4294967296) (by omega) (of_eq_true hb) i
  have hu : u < 4294967296 ^ i := by
    rw [g3]
    refine Nat.lt_of_lt_of_le (V_lt _ (by omega) _ (InB_take (of_eq_true hb) i)) (Nat.pow_le_pow_right (by omega) (by simp; omega))
  have hu2 : u < 18446744073709551616 := Nat.lt_of_lt_of_le hu (Nat.le_trans (Nat.pow_le_pow_right (by omega) g2) (by decide))
  rcases Nat.lt_or_ge i xs.length with hi | hi
  · have hor := fun h => sm_or i u _ h hu hx.1 hx.2
    have hnx := V_take_succ 4294967296 xs i hi
    repeat' (first|(with_reducible first|apply q_a|apply q_b|apply q_c|apply q_d|apply q_e|apply q_f|apply q_g|apply q_h|apply q_i|apply q_j|apply q_k|apply q_m|apply q_n|apply q_o|apply q_p|refine q_l ?_)|((with_reducible first|refine q_q ib_ok fun K hK=>?_|refine q_r ib_ok fun K hK=>?_);simp (maxSteps:=2000000) only [go_sem,↓reduceIte,reduceCtorEq,Nat.reduceLeDiff,Nat.reduceLT,Nat.reduceBEq,Nat.reduceAdd];(repeat1' with_reducible first|apply And.intro|(intro _;try exact q_v)|(refine hK _ ?_;clear hK K))<;>(try (clear hK K;exact q_u)))|(with_reducible refine q_s ?_;(first|apply q_J|apply q_K|apply q_L|apply q_M|apply q_N|apply q_O)<;>try (intro _;try exact q_v))|with_reducible refine q_t ?_)
    · obtain ⟨e1, e2, e3⟩ := sm_big (hlong (by omega))
      exact q_A (by simp only [resAV, e1, e2, e3])
    · have hw : xs.getD i 0 % 18446744073709551616 = xs.getD i 0 := Int.emod_eq_of_lt hx.1 (by omega)
      have hor := hor (by omega)
      simp only [hw, hor]
      refine q_F ⟨(i + 1, u + 4294967296 ^ i * (xs.getD i 0).toNat), hi, by simp only; omega, by simp only; rw [hnx, g3]⟩ ?_ (by simp only; omega)
      exact q_D
  · have hi' : xs.take i = xs := List.take_of_length_le hi
    rw [hi', hv] at g3
    subst g3
    repeat' (first|(with_reducible first|apply q_a|apply q_b|apply q_c|apply q_d|apply q_e|apply q_f|apply q_g|apply q_h|apply q_i|apply q_j|apply q_k|apply q_m|apply q_n|apply q_o|apply q_p|refine q_l ?_)|((with_reducible first|refine q_q ib_ok fun K hK=>?_|refine q_r ib_ok fun K hK=>?_);simp (maxSteps:=2000000) only [go_sem,↓reduceIte,reduceCtorEq,Nat.reduceLeDiff,Nat.reduceLT,Nat.reduceBEq,Nat.reduceAdd];(repeat1' with_reducible first|apply And.intro|(intro _;try exact q_v)|(refine hK _ ?_;clear hK K))<;>(try (clear hK K;exact q_u)))|(with_reducible refine q_s ?_;(first|apply q_J|apply q_K|apply q_L|apply q_M|apply q_N|apply q_O)<;>try (intro _;try exact q_v))|with_reducible refine q_t ?_)
    all_goals
      rename_i q
      simp only [Bool.bne_true, Bool.bne_false, Bool.not_eq_true', Bool.not_eq_false', decide_eq_true_eq, decide_eq_false_iff_not] at q
      by_cases hr : -9223372036854775808 ≤ sg true u ∧ sg true u ≤ 9223372036854775807
      · obtain ⟨e1, e2, e3⟩ := sm_fit hr
        simp only [sgt, sgf] at hr e1 e2 e3
        first | (exfalso; omega) | (refine q_A ?_; simp only [resAV, e1, e2, e3, AV.t.injEq, List.cons.injEq, Sum.inl.injEq, C.i.injEq, true_and, and_true]; omega) | exact q_A (by simp only [resAV, e1, e2, e3])
      · obtain ⟨e1, e2, e3⟩ := sm_big hr
        simp only [sgt, sgf] at hr e1 e2 e3
        first | (exfalso; omega) | exact q_A (by simp only [resAV, e1, e2, e3])
def ismallCT : CT := mkCT [nP] true fun l K => match l with
  | [.inr [.b s, .ints .u32 xs]] => (okZ s xs = true ∧ InB 4294967296 xs) ∧ K (.t [.inl (.i .i64 (smV (sv 4294967296 s xs))), .inr [.i .i64 (smC (sv 4294967296 s xs)), .i .i64 (smI (sv 4294967296 s xs))]])
  | _ => False
attribute [go_sem] ismallCT
end Go.Proofs.Ytlefdhkjbbdijaa

namespace Go.Proofs.NatL
set_option linter.unusedSimpArgs false
set_option linter.unusedVariables false
def bnd (z lo hi : Int) : Int := min (max z lo) hi
def enda (z n lo hi : Int) : Int := bnd (if bnd z (-n - 1) n < 0 then bnd z (-n - 1) n + n else bnd z (-n - 1) n) lo hi
def slStep (g : Bool) (z : Int) : Int := if g = true then bnd z (-10000) 10000 else 1
def slLo (sp : Int) : Int := if sp < 0 then -1 else 0
def slHi (sp n : Int) : Int := if sp < 0 then n - 1 else n
def slSta (g : Bool) (z n sp : Int) : Int := if g = true then enda z n (slLo sp) (slHi sp n) else if sp < 0 then slHi sp n else slLo sp
def slSto (g : Bool) (z n sp : Int) : Int := if g = true then enda z n (slLo sp) (slHi sp n) else if sp < 0 then slLo sp else slHi sp n
def slCnt (st so sp : Int) : Nat := (if sp < 0 then (st - so - sp - 1) / (-sp) else (so - st + sp - 1) / sp).toNat
theorem enda_eq {z n lo hi : Int} (hn : 0 ≤ n) (h1 : -1 ≤ lo) (h2 : lo ≤ hi) (h3 : hi ≤ n) : enda z n lo hi = bnd (if z < 0 then z + n else z) lo hi := by
  unfold enda bnd; (repeat' split) <;> omega
theorem bnd_in {z lo hi : Int} (h : lo ≤ hi) : lo ≤ bnd z lo hi ∧ bnd z lo hi ≤ hi := by unfold bnd; omega
theorem lo_hi {sp n : Int} (hn : 0 ≤ n) : -1 ≤ slLo sp ∧ slLo sp ≤ 0 ∧ slLo sp ≤ slHi sp n ∧ slHi sp n ≤ n ∧ (sp < 0 → slLo sp = -1 ∧ slHi sp n = n - 1) ∧ (¬ sp < 0 → slLo sp = 0 ∧ slHi sp n = n) := by
  unfold slLo slHi; (repeat' split) <;> omega
theorem sta_in {g : Bool} {z n sp : Int} (hn : 0 ≤ n) : slLo sp ≤ slSta g z n sp ∧ slSta g z n sp ≤ slHi sp n := by
  obtain ⟨h1, h2, h3, h4, h5, h6⟩ := lo_hi (sp := sp) hn
  unfold slSta
  split
  · rw [enda_eq hn h1 h3 h4]; exact bnd_in h3
  · split <;> omega
theorem sto_in {g : Bool} {z n sp : Int} (hn : 0 ≤ n) : slLo sp ≤ slSto g z n sp ∧ slSto g z n sp ≤ slHi sp n := by
  obtain ⟨h1, h2, h3, h4, h5, h6⟩ := lo_hi (sp := sp) hn
  unfold slSto
  split
  · rw [enda_eq hn h1 h3 h4]; exact bnd_in h3
  · split <;> omega
theorem step_in (g : Bool) (z : Int) : -10000 ≤ slStep g z ∧ slStep g z ≤ 10000 := by
  unfold slStep; split
  · exact bnd_in (by omega)
  · omega
theorem step_ne {g : Bool} {z : Int} (h : g = true → z ≠ 0) : slStep g z ≠ 0 := by
  unfold slStep bnd; split
  · rename_i hg; have := h hg; omega
  · omega
theorem cdiv_iff (m s : Int) (hs : 0 < s) (k : Nat) : k < ((m + s - 1) / s).toNat ↔ (k : Int) * s < m := by
  have h : (k : Int) + 1 ≤ (m + s - 1) / s ↔ ((k : Int) + 1) * s ≤ m + s - 1 := Int.le_ediv_iff_mul_le hs
  rw [Int.add_mul, Int.one_mul] at h
  generalize (k : Int) * s = p at *
  omega
theorem tdiv_max (a s : Int) (hs : 0 < s) : max 0 (a.tdiv s) = (((a / s).toNat : Nat) : Int) := by
  rcases Int.lt_or_le a 0 with h | h
  · have h1 : a / s < 0 := Int.ediv_neg_of_neg_of_pos h hs
    have h2 : a.tdiv s ≤ 0 := by
      have e : a = -(-a) := by omega
      rw [e, Int.neg_tdiv]
      have := Int.tdiv_nonneg (a := -a) (b := s) (by omega) (by omega)
      omega
    omega
  · rw [Int.tdiv_eq_ediv_of_nonneg h]
    have := Int.ediv_nonneg h (Int.le_of_lt hs)
    omega
theorem tdiv_bd (a s : Int) : -(a.natAbs : Int) ≤ a.tdiv s ∧ a.tdiv s ≤ a.natAbs := by
  have h := Int.natAbs_tdiv a s
  have h2 : a.natAbs.div s.natAbs ≤ a.natAbs := Nat.div_le_self _ _
  rw [← h] at h2
  generalize a.tdiv s = q at *
  omega
theorem cnt_iff {st so sp : Int} (h : sp ≠ 0) (k : Nat) : k < slCnt st so sp ↔ (0 < sp ∧ st + k * sp < so ∨ sp < 0 ∧ so < st + k * sp) := by
  unfold slCnt
  split
  · rename_i hn
    have := cdiv_iff (st - so) (-sp) (by omega) k
    rw [Int.mul_neg] at this
    rw [show st - so - sp - 1 = st - so + -sp - 1 by omega, this]
    generalize (k : Int) * sp = p at *
    omega
  · have := cdiv_iff (so - st) sp (by omega) k
    rw [this]
    generalize (k : Int) * sp = p at *
    omega
theorem cnt_go {st so sp : Int} (h : sp ≠ 0) : (slCnt st so sp : Int) = if sp < 0 then max 0 ((st - so - sp - 1).tdiv (-sp)) else max 0 ((so - st + sp - 1).tdiv sp) := by
  unfold slCnt
  split
  · rw [tdiv_max _ _ (by omega)]
  · rw [tdiv_max _ _ (by omega)]
theorem pos_in {g0 g1 : Bool} {z0 z1 n sp : Int} (hn : 0 ≤ n) (h : sp ≠ 0) (k : Nat) (hk : k < slCnt (slSta g0 z0 n sp) (slSto g1 z1 n sp) sp) : 0 ≤ slSta g0 z0 n sp + k * sp ∧ slSta g0 z0 n sp + k * sp < n := by
  have h1 := (cnt_iff h k).1 hk
  have h2 := sta_in (g := g0) (z := z0) (sp := sp) hn
  have h3 := sto_in (g := g1) (z := z1) (sp := sp) hn
  have h4 := lo_hi (sp := sp) hn
  rcases h1 with ⟨p, h1⟩ | ⟨p, h1⟩
  · have := Int.mul_nonneg (show 0 ≤ (k : Int) by omega) (Int.le_of_lt p)
    generalize (k : Int) * sp = q at *
    omega
  · have := Int.mul_nonneg (show 0 ≤ (k : Int) by omega) (show 0 ≤ -sp by omega)
    rw [Int.mul_neg] at this
    generalize (k : Int) * sp = q at *
    omega
theorem cnt_le {g0 g1 : Bool} {z0 z1 sp : Int} {n : Nat} (h : sp ≠ 0) : slCnt (slSta g0 z0 n sp) (slSto g1 z1 n sp) sp ≤ n := by
  rcases Nat.lt_or_ge n (slCnt (slSta g0 z0 n sp) (slSto g1 z1 n sp) sp) with hlt | hge
  · have h0 := pos_in (g0 := g0) (g1 := g1) (z0 := z0) (z1 := z1) (n := n) (by omega) h 0 (by omega)
    have h1 := pos_in (g0 := g0) (g1 := g1) (z0 := z0) (z1 := z1) (n := n) (by omega) h n hlt
    rcases Int.lt_or_gt_of_ne h with p | p
    · have : (n : Int) * 1 ≤ n * -sp := Int.mul_le_mul_of_nonneg_left (by omega) (by omega)
      rw [Int.mul_neg] at this
      generalize (n : Int) * sp = q at *
      omega
    · have : (n : Int) * 1 ≤ n * sp := Int.mul_le_mul_of_nonneg_left (by omega) (by omega)
      generalize (n : Int) * sp = q at *
      omega
  · exact hge
def slPos (st sp : Int) (c : Nat) : List Int := (List.range c).map fun k : Nat => st + (k : Int) * sp
theorem slPos_succ (st sp : Int) (c : Nat) : slPos st sp (c + 1) = slPos st sp c ++ [st + (c : Int) * sp] := by simp [slPos, List.range_succ]
theorem slPos_len (st sp : Int) (c : Nat) : (slPos st sp c).length = c := by simp [slPos]
theorem slPos_get (st sp : Int) (c k : Nat) (h : k < c) : (slPos st sp c).getD k 0 = st + (k : Int) * sp := by
  simp [slPos, List.getD_eq_getElem?_getD, h]
end Go.Proofs.NatL
