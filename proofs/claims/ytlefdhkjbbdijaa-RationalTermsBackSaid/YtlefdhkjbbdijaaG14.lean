import Derived.Test.YtlefdhkjbbdijaaG12
namespace Go.Proofs.Ytlefdhkjbbdijaa
set_option linter.unusedSimpArgs false
set_option linter.unusedVariables false
open Go.Abs Go.Proofs.NatL

theorem two_limbs (m : Nat) (h : m < 18446744073709551616) : trimL [((m % 4294967296 : Nat) : Int), ((m / 4294967296 : Nat) : Int)] = dg 4294967296 m := by
  rw [trimL_eq 4294967296 (by omega) _ (InB_two ⟨by omega, by omega⟩ ⟨by omega, by omega⟩)]
  congr 1
  simp only [V, Int.toNat_natCast]
  omega
set_option maxHeartbeats 1600000 in
theorem iOf_ret (n : Int) (hn : -9223372036854775808 ≤ n ∧ n ≤ 9223372036854775807) : Ret Try.prog 13 false [.inl (.i .i64 n)] (.g (gI n)) := by
  obtain ⟨m, hm⟩ : ∃ m : Nat, m = n.natAbs := ⟨_, rfl⟩
  have hml : m < 18446744073709551616 := by omega
  have hlo : ((m : Int)) % 4294967296 = ((m % 4294967296 : Nat) : Int) := by omega
  have hhi : ((m : Int)) / 4294967296 % 4294967296 = ((m / 4294967296 : Nat) : Int) := by omega
  have ht := two_limbs m hml
  simp only [gI, ← hm]
  have key : ∀ st : Bool, st = decide (n < 0) → Ret Try.prog 13 false [.inl (.i .i64 n)] (.g [.b st, .ints .u32 (dg 4294967296 m)]) := by
    intro st hst
    by_cases h : n < 0
    · have e1 : (0 - n % 18446744073709551616) % 18446744073709551616 = (m : Int) := by omega
      have e0 : decide (n < 0) = true := decide_eq_true h
      (refine q_H Try.func13 (fun F => ?_); simp only [q_z,q_y,Try.ntmps13,Try.results13])
      repeat' (first|(with_reducible first|apply q_a|apply q_b|apply q_c|apply q_d|apply q_e|apply q_f|apply q_g|apply q_h|apply q_i|apply q_j|apply q_k|apply q_m|apply q_n|apply q_o|apply q_p|refine q_l ?_)|((with_reducible first|refine q_q ib_ok fun K hK=>?_|refine q_r ib_ok fun K hK=>?_);simp (maxSteps:=2000000) only [go_sem,↓reduceIte,reduceCtorEq,Nat.reduceLeDiff,Nat.reduceLT,Nat.reduceBEq,Nat.reduceAdd,e1, hlo, hhi];(repeat1' with_reducible first|apply And.intro|(intro _;try exact q_v)|(refine hK _ ?_;clear hK K))<;>(try (clear hK K;exact q_u)))|(with_reducible refine q_s ?_;(first|apply q_J|apply q_K|apply q_L|apply q_M|apply q_N|apply q_O)<;>try (intro _;try exact q_v))|with_reducible refine q_t ?_)
      generalize hX : [((m % 4294967296 : Nat) : Int), ((m / 4294967296 : Nat) : Int)] = xs at *
      have hxl : xs.length = 2 := by rw [← hX]; rfl
      refine q_G (ι := { k : Nat // k ≤ 2 ∧ trimL (xs.take k) = trimL xs }) (fun k => ⟨38, [(0, .c (.i .i64 n)), (2, .bx 0 0), (4, .c (.ints .u32 (xs.take k.1)))], ⟨[(0, [.c (.b false), .c .nil])], [], []⟩, 1⟩) (fun k => k.1) ⟨2, by omega, by rw [List.take_of_length_le (by omega)]⟩ ?_ ?_
      · ((simp only [go_sem,↓reduceIte,reduceCtorEq,Nat.reduceLeDiff,Nat.reduceLT,Nat.reduceBEq,Nat.reduceAdd])<;>(try (simp;done))<;>(try ((simp only [C.i.injEq,C.b.injEq,C.ints.injEq,C.bools.injEq,List.append_cancel_left_eq,List.cons.injEq,true_and,and_true]);(repeat' with_reducible apply And.intro)<;>(first|rfl|assumption|omega|(simp;omega)|(congr 1;omega)|(congr 2;omega)))))
        all_goals (rw [← hX]; rfl)
      rintro ⟨k, h1, h2⟩
      simp only at h1 h2 ⊢
      have ek : 0 < k → ((k : Int) - 1).toNat = k - 1 := fun _ => by omega
      have e3 : (xs.take k).length = k := by simp; omega
      have e2 : 0 < k → (xs.take k).getD (k - 1) 0 = xs.getD (k - 1) 0 := fun h => by
        simp only [List.getD_eq_getElem?_getD, List.getElem?_take]
        rw [if_pos (by omega)]
      rcases Nat.eq_zero_or_pos k with hk | hk
      · subst hk
        rw [List.take_zero] at h2
        repeat' (first|(with_reducible first|apply q_a|apply q_b|apply q_c|apply q_d|apply q_e|apply q_f|apply q_g|apply q_h|apply q_i|apply q_j|apply q_k|apply q_m|apply q_n|apply q_o|apply q_p|refine q_l ?_)|((with_reducible first|refine q_q ib_ok fun K hK=>?_|refine q_r ib_ok fun K hK=>?_);simp (maxSteps:=2000000) only [go_sem,↓reduceIte,reduceCtorEq,Nat.reduceLeDiff,Nat.reduceLT,Nat.reduceBEq,Nat.reduceAdd,List.take_zero, e0];(repeat1' with_reducible first|apply And.intro|(intro _;try exact q_v)|(refine hK _ ?_;clear hK K))<;>(try (clear hK K;exact q_u)))|(with_reducible refine q_s ?_;(first|apply q_J|apply q_K|apply q_L|apply q_M|apply q_N|apply q_O)<;>try (intro _;try exact q_v))|with_reducible refine q_t ?_)
        exact q_A (by rw [hst, e0, ← ht, ← h2]; rfl)
      · have ek := ek hk
        have e2 := e2 hk
        have tk : (xs.take k).take (k - 1) = xs.take (k - 1) := by rw [List.take_take, Nat.min_eq_left (by omega)]
        by_cases hz : xs.getD (k - 1) 0 = 0
        · repeat' (first|(with_reducible first|apply q_a|apply q_b|apply q_c|apply q_d|apply q_e|apply q_f|apply q_g|apply q_h|apply q_i|apply q_j|apply q_k|apply q_m|apply q_n|apply q_o|apply q_p|refine q_l ?_)|((with_reducible first|refine q_q ib_ok fun K hK=>?_|refine q_r ib_ok fun K hK=>?_);simp (maxSteps:=2000000) only [go_sem,↓reduceIte,reduceCtorEq,Nat.reduceLeDiff,Nat.reduceLT,Nat.reduceBEq,Nat.reduceAdd,e3, ek, e2, hz, tk];(repeat1' with_reducible first|apply And.intro|(intro _;try exact q_v)|(refine hK _ ?_;clear hK K))<;>(try (clear hK K;exact q_u)))|(with_reducible refine q_s ?_;(first|apply q_J|apply q_K|apply q_L|apply q_M|apply q_N|apply q_O)<;>try (intro _;try exact q_v))|with_reducible refine q_t ?_)
          have := trimL_drop (xs.take k) (by omega) (by rw [e3, e2]; exact hz)
          rw [e3, tk] at this
          refine q_F ⟨k - 1, by omega, by rw [this, h2]⟩ ?_ (by simp only; omega)
          exact q_D
        · have hs := trimL_stop (xs.take k) (.inr (by rw [e3, e2]; exact hz))
          repeat' (first|(with_reducible first|apply q_a|apply q_b|apply q_c|apply q_d|apply q_e|apply q_f|apply q_g|apply q_h|apply q_i|apply q_j|apply q_k|apply q_m|apply q_n|apply q_o|apply q_p|refine q_l ?_)|((with_reducible first|refine q_q ib_ok fun K hK=>?_|refine q_r ib_ok fun K hK=>?_);simp (maxSteps:=2000000) only [go_sem,↓reduceIte,reduceCtorEq,Nat.reduceLeDiff,Nat.reduceLT,Nat.reduceBEq,Nat.reduceAdd,e3, ek, e2, e0];(repeat1' with_reducible first|apply And.intro|(intro _;try exact q_v)|(refine hK _ ?_;clear hK K))<;>(try (clear hK K;exact q_u)))|(with_reducible refine q_s ?_;(first|apply q_J|apply q_K|apply q_L|apply q_M|apply q_N|apply q_O)<;>try (intro _;try exact q_v))|with_reducible refine q_t ?_)
          exact q_A (by rw [hst, e0, ← ht, ← h2, hs]; rfl)
    · have e1 : n % 18446744073709551616 = (m : Int) := by omega
      have e0 : decide (n < 0) = false := decide_eq_false h
      (refine q_H Try.func13 (fun F => ?_); simp only [q_z,q_y,Try.ntmps13,Try.results13])
      repeat' (first|(with_reducible first|apply q_a|apply q_b|apply q_c|apply q_d|apply q_e|apply q_f|apply q_g|apply q_h|apply q_i|apply q_j|apply q_k|apply q_m|apply q_n|apply q_o|apply q_p|refine q_l ?_)|((with_reducible first|refine q_q ib_ok fun K hK=>?_|refine q_r ib_ok fun K hK=>?_);simp (maxSteps:=2000000) only [go_sem,↓reduceIte,reduceCtorEq,Nat.reduceLeDiff,Nat.reduceLT,Nat.reduceBEq,Nat.reduceAdd,e1, hlo, hhi];(repeat1' with_reducible first|apply And.intro|(intro _;try exact q_v)|(refine hK _ ?_;clear hK K))<;>(try (clear hK K;exact q_u)))|(with_reducible refine q_s ?_;(first|apply q_J|apply q_K|apply q_L|apply q_M|apply q_N|apply q_O)<;>try (intro _;try exact q_v))|with_reducible refine q_t ?_)
      generalize hX : [((m % 4294967296 : Nat) : Int), ((m / 4294967296 : Nat) : Int)] = xs at *
      have hxl : xs.length = 2 := by rw [← hX]; rfl
      refine q_G (ι := { k : Nat // k ≤ 2 ∧ trimL (xs.take k) = trimL xs }) (fun k => ⟨38, [(0, .c (.i .i64 n)), (2, .bx 0 0), (4, .c (.ints .u32 (xs.take k.1)))], ⟨[(0, [.c (.b false), .c .nil])], [], []⟩, 1⟩) (fun k => k.1) ⟨2, by omega, by rw [List.take_of_length_le (by omega)]⟩ ?_ ?_
      · ((simp only [go_sem,↓reduceIte,reduceCtorEq,Nat.reduceLeDiff,Nat.reduceLT,Nat.reduceBEq,Nat.reduceAdd])<;>(try (simp;done))<;>(try ((simp only [C.i.injEq,C.b.injEq,C.ints.injEq,C.bools.injEq,List.append_cancel_left_eq,List.cons.injEq,true_and,and_true]);(repeat' with_reducible apply And.intro)<;>(first|rfl|assumption|omega|(simp;omega)|(congr 1;omega)|(congr 2;omega)))))
        all_goals (rw [← hX]; rfl)
      rintro ⟨k, h1, h2⟩
      simp only at h1 h2 ⊢
      have ek : 0 < k → ((k : Int) - 1).toNat = k - 1 := fun _ => by omega
      have e3 : (xs.take k).length = k := by simp; omega
      have e2 : 0 < k → (xs.take k).getD (k - 1) 0 = xs.getD (k - 1) 0 := fun h => by
        simp only [List.getD_eq_getElem?_getD, List.getElem?_take]
        rw [if_pos (by omega)]
      rcases Nat.eq_zero_or_pos k with hk | hk
      · subst hk
        rw [List.take_zero] at h2
        repeat' (first|(with_reducible first|apply q_a|apply q_b|apply q_c|apply q_d|apply q_e|apply q_f|apply q_g|apply q_h|apply q_i|apply q_j|apply q_k|apply q_m|apply q_n|apply q_o|apply q_p|refine q_l ?_)|((with_reducible first|refine q_q ib_ok fun K hK=>?_|refine q_r ib_ok fun K hK=>?_);simp (maxSteps:=2000000) only [go_sem,↓reduceIte,reduceCtorEq,Nat.reduceLeDiff,Nat.reduceLT,Nat.reduceBEq,Nat.reduceAdd,List.take_zero, e0];(repeat1' with_reducible first|apply And.intro|(intro _;try exact q_v)|(refine hK _ ?_;clear hK K))<;>(try (clear hK K;exact q_u)))|(with_reducible refine q_s ?_;(first|apply q_J|apply q_K|apply q_L|apply q_M|apply q_N|apply q_O)<;>try (intro _;try exact q_v))|with_reducible refine q_t ?_)
        exact q_A (by rw [hst, e0, ← ht, ← h2]; rfl)
      · have ek := ek hk
        have e2 := e2 hk
        have tk : (xs.take k).take (k - 1) = xs.take (k - 1) := by rw [List.take_take, Nat.min_eq_left (by omega)]
        by_cases hz : xs.getD (k - 1) 0 = 0
        · repeat' (first|(with_reducible first|apply q_a|apply q_b|apply q_c|apply q_d|apply q_e|apply q_f|apply q_g|apply q_h|apply q_i|apply q_j|apply q_k|apply q_m|apply q_n|apply q_o|apply q_p|refine q_l ?_)|((with_reducible first|refine q_q ib_ok fun K hK=>?_|refine q_r ib_ok fun K hK=>?_);simp (maxSteps:=2000000) only [go_sem,↓reduceIte,reduceCtorEq,Nat.reduceLeDiff,Nat.reduceLT,Nat.reduceBEq,Nat.reduceAdd,e3, ek, e2, hz, tk];(repeat1' with_reducible first|apply And.intro|(intro _;try exact q_v)|(refine hK _ ?_;clear hK K))<;>(try (clear hK K;exact q_u)))|(with_reducible refine q_s ?_;(first|apply q_J|apply q_K|apply q_L|apply q_M|apply q_N|apply q_O)<;>try (intro _;try exact q_v))|with_reducible refine q_t ?_)
          have := trimL_drop (xs.take k) (by omega) (by rw [e3, e2]; exact hz)
          rw [e3, tk] at this
          refine q_F ⟨k - 1, by omega, by rw [this, h2]⟩ ?_ (by simp only; omega)
          exact q_D
        · have hs := trimL_stop (xs.take k) (.inr (by rw [e3, e2]; exact hz))
          repeat' (first|(with_reducible first|apply q_a|apply q_b|apply q_c|apply q_d|apply q_e|apply q_f|apply q_g|apply q_h|apply q_i|apply q_j|apply q_k|apply q_m|apply q_n|apply q_o|apply q_p|refine q_l ?_)|((with_reducible first|refine q_q ib_ok fun K hK=>?_|refine q_r ib_ok fun K hK=>?_);simp (maxSteps:=2000000) only [go_sem,↓reduceIte,reduceCtorEq,Nat.reduceLeDiff,Nat.reduceLT,Nat.reduceBEq,Nat.reduceAdd,e3, ek, e2, e0];(repeat1' with_reducible first|apply And.intro|(intro _;try exact q_v)|(refine hK _ ?_;clear hK K))<;>(try (clear hK K;exact q_u)))|(with_reducible refine q_s ?_;(first|apply q_J|apply q_K|apply q_L|apply q_M|apply q_N|apply q_O)<;>try (intro _;try exact q_v))|with_reducible refine q_t ?_)
          exact q_A (by rw [hst, e0, ← ht, ← h2, hs]; rfl)
  exact key _ rfl
def iOfCT : CT := mkCT [] false fun l K => match l with
  | [.inl (.i .i64 n)] => (-9223372036854775808 ≤ n ∧ n ≤ 9223372036854775807) ∧ K (.g (gI n))
  | _ => False
def iu1 : Cfg := addT 13 iOfCT it5
theorem iu1_ok : TblOk Try.prog iu1 := q_I it5_ok Try.func13 fun l K h => by
  split at h
  · exact ⟨_, iOf_ret _ h.1, h.2⟩
  · exact h.elim
attribute [go_sem] iOfCT
def digL : List UInt8 := [48, 49, 50, 51, 52, 53, 54, 55, 56, 57, 97, 98, 99, 100, 101, 102, 103, 104, 105, 106, 107, 108, 109, 110, 111, 112, 113, 114, 115, 116, 117, 118, 119, 120, 121, 122]
def chr (d : Int) : Int := ((digL.getD d.toNat 0).toNat : Nat)
def textI (z : Int) (b : Nat) : List Int := (if z < 0 then [45] else []) ++ (if z = 0 then [48] else (dg b z.natAbs).reverse.map chr)
theorem map_snoc (f : Int → Int) (ds : List Int) (i : Nat) (h : i < ds.length) : (ds.take (i + 1)).map f = (ds.take i).map f ++ [f (ds.getD i 0)] := by
  rw [List.take_succ_eq_append_getElem h, List.map_append, getD_eq _ _ h]; rfl
theorem bl_128 {n : Nat} (h : (dg 4294967296 n).length ≤ 128) : bl n ≤ 4096 := by
  obtain ⟨k, hk⟩ : ∃ k, k = 128 := ⟨_, rfl⟩
  rw [← hk] at h
  have h1 := lt_of_len (B := 4294967296) (by omega) h
  rw [show (4294967296 : Nat) = 2 ^ 32 from rfl, ← Nat.pow_mul] at h1
  have := bl_lt n _ h1
  omega
def ibt : Cfg := listT [(87, icheckCT), (121, digG)] [30]
theorem ibt_ok : TblOk Try.prog ibt := listT_ok (big := it5) it5_ok ⟨rfl, rfl, trivial⟩
attribute [go_sem] ibt
set_option maxRecDepth 100000 in
set_option maxHeartbeats 3200000 in
theorem iText_ok (a : Int) (b : Nat) (h1 : 2 ≤ b) (h2 : b ≤ 36) (la : (dg 4294967296 a.natAbs).length ≤ 128) :
    Ret Try.prog 97 false [.inr (gI a), .inl (.i .i64 b)] (.t [.inl (.str (strOf (textI a b))), .inr [.i .i64 0, .i .i64 0]]) := by
  have oa := (okZ_g a).trans (decide_eq_true la)
  have ka := okN_128 la
  have dl : (dg b a.natAbs).length ≤ 4096 := Nat.le_trans (dg_len_two b a.natAbs h1 _ (lt_bl _)) (bl_128 la)
  have dp := dg_len_pos b a.natAbs h1
  have din : InB b (dg b a.natAbs).reverse := fun z hz => InB_dg b h1 _ z (List.mem_reverse.1 hz)
  have htx : ∀ pre : List Int, pre = (if a < 0 then [45] else []) → strOf (textI a b) = strOf (pre ++ (if a = 0 then [48] else (dg b a.natAbs).reverse.map chr)) := fun pre h => by rw [h]; rfl
  rw [← List.length_reverse] at dl dp
  generalize hds : (dg b a.natAbs).reverse = ds at *
  by_cases hneg : a < 0
  · have htx := htx [45] (by rw [if_pos hneg])
    rw [if_neg (by omega)] at htx
    have e0 : decide (a < 0) = true := decide_eq_true hneg
    simp only [gI, e0] at oa ⊢
    (refine q_H Try.func97 (fun F => ?_); simp only [q_z,q_y,Try.ntmps97,Try.results97])
    repeat' (first|(with_reducible first|apply q_a|apply q_b|apply q_c|apply q_d|apply q_e|apply q_f|apply q_g|apply q_h|apply q_i|apply q_j|apply q_k|apply q_m|apply q_n|apply q_o|apply q_p|refine q_l ?_)|((with_reducible first|refine q_q ibt_ok fun K hK=>?_|refine q_r ibt_ok fun K hK=>?_);simp (maxSteps:=2000000) only [go_sem,↓reduceIte,reduceCtorEq,Nat.reduceLeDiff,Nat.reduceLT,Nat.reduceBEq,Nat.reduceAdd,oa, ka, hds];(repeat1' with_reducible first|apply And.intro|(intro _;try exact q_v)|(refine hK _ ?_;clear hK K))<;>(try (clear hK K;exact q_u)))|(with_reducible refine q_s ?_;(first|apply q_J|apply q_K|apply q_L|apply q_M|apply q_N|apply q_O)<;>try (intro _;try exact q_v))|with_reducible refine q_t ?_)
    refine q_G (ι := { i : Nat // i ≤ ds.length }) (fun i => ⟨56, [(5, .bx 1 0), (7, .c (.ints .i64 ds)), (9, .own 4 0), (35, .c (.ints .i64 ds)), (36, .c (.i .i64 ds.length)), (37, .c (.i .i64 (i.1 : Nat)))], ⟨[(1, [.c (.i .i64 0), .c (.i .i64 0)])], [(4, ⟨0, 5, 1, .ints .u8 ([45] ++ (ds.take i.1).map chr)⟩)], []⟩, 5⟩) (fun i => ds.length - i.1) ⟨0, by simp⟩ ?_ ?_
    · exact q_D
    rintro ⟨i, g1⟩
    simp only at g1 ⊢
    have b1 := InB_getD (by omega) din i
    have hml : ((ds.take i).map chr).length = i := by simp; omega
    rcases Nat.lt_or_ge i ds.length with hi | hi
    · have hm := map_snoc chr ds i hi
      repeat' (first|(with_reducible first|apply q_a|apply q_b|apply q_c|apply q_d|apply q_e|apply q_f|apply q_g|apply q_h|apply q_i|apply q_j|apply q_k|apply q_m|apply q_n|apply q_o|apply q_p|refine q_l ?_)|((with_reducible first|refine q_q ibt_ok fun K hK=>?_|refine q_r ibt_ok fun K hK=>?_);simp (maxSteps:=2000000) only [go_sem,↓reduceIte,reduceCtorEq,Nat.reduceLeDiff,Nat.reduceLT,Nat.reduceBEq,Nat.reduceAdd,hml];(repeat1' with_reducible first|apply And.intro|(intro _;try exact q_v)|(refine hK _ ?_;clear hK K))<;>(try (clear hK K;exact q_u)))|(with_reducible refine q_s ?_;(first|apply q_J|apply q_K|apply q_L|apply q_M|apply q_N|apply q_O)<;>try (intro _;try exact q_v))|with_reducible refine q_t ?_)
      refine q_F ⟨i + 1, hi⟩ ?_ (by simp only; omega)
      simp only [hm]
      exact q_D
    · have hi' : i = ds.length := by omega
      subst hi'
      rw [List.take_length]
      repeat' (first|(with_reducible first|apply q_a|apply q_b|apply q_c|apply q_d|apply q_e|apply q_f|apply q_g|apply q_h|apply q_i|apply q_j|apply q_k|apply q_m|apply q_n|apply q_o|apply q_p|refine q_l ?_)|((with_reducible first|refine q_q ibt_ok fun K hK=>?_|refine q_r ibt_ok fun K hK=>?_);simp (maxSteps:=2000000) only [go_sem,↓reduceIte,reduceCtorEq,Nat.reduceLeDiff,Nat.reduceLT,Nat.reduceBEq,Nat.reduceAdd];(repeat1' with_reducible first|apply And.intro|(intro _;try exact q_v)|(refine hK _ ?_;clear hK K))<;>(try (clear hK K;exact q_u)))|(with_reducible refine q_s ?_;(first|apply q_J|apply q_K|apply q_L|apply q_M|apply q_N|apply q_O)<;>try (intro _;try exact q_v))|with_reducible refine q_t ?_)
      exact q_A (by rw [htx]; rfl)
  · have htx := htx [] (by rw [if_neg hneg])
    have e0 : decide (a < 0) = false := decide_eq_false hneg
    simp only [gI, e0] at oa ⊢
    (refine q_H Try.func97 (fun F => ?_); simp only [q_z,q_y,Try.ntmps97,Try.results97])
    repeat' (first|(with_reducible first|apply q_a|apply q_b|apply q_c|apply q_d|apply q_e|apply q_f|apply q_g|apply q_h|apply q_i|apply q_j|apply q_k|apply q_m|apply q_n|apply q_o|apply q_p|refine q_l ?_)|((with_reducible first|refine q_q ibt_ok fun K hK=>?_|refine q_r ibt_ok fun K hK=>?_);simp (maxSteps:=2000000) only [go_sem,↓reduceIte,reduceCtorEq,Nat.reduceLeDiff,Nat.reduceLT,Nat.reduceBEq,Nat.reduceAdd,oa, ka, hds];(repeat1' with_reducible first|apply And.intro|(intro _;try exact q_v)|(refine hK _ ?_;clear hK K))<;>(try (clear hK K;exact q_u)))|(with_reducible refine q_s ?_;(first|apply q_J|apply q_K|apply q_L|apply q_M|apply q_N|apply q_O)<;>try (intro _;try exact q_v))|with_reducible refine q_t ?_)
    refine q_G (ι := { i : Nat // i ≤ ds.length }) (fun i => ⟨56, [(5, .bx 1 0), (7, .c (.ints .i64 ds)), (9, .own 4 0), (35, .c (.ints .i64 ds)), (36, .c (.i .i64 ds.length)), (37, .c (.i .i64 (i.1 : Nat)))], ⟨[(1, [.c (.i .i64 0), .c (.i .i64 0)])], [(4, ⟨0, 5, 1, .ints .u8 ((ds.take i.1).map chr)⟩)], []⟩, 5⟩) (fun i => ds.length - i.1) ⟨0, by simp⟩ ?_ ?_
    · exact q_D
    rintro ⟨i, g1⟩
    simp only at g1 ⊢
    have b1 := InB_getD (by omega) din i
    have hml : ((ds.take i).map chr).length = i := by simp; omega
    rcases Nat.lt_or_ge i ds.length with hi | hi
    · have hm := map_snoc chr ds i hi
      repeat' (first|(with_reducible first|apply q_a|apply q_b|apply q_c|apply q_d|apply q_e|apply q_f|apply q_g|apply q_h|apply q_i|apply q_j|apply q_k|apply q_m|apply q_n|apply q_o|apply q_p|refine q_l ?_)|((with_reducible first|refine q_q ibt_ok fun K hK=>?_|refine q_r ibt_ok fun K hK=>?_);simp (maxSteps:=2000000) only [go_sem,↓reduceIte,reduceCtorEq,Nat.reduceLeDiff,Nat.reduceLT,Nat.reduceBEq,Nat.reduceAdd,hml];(repeat1' with_reducible first|apply And.intro|(intro _;try exact q_v)|(refine hK _ ?_;clear hK K))<;>(try (clear hK K;exact q_u)))|(with_reducible refine q_s ?_;(first|apply q_J|apply q_K|apply q_L|apply q_M|apply q_N|apply q_O)<;>try (intro _;try exact q_v))|with_reducible refine q_t ?_)
      refine q_F ⟨i + 1, hi⟩ ?_ (by simp only; omega)
      simp only [hm]
      exact q_D
    · have hi' : i = ds.length := by omega
      subst hi'
      rw [List.take_length]
      by_cases hz : a = 0
      · have h0 : ds = [] := List.eq_nil_of_length_eq_zero (by omega)
        subst h0
        rw [if_pos hz] at htx
        repeat' (first|(with_reducible first|apply q_a|apply q_b|apply q_c|apply q_d|apply q_e|apply q_f|apply q_g|apply q_h|apply q_i|apply q_j|apply q_k|apply q_m|apply q_n|apply q_o|apply q_p|refine q_l ?_)|((with_reducible first|refine q_q ibt_ok fun K hK=>?_|refine q_r ibt_ok fun K hK=>?_);simp (maxSteps:=2000000) only [go_sem,↓reduceIte,reduceCtorEq,Nat.reduceLeDiff,Nat.reduceLT,Nat.reduceBEq,Nat.reduceAdd];(repeat1' with_reducible first|apply And.intro|(intro _;try exact q_v)|(refine hK _ ?_;clear hK K))<;>(try (clear hK K;exact q_u)))|(with_reducible refine q_s ?_;(first|apply q_J|apply q_K|apply q_L|apply q_M|apply q_N|apply q_O)<;>try (intro _;try exact q_v))|with_reducible refine q_t ?_)
        exact q_A (by rw [htx]; rfl)
      · rw [if_neg hz] at htx
        repeat' (first|(with_reducible first|apply q_a|apply q_b|apply q_c|apply q_d|apply q_e|apply q_f|apply q_g|apply q_h|apply q_i|apply q_j|apply q_k|apply q_m|apply q_n|apply q_o|apply q_p|refine q_l ?_)|((with_reducible first|refine q_q ibt_ok fun K hK=>?_|refine q_r ibt_ok fun K hK=>?_);simp (maxSteps:=2000000) only [go_sem,↓reduceIte,reduceCtorEq,Nat.reduceLeDiff,Nat.reduceLT,Nat.reduceBEq,Nat.reduceAdd];(repeat1' with_reducible first|apply And.intro|(intro _;try exact q_v)|(refine hK _ ?_;clear hK K))<;>(try (clear hK K;exact q_u)))|(with_reducible refine q_s ?_;(first|apply q_J|apply q_K|apply q_L|apply q_M|apply q_N|apply q_O)<;>try (intro _;try exact q_v))|with_reducible refine q_t ?_)
        exact q_A (by rw [htx]; rfl)
def iTextCT : CT := mkCT [nP] true fun l K => match l with
  | [.inr [.b s, .ints .u32 xs], .inl (.i .i64 b)] => (okZ s xs = true ∧ InB 4294967296 xs ∧ 2 ≤ b ∧ b ≤ 36) ∧ K (.t [.inl (.str (strOf (textI (sv 4294967296 s xs) b.toNat))), .inr [.i .i64 0, .i .i64 0]])
  | _ => False
def iu2 : Cfg := addT 97 iTextCT iu1
theorem iu2_ok : TblOk Try.prog iu2 := q_I iu1_ok Try.func97 fun l K h => by
  split at h
  · rename_i s xs b
    obtain ⟨⟨h1, h2, h3, h4⟩, h⟩ := h
    obtain ⟨e1, e2, e3⟩ := okZ_eq h1 h2
    obtain ⟨n, rfl⟩ : ∃ n : Nat, b = n := ⟨b.toNat, by omega⟩
    have := iText_ok (sv 4294967296 s xs) n (by omega) (by omega) (by rw [← e2]; exact e3)
    simp only [gI, ← e1, ← e2] at this
    exact ⟨_, this.plain rfl, by simpa using h⟩
  · exact h.elim
attribute [go_sem] iTextCT
set_option maxHeartbeats 800000 in
theorem equal_ret (xs ys : List Int) (hx : xs.length ≤ 16777216) (hy : ys.length ≤ 16777216) : Ret Try.prog 115 false [.inl (.ints .u32 xs), .inl (.ints .u32 ys)] (.c (.b (decide (xs = ys)))) := by
  (refine q_H Try.func115 (fun F => ?_); simp only [q_z,q_y,Try.ntmps115,Try.results115])
  repeat' (first|(with_reducible first|apply q_a|apply q_b|apply q_c|apply q_d|apply q_e|apply q_f|apply q_g|apply q_h|apply q_i|apply q_j|apply q_k|apply q_m|apply q_n|apply q_o|apply q_p|refine q_l ?_)|((with_reducible first|refine q_q cf0_ok fun K hK=>?_|refine q_r cf0_ok fun K hK=>?_);simp (maxSteps:=2000000) only [go_sem,↓reduceIte,reduceCtorEq,Nat.reduceLeDiff,Nat.reduceLT,Nat.reduceBEq,Nat.reduceAdd];(repeat1' with_reducible first|apply And.intro|intro _|(refine hK _ ?_;clear hK K))<;>(try (clear hK K;exact q_u)))|(with_reducible refine q_s ?_;(first|apply q_J|apply q_K|apply q_L|apply q_M|apply q_N|apply q_O)<;>try intro _)|with_reducible refine q_t ?_)
  · rename_i hl
    exact q_A (by simp only [resAV, q_y]; rw [decide_eq_false (fun h => hl (by rw [h]))])
  rename_i hl
  have hl : xs.length = ys.length := by omega
  refine q_G (ι := { i : Nat // i ≤ xs.length ∧ xs.take i = ys.take i }) (fun i => ⟨26, [(0, .c (.ints .u32 xs)), (1, .c (.ints .u32 ys)), (12, .c (.i .i64 xs.length)), (13, .c (.i .i64 i.1))], ⟨[], [], []⟩, 0⟩) (fun i => xs.length - i.1) ⟨0, by simp, by simp⟩ ?_ ?_
  · exact q_D
  rintro ⟨i, h1, h2⟩
  simp only
  repeat' (first|(with_reducible first|apply q_a|apply q_b|apply q_c|apply q_d|apply q_e|apply q_f|apply q_g|apply q_h|apply q_i|apply q_j|apply q_k|apply q_m|apply q_n|apply q_o|apply q_p|refine q_l ?_)|((with_reducible first|refine q_q cf0_ok fun K hK=>?_|refine q_r cf0_ok fun K hK=>?_);simp (maxSteps:=2000000) only [go_sem,↓reduceIte,reduceCtorEq,Nat.reduceLeDiff,Nat.reduceLT,Nat.reduceBEq,Nat.reduceAdd];(repeat1' with_reducible first|apply And.intro|intro _|(refine hK _ ?_;clear hK K))<;>(try (clear hK K;exact q_u)))|(with_reducible refine q_s ?_;(first|apply q_J|apply q_K|apply q_L|apply q_M|apply q_N|apply q_O)<;>try intro _)|with_reducible refine q_t ?_)
  · rename_i h3 hne
    exact q_A (by simp only [resAV, q_y]; rw [decide_eq_false (fun h => hne (by rw [h]))])
  · rename_i h3 he
    refine q_F ⟨i + 1, by omega, ?_⟩ ?_ ?_
    · rw [List.take_succ_eq_append_getElem (by omega), List.take_succ_eq_append_getElem (by omega), h2]
      have e : xs.getD i 0 = ys.getD i 0 := by omega
      rw [getD_eq xs i (by omega), getD_eq ys i (by omega)] at e
      rw [e]
    · exact q_D
    · show xs.length - (i + 1) < xs.length - i
      omega
  · rename_i h3
    rw [List.take_of_length_le (by omega), List.take_of_length_le (by omega)] at h2
    exact q_A (by simp only [resAV, q_y]; rw [decide_eq_true h2])
def iu3 : Cfg := addT 115 sameCT iu2
theorem iu3_ok : TblOk Try.prog iu3 := q_I iu2_ok Try.func115 fun l K h => by
  split at h
  · exact ⟨_, (equal_ret _ _ h.1.1 h.1.2).plain rfl, h.2⟩
  · exact h.elim

end Go.Proofs.Ytlefdhkjbbdijaa

namespace Go.Proofs.Ytlefdhkjbbdijaa
set_option linter.unusedSimpArgs false
set_option linter.unusedVariables false
open Go.Abs Go.Proofs.NatL

def Nrm (s : Bool) (xs : List Int) : Prop := InB 4294967296 xs ∧ Trd xs ∧ (xs = [] → s = false)
theorem Nrm_eq {s : Bool} {xs : List Int} (h : Nrm s xs) : s = decide (sv 4294967296 s xs < 0) ∧ xs = dg 4294967296 (sv 4294967296 s xs).natAbs := by
  obtain ⟨bx, ht, h0⟩ := h
  rw [sv_abs]
  have hd := dg_V 4294967296 (by omega) xs bx ht
  refine ⟨?_, hd.symm⟩
  cases s
  · rw [decide_eq_false]; simp [sv]
  · have hne : xs ≠ [] := fun e => by have := h0 e; cases this
    have : 0 < V 4294967296 xs := by
      rcases Nat.eq_zero_or_pos (V 4294967296 xs) with h | h
      · rw [h, dg_zero] at hd; exact absurd hd.symm hne
      · exact h
    rw [decide_eq_true]; simp [sv]; omega
theorem Nrm_g (z : Int) : Nrm (decide (z < 0)) (dg 4294967296 z.natAbs) = True := by
  refine eq_true ⟨InB_dg _ (by omega) _, dg_trd _ (by omega) _, fun h => ?_⟩
  have := dg_len_pos 4294967296 z.natAbs (by omega)
  rw [h] at this
  simp only [List.length_nil, Nat.lt_irrefl, false_iff] at this
  exact decide_eq_false (by omega)
theorem Nrm_0 : Nrm false [] = True := eq_true ⟨InB_nil _, .inl rfl, fun _ => rfl⟩
abbrev gR (z : Int) : List C := [.b (decide (z < 0)), .ints .i64 (dg 65536 z.natAbs)]
abbrev gRz (z : Int) (b : Bool) : List C := [.b (sgz z b), .ints .i64 (dg 65536 z.natAbs)]
abbrev nR : Option C ⊕ List (Option C) := .inr [none, some (.ints .i64 [])]

def jt0 : Cfg := addT 32 atCT it5
theorem jt0_ok : TblOk Try.prog jt0 := q_I it5_ok Try.func32 fun l K h => by
  split at h
  · exact ⟨_, (At_ret _ _).plain rfl, h⟩
  · exact h.elim
set_option maxHeartbeats 800000 in
theorem intOk_ret (s : Bool) (xs : List Int) (hx : xs.length ≤ 140737488355328) : Ret Try.prog 60 false [.inr [.b s, .ints .u32 xs]] (.c (.b (okZ s xs))) := by
  (refine q_H Try.func60 (fun F => ?_); simp only [q_z,q_y,Try.ntmps60,Try.results60])
  repeat' (first|(with_reducible first|apply q_a|apply q_b|apply q_c|apply q_d|apply q_e|apply q_f|apply q_g|apply q_h|apply q_i|apply q_j|apply q_k|apply q_m|apply q_n|apply q_o|apply q_p|refine q_l ?_)|((with_reducible first|refine q_q cf0_ok fun K hK=>?_|refine q_r cf0_ok fun K hK=>?_);simp (maxSteps:=2000000) only [go_sem,↓reduceIte,reduceCtorEq,Nat.reduceLeDiff,Nat.reduceLT,Nat.reduceBEq,Nat.reduceAdd];(repeat1' with_reducible first|apply And.intro|intro _|(refine hK _ ?_;clear hK K))<;>(try (clear hK K;exact q_u)))|(with_reducible refine q_s ?_;(first|apply q_J|apply q_K|apply q_L|apply q_M|apply q_N|apply q_O)<;>try intro _)|with_reducible refine q_t ?_)
  all_goals refine q_A ?_
  all_goals simp only [resAV, q_y, AV.c.injEq, C.b.injEq]
  all_goals refine okZ_iff s xs _ ?_
  all_goals first | (simp_all; done) | (simp_all; omega)
def jt1 : Cfg := addT 60 ivalidCT jt0
theorem jt1_ok : TblOk Try.prog jt1 := q_I jt0_ok Try.func60 fun l K h => by
  split at h
  · exact ⟨_, (intOk_ret _ _ h.1).plain rfl, h.2⟩
  · exact h.elim
def jb1 : Cfg := listT [(32, atCT), (60, ivalidCT)] [30]
theorem jb1_ok : TblOk Try.prog jb1 := listT_ok (big := jt1) jt1_ok ⟨rfl, rfl, trivial⟩
attribute [go_sem] jb1
set_option maxHeartbeats 1600000 in
theorem faults_ret (l : List (Bool × List Int)) (hn : l.length ≤ 1000) (hl : allL 140737488355328 l) :
    Ret Try.prog 46 false [.inl (.sl 2 (l.map rowI))] (.g [.i .i64 (fbC l), .i .i64 (fbX 0 l)]) := by
  (refine q_H Try.func46 (fun F => ?_); simp only [q_z,q_y,Try.ntmps46,Try.results46])
  repeat' (first|(with_reducible first|apply q_a|apply q_b|apply q_c|apply q_d|apply q_e|apply q_f|apply q_g|apply q_h|apply q_i|apply q_j|apply q_k|apply q_m|apply q_n|apply q_o|apply q_p|refine q_l ?_)|((with_reducible first|refine q_q jb1_ok fun K hK=>?_|refine q_r jb1_ok fun K hK=>?_);simp (maxSteps:=2000000) only [go_sem,↓reduceIte,reduceCtorEq,Nat.reduceLeDiff,Nat.reduceLT,Nat.reduceBEq,Nat.reduceAdd,List.length_map];(repeat1' with_reducible first|apply And.intro|intro _|(refine hK _ ?_;clear hK K))<;>(try (clear hK K;exact q_u)))|(with_reducible refine q_s ?_;(first|apply q_J|apply q_K|apply q_L|apply q_M|apply q_N|apply q_O)<;>try intro _)|with_reducible refine q_t ?_)
  refine q_G (ι := { i : Nat // i ≤ l.length ∧ fbC (l.drop i) = fbC l ∧ fbX i (l.drop i) = fbX 0 l }) (fun i => ⟨20, [(0, .c (.sl 2 (l.map rowI))), (2, .bx 0 0), (3, .c (.i .i64 (i.1 : Nat)))], ⟨[(0, [.c (.i .i64 0), .c (.i .i64 0)])], [], []⟩, 1⟩) (fun i => l.length - i.1) ⟨0, by simp, rfl, rfl⟩ ?_ ?_
  · exact q_D
  rintro ⟨i, g1, g2, g3⟩
  simp only at g1 g2 g3 ⊢
  have hlen := allL_get (i := i) hl
  rcases Nat.lt_or_ge i l.length with hi | hi
  · have hr := rowI_get l i hi
    rw [drop_getD l i hi, fbC] at g2
    rw [drop_getD l i hi, fbX] at g3
    cases ho : okZ (l.getD i (false, [])).1 (l.getD i (false, [])).2
    · simp only [ho, Bool.false_eq_true, if_false] at g2 g3
      repeat' (first|(with_reducible first|apply q_a|apply q_b|apply q_c|apply q_d|apply q_e|apply q_f|apply q_g|apply q_h|apply q_i|apply q_j|apply q_k|apply q_m|apply q_n|apply q_o|apply q_p|refine q_l ?_)|((with_reducible first|refine q_q jb1_ok fun K hK=>?_|refine q_r jb1_ok fun K hK=>?_);simp (maxSteps:=2000000) only [go_sem,↓reduceIte,reduceCtorEq,Nat.reduceLeDiff,Nat.reduceLT,Nat.reduceBEq,Nat.reduceAdd,hr, ho, List.length_map];(repeat1' with_reducible first|apply And.intro|(intro _;try exact q_v)|(refine hK _ ?_;clear hK K))<;>(try (clear hK K;exact q_u)))|(with_reducible refine q_s ?_;(first|apply q_J|apply q_K|apply q_L|apply q_M|apply q_N|apply q_O)<;>try (intro _;try exact q_v))|with_reducible refine q_t ?_)
      exact q_A (by rw [← g2, ← g3]; rfl)
    · simp only [ho, if_true] at g2 g3
      repeat' (first|(with_reducible first|apply q_a|apply q_b|apply q_c|apply q_d|apply q_e|apply q_f|apply q_g|apply q_h|apply q_i|apply q_j|apply q_k|apply q_m|apply q_n|apply q_o|apply q_p|refine q_l ?_)|((with_reducible first|refine q_q jb1_ok fun K hK=>?_|refine q_r jb1_ok fun K hK=>?_);simp (maxSteps:=2000000) only [go_sem,↓reduceIte,reduceCtorEq,Nat.reduceLeDiff,Nat.reduceLT,Nat.reduceBEq,Nat.reduceAdd,hr, ho, List.length_map];(repeat1' with_reducible first|apply And.intro|(intro _;try exact q_v)|(refine hK _ ?_;clear hK K))<;>(try (clear hK K;exact q_u)))|(with_reducible refine q_s ?_;(first|apply q_J|apply q_K|apply q_L|apply q_M|apply q_N|apply q_O)<;>try (intro _;try exact q_v))|with_reducible refine q_t ?_)
      refine q_F ⟨i + 1, hi, g2, by push_cast; exact g3⟩ ?_ (by simp only; omega)
      exact q_D
  · have hi' : i = l.length := by omega
    subst hi'
    rw [List.drop_length] at g2 g3
    repeat' (first|(with_reducible first|apply q_a|apply q_b|apply q_c|apply q_d|apply q_e|apply q_f|apply q_g|apply q_h|apply q_i|apply q_j|apply q_k|apply q_m|apply q_n|apply q_o|apply q_p|refine q_l ?_)|((with_reducible first|refine q_q jb1_ok fun K hK=>?_|refine q_r jb1_ok fun K hK=>?_);simp (maxSteps:=2000000) only [go_sem,↓reduceIte,reduceCtorEq,Nat.reduceLeDiff,Nat.reduceLT,Nat.reduceBEq,Nat.reduceAdd,List.length_map];(repeat1' with_reducible first|apply And.intro|(intro _;try exact q_v)|(refine hK _ ?_;clear hK K))<;>(try (clear hK K;exact q_u)))|(with_reducible refine q_s ?_;(first|apply q_J|apply q_K|apply q_L|apply q_M|apply q_N|apply q_O)<;>try (intro _;try exact q_v))|with_reducible refine q_t ?_)
    exact q_A (by rw [← g2, ← g3]; rfl)
def jt2 : Cfg := addT 46 icheckCT jt1
theorem jt2_ok : TblOk Try.prog jt2 := q_I jt1_ok Try.func46 fun l K h => by
  split at h
  · split at h
    · rename_i l hl
      rw [unI_some hl]
      exact ⟨_, (faults_ret l h.1.1 h.1.2).plain rfl, h.2⟩
    · exact h.elim
  · exact h.elim
def jb2 : Cfg := listT [(48, ofCT)] [30]
theorem jb2_ok : TblOk Try.prog jb2 := listT_ok (big := jt2) jt2_ok ⟨rfl, trivial⟩
attribute [go_sem] jb2
set_option maxHeartbeats 800000 in
theorem intOf_ret (s : Bool) (xs : List Int) (hx : xs.length ≤ 1048576) (bx : InB 4294967296 xs) : Ret Try.prog 47 false [.inr [.b s, .ints .u32 xs]] (.g [.b s, .ints .i64 (dg 65536 (V 4294967296 xs))]) := by
  (refine q_H Try.func47 (fun F => ?_); simp only [q_z,q_y,Try.ntmps47,Try.results47])
  repeat' (first|(with_reducible first|apply q_a|apply q_b|apply q_c|apply q_d|apply q_e|apply q_f|apply q_g|apply q_h|apply q_i|apply q_j|apply q_k|apply q_m|apply q_n|apply q_o|apply q_p|refine q_l ?_)|((with_reducible first|refine q_q jb2_ok fun K hK=>?_|refine q_r jb2_ok fun K hK=>?_);simp (maxSteps:=2000000) only [go_sem,↓reduceIte,reduceCtorEq,Nat.reduceLeDiff,Nat.reduceLT,Nat.reduceBEq,Nat.reduceAdd];(repeat1' with_reducible first|apply And.intro|intro _|(refine hK _ ?_;clear hK K))<;>(try (clear hK K;exact q_u)))|(with_reducible refine q_s ?_;(first|apply q_J|apply q_K|apply q_L|apply q_M|apply q_N|apply q_O)<;>try intro _)|with_reducible refine q_t ?_)
  all_goals first | omega | exact q_A rfl
def intOfCT : CT := mkCT [nP] false fun l K => match l with
  | [.inr [.b s, .ints .u32 xs]] => (xs.length ≤ 1048576 ∧ InB 4294967296 xs) ∧ K (.g [.b s, .ints .i64 (dg 65536 (V 4294967296 xs))])
  | _ => False
def jt3 : Cfg := addT 47 intOfCT jt2
theorem jt3_ok : TblOk Try.prog jt3 := q_I jt2_ok Try.func47 fun l K h => by
  split at h
  · exact ⟨_, intOf_ret _ _ h.1.1 h.1.2, h.2⟩
  · exact h.elim
attribute [go_sem] intOfCT Nrm_g Nrm_0 gR gRz
def jb3 : Cfg := listT [(80, limbsCT), (79, sameCT)] [30]
theorem jb3_ok : TblOk Try.prog jb3 := listT_ok (big := jt3) jt3_ok ⟨rfl, rfl, trivial⟩
attribute [go_sem] jb3
set_option maxHeartbeats 1600000 in
theorem sameInt_ret (s t : Bool) (xs ys : List Int) (hn : Nrm s xs) (hx : xs.length ≤ 16777216) (by' : InB 65536 ys) (ty : Trd ys) (hy : ys.length ≤ 4194304) :
    Ret Try.prog 30 false [.inr [.b s, .ints .u32 xs], .inr [.b t, .ints .i64 ys]] (.c (.b (decide (sv 4294967296 s xs = sv 65536 t ys)))) := by
  obtain ⟨h1, h2⟩ := Nrm_eq hn
  have hd := dg_V 65536 (by omega) ys by' ty
  have hp := dg_len_pos 65536 (V 65536 ys) (by omega)
  rw [hd] at hp
  have hlim : (dg 4294967296 (V 65536 ys)).length ≤ 16777216 := Nat.le_trans (dg_half_le _ _ (by rw [hd]; exact hy)) (by omega)
  generalize ha : sv 4294967296 s xs = a at *
  have key : decide (s = (t && decide (0 < (ys.length : Int))) ∧ xs = dg 4294967296 (V 65536 ys)) = decide (a = sv 65536 t ys) := by
    congr 1
    refine propext ⟨fun ⟨k1, k2⟩ => ?_, fun k => ?_⟩
    · rw [h2] at k2
      have k3 := congrArg (V 4294967296) k2
      rw [V32, V32] at k3
      rw [h1] at k1
      unfold sv
      rw [← k3]
      rcases Nat.eq_zero_or_pos ys.length with h0 | h0
      · have : a.natAbs = 0 := by
          rw [k3]
          rcases Nat.eq_zero_or_pos (V 65536 ys) with h | h
          · exact h
          · have := hp.2 h; omega
        rw [this]; simp; omega
      · have h0' : (0 : Int) < ys.length := by omega
        simp only [decide_eq_true h0', Bool.and_true] at k1
        subst k1
        by_cases h : a < 0
        · rw [if_pos (by simpa using h)]; omega
        · rw [if_neg (by simpa using h)]; omega
    · subst k
      rw [sv_abs] at h2
      refine ⟨?_, h2⟩
      rw [h1]
      rcases Nat.eq_zero_or_pos ys.length with h0 | h0
      · have h0' : ¬ (0 : Int) < ys.length := by omega
        have : ys = [] := List.eq_nil_of_length_eq_zero h0
        subst this
        rw [sv0]; simp
      · have h0' : (0 : Int) < ys.length := by omega
        have hv := hp.1 h0
        rw [decide_eq_true h0', Bool.and_true]
        cases t
        · rw [svf]; exact decide_eq_false (by omega)
        · rw [svt]; exact decide_eq_true (by omega)
  rw [← key]
  cases t
  all_goals
    (refine q_H Try.func30 (fun F => ?_); simp only [q_z,q_y,Try.ntmps30,Try.results30])
    repeat' (first|(with_reducible first|apply q_a|apply q_b|apply q_c|apply q_d|apply q_e|apply q_f|apply q_g|apply q_h|apply q_i|apply q_j|apply q_k|apply q_m|apply q_n|apply q_o|apply q_p|refine q_l ?_)|((with_reducible first|refine q_q jb3_ok fun K hK=>?_|refine q_r jb3_ok fun K hK=>?_);simp (maxSteps:=2000000) only [go_sem,↓reduceIte,reduceCtorEq,Nat.reduceLeDiff,Nat.reduceLT,Nat.reduceBEq,Nat.reduceAdd,hd];(repeat1' with_reducible first|apply And.intro|(intro _;try exact q_v)|(refine hK _ ?_;clear hK K))<;>(try (clear hK K;exact q_u)))|(with_reducible refine q_s ?_;(first|apply q_J|apply q_K|apply q_L|apply q_M|apply q_N|apply q_O)<;>try (intro _;try exact q_v))|with_reducible refine q_t ?_)
  all_goals (refine q_A ?_; simp only [resAV, q_y, AV.c.injEq, C.b.injEq]; simp_all)

end Go.Proofs.Ytlefdhkjbbdijaa

namespace Go.Proofs.NatL
set_option linter.unusedSimpArgs false
set_option linter.unusedVariables false

theorem B2_nil : B2 [] = 0 := rfl
theorem B2_cons (b : Bool) (l : List Bool) : B2 (b :: l) = 2 * B2 l + (if b then 1 else 0) := by
  have h := group_step (b :: l) 0 l.length (by simp)
  simpa using h
theorem set_zeros (k : Nat) (ls : List Bool) (hk : 0 < k) (b : Bool) : (List.replicate k false ++ ls).set (k - 1) b = List.replicate (k - 1) false ++ b :: ls := by
  obtain ⟨j, rfl⟩ : ∃ j, k = j + 1 := ⟨k - 1, by omega⟩
  rw [show j + 1 - 1 = j by omega, List.replicate_succ', List.append_assoc]
  rw [List.set_append_right _ _ (by simp)]
  simp
theorem drop_bit (l : List Bool) (k : Nat) (hk : 0 < k) (hl : k ≤ l.length) : B2 (l.drop (k - 1)) = 2 * B2 (l.drop k) + (if l.getD (k - 1) false then 1 else 0) := by
  rw [List.drop_eq_getElem_cons (i := k - 1) (by omega), B2_cons, show k - 1 + 1 = k by omega]
  simp [List.getD_eq_getElem?_getD, List.getElem?_eq_getElem (show k - 1 < l.length by omega)]
theorem drop_bs (m : Nat) : B2 ((bs m).drop 0) = m := by rw [List.drop_zero, B2_bs]
theorem sgz_sg (s : Bool) (k : Nat) : sgz (sg s k) s = s := by
  unfold sgz
  by_cases h : sg s k = 0
  · rw [if_pos h]
  · rw [if_neg h]
    cases s
    · rw [sgf] at h ⊢; exact decide_eq_false (by omega)
    · rw [sgt] at h ⊢; exact decide_eq_true (by omega)
theorem sg_eq_add (s : Bool) (m n : Nat) : sg s m + sg s n = sg s (m + n) := by cases s <;> simp only [sgt, sgf] <;> omega
theorem sg_eq_sub {s t : Bool} (h : s ≠ t) {m n : Nat} (hn : n ≤ m) : sg s m + sg t n = sg s (m - n) := by
  cases s <;> cases t <;> simp only [sgt, sgf] <;> first | exact absurd rfl h | omega
theorem sg_eq_sub' {s t : Bool} (h : s ≠ t) {m n : Nat} (hn : m ≤ n) : sg s m + sg t n = sg t (n - m) := by
  cases s <;> cases t <;> simp only [sgt, sgf] <;> first | exact absurd rfl h | omega
theorem tdiv2_abs (z : Int) : (z.tdiv 2).natAbs = z.natAbs / 2 := by rw [Int.natAbs_tdiv]; rfl
theorem tmod2_ne (z : Int) : decide (¬ z.tmod 2 = 0) = decide (z.natAbs % 2 = 1) := by
  have h1 : (z.tmod 2).natAbs = z.natAbs % 2 := by rw [Int.natAbs_tmod]; rfl
  congr 1
  exact propext ⟨fun h => by omega, fun h => by omega⟩

end Go.Proofs.NatL
