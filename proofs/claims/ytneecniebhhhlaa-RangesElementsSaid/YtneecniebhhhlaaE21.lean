import Derived.Test.YtneecniebhhhlaaE19
namespace Go.Proofs.Ytneecniebhhhlaa
set_option linter.unusedSimpArgs false
set_option linter.unusedVariables false
open Go.Abs Go.Proofs.NatL

theorem two_limbs (m : Nat) (h : m < 18446744073709551616) : trimL [((m % 4294967296 : Nat) : Int), ((m / 4294967296 : Nat) : Int)] = dg 4294967296 m := by
  rw [trimL_eq 4294967296 (by omega) _ (InB_two ⟨by omega, by omega⟩ ⟨by omega, by omega⟩)]
  congr 1
  simp only [V, Int.toNat_natCast]
  omega
set_option maxHeartbeats 1600000 in
theorem iOf_ret (n : Int) (hn : -9223372036854775808 ≤ n ∧ n ≤ 9223372036854775807) : Ret Try.prog 28 false [.inl (.i .i64 n)] (.g (gI n)) := by
  obtain ⟨m, hm⟩ : ∃ m : Nat, m = n.natAbs := ⟨_, rfl⟩
  have hml : m < 18446744073709551616 := by omega
  have hlo : ((m : Int)) % 4294967296 = ((m % 4294967296 : Nat) : Int) := by omega
  have hhi : ((m : Int)) / 4294967296 % 4294967296 = ((m / 4294967296 : Nat) : Int) := by omega
  have ht := two_limbs m hml
  simp only [gI, ← hm]
  have key : ∀ st : Bool, st = decide (n < 0) → Ret Try.prog 28 false [.inl (.i .i64 n)] (.g [.b st, .ints .u32 (dg 4294967296 m)]) := by
    intro st hst
    by_cases h : n < 0
    · have e1 : (0 - n % 18446744073709551616) % 18446744073709551616 = (m : Int) := by omega
      have e0 : decide (n < 0) = true := decide_eq_true h
      (refine q_H Try.func28 (fun F => ?_); simp only [q_z,q_y,Try.ntmps28,Try.results28])
      repeat' (first|(with_reducible first|apply q_a|apply q_b|apply q_c|apply q_d|apply q_e|apply q_f|apply q_g|apply q_h|apply q_i|apply q_j|apply q_k|apply q_m|apply q_n|apply q_o|apply q_p|refine q_l ?_)|((with_reducible first|refine q_q ib_ok fun K hK=>?_|refine q_r ib_ok fun K hK=>?_);simp (maxSteps:=2000000) only [go_sem,↓reduceIte,reduceCtorEq,Nat.reduceLeDiff,Nat.reduceLT,Nat.reduceBEq,Nat.reduceAdd,e1, hlo, hhi];(repeat1' with_reducible first|apply And.intro|(intro _;try exact q_v)|(refine hK _ ?_;clear hK K))<;>(try (clear hK K;exact q_u)))|(with_reducible refine q_s ?_;(first|apply q_J|apply q_K|apply q_L|apply q_M|apply q_N|apply q_O)<;>try (intro _;try exact q_v))|with_reducible refine q_t ?_)
      generalize hX : [((m % 4294967296 : Nat) : Int), ((m / 4294967296 : Nat) : Int)] = xs at *
      have hxl : xs.length = 2 := by rw [← hX]; rfl
      refine q_G (ι := { k : Nat // k ≤ 2 ∧ trimL (xs.take k) = trimL xs }) (fun k => ⟨38, [(0, .c (.i .i64 n)), (2, .bx 0 0), (4, .c (.ints .u32 (xs.take k.1)))], ⟨[(0, [.c (.b false), .c .nil])], [], []⟩, 1⟩) (fun k => k.1) ⟨2, by omega, by rw [List.take_of_length_le (by omega)]⟩ ?_ ?_
      · ((simp only [go_sem,↓reduceIte,reduceCtorEq,Nat.reduceLeDiff,Nat.reduceLT,Nat.reduceBEq,Nat.reduceAdd])<;>(try (simp;done))<;>(try ((simp only [C.i.injEq,C.b.injEq,C.ints.injEq,C.bools.injEq,List.append_cancel_left_eq,List.cons.injEq,true_and,and_true]);(repeat' with_reducible apply And.intro)<;>(first|rfl|assumption|omega|(simp;omega)|(congr 1;omega)|(congr 2;omega)))))
        all_goals (rw [← hX]; rfl)
      rintro ⟨k, h1, h2⟩
      simp only at h1 h2 ⊢
      have ek : 0 < k → ((k : Int) - 1).toNat = k - 1 := fun _ => by omega
      have e3 : (xs.take k).length = k := by simp; omega
      have e2 : 0 < k → (xs.take k).getD (k - 1) 0 = xs.getD (k - 1) 0 := fun h => by
        simp only [List.getD_eq_getElem?_getD, List.getElem?_take]
        rw [if_pos (by omega)]
      rcases Nat.eq_zero_or_pos k with hk | hk
      · subst hk
        rw [List.take_zero] at h2
        repeat' (first|(with_reducible first|apply q_a|apply q_b|apply q_c|apply q_d|apply q_e|apply q_f|apply q_g|apply q_h|apply q_i|apply q_j|apply q_k|apply q_m|apply q_n|apply q_o|apply q_p|refine q_l ?_)|((with_reducible first|refine q_q ib_ok fun K hK=>?_|refine q_r ib_ok fun K hK=>?_);simp (maxSteps:=2000000) only [go_sem,↓reduceIte,reduceCtorEq,Nat.reduceLeDiff,Nat.reduceLT,Nat.reduceBEq,Nat.reduceAdd,List.take_zero, e0];(repeat1' with_reducible first|apply And.intro|(intro _;try exact q_v)|(refine hK _ ?_;clear hK K))<;>(try (clear hK K;exact q_u)))|(with_reducible refine q_s ?_;(first|apply q_J|apply q_K|apply q_L|apply q_M|apply q_N|apply q_O)<;>try (intro _;try exact q_v))|with_reducible refine q_t ?_)
        exact q_A (by rw [hst, e0, ← ht, ← h2]; rfl)
      · have ek := ek hk
        have e2 := e2 hk
        have tk : (xs.take k).take (k - 1) = xs.take (k - 1) := by rw [List.take_take, Nat.min_eq_left (by omega)]
        by_cases hz : xs.getD (k - 1) 0 = 0
        · repeat' (first|(with_reducible first|apply q_a|apply q_b|apply q_c|apply q_d|apply q_e|apply q_f|apply q_g|apply q_h|apply q_i|apply q_j|apply q_k|apply q_m|apply q_n|apply q_o|apply q_p|refine q_l ?_)|((with_reducible first|refine q_q ib_ok fun K hK=>?_|refine q_r ib_ok fun K hK=>?_);simp (maxSteps:=2000000) only [go_sem,↓reduceIte,reduceCtorEq,Nat.reduceLeDiff,Nat.reduceLT,Nat.reduceBEq,Nat.reduceAdd,e3, ek, e2, hz, tk];(repeat1' with_reducible first|apply And.intro|(intro _;try exact q_v)|(refine hK _ ?_;clear hK K))<;>(try (clear hK K;exact q_u)))|(with_reducible refine q_s ?_;(first|apply q_J|apply q_K|apply q_L|apply q_M|apply q_N|apply q_O)<;>try (intro _;try exact q_v))|with_reducible refine q_t ?_)
          have := trimL_drop (xs.take k) (by omega) (by rw [e3, e2]; exact hz)
          rw [e3, tk] at this
          refine q_F ⟨k - 1, by omega, by rw [this, h2]⟩ ?_ (by simp only; omega)
          exact q_D
        · have hs := trimL_stop (xs.take k) (.inr (by rw [e3, e2]; exact hz))
          repeat' (first|(with_reducible first|apply q_a|apply q_b|apply q_c|apply q_d|apply q_e|apply q_f|apply q_g|apply q_h|apply q_i|apply q_j|apply q_k|apply q_m|apply q_n|apply q_o|apply q_p|refine q_l ?_)|((with_reducible first|refine q_q ib_ok fun K hK=>?_|refine q_r ib_ok fun K hK=>?_);simp (maxSteps:=2000000) only [go_sem,↓reduceIte,reduceCtorEq,Nat.reduceLeDiff,Nat.reduceLT,Nat.reduceBEq,Nat.reduceAdd,e3, ek, e2, e0];(repeat1' with_reducible first|apply And.intro|(intro _;try exact q_v)|(refine hK _ ?_;clear hK K))<;>(try (clear hK K;exact q_u)))|(with_reducible refine q_s ?_;(first|apply q_J|apply q_K|apply q_L|apply q_M|apply q_N|apply q_O)<;>try (intro _;try exact q_v))|with_reducible refine q_t ?_)
          exact q_A (by rw [hst, e0, ← ht, ← h2, hs]; rfl)
    · have e1 : n % 18446744073709551616 = (m : Int) := by omega
      have e0 : decide (n < 0) = false := decide_eq_false h
      (refine q_H Try.func28 (fun F => ?_); simp only [q_z,q_y,Try.ntmps28,Try.results28])
      repeat' (first|(with_reducible first|apply q_a|apply q_b|apply q_c|apply q_d|apply q_e|apply q_f|apply q_g|apply q_h|apply q_i|apply q_j|apply q_k|apply q_m|apply q_n|apply q_o|apply q_p|refine q_l ?_)|((with_reducible first|refine q_q ib_ok fun K hK=>?_|refine q_r ib_ok fun K hK=>?_);simp (maxSteps:=2000000) only [go_sem,↓reduceIte,reduceCtorEq,Nat.reduceLeDiff,Nat.reduceLT,Nat.reduceBEq,Nat.reduceAdd,e1, hlo, hhi];(repeat1' with_reducible first|apply And.intro|(intro _;try exact q_v)|(refine hK _ ?_;clear hK K))<;>(try (clear hK K;exact q_u)))|(with_reducible refine q_s ?_;(first|apply q_J|apply q_K|apply q_L|apply q_M|apply q_N|apply q_O)<;>try (intro _;try exact q_v))|with_reducible refine q_t ?_)
      generalize hX : [((m % 4294967296 : Nat) : Int), ((m / 4294967296 : Nat) : Int)] = xs at *
      have hxl : xs.length = 2 := by rw [← hX]; rfl
      refine q_G (ι := { k : Nat // k ≤ 2 ∧ trimL (xs.take k) = trimL xs }) (fun k => ⟨38, [(0, .c (.i .i64 n)), (2, .bx 0 0), (4, .c (.ints .u32 (xs.take k.1)))], ⟨[(0, [.c (.b false), .c .nil])], [], []⟩, 1⟩) (fun k => k.1) ⟨2, by omega, by rw [List.take_of_length_le (by omega)]⟩ ?_ ?_
      · ((simp only [go_sem,↓reduceIte,reduceCtorEq,Nat.reduceLeDiff,Nat.reduceLT,Nat.reduceBEq,Nat.reduceAdd])<;>(try (simp;done))<;>(try ((simp only [C.i.injEq,C.b.injEq,C.ints.injEq,C.bools.injEq,List.append_cancel_left_eq,List.cons.injEq,true_and,and_true]);(repeat' with_reducible apply And.intro)<;>(first|rfl|assumption|omega|(simp;omega)|(congr 1;omega)|(congr 2;omega)))))
        all_goals (rw [← hX]; rfl)
      rintro ⟨k, h1, h2⟩
      simp only at h1 h2 ⊢
      have ek : 0 < k → ((k : Int) - 1).toNat = k - 1 := fun _ => by omega
      have e3 : (xs.take k).length = k := by simp; omega
      have e2 : 0 < k → (xs.take k).getD (k - 1) 0 = xs.getD (k - 1) 0 := fun h => by
        simp only [List.getD_eq_getElem?_getD, List.getElem?_take]
        rw [if_pos (by omega)]
      rcases Nat.eq_zero_or_pos k with hk | hk
      · subst hk
        rw [List.take_zero] at h2
        repeat' (first|(with_reducible first|apply q_a|apply q_b|apply q_c|apply q_d|apply q_e|apply q_f|apply q_g|apply q_h|apply q_i|apply q_j|apply q_k|apply q_m|apply q_n|apply q_o|apply q_p|refine q_l ?_)|((with_reducible first|refine q_q ib_ok fun K hK=>?_|refine q_r ib_ok fun K hK=>?_);simp (maxSteps:=2000000) only [go_sem,↓reduceIte,reduceCtorEq,Nat.reduceLeDiff,Nat.reduceLT,Nat.reduceBEq,Nat.reduceAdd,List.take_zero, e0];(repeat1' with_reducible first|apply And.intro|(intro _;try exact q_v)|(refine hK _ ?_;clear hK K))<;>(try (clear hK K;exact q_u)))|(with_reducible refine q_s ?_;(first|apply q_J|apply q_K|apply q_L|apply q_M|apply q_N|apply q_O)<;>try (intro _;try exact q_v))|with_reducible refine q_t ?_)
        exact q_A (by rw [hst, e0, ← ht, ← h2]; rfl)
      · have ek := ek hk
        have e2 := e2 hk
        have tk : (xs.take k).take (k - 1) = xs.take (k - 1) := by rw [List.take_take, Nat.min_eq_left (by omega)]
        by_cases hz : xs.getD (k - 1) 0 = 0
        · repeat' (first|(with_reducible first|apply q_a|apply q_b|apply q_c|apply q_d|apply q_e|apply q_f|apply q_g|apply q_h|apply q_i|apply q_j|apply q_k|apply q_m|apply q_n|apply q_o|apply q_p|refine q_l ?_)|((with_reducible first|refine q_q ib_ok fun K hK=>?_|refine q_r ib_ok fun K hK=>?_);simp (maxSteps:=2000000) only [go_sem,↓reduceIte,reduceCtorEq,Nat.reduceLeDiff,Nat.reduceLT,Nat.reduceBEq,Nat.reduceAdd,e3, ek, e2, hz, tk];(repeat1' with_reducible first|apply And.intro|(intro _;try exact q_v)|(refine hK _ ?_;clear hK K))<;>(try (clear hK K;exact q_u)))|(with_reducible refine q_s ?_;(first|apply q_J|apply q_K|apply q_L|apply q_M|apply q_N|apply q_O)<;>try (intro _;try exact q_v))|with_reducible refine q_t ?_)
          have := trimL_drop (xs.take k) (by omega) (by rw [e3, e2]; exact hz)
          rw [e3, tk] at this
          refine q_F ⟨k - 1, by omega, by rw [this, h2]⟩ ?_ (by simp only; omega)
          exact q_D
        · have hs := trimL_stop (xs.take k) (.inr (by rw [e3, e2]; exact hz))
          repeat' (first|(with_reducible first|apply q_a|apply q_b|apply q_c|apply q_d|apply q_e|apply q_f|apply q_g|apply q_h|apply q_i|apply q_j|apply q_k|apply q_m|apply q_n|apply q_o|apply q_p|refine q_l ?_)|((with_reducible first|refine q_q ib_ok fun K hK=>?_|refine q_r ib_ok fun K hK=>?_);simp (maxSteps:=2000000) only [go_sem,↓reduceIte,reduceCtorEq,Nat.reduceLeDiff,Nat.reduceLT,Nat.reduceBEq,Nat.reduceAdd,e3, ek, e2, e0];(repeat1' with_reducible first|apply And.intro|(intro _;try exact q_v)|(refine hK _ ?_;clear hK K))<;>(try (clear hK K;exact q_u)))|(with_reducible refine q_s ?_;(first|apply q_J|apply q_K|apply q_L|apply q_M|apply q_N|apply q_O)<;>try (intro _;try exact q_v))|with_reducible refine q_t ?_)
          exact q_A (by rw [hst, e0, ← ht, ← h2, hs]; rfl)
  exact key _ rfl
def iOfCT : CT := mkCT [] false fun l K => match l with
  | [.inl (.i .i64 n)] => (-9223372036854775808 ≤ n ∧ n ≤ 9223372036854775807) ∧ K (.g (gI n))
  | _ => False
def iu1 : Cfg := addT 28 iOfCT it5
theorem iu1_ok : TblOk Try.prog iu1 := q_I it5_ok Try.func28 fun l K h => by
  split at h
  · exact ⟨_, iOf_ret _ h.1, h.2⟩
  · exact h.elim
attribute [go_sem] iOfCT

def digL : List UInt8 := [48, 49, 50, 51, 52, 53, 54, 55, 56, 57, 97, 98, 99, 100, 101, 102, 103, 104, 105, 106, 107, 108, 109, 110, 111, 112, 113, 114, 115, 116, 117, 118, 119, 120, 121, 122]
def chr (d : Int) : Int := ((digL.getD d.toNat 0).toNat : Nat)
def textI (z : Int) (b : Nat) : List Int := (if z < 0 then [45] else []) ++ (if z = 0 then [48] else (dg b z.natAbs).reverse.map chr)
theorem map_snoc (f : Int → Int) (ds : List Int) (i : Nat) (h : i < ds.length) : (ds.take (i + 1)).map f = (ds.take i).map f ++ [f (ds.getD i 0)] := by
  rw [List.take_succ_eq_append_getElem h, List.map_append, getD_eq _ _ h]; rfl
theorem bl_128 {n : Nat} (h : (dg 4294967296 n).length ≤ 128) : bl n ≤ 4096 := by
  obtain ⟨k, hk⟩ : ∃ k, k = 128 := ⟨_, rfl⟩
  rw [← hk] at h
  have h1 := lt_of_len (B := 4294967296) (by omega) h
  rw [show (4294967296 : Nat) = 2 ^ 32 from rfl, ← Nat.pow_mul] at h1
  have := bl_lt n _ h1
  omega
def ibt : Cfg := listT [(102, icheckCT), (121, digG)] [28]
theorem ibt_ok : TblOk Try.prog ibt := listT_ok (big := it5) it5_ok ⟨rfl, rfl, trivial⟩
attribute [go_sem] ibt
set_option maxRecDepth 100000 in
set_option maxHeartbeats 3200000 in
theorem iText_ok (a : Int) (b : Nat) (h1 : 2 ≤ b) (h2 : b ≤ 36) (la : (dg 4294967296 a.natAbs).length ≤ 128) :
    Ret Try.prog 45 false [.inr (gI a), .inl (.i .i64 b)] (.t [.inl (.str (strOf (textI a b))), .inr [.i .i64 0, .i .i64 0]]) := by
  have oa := (okZ_g a).trans (decide_eq_true la)
  have ka := okN_128 la
  have dl : (dg b a.natAbs).length ≤ 4096 := Nat.le_trans (dg_len_two b a.natAbs h1 _ (lt_bl _)) (bl_128 la)
  have dp := dg_len_pos b a.natAbs h1
  have din : InB b (dg b a.natAbs).reverse := fun z hz => InB_dg b h1 _ z (List.mem_reverse.1 hz)
  have htx : ∀ pre : List Int, pre = (if a < 0 then [45] else []) → strOf (textI a b) = strOf (pre ++ (if a = 0 then [48] else (dg b a.natAbs).reverse.map chr)) := fun pre h => by rw [h]; rfl
  rw [← List.length_reverse] at dl dp
  generalize hds : (dg b a.natAbs).reverse = ds at *
  by_cases hneg : a < 0
  · have htx := htx [45] (by rw [if_pos hneg])
    rw [if_neg (by omega)] at htx
    have e0 : decide (a < 0) = true := decide_eq_true hneg
    simp only [gI, e0] at oa ⊢
    (refine q_H Try.func45 (fun F => ?_); simp only [q_z,q_y,Try.ntmps45,Try.results45])
    repeat' (first|(with_reducible first|apply q_a|apply q_b|apply q_c|apply q_d|apply q_e|apply q_f|apply q_g|apply q_h|apply q_i|apply q_j|apply q_k|apply q_m|apply q_n|apply q_o|apply q_p|refine q_l ?_)|((with_reducible first|refine q_q ibt_ok fun K hK=>?_|refine q_r ibt_ok fun K hK=>?_);simp (maxSteps:=2000000) only [go_sem,↓reduceIte,reduceCtorEq,Nat.reduceLeDiff,Nat.reduceLT,Nat.reduceBEq,Nat.reduceAdd,oa, ka, hds];(repeat1' with_reducible first|apply And.intro|(intro _;try exact q_v)|(refine hK _ ?_;clear hK K))<;>(try (clear hK K;exact q_u)))|(with_reducible refine q_s ?_;(first|apply q_J|apply q_K|apply q_L|apply q_M|apply q_N|apply q_O)<;>try (intro _;try exact q_v))|with_reducible refine q_t ?_)
    refine q_G (ι := { i : Nat // i ≤ ds.length }) (fun i => ⟨56, [(5, .bx 1 0), (7, .c (.ints .i64 ds)), (9, .own 4 0), (35, .c (.ints .i64 ds)), (36, .c (.i .i64 ds.length)), (37, .c (.i .i64 (i.1 : Nat)))], ⟨[(1, [.c (.i .i64 0), .c (.i .i64 0)])], [(4, ⟨0, 5, 1, .ints .u8 ([45] ++ (ds.take i.1).map chr)⟩)], []⟩, 5⟩) (fun i => ds.length - i.1) ⟨0, by simp⟩ ?_ ?_
    · exact q_D
    rintro ⟨i, g1⟩
    simp only at g1 ⊢
    have b1 := InB_getD (by omega) din i
    have hml : ((ds.take i).map chr).length = i := by simp; omega
    rcases Nat.lt_or_ge i ds.length with hi | hi
    · have hm := map_snoc chr ds i hi
      repeat' (first|(with_reducible first|apply q_a|apply q_b|apply q_c|apply q_d|apply q_e|apply q_f|apply q_g|apply q_h|apply q_i|apply q_j|apply q_k|apply q_m|apply q_n|apply q_o|apply q_p|refine q_l ?_)|((with_reducible first|refine q_q ibt_ok fun K hK=>?_|refine q_r ibt_ok fun K hK=>?_);simp (maxSteps:=2000000) only [go_sem,↓reduceIte,reduceCtorEq,Nat.reduceLeDiff,Nat.reduceLT,Nat.reduceBEq,Nat.reduceAdd,hml];(repeat1' with_reducible first|apply And.intro|(intro _;try exact q_v)|(refine hK _ ?_;clear hK K))<;>(try (clear hK K;exact q_u)))|(with_reducible refine q_s ?_;(first|apply q_J|apply q_K|apply q_L|apply q_M|apply q_N|apply q_O)<;>try (intro _;try exact q_v))|with_reducible refine q_t ?_)
      refine q_F ⟨i + 1, hi⟩ ?_ (by simp only; omega)
      simp only [hm]
      exact q_D
    · have hi' : i = ds.length := by omega
      subst hi'
      rw [List.take_length]
      repeat' (first|(with_reducible first|apply q_a|apply q_b|apply q_c|apply q_d|apply q_e|apply q_f|apply q_g|apply q_h|apply q_i|apply q_j|apply q_k|apply q_m|apply q_n|apply q_o|apply q_p|refine q_l ?_)|((with_reducible first|refine q_q ibt_ok fun K hK=>?_|refine q_r ibt_ok fun K hK=>?_);simp (maxSteps:=2000000) only [go_sem,↓reduceIte,reduceCtorEq,Nat.reduceLeDiff,Nat.reduceLT,Nat.reduceBEq,Nat.reduceAdd];(repeat1' with_reducible first|apply And.intro|(intro _;try exact q_v)|(refine hK _ ?_;clear hK K))<;>(try (clear hK K;exact q_u)))|(with_reducible refine q_s ?_;(first|apply q_J|apply q_K|apply q_L|apply q_M|apply q_N|apply q_O)<;>try (intro _;try exact q_v))|with_reducible refine q_t ?_)
      exact q_A (by rw [htx]; rfl)
  · have htx := htx [] (by rw [if_neg hneg])
    have e0 : decide (a < 0) = false := decide_eq_false hneg
    simp only [gI, e0] at oa ⊢
    (refine q_H Try.func45 (fun F => ?_); simp only [q_z,q_y,Try.ntmps45,Try.results45])
    repeat' (first|(with_reducible first|apply q_a|apply q_b|apply q_c|apply q_d|apply q_e|apply q_f|apply q_g|apply q_h|apply q_i|apply q_j|apply q_k|apply q_m|apply q_n|apply q_o|apply q_p|refine q_l ?_)|((with_reducible first|refine q_q ibt_ok fun K hK=>?_|refine q_r ibt_ok fun K hK=>?_);simp (maxSteps:=2000000) only [go_sem,↓reduceIte,reduceCtorEq,Nat.reduceLeDiff,Nat.reduceLT,Nat.reduceBEq,Nat.reduceAdd,oa, ka, hds];(repeat1' with_reducible first|apply And.intro|(intro _;try exact q_v)|(refine hK _ ?_;clear hK K))<;>(try (clear hK K;exact q_u)))|(with_reducible refine q_s ?_;(first|apply q_J|apply q_K|apply q_L|apply q_M|apply q_N|apply q_O)<;>try (intro _;try exact q_v))|with_reducible refine q_t ?_)
    refine q_G (ι := { i : Nat // i ≤ ds.length }) (fun i => ⟨56, [(5, .bx 1 0), (7, .c (.ints .i64 ds)), (9, .own 4 0), (35, .c (.ints .i64 ds)), (36, .c (.i .i64 ds.length)), (37, .c (.i .i64 (i.1 : Nat)))], ⟨[(1, [.c (.i .i64 0), .c (.i .i64 0)])], [(4, ⟨0, 5, 1, .ints .u8 ((ds.take i.1).map chr)⟩)], []⟩, 5⟩) (fun i => ds.length - i.1) ⟨0, by simp⟩ ?_ ?_
    · exact q_D
    rintro ⟨i, g1⟩
    simp only at g1 ⊢
    have b1 := InB_getD (by omega) din i
    have hml : ((ds.take i).map chr).length = i := by simp; omega
    rcases Nat.lt_or_ge i ds.length with hi | hi
    · have hm := map_snoc chr ds i hi
      repeat' (first|(with_reducible first|apply q_a|apply q_b|apply q_c|apply q_d|apply q_e|apply q_f|apply q_g|apply q_h|apply q_i|apply q_j|apply q_k|apply q_m|apply q_n|apply q_o|apply q_p|refine q_l ?_)|((with_reducible first|refine q_q ibt_ok fun K hK=>?_|refine q_r ibt_ok fun K hK=>?_);simp (maxSteps:=2000000) only [go_sem,↓reduceIte,reduceCtorEq,Nat.reduceLeDiff,Nat.reduceLT,Nat.reduceBEq,Nat.reduceAdd,hml];(repeat1' with_reducible first|apply And.intro|(intro _;try exact q_v)|(refine hK _ ?_;clear hK K))<;>(try (clear hK K;exact q_u)))|(with_reducible refine q_s ?_;(first|apply q_J|apply q_K|apply q_L|apply q_M|apply q_N|apply q_O)<;>try (intro _;try exact q_v))|with_reducible refine q_t ?_)
      refine q_F ⟨i + 1, hi⟩ ?_ (by simp only; omega)
      simp only [hm]
      exact q_D
    · have hi' : i = ds.length := by omega
      subst hi'
      rw [List.take_length]
      by_cases hz : a = 0
      · have h0 : ds = [] := List.eq_nil_of_length_eq_zero (by omega)
        subst h0
        rw [if_pos hz] at htx
        repeat' (first|(with_reducible first|apply q_a|apply q_b|apply q_c|apply q_d|apply q_e|apply q_f|apply q_g|apply q_h|apply q_i|apply q_j|apply q_k|apply q_m|apply q_n|apply q_o|apply q_p|refine q_l ?_)|((with_reducible first|refine q_q ibt_ok fun K hK=>?_|refine q_r ibt_ok fun K hK=>?_);simp (maxSteps:=2000000) only [go_sem,↓reduceIte,reduceCtorEq,Nat.reduceLeDiff,Nat.reduceLT,Nat.reduceBEq,Nat.reduceAdd];(repeat1' with_reducible first|apply And.intro|(intro _;try exact q_v)|(refine hK _ ?_;clear hK K))<;>(try (clear hK K;exact q_u)))|(with_reducible refine q_s ?_;(first|apply q_J|apply q_K|apply q_L|apply q_M|apply q_N|apply q_O)<;>try (intro _;try exact q_v))|with_reducible refine q_t ?_)
        exact q_A (by rw [htx]; rfl)
      · rw [if_neg hz] at htx
        repeat' (first|(with_reducible first|apply q_a|apply q_b|apply q_c|apply q_d|apply q_e|apply q_f|apply q_g|apply q_h|apply q_i|apply q_j|apply q_k|apply q_m|apply q_n|apply q_o|apply q_p|refine q_l ?_)|((with_reducible first|refine q_q ibt_ok fun K hK=>?_|refine q_r ibt_ok fun K hK=>?_);simp (maxSteps:=2000000) only [go_sem,↓reduceIte,reduceCtorEq,Nat.reduceLeDiff,Nat.reduceLT,Nat.reduceBEq,Nat.reduceAdd];(repeat1' with_reducible first|apply And.intro|(intro _;try exact q_v)|(refine hK _ ?_;clear hK K))<;>(try (clear hK K;exact q_u)))|(with_reducible refine q_s ?_;(first|apply q_J|apply q_K|apply q_L|apply q_M|apply q_N|apply q_O)<;>try (intro _;try exact q_v))|with_reducible refine q_t ?_)
        exact q_A (by rw [htx]; rfl)
def iTextCT : CT := mkCT [nP] true fun l K => match l with
  | [.inr [.b s, .ints .u32 xs], .inl (.i .i64 b)] => (okZ s xs = true ∧ InB 4294967296 xs ∧ 2 ≤ b ∧ b ≤ 36) ∧ K (.t [.inl (.str (strOf (textI (sv 4294967296 s xs) b.toNat))), .inr [.i .i64 0, .i .i64 0]])
  | _ => False
def iu2 : Cfg := addT 45 iTextCT iu1
theorem iu2_ok : TblOk Try.prog iu2 := q_I iu1_ok Try.func45 fun l K h => by
  split at h
  · rename_i s xs b
    obtain ⟨⟨h1, h2, h3, h4⟩, h⟩ := h
    obtain ⟨e1, e2, e3⟩ := okZ_eq h1 h2
    obtain ⟨n, rfl⟩ : ∃ n : Nat, b = n := ⟨b.toNat, by omega⟩
    have := iText_ok (sv 4294967296 s xs) n (by omega) (by omega) (by rw [← e2]; exact e3)
    simp only [gI, ← e1, ← e2] at this
    exact ⟨_, this.plain rfl, by simpa using h⟩
  · exact h.elim
attribute [go_sem] iTextCT

set_option maxHeartbeats 800000 in
theorem equal_ret (xs ys : List Int) (hx : xs.length ≤ 16777216) (hy : ys.length ≤ 16777216) : Ret Try.prog 130 false [.inl (.ints .u32 xs), .inl (.ints .u32 ys)] (.c (.b (decide (xs = ys)))) := by
  (refine q_H Try.func130 (fun F => ?_); simp only [q_z,q_y,Try.ntmps130,Try.results130])
  repeat' (first|(with_reducible first|apply q_a|apply q_b|apply q_c|apply q_d|apply q_e|apply q_f|apply q_g|apply q_h|apply q_i|apply q_j|apply q_k|apply q_m|apply q_n|apply q_o|apply q_p|refine q_l ?_)|((with_reducible first|refine q_q cf0_ok fun K hK=>?_|refine q_r cf0_ok fun K hK=>?_);simp (maxSteps:=2000000) only [go_sem,↓reduceIte,reduceCtorEq,Nat.reduceLeDiff,Nat.reduceLT,Nat.reduceBEq,Nat.reduceAdd];(repeat1' with_reducible first|apply And.intro|intro _|(refine hK _ ?_;clear hK K))<;>(try (clear hK K;exact q_u)))|(with_reducible refine q_s ?_;(first|apply q_J|apply q_K|apply q_L|apply q_M|apply q_N|apply q_O)<;>try intro _)|with_reducible refine q_t ?_)
  · rename_i hl
    exact q_A (by simp only [resAV, q_y]; rw [decide_eq_false (fun h => hl (by rw [h]))])
  rename_i hl
  have hl : xs.length = ys.length := by omega
  refine q_G (ι := { i : Nat // i ≤ xs.length ∧ xs.take i = ys.take i }) (fun i => ⟨26, [(0, .c (.ints .u32 xs)), (1, .c (.ints .u32 ys)), (12, .c (.i .i64 xs.length)), (13, .c (.i .i64 i.1))], ⟨[], [], []⟩, 0⟩) (fun i => xs.length - i.1) ⟨0, by simp, by simp⟩ ?_ ?_
  · exact q_D
  rintro ⟨i, h1, h2⟩
  simp only
  repeat' (first|(with_reducible first|apply q_a|apply q_b|apply q_c|apply q_d|apply q_e|apply q_f|apply q_g|apply q_h|apply q_i|apply q_j|apply q_k|apply q_m|apply q_n|apply q_o|apply q_p|refine q_l ?_)|((with_reducible first|refine q_q cf0_ok fun K hK=>?_|refine q_r cf0_ok fun K hK=>?_);simp (maxSteps:=2000000) only [go_sem,↓reduceIte,reduceCtorEq,Nat.reduceLeDiff,Nat.reduceLT,Nat.reduceBEq,Nat.reduceAdd];(repeat1' with_reducible first|apply And.intro|intro _|(refine hK _ ?_;clear hK K))<;>(try (clear hK K;exact q_u)))|(with_reducible refine q_s ?_;(first|apply q_J|apply q_K|apply q_L|apply q_M|apply q_N|apply q_O)<;>try intro _)|with_reducible refine q_t ?_)
  · rename_i h3 hne
    exact q_A (by simp only [resAV, q_y]; rw [decide_eq_false (fun h => hne (by rw [h]))])
  · rename_i h3 he
    refine q_F ⟨i + 1, by omega, ?_⟩ ?_ ?_
    · rw [List.take_succ_eq_append_getElem (by omega), List.take_succ_eq_append_getElem (by omega), h2]
      have e : xs.getD i 0 = ys.getD i 0 := by omega
      rw [getD_eq xs i (by omega), getD_eq ys i (by omega)] at e
      rw [e]
    · exact q_D
    · show xs.length - (i + 1) < xs.length - i
      omega
  · rename_i h3
    rw [List.take_of_length_le (by omega), List.take_of_length_le (by omega)] at h2
    exact q_A (by simp only [resAV, q_y]; rw [decide_eq_true h2])
def iu3 : Cfg := addT 130 sameCT iu2
theorem iu3_ok : TblOk Try.prog iu3 := q_I iu2_ok Try.func130 fun l K h => by
  split at h
  · exact ⟨_, (equal_ret _ _ h.1.1 h.1.2).plain rfl, h.2⟩
  · exact h.elim

end Go.Proofs.Ytneecniebhhhlaa
