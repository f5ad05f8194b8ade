import Derived.Test.YtlflfhcfljiciaaGreatE10
import Derived.Test.YtlflfhcfljiciaaGreatE12
namespace Go.Proofs.YtlflfhcfljiciaaGreat
set_option linter.unusedSimpArgs false
set_option linter.unusedVariables false
open Go.Abs Go.Proofs.NatL

theorem two_limbs (m : Nat) (h : m < 18446744073709551616) : trimL [((m % 4294967296 : Nat) : Int), ((m / 4294967296 : Nat) : Int)] = dg 4294967296 m := by
  rw [trimL_eq 4294967296 (by omega) _ (InB_two ⟨by omega, by omega⟩ ⟨by omega, by omega⟩)]
  congr 1
  simp only [V, Int.toNat_natCast]
  omega
set_option maxHeartbeats 1600000 in
theorem iOf_ret (n : Int) (hn : -9223372036854775808 ≤ n ∧ n ≤ 9223372036854775807) : Ret Tryz.prog 27 false [.inl (.i .i64 n)] (.g (gI n)) := by
  obtain ⟨m, hm⟩ : ∃ m : Nat, m = n.natAbs := ⟨_, rfl⟩
  have hml : m < 18446744073709551616 := by omega
  have hlo : ((m : Int)) % 4294967296 = ((m % 4294967296 : Nat) : Int) := by omega
  have hhi : ((m : Int)) / 4294967296 % 4294967296 = ((m / 4294967296 : Nat) : Int) := by omega
  have ht := two_limbs m hml
  simp only [gI, ← hm]
  have key : ∀ st : Bool, st = decide (n < 0) → Ret Tryz.prog 27 false [.inl (.i .i64 n)] (.g [.b st, .ints .u32 (dg 4294967296 m)]) := by
    intro st hst
    by_cases h : n < 0
    · have e1 : (0 - n % 18446744073709551616) % 18446744073709551616 = (m : Int) := by omega
      have e0 : decide (n < 0) = true := decide_eq_true h
      (refine q_H Tryz.func27 (fun F => ?_); simp only [q_z,q_y,Tryz.ntmps27,Tryz.results27])
      repeat' (first|(with_reducible first|apply q_a|apply q_b|apply q_c|apply q_d|apply q_e|apply q_f|apply q_g|apply q_h|apply q_i|apply q_j|apply q_k|apply q_m|apply q_n|apply q_o|apply q_p|refine q_l ?_)|((with_reducible first|refine q_q ib_ok fun K hK=>?_|refine q_r ib_ok fun K hK=>?_);simp (maxSteps:=2000000) only [go_sem,↓reduceIte,reduceCtorEq,Nat.reduceLeDiff,Nat.reduceLT,Nat.reduceBEq,Nat.reduceAdd,e1, hlo, hhi];(repeat1' with_reducible first|apply And.intro|(intro _;try exact q_v)|(refine hK _ ?_;clear hK K))<;>(try (clear hK K;exact q_u)))|(with_reducible refine q_s ?_;(first|apply q_J|apply q_K|apply q_L|apply q_M|apply q_N|apply q_O)<;>try (intro _;try exact q_v))|with_reducible refine q_t ?_)
      generalize hX : [((m % 4294967296 : Nat) : Int), ((m / 4294967296 : Nat) : Int)] = xs at *
      have hxl : xs.length = 2 := by rw [← hX]; rfl
      refine q_G (ι := { k : Nat // k ≤ 2 ∧ trimL (xs.take k) = trimL xs }) (fun k => ⟨38, [(0, .c (.i .i64 n)), (2, .bx 0 0), (4, .c (.ints .u32 (xs.take k.1)))], ⟨[(0, [.c (.b false), .c .nil])], [], []⟩, 1⟩) (fun k => k.1) ⟨2, by omega, by rw [List.take_of_length_le (by omega)]⟩ ?_ ?_
      · ((simp only [go_sem,↓reduceIte,reduceCtorEq,Nat.reduceLeDiff,Nat.reduceLT,Nat.reduceBEq,Nat.reduceAdd])<;>(try (simp;done))<;>(try ((simp only [C.i.injEq,C.b.injEq,C.ints.injEq,C.bools.injEq,List.append_cancel_left_eq,List.cons.injEq,true_and,and_true]);(repeat' with_reducible apply And.intro)<;>(first|rfl|assumption|omega|(simp;omega)|(congr 1;omega)|(congr 2;omega)))))
        all_goals (rw [← hX]; rfl)
      rintro ⟨k, h1, h2⟩
      simp only at h1 h2 ⊢
      have ek : 0 < k → ((k : Int) - 1).toNat = k - 1 := fun _ => by omega
      have e3 : (xs.take k).length = k := by simp; omega
      have e2 : 0 < k → (xs.take k).getD (k - 1) 0 = xs.getD (k - 1) 0 := fun h => by
        simp only [List.getD_eq_getElem?_getD, List.getElem?_take]
        rw [if_pos (by omega)]
      rcases Nat.eq_zero_or_pos k with hk | hk
      · subst hk
        rw [List.take_zero] at h2
        repeat' (first|(with_reducible first|apply q_a|apply q_b|apply q_c|apply q_d|apply q_e|apply q_f|apply q_g|apply q_h|apply q_i|apply q_j|apply q_k|apply q_m|apply q_n|apply q_o|apply q_p|refine q_l ?_)|((with_reducible first|refine q_q ib_ok fun K hK=>?_|refine q_r ib_ok fun K hK=>?_);simp (maxSteps:=2000000) only [go_sem,↓reduceIte,reduceCtorEq,Nat.reduceLeDiff,Nat.reduceLT,Nat.reduceBEq,Nat.reduceAdd,List.take_zero, e0];(repeat1' with_reducible first|apply And.intro|(intro _;try exact q_v)|(refine hK _ ?_;clear hK K))<;>(try (clear hK K;exact q_u)))|(with_reducible refine q_s ?_;(first|apply q_J|apply q_K|apply q_L|apply q_M|apply q_N|apply q_O)<;>try (intro _;try exact q_v))|with_reducible refine q_t ?_)
        exact q_A (by rw [hst, e0, ← ht, ← h2]; rfl)
      · have ek := ek hk
        have e2 := e2 hk
        have tk : (xs.take k).take (k - 1) = xs.take (k - 1) := by rw [List.take_take, Nat.min_eq_left (by omega)]
        by_cases hz : xs.getD (k - 1) 0 = 0
        · repeat' (first|(with_reducible first|apply q_a|apply q_b|apply q_c|apply q_d|apply q_e|apply q_f|apply q_g|apply q_h|apply q_i|apply q_j|apply q_k|apply q_m|apply q_n|apply q_o|apply q_p|refine q_l ?_)|((with_reducible first|refine q_q ib_ok fun K hK=>?_|refine q_r ib_ok fun K hK=>?_);simp (maxSteps:=2000000) only [go_sem,↓reduceIte,reduceCtorEq,Nat.reduceLeDiff,Nat.reduceLT,Nat.reduceBEq,Nat.reduceAdd,e3, ek, e2, hz, tk];(repeat1' with_reducible first|apply And.intro|(intro _;try exact q_v)|(refine hK _ ?_;clear hK K))<;>(try (clear hK K;exact q_u)))|(with_reducible refine q_s ?_;(first|apply q_J|apply q_K|apply q_L|apply q_M|apply q_N|apply q_O)<;>try (intro _;try exact q_v))|with_reducible refine q_t ?_)
          have := trimL_drop (xs.take k) (by omega) (by rw [e3, e2]; exact hz)
          rw [e3, tk] at this
          refine q_F ⟨k - 1, by omega, by rw [this, h2]⟩ ?_ (by simp only; omega)
          exact q_D
        · have hs := trimL_stop (xs.take k) (.inr (by rw [e3, e2]; exact hz))
          repeat' (first|(with_reducible first|apply q_a|apply q_b|apply q_c|apply q_d|apply q_e|apply q_f|apply q_g|apply q_h|apply q_i|apply q_j|apply q_k|apply q_m|apply q_n|apply q_o|apply q_p|refine q_l ?_)|((with_reducible first|refine q_q ib_ok fun K hK=>?_|refine q_r ib_ok fun K hK=>?_);simp (maxSteps:=2000000) only [go_sem,↓reduceIte,reduceCtorEq,Nat.reduceLeDiff,Nat.reduceLT,Nat.reduceBEq,Nat.reduceAdd,e3, ek, e2, e0];(repeat1' with_reducible first|apply And.intro|(intro _;try exact q_v)|(refine hK _ ?_;clear hK K))<;>(try (clear hK K;exact q_u)))|(with_reducible refine q_s ?_;(first|apply q_J|apply q_K|apply q_L|apply q_M|apply q_N|apply q_O)<;>try (intro _;try exact q_v))|with_reducible refine q_t ?_)
          exact q_A (by rw [hst, e0, ← ht, ← h2, hs]; rfl)
    · have e1 : n % 18446744073709551616 = (m : Int) := by omega
      have e0 : decide (n < 0) = false := decide_eq_false h
      (refine q_H Tryz.func27 (fun F => ?_); simp only [q_z,q_y,Tryz.ntmps27,Tryz.results27])
      repeat' (first|(with_reducible first|apply q_a|apply q_b|apply q_c|apply q_d|apply q_e|apply q_f|apply q_g|apply q_h|apply q_i|apply q_j|apply q_k|apply q_m|apply q_n|apply q_o|apply q_p|refine q_l ?_)|((with_reducible first|refine q_q ib_ok fun K hK=>?_|refine q_r ib_ok fun K hK=>?_);simp (maxSteps:=2000000) only [go_sem,↓reduceIte,reduceCtorEq,Nat.reduceLeDiff,Nat.reduceLT,Nat.reduceBEq,Nat.reduceAdd,e1, hlo, hhi];(repeat1' with_reducible first|apply And.intro|(intro _;try exact q_v)|(refine hK _ ?_;clear hK K))<;>(try (clear hK K;exact q_u)))|(with_reducible refine q_s ?_;(first|apply q_J|apply q_K|apply q_L|apply q_M|apply q_N|apply q_O)<;>try (intro _;try exact q_v))|with_reducible refine q_t ?_)
      generalize hX : [((m % 4294967296 : Nat) : Int), ((m / 4294967296 : Nat) : Int)] = xs at *
      have hxl : xs.length = 2 := by rw [← hX]; rfl
      refine q_G (ι := { k : Nat // k ≤ 2 ∧ trimL (xs.take k) = trimL xs }) (fun k => ⟨38, [(0, .c (.i .i64 n)), (2, .bx 0 0), (4, .c (.ints .u32 (xs.take k.1)))], ⟨[(0, [.c (.b false), .c .nil])], [], []⟩, 1⟩) (fun k => k.1) ⟨2, by omega, by rw [List.take_of_length_le (by omega)]⟩ ?_ ?_
      · ((simp only [go_sem,↓reduceIte,reduceCtorEq,Nat.reduceLeDiff,Nat.reduceLT,Nat.reduceBEq,Nat.reduceAdd])<;>(try (simp;done))<;>(try ((simp only [C.i.injEq,C.b.injEq,C.ints.injEq,C.bools.injEq,List.append_cancel_left_eq,List.cons.injEq,true_and,and_true]);(repeat' with_reducible apply And.intro)<;>(first|rfl|assumption|omega|(simp;omega)|(congr 1;omega)|(congr 2;omega)))))
        all_goals (rw [← hX]; rfl)
      rintro ⟨k, h1, h2⟩
      simp only at h1 h2 ⊢
      have ek : 0 < k → ((k : Int) - 1).toNat = k - 1 := fun _ => by omega
      have e3 : (xs.take k).length = k := by simp; omega
      have e2 : 0 < k → (xs.take k).getD (k - 1) 0 = xs.getD (k - 1) 0 := fun h => by
        simp only [List.getD_eq_getElem?_getD, List.getElem?_take]
        rw [if_pos (by omega)]
      rcases Nat.eq_zero_or_pos k with hk | hk
      · subst hk
        rw [List.take_zero] at h2
        repeat' (first|(with_reducible first|apply q_a|apply q_b|apply q_c|apply q_d|apply q_e|apply q_f|apply q_g|apply q_h|apply q_i|apply q_j|apply q_k|apply q_m|apply q_n|apply q_o|apply q_p|refine q_l ?_)|((with_reducible first|refine q_q ib_ok fun K hK=>?_|refine q_r ib_ok fun K hK=>?_);simp (maxSteps:=2000000) only [go_sem,↓reduceIte,reduceCtorEq,Nat.reduceLeDiff,Nat.reduceLT,Nat.reduceBEq,Nat.reduceAdd,List.take_zero, e0];(repeat1' with_reducible first|apply And.intro|(intro _;try exact q_v)|(refine hK _ ?_;clear hK K))<;>(try (clear hK K;exact q_u)))|(with_reducible refine q_s ?_;(first|apply q_J|apply q_K|apply q_L|apply q_M|apply q_N|apply q_O)<;>try (intro _;try exact q_v))|with_reducible refine q_t ?_)
        exact q_A (by rw [hst, e0, ← ht, ← h2]; rfl)
      · have ek := ek hk
        have e2 := e2 hk
        have tk : (xs.take k).take (k - 1) = xs.take (k - 1) := by rw [List.take_take, Nat.min_eq_left (by omega)]
        by_cases hz : xs.getD (k - 1) 0 = 0
        · repeat' (first|(with_reducible first|apply q_a|apply q_b|apply q_c|apply q_d|apply q_e|apply q_f|apply q_g|apply q_h|apply q_i|apply q_j|apply q_k|apply q_m|apply q_n|apply q_o|apply q_p|refine q_l ?_)|((with_reducible first|refine q_q ib_ok fun K hK=>?_|refine q_r ib_ok fun K hK=>?_);simp (maxSteps:=2000000) only [go_sem,↓reduceIte,reduceCtorEq,Nat.reduceLeDiff,Nat.reduceLT,Nat.reduceBEq,Nat.reduceAdd,e3, ek, e2, hz, tk];(repeat1' with_reducible first|apply And.intro|(intro _;try exact q_v)|(refine hK _ ?_;clear hK K))<;>(try (clear hK K;exact q_u)))|(with_reducible refine q_s ?_;(first|apply q_J|apply q_K|apply q_L|apply q_M|apply q_N|apply q_O)<;>try (intro _;try exact q_v))|with_reducible refine q_t ?_)
          have := trimL_drop (xs.take k) (by omega) (by rw [e3, e2]; exact hz)
          rw [e3, tk] at this
          refine q_F ⟨k - 1, by omega, by rw [this, h2]⟩ ?_ (by simp only; omega)
          exact q_D
        · have hs := trimL_stop (xs.take k) (.inr (by rw [e3, e2]; exact hz))
          repeat' (first|(with_reducible first|apply q_a|apply q_b|apply q_c|apply q_d|apply q_e|apply q_f|apply q_g|apply q_h|apply q_i|apply q_j|apply q_k|apply q_m|apply q_n|apply q_o|apply q_p|refine q_l ?_)|((with_reducible first|refine q_q ib_ok fun K hK=>?_|refine q_r ib_ok fun K hK=>?_);simp (maxSteps:=2000000) only [go_sem,↓reduceIte,reduceCtorEq,Nat.reduceLeDiff,Nat.reduceLT,Nat.reduceBEq,Nat.reduceAdd,e3, ek, e2, e0];(repeat1' with_reducible first|apply And.intro|(intro _;try exact q_v)|(refine hK _ ?_;clear hK K))<;>(try (clear hK K;exact q_u)))|(with_reducible refine q_s ?_;(first|apply q_J|apply q_K|apply q_L|apply q_M|apply q_N|apply q_O)<;>try (intro _;try exact q_v))|with_reducible refine q_t ?_)
          exact q_A (by rw [hst, e0, ← ht, ← h2, hs]; rfl)
  exact key _ rfl
def iOfCT : CT := mkCT [] false fun l K => match l with
  | [.inl (.i .i64 n)] => (-9223372036854775808 ≤ n ∧ n ≤ 9223372036854775807) ∧ K (.g (gI n))
  | _ => False
def iu1 : Cfg := addT 27 iOfCT it5
theorem iu1_ok : TblOk Tryz.prog iu1 := q_I it5_ok Tryz.func27 fun l K h => by
  split at h
  · exact ⟨_, iOf_ret _ h.1, h.2⟩
  · exact h.elim
attribute [go_sem] iOfCT
def digL : List UInt8 := [48, 49, 50, 51, 52, 53, 54, 55, 56, 57, 97, 98, 99, 100, 101, 102, 103, 104, 105, 106, 107, 108, 109, 110, 111, 112, 113, 114, 115, 116, 117, 118, 119, 120, 121, 122]
def chr (d : Int) : Int := ((digL.getD d.toNat 0).toNat : Nat)
def textI (z : Int) (b : Nat) : List Int := (if z < 0 then [45] else []) ++ (if z = 0 then [48] else (dg b z.natAbs).reverse.map chr)
theorem map_snoc (f : Int → Int) (ds : List Int) (i : Nat) (h : i < ds.length) : (ds.take (i + 1)).map f = (ds.take i).map f ++ [f (ds.getD i 0)] := by
  rw [List.take_succ_eq_append_getElem h, List.map_append, getD_eq _ _ h]; rfl
theorem bl_128 {n : Nat} (h : (dg 4294967296 n).length ≤ 128) : bl n ≤ 4096 := by
  obtain ⟨k, hk⟩ : ∃ k, k = 128 := ⟨_, rfl⟩
  rw [← hk] at h
  have h1 := lt_of_len (B := 4294967296) (by omega) h
  rw [show (4294967296 : Nat) = 2 ^ 32 from rfl, ← Nat.pow_mul] at h1
  have := bl_lt n _ h1
  omega
def ibt : Cfg := listT [(42, icheckCT), (43, digG)] [28]
theorem ibt_ok : TblOk Tryz.prog ibt := listT_ok (big := it5) it5_ok ⟨rfl, rfl, trivial⟩
attribute [go_sem] ibt
set_option maxRecDepth 100000 in
set_option maxHeartbeats 3200000 in
theorem iText_ok (a : Int) (b : Nat) (h1 : 2 ≤ b) (h2 : b ≤ 36) (la : (dg 4294967296 a.natAbs).length ≤ 128) :
    Ret Tryz.prog 21 false [.inr (gI a), .inl (.i .i64 b)] (.t [.inl (.str (strOf (textI a b))), .inr [.i .i64 0, .i .i64 0]]) := by
  have oa := (okZ_g a).trans (decide_eq_true la)
  have ka := okN_128 la
  have dl : (dg b a.natAbs).length ≤ 4096 := Nat.le_trans (dg_len_two b a.natAbs h1 _ (lt_bl _)) (bl_128 la)
  have dp := dg_len_pos b a.natAbs h1
  have din : InB b (dg b a.natAbs).reverse := fun z hz => InB_dg b h1 _ z (List.mem_reverse.1 hz)
  have htx : ∀ pre : List Int, pre = (if a < 0 then [45] else []) → strOf (textI a b) = strOf (pre ++ (if a = 0 then [48] else (dg b a.natAbs).reverse.map chr)) := fun pre h => by rw [h]; rfl
  rw [← List.length_reverse] at dl dp
  generalize hds : (dg b a.natAbs).reverse = ds at *
  by_cases hneg : a < 0
  · have htx := htx [45] (by rw [if_pos hneg])
    rw [if_neg (by omega)] at htx
    have e0 : decide (a < 0) = true := decide_eq_true hneg
    simp only [gI, e0] at oa ⊢
    (refine q_H Tryz.func21 (fun F => ?_); simp only [q_z,q_y,Tryz.ntmps21,Tryz.results21])
    repeat' (first|(with_reducible first|apply q_a|apply q_b|apply q_c|apply q_d|apply q_e|apply q_f|apply q_g|apply q_h|apply q_i|apply q_j|apply q_k|apply q_m|apply q_n|apply q_o|apply q_p|refine q_l ?_)|((with_reducible first|refine q_q ibt_ok fun K hK=>?_|refine q_r ibt_ok fun K hK=>?_);simp (maxSteps:=2000000) only [go_sem,↓reduceIte,reduceCtorEq,Nat.reduceLeDiff,Nat.reduceLT,Nat.reduceBEq,Nat.reduceAdd,oa, ka, hds];(repeat1' with_reducible first|apply And.intro|(intro _;try exact q_v)|(refine hK _ ?_;clear hK K))<;>(try (clear hK K;exact q_u)))|(with_reducible refine q_s ?_;(first|apply q_J|apply q_K|apply q_L|apply q_M|apply q_N|apply q_O)<;>try (intro _;try exact q_v))|with_reducible refine q_t ?_)
    refine q_G (ι := { i : Nat // i ≤ ds.length }) (fun i => ⟨56, [(5, .bx 1 0), (7, .c (.ints .i64 ds)), (9, .own 4 0), (35, .c (.ints .i64 ds)), (36, .c (.i .i64 ds.length)), (37, .c (.i .i64 (i.1 : Nat)))], ⟨[(1, [.c (.i .i64 0), .c (.i .i64 0)])], [(4, ⟨0, 5, 1, .ints .u8 ([45] ++ (ds.take i.1).map chr)⟩)], []⟩, 5⟩) (fun i => ds.length - i.1) ⟨0, by simp⟩ ?_ ?_
    · exact q_D
    rintro ⟨i, g1⟩
    simp only at g1 ⊢
    have b1 := InB_getD (by omega) din i
    have hml : ((ds.take i).map chr).length = i := by simp; omega
    rcases Nat.lt_or_ge i ds.length with hi | hi
    · have hm := map_snoc chr ds i hi
      repeat' (first|(with_reducible first|apply q_a|apply q_b|apply q_c|apply q_d|apply q_e|apply q_f|apply q_g|apply q_h|apply q_i|apply q_j|apply q_k|apply q_m|apply q_n|apply q_o|apply q_p|refine q_l ?_)|((with_reducible first|refine q_q ibt_ok fun K hK=>?_|refine q_r ibt_ok fun K hK=>?_);simp (maxSteps:=2000000) only [go_sem,↓reduceIte,reduceCtorEq,Nat.reduceLeDiff,Nat.reduceLT,Nat.reduceBEq,Nat.reduceAdd,hml];(repeat1' with_reducible first|apply And.intro|(intro _;try exact q_v)|(refine hK _ ?_;clear hK K))<;>(try (clear hK K;exact q_u)))|(with_reducible refine q_s ?_;(first|apply q_J|apply q_K|apply q_L|apply q_M|apply q_N|apply q_O)<;>try (intro _;try exact q_v))|with_reducible refine q_t ?_)
      refine q_F ⟨i + 1, hi⟩ ?_ (by simp only; omega)
      simp only [hm]
      exact q_D
    · have hi' : i = ds.length := by omega
      subst hi'
      rw [List.take_length]
      repeat' (first|(with_reducible first|apply q_a|apply q_b|apply q_c|apply q_d|apply q_e|apply q_f|apply q_g|apply q_h|apply q_i|apply q_j|apply q_k|apply q_m|apply q_n|apply q_o|apply q_p|refine q_l ?_)|((with_reducible first|refine q_q ibt_ok fun K hK=>?_|refine q_r ibt_ok fun K hK=>?_);simp (maxSteps:=2000000) only [go_sem,↓reduceIte,reduceCtorEq,Nat.reduceLeDiff,Nat.reduceLT,Nat.reduceBEq,Nat.reduceAdd];(repeat1' with_reducible first|apply And.intro|(intro _;try exact q_v)|(refine hK _ ?_;clear hK K))<;>(try (clear hK K;exact q_u)))|(with_reducible refine q_s ?_;(first|apply q_J|apply q_K|apply q_L|apply q_M|apply q_N|apply q_O)<;>try (intro _;try exact q_v))|with_reducible refine q_t ?_)
      exact q_A (by rw [htx]; rfl)
  · have htx := htx [] (by rw [if_neg hneg])
    have e0 : decide (a < 0) = false := decide_eq_false hneg
    simp only [gI, e0] at oa ⊢
    (refine q_H Tryz.func21 (fun F => ?_); simp only [q_z,q_y,Tryz.ntmps21,Tryz.results21])
    repeat' (first|(with_reducible first|apply q_a|apply q_b|apply q_c|apply q_d|apply q_e|apply q_f|apply q_g|apply q_h|apply q_i|apply q_j|apply q_k|apply q_m|apply q_n|apply q_o|apply q_p|refine q_l ?_)|((with_reducible first|refine q_q ibt_ok fun K hK=>?_|refine q_r ibt_ok fun K hK=>?_);simp (maxSteps:=2000000) only [go_sem,↓reduceIte,reduceCtorEq,Nat.reduceLeDiff,Nat.reduceLT,Nat.reduceBEq,Nat.reduceAdd,oa, ka, hds];(repeat1' with_reducible first|apply And.intro|(intro _;try exact q_v)|(refine hK _ ?_;clear hK K))<;>(try (clear hK K;exact q_u)))|(with_reducible refine q_s ?_;(first|apply q_J|apply q_K|apply q_L|apply q_M|apply q_N|apply q_O)<;>try (intro _;try exact q_v))|with_reducible refine q_t ?_)
    refine q_G (ι := { i : Nat // i ≤ ds.length }) (fun i => ⟨56, [(5, .bx 1 0), (7, .c (.ints .i64 ds)), (9, .own 4 0), (35, .c (.ints .i64 ds)), (36, .c (.i .i64 ds.length)), (37, .c (.i .i64 (i.1 : Nat)))], ⟨[(1, [.c (.i .i64 0), .c (.i .i64 0)])], [(4, ⟨0, 5, 1, .ints .u8 ((ds.take i.1).map chr)⟩)], []⟩, 5⟩) (fun i => ds.length - i.1) ⟨0, by simp⟩ ?_ ?_
    · exact q_D
    rintro ⟨i, g1⟩
    simp only at g1 ⊢
    have b1 := InB_getD (by omega) din i
    have hml : ((ds.take i).map chr).length = i := by simp; omega
    rcases Nat.lt_or_ge i ds.length with hi | hi
    · have hm := map_snoc chr ds i hi
      repeat' (first|(with_reducible first|apply q_a|apply q_b|apply q_c|apply q_d|apply q_e|apply q_f|apply q_g|apply q_h|apply q_i|apply q_j|apply q_k|apply q_m|apply q_n|apply q_o|apply q_p|refine q_l ?_)|((with_reducible first|refine q_q ibt_ok fun K hK=>?_|refine q_r ibt_ok fun K hK=>?_);simp (maxSteps:=2000000) only [go_sem,↓reduceIte,reduceCtorEq,Nat.reduceLeDiff,Nat.reduceLT,Nat.reduceBEq,Nat.reduceAdd,hml];(repeat1' with_reducible first|apply And.intro|(intro _;try exact q_v)|(refine hK _ ?_;clear hK K))<;>(try (clear hK K;exact q_u)))|(with_reducible refine q_s ?_;(first|apply q_J|apply q_K|apply q_L|apply q_M|apply q_N|apply q_O)<;>try (intro _;try exact q_v))|with_reducible refine q_t ?_)
      refine q_F ⟨i + 1, hi⟩ ?_ (by simp only; omega)
      simp only [hm]
      exact q_D
    · have hi' : i = ds.length := by omega
      subst hi'
      rw [List.take_length]
      by_cases hz : a = 0
      · have h0 : ds = [] := List.eq_nil_of_length_eq_zero (by omega)
        subst h0
        rw [if_pos hz] at htx
        repeat' (first|(with_reducible first|apply q_a|apply q_b|apply q_c|apply q_d|apply q_e|apply q_f|apply q_g|apply q_h|apply q_i|apply q_j|apply q_k|apply q_m|apply q_n|apply q_o|apply q_p|refine q_l ?_)|((with_reducible first|refine q_q ibt_ok fun K hK=>?_|refine q_r ibt_ok fun K hK=>?_);simp (maxSteps:=2000000) only [go_sem,↓reduceIte,reduceCtorEq,Nat.reduceLeDiff,Nat.reduceLT,Nat.reduceBEq,Nat.reduceAdd];(repeat1' with_reducible first|apply And.intro|(intro _;try exact q_v)|(refine hK _ ?_;clear hK K))<;>(try (clear hK K;exact q_u)))|(with_reducible refine q_s ?_;(first|apply q_J|apply q_K|apply q_L|apply q_M|apply q_N|apply q_O)<;>try (intro _;try exact q_v))|with_reducible refine q_t ?_)
        exact q_A (by rw [htx]; rfl)
      · rw [if_neg hz] at htx
        repeat' (first|(with_reducible first|apply q_a|apply q_b|apply q_c|apply q_d|apply q_e|apply q_f|apply q_g|apply q_h|apply q_i|apply q_j|apply q_k|apply q_m|apply q_n|apply q_o|apply q_p|refine q_l ?_)|((with_reducible first|refine q_q ibt_ok fun K hK=>?_|refine q_r ibt_ok fun K hK=>?_);simp (maxSteps:=2000000) only [go_sem,↓reduceIte,reduceCtorEq,Nat.reduceLeDiff,Nat.reduceLT,Nat.reduceBEq,Nat.reduceAdd];(repeat1' with_reducible first|apply And.intro|(intro _;try exact q_v)|(refine hK _ ?_;clear hK K))<;>(try (clear hK K;exact q_u)))|(with_reducible refine q_s ?_;(first|apply q_J|apply q_K|apply q_L|apply q_M|apply q_N|apply q_O)<;>try (intro _;try exact q_v))|with_reducible refine q_t ?_)
        exact q_A (by rw [htx]; rfl)
def iTextCT : CT := mkCT [nP] true fun l K => match l with
  | [.inr [.b s, .ints .u32 xs], .inl (.i .i64 b)] => (okZ s xs = true ∧ InB 4294967296 xs ∧ 2 ≤ b ∧ b ≤ 36) ∧ K (.t [.inl (.str (strOf (textI (sv 4294967296 s xs) b.toNat))), .inr [.i .i64 0, .i .i64 0]])
  | _ => False
def iu2 : Cfg := addT 21 iTextCT iu1
theorem iu2_ok : TblOk Tryz.prog iu2 := q_I iu1_ok Tryz.func21 fun l K h => by
  split at h
  · rename_i s xs b
    obtain ⟨⟨h1, h2, h3, h4⟩, h⟩ := h
    obtain ⟨e1, e2, e3⟩ := okZ_eq h1 h2
    obtain ⟨n, rfl⟩ : ∃ n : Nat, b = n := ⟨b.toNat, by omega⟩
    have := iText_ok (sv 4294967296 s xs) n (by omega) (by omega) (by rw [← e2]; exact e3)
    simp only [gI, ← e1, ← e2] at this
    exact ⟨_, this.plain rfl, by simpa using h⟩
  · exact h.elim
attribute [go_sem] iTextCT
end Go.Proofs.YtlflfhcfljiciaaGreat

namespace Go.Proofs.YtlflfhcfljiciaaGreat
set_option linter.unusedSimpArgs false
set_option linter.unusedVariables false
open Go.Abs Go.Proofs.NatL

def Nrm (s : Bool) (xs : List Int) : Prop := InB 4294967296 xs ∧ Trd xs ∧ (xs = [] → s = false)
theorem Nrm_eq {s : Bool} {xs : List Int} (h : Nrm s xs) : s = decide (sv 4294967296 s xs < 0) ∧ xs = dg 4294967296 (sv 4294967296 s xs).natAbs := by
  obtain ⟨bx, ht, h0⟩ := h
  rw [sv_abs]
  have hd := dg_V 4294967296 (by omega) xs bx ht
  refine ⟨?_, hd.symm⟩
  cases s
  · rw [decide_eq_false]; simp [sv]
  · have hne : xs ≠ [] := fun e => by have := h0 e; cases this
    have : 0 < V 4294967296 xs := by
      rcases Nat.eq_zero_or_pos (V 4294967296 xs) with h | h
      · rw [h, dg_zero] at hd; exact absurd hd.symm hne
      · exact h
    rw [decide_eq_true]; simp [sv]; omega
theorem Nrm_g (z : Int) : Nrm (decide (z < 0)) (dg 4294967296 z.natAbs) = True := by
  refine eq_true ⟨InB_dg _ (by omega) _, dg_trd _ (by omega) _, fun h => ?_⟩
  have := dg_len_pos 4294967296 z.natAbs (by omega)
  rw [h] at this
  simp only [List.length_nil, Nat.lt_irrefl, false_iff] at this
  exact decide_eq_false (by omega)
theorem Nrm_0 : Nrm false [] = True := eq_true ⟨InB_nil _, .inl rfl, fun _ => rfl⟩
abbrev gR (z : Int) : List C := [.b (decide (z < 0)), .ints .i64 (dg 65536 z.natAbs)]
abbrev gRz (z : Int) (b : Bool) : List C := [.b (sgz z b), .ints .i64 (dg 65536 z.natAbs)]
abbrev nR : Option C ⊕ List (Option C) := .inr [none, some (.ints .i64 [])]

def jt0 : Cfg := addT 14 atCT it5
theorem jt0_ok : TblOk Tryz.prog jt0 := q_I it5_ok Tryz.func14 fun l K h => by
  split at h
  · exact ⟨_, (At_ret _ _).plain rfl, h⟩
  · exact h.elim
set_option maxHeartbeats 800000 in
theorem intOk_ret (s : Bool) (xs : List Int) (hx : xs.length ≤ 140737488355328) : Ret Tryz.prog 56 false [.inr [.b s, .ints .u32 xs]] (.c (.b (okZ s xs))) := by
  (refine q_H Tryz.func56 (fun F => ?_); simp only [q_z,q_y,Tryz.ntmps56,Tryz.results56])
  repeat' (first|(with_reducible first|apply q_a|apply q_b|apply q_c|apply q_d|apply q_e|apply q_f|apply q_g|apply q_h|apply q_i|apply q_j|apply q_k|apply q_m|apply q_n|apply q_o|apply q_p|refine q_l ?_)|((with_reducible first|refine q_q cf0_ok fun K hK=>?_|refine q_r cf0_ok fun K hK=>?_);simp (maxSteps:=2000000) only [go_sem,↓reduceIte,reduceCtorEq,Nat.reduceLeDiff,Nat.reduceLT,Nat.reduceBEq,Nat.reduceAdd];(repeat1' with_reducible first|apply And.intro|intro _|(refine hK _ ?_;clear hK K))<;>(try (clear hK K;exact q_u)))|(with_reducible refine q_s ?_;(first|apply q_J|apply q_K|apply q_L|apply q_M|apply q_N|apply q_O)<;>try intro _)|with_reducible refine q_t ?_)
  all_goals refine q_A ?_
  all_goals simp only [resAV, q_y, AV.c.injEq, C.b.injEq]
  all_goals refine okZ_iff s xs _ ?_
  all_goals first | (simp_all; done) | (simp_all; omega)
def jt1 : Cfg := addT 56 ivalidCT jt0
theorem jt1_ok : TblOk Tryz.prog jt1 := q_I jt0_ok Tryz.func56 fun l K h => by
  split at h
  · exact ⟨_, (intOk_ret _ _ h.1).plain rfl, h.2⟩
  · exact h.elim
def jb1 : Cfg := listT [(14, atCT), (56, ivalidCT)] [28]
attribute [go_sem] jb1
def jt2 : Cfg := jt1
theorem jt2_ok : TblOk Tryz.prog jt2 := jt1_ok
def jb2 : Cfg := listT [(32, ofCT)] [28]
theorem jb2_ok : TblOk Tryz.prog jb2 := listT_ok (big := jt2) jt2_ok ⟨rfl, trivial⟩
attribute [go_sem] jb2
set_option maxHeartbeats 800000 in
theorem intOf_ret (s : Bool) (xs : List Int) (hx : xs.length ≤ 1048576) (bx : InB 4294967296 xs) : Ret Tryz.prog 31 false [.inr [.b s, .ints .u32 xs]] (.g [.b s, .ints .i64 (dg 65536 (V 4294967296 xs))]) := by
  (refine q_H Tryz.func31 (fun F => ?_); simp only [q_z,q_y,Tryz.ntmps31,Tryz.results31])
  repeat' (first|(with_reducible first|apply q_a|apply q_b|apply q_c|apply q_d|apply q_e|apply q_f|apply q_g|apply q_h|apply q_i|apply q_j|apply q_k|apply q_m|apply q_n|apply q_o|apply q_p|refine q_l ?_)|((with_reducible first|refine q_q jb2_ok fun K hK=>?_|refine q_r jb2_ok fun K hK=>?_);simp (maxSteps:=2000000) only [go_sem,↓reduceIte,reduceCtorEq,Nat.reduceLeDiff,Nat.reduceLT,Nat.reduceBEq,Nat.reduceAdd];(repeat1' with_reducible first|apply And.intro|intro _|(refine hK _ ?_;clear hK K))<;>(try (clear hK K;exact q_u)))|(with_reducible refine q_s ?_;(first|apply q_J|apply q_K|apply q_L|apply q_M|apply q_N|apply q_O)<;>try intro _)|with_reducible refine q_t ?_)
  all_goals first | omega | exact q_A rfl
def intOfCT : CT := mkCT [nP] false fun l K => match l with
  | [.inr [.b s, .ints .u32 xs]] => (xs.length ≤ 1048576 ∧ InB 4294967296 xs) ∧ K (.g [.b s, .ints .i64 (dg 65536 (V 4294967296 xs))])
  | _ => False
def jt3 : Cfg := addT 31 intOfCT jt2
theorem jt3_ok : TblOk Tryz.prog jt3 := q_I jt2_ok Tryz.func31 fun l K h => by
  split at h
  · exact ⟨_, intOf_ret _ _ h.1.1 h.1.2, h.2⟩
  · exact h.elim
attribute [go_sem] intOfCT Nrm_g Nrm_0 gR gRz
def jb3 : Cfg := listT [(55, limbsCT), (54, sameCT)] [28]
theorem jb3_ok : TblOk Tryz.prog jb3 := listT_ok (big := jt3) jt3_ok ⟨rfl, rfl, trivial⟩
attribute [go_sem] jb3
set_option maxHeartbeats 1600000 in
theorem sameInt_ret (s t : Bool) (xs ys : List Int) (hn : Nrm s xs) (hx : xs.length ≤ 16777216) (by' : InB 65536 ys) (ty : Trd ys) (hy : ys.length ≤ 4194304) :
    Ret Tryz.prog 29 false [.inr [.b s, .ints .u32 xs], .inr [.b t, .ints .i64 ys]] (.c (.b (decide (sv 4294967296 s xs = sv 65536 t ys)))) := by
  obtain ⟨h1, h2⟩ := Nrm_eq hn
  have hd := dg_V 65536 (by omega) ys by' ty
  have hp := dg_len_pos 65536 (V 65536 ys) (by omega)
  rw [hd] at hp
  have hlim : (dg 4294967296 (V 65536 ys)).length ≤ 16777216 := Nat.le_trans (dg_half_le _ _ (by rw [hd]; exact hy)) (by omega)
  generalize ha : sv 4294967296 s xs = a at *
  have key : decide (s = (t && decide (0 < (ys.length : Int))) ∧ xs = dg 4294967296 (V 65536 ys)) = decide (a = sv 65536 t ys) := by
    congr 1
    refine propext ⟨fun ⟨k1, k2⟩ => ?_, fun k => ?_⟩
    · rw [h2] at k2
      have k3 := congrArg (V 4294967296) k2
      rw [V32, V32] at k3
      rw [h1] at k1
      unfold sv
      rw [← k3]
      rcases Nat.eq_zero_or_pos ys.length with h0 | h0
      · have : a.natAbs = 0 := by
          rw [k3]
          rcases Nat.eq_zero_or_pos (V 65536 ys) with h | h
          · exact h
          · have := hp.2 h; omega
        rw [this]; simp; omega
      · have h0' : (0 : Int) < ys.length := by omega
        simp only [decide_eq_true h0', Bool.and_true] at k1
        subst k1
        by_cases h : a < 0
        · rw [if_pos (by simpa using h)]; omega
        · rw [if_neg (by simpa using h)]; omega
    · subst k
      rw [sv_abs] at h2
      refine ⟨?_, h2⟩
      rw [h1]
      rcases Nat.eq_zero_or_pos ys.length with h0 | h0
      · have h0' : ¬ (0 : Int) < ys.length := by omega
        have : ys = [] := List.eq_nil_of_length_eq_zero h0
        subst this
        rw [sv0]; simp
      · have h0' : (0 : Int) < ys.length := by omega
        have hv := hp.1 h0
        rw [decide_eq_true h0', Bool.and_true]
        cases t
        · rw [svf]; exact decide_eq_false (by omega)
        · rw [svt]; exact decide_eq_true (by omega)
  rw [← key]
  cases t
  all_goals
    (refine q_H Tryz.func29 (fun F => ?_); simp only [q_z,q_y,Tryz.ntmps29,Tryz.results29])
    repeat' (first|(with_reducible first|apply q_a|apply q_b|apply q_c|apply q_d|apply q_e|apply q_f|apply q_g|apply q_h|apply q_i|apply q_j|apply q_k|apply q_m|apply q_n|apply q_o|apply q_p|refine q_l ?_)|((with_reducible first|refine q_q jb3_ok fun K hK=>?_|refine q_r jb3_ok fun K hK=>?_);simp (maxSteps:=2000000) only [go_sem,↓reduceIte,reduceCtorEq,Nat.reduceLeDiff,Nat.reduceLT,Nat.reduceBEq,Nat.reduceAdd,hd];(repeat1' with_reducible first|apply And.intro|(intro _;try exact q_v)|(refine hK _ ?_;clear hK K))<;>(try (clear hK K;exact q_u)))|(with_reducible refine q_s ?_;(first|apply q_J|apply q_K|apply q_L|apply q_M|apply q_N|apply q_O)<;>try (intro _;try exact q_v))|with_reducible refine q_t ?_)
  all_goals (refine q_A ?_; simp only [resAV, q_y, AV.c.injEq, C.b.injEq]; simp_all)

end Go.Proofs.YtlflfhcfljiciaaGreat

namespace Go.Proofs.NatL
set_option linter.unusedSimpArgs false
set_option linter.unusedVariables false

theorem B2_nil : B2 [] = 0 := rfl
theorem tdiv2_abs (z : Int) : (z.tdiv 2).natAbs = z.natAbs / 2 := by rw [Int.natAbs_tdiv]; rfl
theorem tmod2_ne (z : Int) : decide (¬ z.tmod 2 = 0) = decide (z.natAbs % 2 = 1) := by
  have h1 : (z.tmod 2).natAbs = z.natAbs % 2 := by rw [Int.natAbs_tmod]; rfl
  congr 1
  exact propext ⟨fun h => by omega, fun h => by omega⟩

end Go.Proofs.NatL

namespace Go.Proofs.YtlflfhcfljiciaaGreat
set_option linter.unusedSimpArgs false
set_option linter.unusedVariables false
open Go.Abs Go.Proofs.NatL

def sameIntCT : CT := mkCT [nP, nR] true fun l K => match l with
  | [.inr [.b s, .ints .u32 xs], .inr [.b t, .ints .i64 ys]] => (Nrm s xs ∧ xs.length ≤ 16777216 ∧ InB 65536 ys ∧ Trd ys ∧ ys.length ≤ 4194304) ∧ K (.c (.b (decide (sv 4294967296 s xs = sv 65536 t ys))))
  | _ => False
def jt4 : Cfg := addT 29 sameIntCT jt3
theorem jt4_ok : TblOk Tryz.prog jt4 := q_I jt3_ok Tryz.func29 fun l K h => by
  split at h
  · obtain ⟨⟨h1, h2, h3, h4, h5⟩, h⟩ := h
    exact ⟨_, (sameInt_ret _ _ _ _ h1 h2 h3 h4 h5).plain rfl, h⟩
  · exact h.elim

def sameIntsCT : CT := mkCT [nP, nP] true fun l K => match l with
  | [.inr [.b s, .ints .u32 xs], .inr [.b t, .ints .u32 ys]] => (Nrm s xs ∧ xs.length ≤ 16777216 ∧ Nrm t ys ∧ ys.length ≤ 16777216) ∧ K (.c (.b (decide (sv 4294967296 s xs = sv 4294967296 t ys))))
  | _ => False
def jt5 : Cfg := jt4
theorem jt5_ok : TblOk Tryz.prog jt5 := jt4_ok
set_option maxHeartbeats 800000 in
theorem noInt_ret (s : Bool) (xs : List Int) (hn : Nrm s xs) (hx : xs.length ≤ 140737488355328) :
    Ret Tryz.prog 58 false [.inr [.b s, .ints .u32 xs]] (.c (.b (decide (sv 4294967296 s xs = 0)))) := by
  obtain ⟨h1, h2⟩ := Nrm_eq hn
  have hl := dg_len_pos 4294967296 (sv 4294967296 s xs).natAbs (by omega)
  rw [← h2] at hl
  generalize sv 4294967296 s xs = z at *
  have key : decide (¬ s = true ∧ (xs.length : Int) = 0) = decide (z = 0) := by
    congr 1
    refine propext ⟨fun ⟨e1, e2⟩ => by omega, fun h => ?_⟩
    subst h
    exact ⟨by rw [h1]; simp, by omega⟩
  rw [← key]
  clear key h1 h2 hl
  cases s
  all_goals
    (refine q_H Tryz.func58 (fun F => ?_); simp only [q_z,q_y,Tryz.ntmps58,Tryz.results58])
    repeat' (first|(with_reducible first|apply q_a|apply q_b|apply q_c|apply q_d|apply q_e|apply q_f|apply q_g|apply q_h|apply q_i|apply q_j|apply q_k|apply q_m|apply q_n|apply q_o|apply q_p|refine q_l ?_)|((with_reducible first|refine q_q jb3_ok fun K hK=>?_|refine q_r jb3_ok fun K hK=>?_);simp (maxSteps:=2000000) only [go_sem,↓reduceIte,reduceCtorEq,Nat.reduceLeDiff,Nat.reduceLT,Nat.reduceBEq,Nat.reduceAdd];(repeat1' with_reducible first|apply And.intro|(intro _;try exact q_v)|(refine hK _ ?_;clear hK K))<;>(try (clear hK K;exact q_u)))|(with_reducible refine q_s ?_;(first|apply q_J|apply q_K|apply q_L|apply q_M|apply q_N|apply q_O)<;>try (intro _;try exact q_v))|with_reducible refine q_t ?_)
  all_goals (refine q_A ?_; simp [resAV, q_y])
def noIntCT : CT := mkCT [nP] true fun l K => match l with
  | [.inr [.b s, .ints .u32 xs]] => (Nrm s xs ∧ xs.length ≤ 140737488355328) ∧ K (.c (.b (decide (sv 4294967296 s xs = 0))))
  | _ => False
def jt6 : Cfg := addT 58 noIntCT jt5
theorem jt6_ok : TblOk Tryz.prog jt6 := q_I jt5_ok Tryz.func58 fun l K h => by
  split at h
  · exact ⟨_, (noInt_ret _ _ h.1.1 h.1.2).plain rfl, h.2⟩
  · exact h.elim
attribute [go_sem] sameIntCT sameIntsCT noIntCT sv32 sv65 svz65
def jb4 : Cfg := listT [(37, binaryCT)] [28]
theorem jb4_ok : TblOk Tryz.prog jb4 := listT_ok (big := jt6) jt6_ok ⟨rfl, trivial⟩
attribute [go_sem] jb4
set_option maxHeartbeats 1600000 in
theorem number_ret (n : Int) (hn : -9223372036854775808 ≤ n ∧ n ≤ 9223372036854775807) : Ret Tryz.prog 16 false [.inl (.i .i64 n)] (.g (gR n)) := by
  (refine q_H Tryz.func16 (fun F => ?_); simp only [q_z,q_y,Tryz.ntmps16,Tryz.results16])
  repeat' (first|(with_reducible first|apply q_a|apply q_b|apply q_c|apply q_d|apply q_e|apply q_f|apply q_g|apply q_h|apply q_i|apply q_j|apply q_k|apply q_m|apply q_n|apply q_o|apply q_p|refine q_l ?_)|((with_reducible first|refine q_q jb4_ok fun K hK=>?_|refine q_r jb4_ok fun K hK=>?_);simp (maxSteps:=2000000) only [go_sem,↓reduceIte,reduceCtorEq,Nat.reduceLeDiff,Nat.reduceLT,Nat.reduceBEq,Nat.reduceAdd];(repeat1' with_reducible first|apply And.intro|(intro _;try exact q_v)|(refine hK _ ?_;clear hK K))<;>(try (clear hK K;exact q_u)))|(with_reducible refine q_s ?_;(first|apply q_J|apply q_K|apply q_L|apply q_M|apply q_N|apply q_O)<;>try (intro _;try exact q_v))|with_reducible refine q_t ?_)
  refine q_G (ι := { p : Int × List Bool // p.1.natAbs ≤ n.natAbs ∧ p.2.length ≤ 64 ∧ B2 p.2 + 2 ^ p.2.length * p.1.natAbs = n.natAbs }) (fun p => ⟨21, [(0, .c (.i .i64 p.1.1)), (2, .bx 0 0), (3, .own 1 0), (4, .c (.b (decide (n < 0))))], ⟨[(0, [.c (.b false), .c .nil])], [(1, ⟨0, 4, 1, .bools p.1.2⟩)], []⟩, 2⟩) (fun p => p.1.1.natAbs) ⟨(n, []), Nat.le_refl _, by simp, by simp [B2_nil]⟩ ?_ ?_
  · exact q_D
  rintro ⟨⟨z, l⟩, g1, g2, g3⟩
  simp only at g1 g2 g3 ⊢
  have a1 := tdiv2_abs z
  have a2 := tmod2_ne z
  have b3 := bit_step l l.length z.natAbs n.natAbs rfl g3
  have hlen : z ≠ 0 → l.length + 1 ≤ 64 := fun h => by
    rcases Nat.lt_or_ge l.length 64 with h1 | h1
    · omega
    · have h2 : 2 ^ 64 * 1 ≤ 2 ^ l.length * z.natAbs := Nat.mul_le_mul (Nat.pow_le_pow_right (by omega) h1) (by omega)
      have h3 : (2 : Nat) ^ 64 = 18446744073709551616 := rfl
      omega
  by_cases hz : z = 0
  · subst hz
    have e : B2 l = n.natAbs := by simpa using g3
    repeat' (first|(with_reducible first|apply q_a|apply q_b|apply q_c|apply q_d|apply q_e|apply q_f|apply q_g|apply q_h|apply q_i|apply q_j|apply q_k|apply q_m|apply q_n|apply q_o|apply q_p|refine q_l ?_)|((with_reducible first|refine q_q jb4_ok fun K hK=>?_|refine q_r jb4_ok fun K hK=>?_);simp (maxSteps:=2000000) only [go_sem,↓reduceIte,reduceCtorEq,Nat.reduceLeDiff,Nat.reduceLT,Nat.reduceBEq,Nat.reduceAdd,e];(repeat1' with_reducible first|apply And.intro|(intro _;try exact q_v)|(refine hK _ ?_;clear hK K))<;>(try (clear hK K;exact q_u)))|(with_reducible refine q_s ?_;(first|apply q_J|apply q_K|apply q_L|apply q_M|apply q_N|apply q_O)<;>try (intro _;try exact q_v))|with_reducible refine q_t ?_)
    exact q_A rfl
  · have hl2 := hlen hz
    have hlt : (z.tdiv 2).natAbs < z.natAbs := by rw [a1]; omega
    have hb : -9223372036854775808 ≤ z.tdiv 2 ∧ z.tdiv 2 ≤ 9223372036854775807 := by omega
    have hnn : ¬ z = 0 := hz
    repeat' (first|(with_reducible first|apply q_a|apply q_b|apply q_c|apply q_d|apply q_e|apply q_f|apply q_g|apply q_h|apply q_i|apply q_j|apply q_k|apply q_m|apply q_n|apply q_o|apply q_p|refine q_l ?_)|((with_reducible first|refine q_q jb4_ok fun K hK=>?_|refine q_r jb4_ok fun K hK=>?_);simp (maxSteps:=2000000) only [go_sem,↓reduceIte,reduceCtorEq,Nat.reduceLeDiff,Nat.reduceLT,Nat.reduceBEq,Nat.reduceAdd,a2];(repeat1' with_reducible first|apply And.intro|(intro _;try exact q_v)|(refine hK _ ?_;clear hK K))<;>(try (clear hK K;exact q_u)))|(with_reducible refine q_s ?_;(first|apply q_J|apply q_K|apply q_L|apply q_M|apply q_N|apply q_O)<;>try (intro _;try exact q_v))|with_reducible refine q_t ?_)
    all_goals first | omega | skip
    refine q_F ⟨(z.tdiv 2, l ++ [decide (z.natAbs % 2 = 1)]), by simp only; omega, by simp; omega, ?_⟩ ?_ (by simp only; omega)
    · simp only [List.length_append, List.length_cons, List.length_nil, Nat.zero_add, a1]; exact b3
    · exact q_D
def numberCT : CT := mkCT [] false fun l K => match l with
  | [.inl (.i .i64 n)] => (-9223372036854775808 ≤ n ∧ n ≤ 9223372036854775807) ∧ K (.g (gR n))
  | _ => False
def jt7 : Cfg := addT 16 numberCT jt6
theorem jt7_ok : TblOk Tryz.prog jt7 := q_I jt6_ok Tryz.func16 fun l K h => by
  split at h
  · exact ⟨_, number_ret _ h.1, h.2⟩
  · exact h.elim

theorem fits_ret (s : Bool) (ys : List Int) (k : Int) (hk : 0 ≤ k ∧ k ≤ 1000000) : Ret Tryz.prog 18 false [.inr [.b s, .ints .i64 ys], .inl (.i .i64 k)] (.c (.b (decide ((ys.length : Int) ≤ 2 * k)))) := by
  (refine q_H Tryz.func18 (fun F => ?_); simp only [q_z,q_y,Tryz.ntmps18,Tryz.results18])
  repeat' (first|(with_reducible first|apply q_a|apply q_b|apply q_c|apply q_d|apply q_e|apply q_f|apply q_g|apply q_h|apply q_i|apply q_j|apply q_k|apply q_m|apply q_n|apply q_o|apply q_p|refine q_l ?_)|((with_reducible first|refine q_q jb4_ok fun K hK=>?_|refine q_r jb4_ok fun K hK=>?_);simp (maxSteps:=2000000) only [go_sem,↓reduceIte,reduceCtorEq,Nat.reduceLeDiff,Nat.reduceLT,Nat.reduceBEq,Nat.reduceAdd];(repeat1' with_reducible first|apply And.intro|(intro _;try exact q_v)|(refine hK _ ?_;clear hK K))<;>(try (clear hK K;exact q_u)))|(with_reducible refine q_s ?_;(first|apply q_J|apply q_K|apply q_L|apply q_M|apply q_N|apply q_O)<;>try (intro _;try exact q_v))|with_reducible refine q_t ?_)
  exact q_A rfl
def fitsCT : CT := mkCT [nR] true fun l K => match l with
  | [.inr [.b s, .ints .i64 ys], .inl (.i .i64 k)] => (0 ≤ k ∧ k ≤ 1000000) ∧ K (.c (.b (decide ((ys.length : Int) ≤ 2 * k))))
  | _ => False
def jt8 : Cfg := addT 18 fitsCT jt7
theorem jt8_ok : TblOk Tryz.prog jt8 := q_I jt7_ok Tryz.func18 fun l K h => by
  split at h
  · exact ⟨_, (fits_ret _ _ _ h.1).plain rfl, h.2⟩
  · exact h.elim
attribute [go_sem] numberCT fitsCT
def jb5 : Cfg := listT [(10, rcmpCT), (40, (rnumCT (fun _ _ => True) (· + ·))), (59, (rnumCT (fun _ _ => True) (· * ·))), (39, (rnumCT (fun xs ys => V 65536 ys ≤ V 65536 xs) (· - ·)))] [28]
theorem jb5_ok : TblOk Tryz.prog jb5 := listT_ok (big := jt8) jt8_ok ⟨rfl, rfl, rfl, rfl, trivial⟩
attribute [go_sem] jb5
set_option maxHeartbeats 1600000 in
theorem iorder_ret (s t : Bool) (m n : Nat) (lm : (dg 65536 m).length ≤ 4194304) (ln : (dg 65536 n).length ≤ 4194304) :
    Ret Tryz.prog 17 false [.inr [.b s, .ints .i64 (dg 65536 m)], .inr [.b t, .ints .i64 (dg 65536 n)]] (.c (.i .i64 (cmpZ (sg s m) (sg t n)))) := by
  have hl := dg_len_pos 65536 m (by omega)
  have hk := dg_len_pos 65536 n (by omega)
  have c1 := cmp3_Z m n
  have c2 := cmp3_Z n m
  cases s <;> cases t
  all_goals
    (refine q_H Tryz.func17 (fun F => ?_); simp only [q_z,q_y,Tryz.ntmps17,Tryz.results17])
    repeat' (first|(with_reducible first|apply q_a|apply q_b|apply q_c|apply q_d|apply q_e|apply q_f|apply q_g|apply q_h|apply q_i|apply q_j|apply q_k|apply q_m|apply q_n|apply q_o|apply q_p|refine q_l ?_)|((with_reducible first|refine q_q jb5_ok fun K hK=>?_|refine q_r jb5_ok fun K hK=>?_);simp (maxSteps:=2000000) only [go_sem,↓reduceIte,reduceCtorEq,Nat.reduceLeDiff,Nat.reduceLT,Nat.reduceBEq,Nat.reduceAdd,c1, c2];(repeat1' with_reducible first|apply And.intro|(intro _;try exact q_v)|(refine hK _ ?_;clear hK K))<;>(try (clear hK K;exact q_u)))|(with_reducible refine q_s ?_;(first|apply q_J|apply q_K|apply q_L|apply q_M|apply q_N|apply q_O)<;>try (intro _;try exact q_v))|with_reducible refine q_t ?_)
  all_goals (refine q_A ?_; simp only [resAV, q_y, AV.c.injEq, C.i.injEq, true_and, sgt, sgf])
  all_goals (unfold cmpZ; repeat' split)
  all_goals omega

end Go.Proofs.YtlflfhcfljiciaaGreat

namespace Go.Proofs.YtlflfhcfljiciaaGreat
set_option linter.unusedSimpArgs false
set_option linter.unusedVariables false
open Go.Abs Go.Proofs.NatL

def iminusCT : CT := mkCT [nR] false fun l K => match l with
  | [.inr [.b s, .ints .i64 ys]] => (InB 65536 ys ∧ Trd ys) ∧ K (.g (gR (-sv 65536 s ys)))
  | _ => False
theorem sv_ys {s : Bool} {ys : List Int} (h1 : InB 65536 ys) (h2 : Trd ys) : ys = dg 65536 (V 65536 ys) ∧ sv 65536 s ys = sg s (V 65536 ys) := by
  have e := dg_V 65536 (by omega) ys h1 h2
  exact ⟨e.symm, by rw [← sv_d (B := 65536) (by omega), e]⟩
def jt9 : Cfg := jt8
theorem jt9_ok : TblOk Tryz.prog jt9 := jt8_ok
def rI2CT (n : Nat) (f : Int → Int → (AV → Prop) → Prop) : CT := mkCT [nR, nR] false fun l K => match l with
  | [.inr [.b s, .ints .i64 xs], .inr [.b t, .ints .i64 ys]] => (InB 65536 xs ∧ Trd xs ∧ xs.length ≤ n ∧ InB 65536 ys ∧ Trd ys ∧ ys.length ≤ n) ∧ f (sv 65536 s xs) (sv 65536 t ys) K
  | _ => False
def addF (a b : Int) (K : AV → Prop) : Prop := ∀ c : Bool, K (.g (gRz (a + b) c))
def mulF (a b : Int) (K : AV → Prop) : Prop := K (.g (gR (a * b)))
def ordF (a b : Int) (K : AV → Prop) : Prop := K (.c (.i .i64 (cmpZ a b)))
def jt10 : Cfg := jt9
theorem jt10_ok : TblOk Tryz.prog jt10 := jt9_ok
def jt11 : Cfg := jt10
theorem jt11_ok : TblOk Tryz.prog jt11 := jt10_ok
def jt12 : Cfg := addT 17 (rI2CT 4194304 ordF) jt11
theorem jt12_ok : TblOk Tryz.prog jt12 := q_I jt11_ok Tryz.func17 fun l K h => by
  split at h
  · rename_i s xs t ys
    obtain ⟨⟨h1, h2, h3, h4, h5, h6⟩, h⟩ := h
    obtain ⟨e1, e2⟩ := sv_ys (s := s) h1 h2
    obtain ⟨e3, e4⟩ := sv_ys (s := t) h4 h5
    rw [e2, e4] at h
    have this := iorder_ret s t (V 65536 xs) (V 65536 ys) (by rw [← e1]; exact h3) (by rw [← e3]; exact h6)
    rw [← e1, ← e3] at this
    exact ⟨_, this, h⟩
  · exact h.elim
attribute [go_sem] iminusCT rI2CT addF mulF ordF
def jb6 : Cfg := listT [(37, binaryCT), (41, doubleCT), (10, rcmpCT), (59, (rnumCT (fun _ _ => True) (· * ·))), (39, (rnumCT (fun xs ys => V 65536 ys ≤ V 65536 xs) (· - ·)))] [28]
attribute [go_sem] jb6
end Go.Proofs.YtlflfhcfljiciaaGreat

namespace Go.Proofs.NatL
set_option linter.unusedSimpArgs false
set_option linter.unusedVariables false
end Go.Proofs.NatL

namespace Go.Proofs.YtlflfhcfljiciaaGreat
set_option linter.unusedSimpArgs false
set_option linter.unusedVariables false
open Go.Proofs.NatL

structure BitOp (op : Nat → Nat → Nat) : Prop where
  lt : ∀ k x y, x < 2 ^ k → y < 2 ^ k → op x y < 2 ^ k
  split : ∀ k x y s t, x < 2 ^ k → y < 2 ^ k → op (x + 2 ^ k * s) (y + 2 ^ k * t) = op x y + 2 ^ k * op s t

theorem BitOp.zero {op : Nat → Nat → Nat} (h : BitOp op) : op 0 0 = 0 := by
  have := h.split 0 0 0 0 0 (by simp) (by simp)
  simp at this; omega

def lo (k : Nat) (a : Int) : Nat := (a % ((2 ^ k : Nat) : Int)).toNat
def FitK (k : Nat) (a : Int) : Prop := -((2 ^ k : Nat) : Int) ≤ a ∧ a < ((2 ^ k : Nat) : Int)
theorem FitK.mono {k m : Nat} {a : Int} (h : FitK k a) (hm : k ≤ m) : FitK m a := by
  have := Nat.pow_le_pow_right (n := 2) (by omega) hm
  unfold FitK at *; omega
end Go.Proofs.YtlflfhcfljiciaaGreat

namespace Go.Proofs.YtlflfhcfljiciaaGreat
set_option linter.unusedSimpArgs false
set_option linter.unusedVariables false
open Go.Proofs.NatL

def pm (a : Int) (e : Nat) (m : Int) : Int := (a ^ e) % m
end Go.Proofs.YtlflfhcfljiciaaGreat
