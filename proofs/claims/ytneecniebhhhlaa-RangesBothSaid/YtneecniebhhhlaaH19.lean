import Derived.Test.YtneecniebhhhlaaH18
namespace Go.Proofs.Ytneecniebhhhlaa
set_option linter.unusedSimpArgs false
set_option linter.unusedVariables false
open Go.Abs Go.Proofs.NatL

theorem iat_ret (c i : Int) : Ret Try.prog 108 false [.inl (.i .i64 c), .inl (.i .i64 i)] (.g [.i .i64 c, .i .i64 i]) := by
  (refine q_H Try.func108 (fun F => ?_); simp only [q_z,q_y,Try.ntmps108,Try.results108])
  repeat' (first|(with_reducible first|apply q_a|apply q_b|apply q_c|apply q_d|apply q_e|apply q_f|apply q_g|apply q_h|apply q_i|apply q_j|apply q_k|apply q_m|apply q_n|apply q_o|apply q_p|refine q_l ?_)|((with_reducible first|refine q_q cf0_ok fun K hK=>?_|refine q_r cf0_ok fun K hK=>?_);simp (maxSteps:=2000000) only [go_sem,↓reduceIte,reduceCtorEq,Nat.reduceLeDiff,Nat.reduceLT,Nat.reduceBEq,Nat.reduceAdd];(repeat1' with_reducible first|apply And.intro|intro _|(refine hK _ ?_;clear hK K))<;>(try (clear hK K;exact q_u)))|(with_reducible refine q_s ?_;(first|apply q_J|apply q_K|apply q_L|apply q_M|apply q_N|apply q_O)<;>try intro _)|with_reducible refine q_t ?_)
  exact q_A rfl
def it1 : Cfg := addT 108 atCT nt13
theorem it1_ok : TblOk Try.prog it1 := q_I nt13_ok Try.func108 fun l K h => by
  split at h
  · exact ⟨_, (iat_ret _ _).plain rfl, h⟩
  · exact h.elim

set_option maxHeartbeats 800000 in
theorem ivalid_ret (s : Bool) (xs : List Int) (hx : xs.length ≤ 140737488355328) : Ret Try.prog 52 false [.inr [.b s, .ints .u32 xs]] (.c (.b (okZ s xs))) := by
  (refine q_H Try.func52 (fun F => ?_); simp only [q_z,q_y,Try.ntmps52,Try.results52])
  repeat' (first|(with_reducible first|apply q_a|apply q_b|apply q_c|apply q_d|apply q_e|apply q_f|apply q_g|apply q_h|apply q_i|apply q_j|apply q_k|apply q_m|apply q_n|apply q_o|apply q_p|refine q_l ?_)|((with_reducible first|refine q_q cf0_ok fun K hK=>?_|refine q_r cf0_ok fun K hK=>?_);simp (maxSteps:=2000000) only [go_sem,↓reduceIte,reduceCtorEq,Nat.reduceLeDiff,Nat.reduceLT,Nat.reduceBEq,Nat.reduceAdd];(repeat1' with_reducible first|apply And.intro|intro _|(refine hK _ ?_;clear hK K))<;>(try (clear hK K;exact q_u)))|(with_reducible refine q_s ?_;(first|apply q_J|apply q_K|apply q_L|apply q_M|apply q_N|apply q_O)<;>try intro _)|with_reducible refine q_t ?_)
  all_goals refine q_A ?_
  all_goals simp only [resAV, q_y, AV.c.injEq, C.b.injEq]
  all_goals refine okZ_iff s xs _ ?_
  all_goals first | (simp_all; done) | (simp_all; omega)
def ivalidCT : CT := mkCT [.inr [none, some (.ints .u32 [])]] true fun l K => match l with
  | [.inr [.b s, .ints .u32 xs]] => xs.length ≤ 140737488355328 ∧ K (.c (.b (okZ s xs)))
  | _ => False
def it2 : Cfg := addT 52 ivalidCT it1
theorem it2_ok : TblOk Try.prog it2 := q_I it1_ok Try.func52 fun l K h => by
  split at h
  · exact ⟨_, (ivalid_ret _ _ h.1).plain rfl, h.2⟩
  · exact h.elim
attribute [go_sem] ivalidCT listT
def ib1 : Cfg := listT [(108, atCT), (52, ivalidCT)] [28]
theorem ib1_ok : TblOk Try.prog ib1 := listT_ok (big := it2) it2_ok ⟨rfl, rfl, trivial⟩
attribute [go_sem] ib1

def rowI (p : Bool × List Int) : List C := [.b p.1, .ints .u32 p.2]
def unI : List (List C) → Option (List (Bool × List Int))
  | [] => some []
  | [.b s, .ints .u32 xs] :: r => (unI r).map ((s, xs) :: ·)
  | _ :: _ => none
theorem unI_some : ∀ {rows : List (List C)} {l : List (Bool × List Int)}, unI rows = some l → rows = l.map rowI
  | [], l, h => by simp [unI] at h; subst h; rfl
  | r :: rows, l, h => by
    unfold unI at h
    split at h
    · rename_i h0; cases h0
    · rename_i s xs r' h0
      cases h0
      obtain ⟨l', h1, rfl⟩ := Option.map_eq_some_iff.1 h
      rw [unI_some h1]; rfl
    · cases h
theorem rowI_get (l : List (Bool × List Int)) (i : Nat) (h : i < l.length) : (l.map rowI).getD i [] = [.b (l.getD i (false, [])).1, .ints .u32 (l.getD i (false, [])).2] := by
  simp [List.getD_eq_getElem?_getD, List.getElem?_eq_getElem h, rowI]

set_option maxHeartbeats 1600000 in
theorem icheck_ret (l : List (Bool × List Int)) (hn : l.length ≤ 1000) (hl : allL 140737488355328 l) :
    Ret Try.prog 102 false [.inl (.sl 2 (l.map rowI))] (.g [.i .i64 (fbC l), .i .i64 (fbX 0 l)]) := by
  (refine q_H Try.func102 (fun F => ?_); simp only [q_z,q_y,Try.ntmps102,Try.results102])
  repeat' (first|(with_reducible first|apply q_a|apply q_b|apply q_c|apply q_d|apply q_e|apply q_f|apply q_g|apply q_h|apply q_i|apply q_j|apply q_k|apply q_m|apply q_n|apply q_o|apply q_p|refine q_l ?_)|((with_reducible first|refine q_q ib1_ok fun K hK=>?_|refine q_r ib1_ok fun K hK=>?_);simp (maxSteps:=2000000) only [go_sem,↓reduceIte,reduceCtorEq,Nat.reduceLeDiff,Nat.reduceLT,Nat.reduceBEq,Nat.reduceAdd,List.length_map];(repeat1' with_reducible first|apply And.intro|intro _|(refine hK _ ?_;clear hK K))<;>(try (clear hK K;exact q_u)))|(with_reducible refine q_s ?_;(first|apply q_J|apply q_K|apply q_L|apply q_M|apply q_N|apply q_O)<;>try intro _)|with_reducible refine q_t ?_)
  refine q_G (ι := { i : Nat // i ≤ l.length ∧ fbC (l.drop i) = fbC l ∧ fbX i (l.drop i) = fbX 0 l }) (fun i => ⟨20, [(2, .bx 0 0), (5, .c (.sl 2 (l.map rowI))), (6, .c (.i .i64 l.length)), (7, .c (.i .i64 (i.1 : Nat)))], ⟨[(0, [.c (.i .i64 0), .c (.i .i64 0)])], [], []⟩, 1⟩) (fun i => l.length - i.1) ⟨0, by simp, rfl, rfl⟩ ?_ ?_
  · exact q_D
  rintro ⟨i, g1, g2, g3⟩
  simp only at g1 g2 g3 ⊢
  have hlen := allL_get (i := i) hl
  rcases Nat.lt_or_ge i l.length with hi | hi
  · have hr := rowI_get l i hi
    rw [drop_getD l i hi, fbC] at g2
    rw [drop_getD l i hi, fbX] at g3
    cases ho : okZ (l.getD i (false, [])).1 (l.getD i (false, [])).2
    · simp only [ho, Bool.false_eq_true, if_false] at g2 g3
      repeat' (first|(with_reducible first|apply q_a|apply q_b|apply q_c|apply q_d|apply q_e|apply q_f|apply q_g|apply q_h|apply q_i|apply q_j|apply q_k|apply q_m|apply q_n|apply q_o|apply q_p|refine q_l ?_)|((with_reducible first|refine q_q ib1_ok fun K hK=>?_|refine q_r ib1_ok fun K hK=>?_);simp (maxSteps:=2000000) only [go_sem,↓reduceIte,reduceCtorEq,Nat.reduceLeDiff,Nat.reduceLT,Nat.reduceBEq,Nat.reduceAdd,hr, ho, List.length_map];(repeat1' with_reducible first|apply And.intro|(intro _;try exact q_v)|(refine hK _ ?_;clear hK K))<;>(try (clear hK K;exact q_u)))|(with_reducible refine q_s ?_;(first|apply q_J|apply q_K|apply q_L|apply q_M|apply q_N|apply q_O)<;>try (intro _;try exact q_v))|with_reducible refine q_t ?_)
      exact q_A (by rw [← g2, ← g3]; rfl)
    · simp only [ho, if_true] at g2 g3
      repeat' (first|(with_reducible first|apply q_a|apply q_b|apply q_c|apply q_d|apply q_e|apply q_f|apply q_g|apply q_h|apply q_i|apply q_j|apply q_k|apply q_m|apply q_n|apply q_o|apply q_p|refine q_l ?_)|((with_reducible first|refine q_q ib1_ok fun K hK=>?_|refine q_r ib1_ok fun K hK=>?_);simp (maxSteps:=2000000) only [go_sem,↓reduceIte,reduceCtorEq,Nat.reduceLeDiff,Nat.reduceLT,Nat.reduceBEq,Nat.reduceAdd,hr, ho, List.length_map];(repeat1' with_reducible first|apply And.intro|(intro _;try exact q_v)|(refine hK _ ?_;clear hK K))<;>(try (clear hK K;exact q_u)))|(with_reducible refine q_s ?_;(first|apply q_J|apply q_K|apply q_L|apply q_M|apply q_N|apply q_O)<;>try (intro _;try exact q_v))|with_reducible refine q_t ?_)
      refine q_F ⟨i + 1, hi, g2, by push_cast; exact g3⟩ ?_ (by simp only; omega)
      exact q_D
  · have hi' : i = l.length := by omega
    subst hi'
    rw [List.drop_length] at g2 g3
    repeat' (first|(with_reducible first|apply q_a|apply q_b|apply q_c|apply q_d|apply q_e|apply q_f|apply q_g|apply q_h|apply q_i|apply q_j|apply q_k|apply q_m|apply q_n|apply q_o|apply q_p|refine q_l ?_)|((with_reducible first|refine q_q ib1_ok fun K hK=>?_|refine q_r ib1_ok fun K hK=>?_);simp (maxSteps:=2000000) only [go_sem,↓reduceIte,reduceCtorEq,Nat.reduceLeDiff,Nat.reduceLT,Nat.reduceBEq,Nat.reduceAdd,List.length_map];(repeat1' with_reducible first|apply And.intro|(intro _;try exact q_v)|(refine hK _ ?_;clear hK K))<;>(try (clear hK K;exact q_u)))|(with_reducible refine q_s ?_;(first|apply q_J|apply q_K|apply q_L|apply q_M|apply q_N|apply q_O)<;>try (intro _;try exact q_v))|with_reducible refine q_t ?_)
    exact q_A (by rw [← g2, ← g3]; rfl)
def icheckCT : CT := mkCT [] true fun l K => match l with
  | [.inl (.sl 2 rows)] => match unI rows with
    | some l => (l.length ≤ 1000 ∧ allL 140737488355328 l) ∧ K (.g [.i .i64 (fbC l), .i .i64 (fbX 0 l)])
    | none => False
  | _ => False
def it3 : Cfg := addT 102 icheckCT it2
theorem it3_ok : TblOk Try.prog it3 := q_I it2_ok Try.func102 fun l K h => by
  split at h
  · split at h
    · rename_i l hl
      rw [unI_some hl]
      exact ⟨_, (icheck_ret l h.1.1 h.1.2).plain rfl, h.2⟩
    · exact h.elim
  · exact h.elim
attribute [go_sem] icheckCT unI fbC fbX allL

abbrev gI (z : Int) : List C := [.b (decide (z < 0)), .ints .u32 (dg 4294967296 z.natAbs)]
abbrev nP : Option C ⊕ List (Option C) := .inr [none, some (.ints .u32 [])]
theorem dg_zeroA (B : Nat) : dg B (0 : Int).natAbs = [] := rfl

set_option maxHeartbeats 800000 in
theorem isigned_ret (s : Bool) (xs : List Int) (hx : xs.length ≤ 140737488355328) (bx : InB 4294967296 xs) (tx : Trd xs) :
    Ret Try.prog 106 false [.inl (.b s), .inl (.ints .u32 xs)] (.t [.inr (gI (cl 128 (sv 4294967296 s xs))), .inr [.i .i64 (clC 128 (sv 4294967296 s xs)), .i .i64 (clI 128 (sv 4294967296 s xs))]]) := by
  have hv := sv_abs 4294967296 s xs
  have hd := dg_V 4294967296 (by omega) xs bx tx
  have hl : (dg 4294967296 (sv 4294967296 s xs).natAbs).length = xs.length := by rw [hv, hd]
  have hp := dg_len_pos 4294967296 (V 4294967296 xs) (by omega)
  rw [hd] at hp
  have hs : (s && decide (0 < (xs.length : Int))) = decide (sv 4294967296 s xs < 0) := by
    rcases Nat.eq_zero_or_pos xs.length with h | h
    · have : xs = [] := List.eq_nil_of_length_eq_zero h
      subst this
      cases s <;> simp [sv, V]
    · have h2 := hp.1 h
      cases s
      · simp [sv]
      · simp [sv]; omega
  cases s
  all_goals
    (refine q_H Try.func106 (fun F => ?_); simp only [q_z,q_y,Try.ntmps106,Try.results106])
    repeat' (first|(with_reducible first|apply q_a|apply q_b|apply q_c|apply q_d|apply q_e|apply q_f|apply q_g|apply q_h|apply q_i|apply q_j|apply q_k|apply q_m|apply q_n|apply q_o|apply q_p|refine q_l ?_)|((with_reducible first|refine q_q ib1_ok fun K hK=>?_|refine q_r ib1_ok fun K hK=>?_);simp (maxSteps:=2000000) only [go_sem,↓reduceIte,reduceCtorEq,Nat.reduceLeDiff,Nat.reduceLT,Nat.reduceBEq,Nat.reduceAdd];(repeat1' with_reducible first|apply And.intro|(intro _;try exact q_v)|(refine hK _ ?_;clear hK K))<;>(try (clear hK K;exact q_u)))|(with_reducible refine q_s ?_;(first|apply q_J|apply q_K|apply q_L|apply q_M|apply q_N|apply q_O)<;>try (intro _;try exact q_v))|with_reducible refine q_t ?_)
  all_goals (try rename_i q)
  all_goals first
    | (obtain ⟨e1, e2, e3⟩ := cl_big (k := 128) (z := sv 4294967296 _ xs) (by rw [hl]; omega)
       exact q_B [nP] rfl (by simp only [norm, nz, nzL, resAV, e1, e2, e3, dg_zeroA]; rfl))
    | (obtain ⟨e1, e2, e3⟩ := cl_fit (k := 128) (z := sv 4294967296 _ xs) (by rw [hl]; omega)
       exact q_A (by simp only [resAV, gI, e1, e2, e3, hv, hd, ← hs, Bool.true_and, Bool.false_and]))
def isignedCT : CT := mkCT [.inl none, .inl (some (.ints .u32 []))] false fun l K => match l with
  | [.inl (.b s), .inl (.ints .u32 xs)] => (xs.length ≤ 140737488355328 ∧ InB 4294967296 xs ∧ Trd xs) ∧ K (.t [.inr (gI (cl 128 (sv 4294967296 s xs))), .inr [.i .i64 (clC 128 (sv 4294967296 s xs)), .i .i64 (clI 128 (sv 4294967296 s xs))]])
  | _ => False
def it4 : Cfg := addT 106 isignedCT it3
theorem it4_ok : TblOk Try.prog it4 := q_I it3_ok Try.func106 fun l K h => by
  split at h
  · exact ⟨_, isigned_ret _ _ h.1.1 h.1.2.1 h.1.2.2, h.2⟩
  · exact h.elim
attribute [go_sem] isignedCT

def cloneVCT : CT := mkCT [.inl (some (.ints .u32 []))] true fun l K => match l with
  | [.inl (.ints .u32 xs)] => xs.length ≤ 16777216 ∧ K (.c (.ints .u32 xs))
  | _ => False
def it5 : Cfg := addT 128 cloneVCT it4
theorem it5_ok : TblOk Try.prog it5 := q_I it4_ok Try.func128 fun l K h => by
  split at h
  · exact ⟨_, (clone_ret _ h.1).ret, h.2⟩
  · exact h.elim
attribute [go_sem] cloneVCT gI
def ib : Cfg := listT [(108, atCT), (102, icheckCT), (106, isignedCT), (128, cloneVCT), (104, (goodCT (fun xs ys => fitN (addN xs ys)) (fun xs ys => fitC (addN xs ys)) (fun xs ys => fitI (addN xs ys)))), (105, (goodCT subO subC subI)), (129, (goodCT (fun xs ys => fitN (mulN xs ys)) (fun xs ys => fitC (mulN xs ys)) (fun xs ys => fitI (mulN xs ys)))), (126, CmpCT), (103, dvGoodCT), (107, gcGoodCT), (127, bitsGoodCT), (109, sqGoodCT)] [28]
theorem ib_ok : TblOk Try.prog ib := listT_ok (big := it5) it5_ok ⟨rfl, rfl, rfl, rfl, rfl, rfl, rfl, rfl, rfl, rfl, rfl, rfl, trivial⟩
attribute [go_sem] ib

end Go.Proofs.Ytneecniebhhhlaa

namespace Go.Proofs.Ytneecniebhhhlaa
set_option linter.unusedSimpArgs false
set_option linter.unusedVariables false
open Go.Abs Go.Proofs.NatL

theorem okN_128 {n : Nat} (h : (dg 4294967296 n).length ≤ 128) : okN (dg 4294967296 n) = true := okN_dg' (by omega)

end Go.Proofs.Ytneecniebhhhlaa

namespace Go.Proofs.Ytneecniebhhhlaa
set_option linter.unusedSimpArgs false
set_option linter.unusedVariables false
open Go.Abs Go.Proofs.NatL

theorem two_limbs (m : Nat) (h : m < 18446744073709551616) : trimL [((m % 4294967296 : Nat) : Int), ((m / 4294967296 : Nat) : Int)] = dg 4294967296 m := by
  rw [trimL_eq 4294967296 (by omega) _ (InB_two ⟨by omega, by omega⟩ ⟨by omega, by omega⟩)]
  congr 1
  simp only [V, Int.toNat_natCast]
  omega
set_option maxHeartbeats 1600000 in
theorem iOf_ret (n : Int) (hn : -9223372036854775808 ≤ n ∧ n ≤ 9223372036854775807) : Ret Try.prog 28 false [.inl (.i .i64 n)] (.g (gI n)) := by
  obtain ⟨m, hm⟩ : ∃ m : Nat, m = n.natAbs := ⟨_, rfl⟩
  have hml : m < 18446744073709551616 := by omega
  have hlo : ((m : Int)) % 4294967296 = ((m % 4294967296 : Nat) : Int) := by omega
  have hhi : ((m : Int)) / 4294967296 % 4294967296 = ((m / 4294967296 : Nat) : Int) := by omega
  have ht := two_limbs m hml
  simp only [gI, ← hm]
  have key : ∀ st : Bool, st = decide (n < 0) → Ret Try.prog 28 false [.inl (.i .i64 n)] (.g [.b st, .ints .u32 (dg 4294967296 m)]) := by
    intro st hst
    by_cases h : n < 0
    · have e1 : (0 - n % 18446744073709551616) % 18446744073709551616 = (m : Int) := by omega
      have e0 : decide (n < 0) = true := decide_eq_true h
      (refine q_H Try.func28 (fun F => ?_); simp only [q_z,q_y,Try.ntmps28,Try.results28])
      repeat' (first|(with_reducible first|apply q_a|apply q_b|apply q_c|apply q_d|apply q_e|apply q_f|apply q_g|apply q_h|apply q_i|apply q_j|apply q_k|apply q_m|apply q_n|apply q_o|apply q_p|refine q_l ?_)|((with_reducible first|refine q_q ib_ok fun K hK=>?_|refine q_r ib_ok fun K hK=>?_);simp (maxSteps:=2000000) only [go_sem,↓reduceIte,reduceCtorEq,Nat.reduceLeDiff,Nat.reduceLT,Nat.reduceBEq,Nat.reduceAdd,e1, hlo, hhi];(repeat1' with_reducible first|apply And.intro|(intro _;try exact q_v)|(refine hK _ ?_;clear hK K))<;>(try (clear hK K;exact q_u)))|(with_reducible refine q_s ?_;(first|apply q_J|apply q_K|apply q_L|apply q_M|apply q_N|apply q_O)<;>try (intro _;try exact q_v))|with_reducible refine q_t ?_)
      generalize hX : [((m % 4294967296 : Nat) : Int), ((m / 4294967296 : Nat) : Int)] = xs at *
      have hxl : xs.length = 2 := by rw [← hX]; rfl
      refine q_G (ι := { k : Nat // k ≤ 2 ∧ trimL (xs.take k) = trimL xs }) (fun k => ⟨38, [(0, .c (.i .i64 n)), (2, .bx 0 0), (4, .c (.ints .u32 (xs.take k.1)))], ⟨[(0, [.c (.b false), .c .nil])], [], []⟩, 1⟩) (fun k => k.1) ⟨2, by omega, by rw [List.take_of_length_le (by omega)]⟩ ?_ ?_
      · ((simp only [go_sem,↓reduceIte,reduceCtorEq,Nat.reduceLeDiff,Nat.reduceLT,Nat.reduceBEq,Nat.reduceAdd])<;>(try (simp;done))<;>(try ((simp only [C.i.injEq,C.b.injEq,C.ints.injEq,C.bools.injEq,List.append_cancel_left_eq,List.cons.injEq,true_and,and_true]);(repeat' with_reducible apply And.intro)<;>(first|rfl|assumption|omega|(simp;omega)|(congr 1;omega)|(congr 2;omega)))))
        all_goals (rw [← hX]; rfl)
      rintro ⟨k, h1, h2⟩
      simp only at h1 h2 ⊢
      have ek : 0 < k → ((k : Int) - 1).toNat = k - 1 := fun _ => by omega
      have e3 : (xs.take k).length = k := by simp; omega
      have e2 : 0 < k → (xs.take k).getD (k - 1) 0 = xs.getD (k - 1) 0 := fun h => by
        simp only [List.getD_eq_getElem?_getD, List.getElem?_take]
        rw [if_pos (by omega)]
      rcases Nat.eq_zero_or_pos k with hk | hk
      · subst hk
        rw [List.take_zero] at h2
        repeat' (first|(with_reducible first|apply q_a|apply q_b|apply q_c|apply q_d|apply q_e|apply q_f|apply q_g|apply q_h|apply q_i|apply q_j|apply q_k|apply q_m|apply q_n|apply q_o|apply q_p|refine q_l ?_)|((with_reducible first|refine q_q ib_ok fun K hK=>?_|refine q_r ib_ok fun K hK=>?_);simp (maxSteps:=2000000) only [go_sem,↓reduceIte,reduceCtorEq,Nat.reduceLeDiff,Nat.reduceLT,Nat.reduceBEq,Nat.reduceAdd,List.take_zero, e0];(repeat1' with_reducible first|apply And.intro|(intro _;try exact q_v)|(refine hK _ ?_;clear hK K))<;>(try (clear hK K;exact q_u)))|(with_reducible refine q_s ?_;(first|apply q_J|apply q_K|apply q_L|apply q_M|apply q_N|apply q_O)<;>try (intro _;try exact q_v))|with_reducible refine q_t ?_)
        exact q_A (by rw [hst, e0, ← ht, ← h2]; rfl)
      · have ek := ek hk
        have e2 := e2 hk
        have tk : (xs.take k).take (k - 1) = xs.take (k - 1) := by rw [List.take_take, Nat.min_eq_left (by omega)]
        by_cases hz : xs.getD (k - 1) 0 = 0
        · repeat' (first|(with_reducible first|apply q_a|apply q_b|apply q_c|apply q_d|apply q_e|apply q_f|apply q_g|apply q_h|apply q_i|apply q_j|apply q_k|apply q_m|apply q_n|apply q_o|apply q_p|refine q_l ?_)|((with_reducible first|refine q_q ib_ok fun K hK=>?_|refine q_r ib_ok fun K hK=>?_);simp (maxSteps:=2000000) only [go_sem,↓reduceIte,reduceCtorEq,Nat.reduceLeDiff,Nat.reduceLT,Nat.reduceBEq,Nat.reduceAdd,e3, ek, e2, hz, tk];(repeat1' with_reducible first|apply And.intro|(intro _;try exact q_v)|(refine hK _ ?_;clear hK K))<;>(try (clear hK K;exact q_u)))|(with_reducible refine q_s ?_;(first|apply q_J|apply q_K|apply q_L|apply q_M|apply q_N|apply q_O)<;>try (intro _;try exact q_v))|with_reducible refine q_t ?_)
          have := trimL_drop (xs.take k) (by omega) (by rw [e3, e2]; exact hz)
          rw [e3, tk] at this
          refine q_F ⟨k - 1, by omega, by rw [this, h2]⟩ ?_ (by simp only; omega)
          exact q_D
        · have hs := trimL_stop (xs.take k) (.inr (by rw [e3, e2]; exact hz))
          repeat' (first|(with_reducible first|apply q_a|apply q_b|apply q_c|apply q_d|apply q_e|apply q_f|apply q_g|apply q_h|apply q_i|apply q_j|apply q_k|apply q_m|apply q_n|apply q_o|apply q_p|refine q_l ?_)|((with_reducible first|refine q_q ib_ok fun K hK=>?_|refine q_r ib_ok fun K hK=>?_);simp (maxSteps:=2000000) only [go_sem,↓reduceIte,reduceCtorEq,Nat.reduceLeDiff,Nat.reduceLT,Nat.reduceBEq,Nat.reduceAdd,e3, ek, e2, e0];(repeat1' with_reducible first|apply And.intro|(intro _;try exact q_v)|(refine hK _ ?_;clear hK K))<;>(try (clear hK K;exact q_u)))|(with_reducible refine q_s ?_;(first|apply q_J|apply q_K|apply q_L|apply q_M|apply q_N|apply q_O)<;>try (intro _;try exact q_v))|with_reducible refine q_t ?_)
          exact q_A (by rw [hst, e0, ← ht, ← h2, hs]; rfl)
    · have e1 : n % 18446744073709551616 = (m : Int) := by omega
      have e0 : decide (n < 0) = false := decide_eq_false h
      (refine q_H Try.func28 (fun F => ?_); simp only [q_z,q_y,Try.ntmps28,Try.results28])
      repeat' (first|(with_reducible first|apply q_a|apply q_b|apply q_c|apply q_d|apply q_e|apply q_f|apply q_g|apply q_h|apply q_i|apply q_j|apply q_k|apply q_m|apply q_n|apply q_o|apply q_p|refine q_l ?_)|((with_reducible first|refine q_q ib_ok fun K hK=>?_|refine q_r ib_ok fun K hK=>?_);simp (maxSteps:=2000000) only [go_sem,↓reduceIte,reduceCtorEq,Nat.reduceLeDiff,Nat.reduceLT,Nat.reduceBEq,Nat.reduceAdd,e1, hlo, hhi];(repeat1' with_reducible first|apply And.intro|(intro _;try exact q_v)|(refine hK _ ?_;clear hK K))<;>(try (clear hK K;exact q_u)))|(with_reducible refine q_s ?_;(first|apply q_J|apply q_K|apply q_L|apply q_M|apply q_N|apply q_O)<;>try (intro _;try exact q_v))|with_reducible refine q_t ?_)
      generalize hX : [((m % 4294967296 : Nat) : Int), ((m / 4294967296 : Nat) : Int)] = xs at *
      have hxl : xs.length = 2 := by rw [← hX]; rfl
      refine q_G (ι := { k : Nat // k ≤ 2 ∧ trimL (xs.take k) = trimL xs }) (fun k => ⟨38, [(0, .c (.i .i64 n)), (2, .bx 0 0), (4, .c (.ints .u32 (xs.take k.1)))], ⟨[(0, [.c (.b false), .c .nil])], [], []⟩, 1⟩) (fun k => k.1) ⟨2, by omega, by rw [List.take_of_length_le (by omega)]⟩ ?_ ?_
      · ((simp only [go_sem,↓reduceIte,reduceCtorEq,Nat.reduceLeDiff,Nat.reduceLT,Nat.reduceBEq,Nat.reduceAdd])<;>(try (simp;done))<;>(try ((simp only [C.i.injEq,C.b.injEq,C.ints.injEq,C.bools.injEq,List.append_cancel_left_eq,List.cons.injEq,true_and,and_true]);(repeat' with_reducible apply And.intro)<;>(first|rfl|assumption|omega|(simp;omega)|(congr 1;omega)|(congr 2;omega)))))
        all_goals (rw [← hX]; rfl)
      rintro ⟨k, h1, h2⟩
      simp only at h1 h2 ⊢
      have ek : 0 < k → ((k : Int) - 1).toNat = k - 1 := fun _ => by omega
      have e3 : (xs.take k).length = k := by simp; omega
      have e2 : 0 < k → (xs.take k).getD (k - 1) 0 = xs.getD (k - 1) 0 := fun h => by
        simp only [List.getD_eq_getElem?_getD, List.getElem?_take]
        rw [if_pos (by omega)]
      rcases Nat.eq_zero_or_pos k with hk | hk
      · subst hk
        rw [List.take_zero] at h2
        repeat' (first|(with_reducible first|apply q_a|apply q_b|apply q_c|apply q_d|apply q_e|apply q_f|apply q_g|apply q_h|apply q_i|apply q_j|apply q_k|apply q_m|apply q_n|apply q_o|apply q_p|refine q_l ?_)|((with_reducible first|refine q_q ib_ok fun K hK=>?_|refine q_r ib_ok fun K hK=>?_);simp (maxSteps:=2000000) only [go_sem,↓reduceIte,reduceCtorEq,Nat.reduceLeDiff,Nat.reduceLT,Nat.reduceBEq,Nat.reduceAdd,List.take_zero, e0];(repeat1' with_reducible first|apply And.intro|(intro _;try exact q_v)|(refine hK _ ?_;clear hK K))<;>(try (clear hK K;exact q_u)))|(with_reducible refine q_s ?_;(first|apply q_J|apply q_K|apply q_L|apply q_M|apply q_N|apply q_O)<;>try (intro _;try exact q_v))|with_reducible refine q_t ?_)
        exact q_A (by rw [hst, e0, ← ht, ← h2]; rfl)
      · have ek := ek hk
        have e2 := e2 hk
        have tk : (xs.take k).take (k - 1) = xs.take (k - 1) := by rw [List.take_take, Nat.min_eq_left (by omega)]
        by_cases hz : xs.getD (k - 1) 0 = 0
        · repeat' (first|(with_reducible first|apply q_a|apply q_b|apply q_c|apply q_d|apply q_e|apply q_f|apply q_g|apply q_h|apply q_i|apply q_j|apply q_k|apply q_m|apply q_n|apply q_o|apply q_p|refine q_l ?_)|((with_reducible first|refine q_q ib_ok fun K hK=>?_|refine q_r ib_ok fun K hK=>?_);simp (maxSteps:=2000000) only [go_sem,↓reduceIte,reduceCtorEq,Nat.reduceLeDiff,Nat.reduceLT,Nat.reduceBEq,Nat.reduceAdd,e3, ek, e2, hz, tk];(repeat1' with_reducible first|apply And.intro|(intro _;try exact q_v)|(refine hK _ ?_;clear hK K))<;>(try (clear hK K;exact q_u)))|(with_reducible refine q_s ?_;(first|apply q_J|apply q_K|apply q_L|apply q_M|apply q_N|apply q_O)<;>try (intro _;try exact q_v))|with_reducible refine q_t ?_)
          have := trimL_drop (xs.take k) (by omega) (by rw [e3, e2]; exact hz)
          rw [e3, tk] at this
          refine q_F ⟨k - 1, by omega, by rw [this, h2]⟩ ?_ (by simp only; omega)
          exact q_D
        · have hs := trimL_stop (xs.take k) (.inr (by rw [e3, e2]; exact hz))
          repeat' (first|(with_reducible first|apply q_a|apply q_b|apply q_c|apply q_d|apply q_e|apply q_f|apply q_g|apply q_h|apply q_i|apply q_j|apply q_k|apply q_m|apply q_n|apply q_o|apply q_p|refine q_l ?_)|((with_reducible first|refine q_q ib_ok fun K hK=>?_|refine q_r ib_ok fun K hK=>?_);simp (maxSteps:=2000000) only [go_sem,↓reduceIte,reduceCtorEq,Nat.reduceLeDiff,Nat.reduceLT,Nat.reduceBEq,Nat.reduceAdd,e3, ek, e2, e0];(repeat1' with_reducible first|apply And.intro|(intro _;try exact q_v)|(refine hK _ ?_;clear hK K))<;>(try (clear hK K;exact q_u)))|(with_reducible refine q_s ?_;(first|apply q_J|apply q_K|apply q_L|apply q_M|apply q_N|apply q_O)<;>try (intro _;try exact q_v))|with_reducible refine q_t ?_)
          exact q_A (by rw [hst, e0, ← ht, ← h2, hs]; rfl)
  exact key _ rfl
def iOfCT : CT := mkCT [] false fun l K => match l with
  | [.inl (.i .i64 n)] => (-9223372036854775808 ≤ n ∧ n ≤ 9223372036854775807) ∧ K (.g (gI n))
  | _ => False
def iu1 : Cfg := addT 28 iOfCT it5
theorem iu1_ok : TblOk Try.prog iu1 := q_I it5_ok Try.func28 fun l K h => by
  split at h
  · exact ⟨_, iOf_ret _ h.1, h.2⟩
  · exact h.elim
attribute [go_sem] iOfCT

def digL : List UInt8 := [48, 49, 50, 51, 52, 53, 54, 55, 56, 57, 97, 98, 99, 100, 101, 102, 103, 104, 105, 106, 107, 108, 109, 110, 111, 112, 113, 114, 115, 116, 117, 118, 119, 120, 121, 122]
def chr (d : Int) : Int := ((digL.getD d.toNat 0).toNat : Nat)
def textI (z : Int) (b : Nat) : List Int := (if z < 0 then [45] else []) ++ (if z = 0 then [48] else (dg b z.natAbs).reverse.map chr)
def ibt : Cfg := listT [(102, icheckCT), (121, digG)] [28]
attribute [go_sem] ibt
def iTextCT : CT := mkCT [nP] true fun l K => match l with
  | [.inr [.b s, .ints .u32 xs], .inl (.i .i64 b)] => (okZ s xs = true ∧ InB 4294967296 xs ∧ 2 ≤ b ∧ b ≤ 36) ∧ K (.t [.inl (.str (strOf (textI (sv 4294967296 s xs) b.toNat))), .inr [.i .i64 0, .i .i64 0]])
  | _ => False
attribute [go_sem] iTextCT

end Go.Proofs.Ytneecniebhhhlaa
