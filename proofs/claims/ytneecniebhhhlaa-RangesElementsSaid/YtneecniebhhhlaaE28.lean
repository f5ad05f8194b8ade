import Derived.Test.YtneecniebhhhlaaE25
import Derived.Test.YtneecniebhhhlaaE27
namespace Go.Proofs.Ytneecniebhhhlaa
set_option linter.unusedSimpArgs false
set_option linter.unusedVariables false
open Go.Abs Go.Proofs.NatL

def elL (S D : Int) (m : Nat) : List (List C) := (List.range m).map fun k : Nat => gI (S + D * (k : Int))
theorem elL_succ (S D : Int) (m : Nat) : elL S D (m + 1) = elL S D m ++ [gI (S + D * (m : Int))] := by simp [elL, List.range_succ]
theorem elL_len (S D : Int) (m : Nat) : (elL S D m).length = m := by simp [elL]
def atM (n most : Int) : Nat := (min n most).toNat
def rb8 : Cfg := listT [(138, check1CT), (140, (rgCT RB (fun S T D => oneI (rLen S T D)))), (155, (rgICT pElem (fun S _ D u => oneI (S + D * u)))), (152, atCT), (28, iOfCT), (54, ismCT)] [28]
theorem rb8_ok : TblOk Try.prog rb8 := listE_ok (by simp only [List.mem_singleton, forall_eq]; exact flt) ⟨⟨rd1, rd1_ok, rfl⟩, ⟨rc7, rc7_ok, rfl⟩, ⟨rc7, rc7_ok, rfl⟩, ⟨rc7, rc7_ok, rfl⟩, ⟨iu1, iu1_ok, rfl⟩, ⟨su1, su1_ok, rfl⟩, trivial⟩
attribute [go_sem] rb8
set_option maxHeartbeats 1600000 in
theorem Values_bad (s t d : Bool) (xs ys zs : List Int) (m : Int) (h1 : xs.length ≤ 140737488355328) (h2 : ys.length ≤ 140737488355328) (h3 : zs.length ≤ 140737488355328) (hv : vR s t d xs ys zs = false) :
    Ret Try.prog 90 false [.inr [.b s, .ints .u32 xs, .b t, .ints .u32 ys, .b d, .ints .u32 zs], .inl (.i .i64 m)] (.t [.inl (.sl 2 []), .inr [.i .i64 6, .i .i64 (-1)]]) := by
  (refine q_H Try.func90 (fun F => ?_); simp only [q_z,q_y,Try.ntmps90,Try.results90])
  repeat' (first|(with_reducible first|apply q_a|apply q_b|apply q_c|apply q_d|apply q_e|apply q_f|apply q_g|apply q_h|apply q_i|apply q_j|apply q_k|apply q_m|apply q_n|apply q_o|apply q_p|refine q_l ?_)|((with_reducible first|refine q_q rb8_ok fun K hK=>?_|refine q_r rb8_ok fun K hK=>?_);simp (maxSteps:=2000000) only [go_sem,↓reduceIte,reduceCtorEq,Nat.reduceLeDiff,Nat.reduceLT,Nat.reduceBEq,Nat.reduceAdd,hv];(repeat1' with_reducible first|apply And.intro|(intro _;try exact q_v)|(refine hK _ ?_;clear hK K))<;>(try (clear hK K;exact q_u)))|(with_reducible refine q_s ?_;(first|apply q_J|apply q_K|apply q_L|apply q_M|apply q_N|apply q_O)<;>try (intro _;try exact q_v))|with_reducible refine q_t ?_)
  all_goals first | contradiction | omega | exact q_B [.inl (some (.sl 2 [])), .inr [none, none]] rfl rfl
set_option maxHeartbeats 1600000 in
theorem Values_most (s t d : Bool) (xs ys zs : List Int) (m : Int) (h1 : xs.length ≤ 140737488355328) (h2 : ys.length ≤ 140737488355328) (h3 : zs.length ≤ 140737488355328) (hv : vR s t d xs ys zs = true) (hm : m < 0 ∨ 4000 < m) :
    Ret Try.prog 90 false [.inr [.b s, .ints .u32 xs, .b t, .ints .u32 ys, .b d, .ints .u32 zs], .inl (.i .i64 m)] (.t [.inl (.sl 2 []), .inr [.i .i64 4, .i .i64 (-2)]]) := by
  (refine q_H Try.func90 (fun F => ?_); simp only [q_z,q_y,Try.ntmps90,Try.results90])
  repeat' (first|(with_reducible first|apply q_a|apply q_b|apply q_c|apply q_d|apply q_e|apply q_f|apply q_g|apply q_h|apply q_i|apply q_j|apply q_k|apply q_m|apply q_n|apply q_o|apply q_p|refine q_l ?_)|((with_reducible first|refine q_q rb8_ok fun K hK=>?_|refine q_r rb8_ok fun K hK=>?_);simp (maxSteps:=2000000) only [go_sem,↓reduceIte,reduceCtorEq,Nat.reduceLeDiff,Nat.reduceLT,Nat.reduceBEq,Nat.reduceAdd,hv];(repeat1' with_reducible first|apply And.intro|(intro _;try exact q_v)|(refine hK _ ?_;clear hK K))<;>(try (clear hK K;exact q_u)))|(with_reducible refine q_s ?_;(first|apply q_J|apply q_K|apply q_L|apply q_M|apply q_N|apply q_O)<;>try (intro _;try exact q_v))|with_reducible refine q_t ?_)
  all_goals first | contradiction | omega | exact q_B [.inl (some (.sl 2 [])), .inr [none, none]] rfl rfl
set_option maxRecDepth 100000 in
set_option maxHeartbeats 6400000 in
theorem Values_ok (S T D m : Int) (h : RV S T D) (h0 : 0 ≤ m) (h1 : m ≤ 4000) : Ret Try.prog 90 false [.inr (gG S T D), .inl (.i .i64 m)] (.t [.inl (.sl 2 (elL S D (atM (rLen S T D) m))), .inr [.i .i64 0, .i .i64 0]]) := by
  have hv := (vR_g S T D).2 h
  have hb := h.rb
  obtain ⟨f1, f2, f3⟩ := rv_fb h
  have l1 := lb_of f1
  have l2 := lb_of f2
  have l3 := lb_of f3
  obtain ⟨n1, n2⟩ := len_fb h
  have on := (okZ_g (rLen S T D)).trans (decide_eq_true (FB_len n1))
  have he := fun (k : Int) => elem_fb (k := k) h
  generalize hN : rLen S T D = n at *
  have key : ∀ c : Nat, atM n m = c → (c : Int) ≤ n → (c : Int) ≤ 4000 → Ret Try.prog 90 false [.inr (gG S T D), .inl (.i .i64 m)] (.t [.inl (.sl 2 (elL S D c)), .inr [.i .i64 0, .i .i64 0]]) := by
    intro c hc hcn hcm
    have hcm' : (c : Int) = if n ≤ m then n else m := by unfold atM at hc; split <;> omega
    simp only [gG]
    by_cases hs : -9223372036854775808 ≤ n ∧ n ≤ 9223372036854775807
    · obtain ⟨e1, e2, e3⟩ := sm_fit hs
      (refine q_H Try.func90 (fun F => ?_); simp only [q_z,q_y,Try.ntmps90,Try.results90])
      repeat' (first|(with_reducible first|apply q_a|apply q_b|apply q_c|apply q_d|apply q_e|apply q_f|apply q_g|apply q_h|apply q_i|apply q_j|apply q_k|apply q_m|apply q_n|apply q_o|apply q_p|refine q_l ?_)|((with_reducible first|refine q_q rb8_ok fun K hK=>?_|refine q_r rb8_ok fun K hK=>?_);simp (maxSteps:=2000000) only [go_sem,↓reduceIte,reduceCtorEq,Nat.reduceLeDiff,Nat.reduceLT,Nat.reduceBEq,Nat.reduceAdd,hv, hN, on, sg_self, e1, e2, e3];(repeat1' with_reducible first|apply And.intro|(intro _;try exact q_v)|(refine hK _ ?_;clear hK K))<;>(try (clear hK K;exact q_u)))|(with_reducible refine q_s ?_;(first|apply q_J|apply q_K|apply q_L|apply q_M|apply q_N|apply q_O)<;>try (intro _;try exact q_v))|with_reducible refine q_t ?_)
      all_goals try omega
      all_goals
        refine q_G (ι := { k : Nat // k ≤ c }) (fun k => ⟨54, [(2, .bx 0 0), (5, .bx 1 0), (9, .own 4 0), (40, .c (.i .i64 c)), (41, .c (.i .i64 (k.1 : Nat)))], ⟨[(1, [.c (.i .i64 0), .c (.i .i64 0)]), (0, [.c (.b (decide (S < 0))), .c (.ints .u32 (dg 4294967296 S.natAbs)), .c (.b (decide (T < 0))), .c (.ints .u32 (dg 4294967296 T.natAbs)), .c (.b (decide (D < 0))), .c (.ints .u32 (dg 4294967296 D.natAbs))])], [(4, ⟨0, 24, 2, .sl 2 (elL S D k.1)⟩)], []⟩, 5⟩) (fun k => c - k.1) ⟨0, by omega⟩ ?_ ?_
        · have e9 : elL S D 0 = [] := rfl
          simp only [e9]
          ((simp only [go_sem,↓reduceIte,reduceCtorEq,Nat.reduceLeDiff,Nat.reduceLT,Nat.reduceBEq,Nat.reduceAdd])<;>(try (simp;done))<;>(try ((simp only [C.i.injEq,C.b.injEq,C.ints.injEq,C.bools.injEq,List.append_cancel_left_eq,List.cons.injEq,true_and,and_true]);(repeat' with_reducible apply And.intro)<;>(first|rfl|assumption|omega|(simp;omega)|(congr 1;omega)|(congr 2;omega)))))
        rintro ⟨k, k1⟩
        simp only at k1 ⊢
        have tl := elL_len S D k
        rcases Nat.lt_or_ge k c with hk | hk
        · obtain ⟨g1, g2, g3⟩ := he k (by omega) (by omega)
          have ts := elL_succ S D k
          repeat' (first|(with_reducible first|apply q_a|apply q_b|apply q_c|apply q_d|apply q_e|apply q_f|apply q_g|apply q_h|apply q_i|apply q_j|apply q_k|apply q_m|apply q_n|apply q_o|apply q_p|refine q_l ?_)|((with_reducible first|refine q_q rb8_ok fun K hK=>?_|refine q_r rb8_ok fun K hK=>?_);simp (maxSteps:=2000000) only [go_sem,↓reduceIte,reduceCtorEq,Nat.reduceLeDiff,Nat.reduceLT,Nat.reduceBEq,Nat.reduceAdd,tl];(repeat1' with_reducible first|apply And.intro|(intro _;try exact q_v)|(refine hK _ ?_;clear hK K))<;>(try (clear hK K;exact q_u)))|(with_reducible refine q_s ?_;(first|apply q_J|apply q_K|apply q_L|apply q_M|apply q_N|apply q_O)<;>try (intro _;try exact q_v))|with_reducible refine q_t ?_)
          all_goals try omega
          all_goals first
            | exact ⟨f1, f3, g1, g2, g3⟩
            | (refine q_F ⟨k + 1, hk⟩ ?_ (by simp only; omega)
               simp only [ts]
               exact q_D)
        · have hk' : k = c := by omega
          subst hk'
          repeat' (first|(with_reducible first|apply q_a|apply q_b|apply q_c|apply q_d|apply q_e|apply q_f|apply q_g|apply q_h|apply q_i|apply q_j|apply q_k|apply q_m|apply q_n|apply q_o|apply q_p|refine q_l ?_)|((with_reducible first|refine q_q rb8_ok fun K hK=>?_|refine q_r rb8_ok fun K hK=>?_);simp (maxSteps:=2000000) only [go_sem,↓reduceIte,reduceCtorEq,Nat.reduceLeDiff,Nat.reduceLT,Nat.reduceBEq,Nat.reduceAdd,tl];(repeat1' with_reducible first|apply And.intro|(intro _;try exact q_v)|(refine hK _ ?_;clear hK K))<;>(try (clear hK K;exact q_u)))|(with_reducible refine q_s ?_;(first|apply q_J|apply q_K|apply q_L|apply q_M|apply q_N|apply q_O)<;>try (intro _;try exact q_v))|with_reducible refine q_t ?_)
          all_goals first | omega | exact q_B [.inl (some (.sl 2 [])), .inr [none, none]] rfl rfl | exact q_A rfl
    · obtain ⟨e1, e2, e3⟩ := sm_big hs
      (refine q_H Try.func90 (fun F => ?_); simp only [q_z,q_y,Try.ntmps90,Try.results90])
      repeat' (first|(with_reducible first|apply q_a|apply q_b|apply q_c|apply q_d|apply q_e|apply q_f|apply q_g|apply q_h|apply q_i|apply q_j|apply q_k|apply q_m|apply q_n|apply q_o|apply q_p|refine q_l ?_)|((with_reducible first|refine q_q rb8_ok fun K hK=>?_|refine q_r rb8_ok fun K hK=>?_);simp (maxSteps:=2000000) only [go_sem,↓reduceIte,reduceCtorEq,Nat.reduceLeDiff,Nat.reduceLT,Nat.reduceBEq,Nat.reduceAdd,hv, hN, on, sg_self, e1, e2, e3];(repeat1' with_reducible first|apply And.intro|(intro _;try exact q_v)|(refine hK _ ?_;clear hK K))<;>(try (clear hK K;exact q_u)))|(with_reducible refine q_s ?_;(first|apply q_J|apply q_K|apply q_L|apply q_M|apply q_N|apply q_O)<;>try (intro _;try exact q_v))|with_reducible refine q_t ?_)
      all_goals try omega
      all_goals
        refine q_G (ι := { k : Nat // k ≤ c }) (fun k => ⟨54, [(2, .bx 0 0), (5, .bx 1 0), (9, .own 4 0), (40, .c (.i .i64 c)), (41, .c (.i .i64 (k.1 : Nat)))], ⟨[(1, [.c (.i .i64 0), .c (.i .i64 0)]), (0, [.c (.b (decide (S < 0))), .c (.ints .u32 (dg 4294967296 S.natAbs)), .c (.b (decide (T < 0))), .c (.ints .u32 (dg 4294967296 T.natAbs)), .c (.b (decide (D < 0))), .c (.ints .u32 (dg 4294967296 D.natAbs))])], [(4, ⟨0, 24, 2, .sl 2 (elL S D k.1)⟩)], []⟩, 5⟩) (fun k => c - k.1) ⟨0, by omega⟩ ?_ ?_
        · have e9 : elL S D 0 = [] := rfl
          simp only [e9]
          ((simp only [go_sem,↓reduceIte,reduceCtorEq,Nat.reduceLeDiff,Nat.reduceLT,Nat.reduceBEq,Nat.reduceAdd])<;>(try (simp;done))<;>(try ((simp only [C.i.injEq,C.b.injEq,C.ints.injEq,C.bools.injEq,List.append_cancel_left_eq,List.cons.injEq,true_and,and_true]);(repeat' with_reducible apply And.intro)<;>(first|rfl|assumption|omega|(simp;omega)|(congr 1;omega)|(congr 2;omega)))))
        rintro ⟨k, k1⟩
        simp only at k1 ⊢
        have tl := elL_len S D k
        rcases Nat.lt_or_ge k c with hk | hk
        · obtain ⟨g1, g2, g3⟩ := he k (by omega) (by omega)
          have ts := elL_succ S D k
          repeat' (first|(with_reducible first|apply q_a|apply q_b|apply q_c|apply q_d|apply q_e|apply q_f|apply q_g|apply q_h|apply q_i|apply q_j|apply q_k|apply q_m|apply q_n|apply q_o|apply q_p|refine q_l ?_)|((with_reducible first|refine q_q rb8_ok fun K hK=>?_|refine q_r rb8_ok fun K hK=>?_);simp (maxSteps:=2000000) only [go_sem,↓reduceIte,reduceCtorEq,Nat.reduceLeDiff,Nat.reduceLT,Nat.reduceBEq,Nat.reduceAdd,tl];(repeat1' with_reducible first|apply And.intro|(intro _;try exact q_v)|(refine hK _ ?_;clear hK K))<;>(try (clear hK K;exact q_u)))|(with_reducible refine q_s ?_;(first|apply q_J|apply q_K|apply q_L|apply q_M|apply q_N|apply q_O)<;>try (intro _;try exact q_v))|with_reducible refine q_t ?_)
          all_goals try omega
          all_goals first
            | exact ⟨f1, f3, g1, g2, g3⟩
            | (refine q_F ⟨k + 1, hk⟩ ?_ (by simp only; omega)
               simp only [ts]
               exact q_D)
        · have hk' : k = c := by omega
          subst hk'
          repeat' (first|(with_reducible first|apply q_a|apply q_b|apply q_c|apply q_d|apply q_e|apply q_f|apply q_g|apply q_h|apply q_i|apply q_j|apply q_k|apply q_m|apply q_n|apply q_o|apply q_p|refine q_l ?_)|((with_reducible first|refine q_q rb8_ok fun K hK=>?_|refine q_r rb8_ok fun K hK=>?_);simp (maxSteps:=2000000) only [go_sem,↓reduceIte,reduceCtorEq,Nat.reduceLeDiff,Nat.reduceLT,Nat.reduceBEq,Nat.reduceAdd,tl];(repeat1' with_reducible first|apply And.intro|(intro _;try exact q_v)|(refine hK _ ?_;clear hK K))<;>(try (clear hK K;exact q_u)))|(with_reducible refine q_s ?_;(first|apply q_J|apply q_K|apply q_L|apply q_M|apply q_N|apply q_O)<;>try (intro _;try exact q_v))|with_reducible refine q_t ?_)
          all_goals first | omega | exact q_B [.inl (some (.sl 2 [])), .inr [none, none]] rfl rfl | exact q_A rfl
  exact key _ rfl (by unfold atM; omega) (by unfold atM; omega)
def valuesCT : CT := mkCT [nG] false fun l K => match l with
  | [.inr [.b s, .ints .u32 xs, .b t, .ints .u32 ys, .b d, .ints .u32 zs], .inl (.i .i64 m)] => ((xs.length ≤ 140737488355328 ∧ ys.length ≤ 140737488355328 ∧ zs.length ≤ 140737488355328) ∧ InB 4294967296 xs ∧ InB 4294967296 ys ∧ InB 4294967296 zs) ∧
      (vR s t d xs ys zs = true → (0 ≤ m ∧ m ≤ 4000 → K (.t [.inl (.sl 2 (elL (sv 4294967296 s xs) (sv 4294967296 d zs) (atM (rLen (sv 4294967296 s xs) (sv 4294967296 t ys) (sv 4294967296 d zs)) m))), .inr [.i .i64 0, .i .i64 0]])) ∧
        ((m < 0 ∨ 4000 < m) → K (.t [.inl (.sl 2 []), .inr [.i .i64 4, .i .i64 (-2)]]))) ∧
      (vR s t d xs ys zs = false → K (.t [.inl (.sl 2 []), .inr [.i .i64 6, .i .i64 (-1)]]))
  | _ => False
def re4 : Cfg := addT 90 valuesCT re3
theorem re4_ok : TblOk Try.prog re4 := q_I re3_ok Try.func90 fun l K h => by
  split at h
  · rename_i s xs t ys d zs m
    obtain ⟨⟨⟨h1, h2, h3⟩, b1, b2, b3⟩, hgood, hbad⟩ := h
    cases hv : vR s t d xs ys zs
    · exact ⟨_, Values_bad s t d xs ys zs m h1 h2 h3 hv, hbad hv⟩
    · have hgood := hgood hv
      by_cases hm : m < 0 ∨ 4000 < m
      · exact ⟨_, Values_most s t d xs ys zs m h1 h2 h3 hv hm, hgood.2 hm⟩
      · obtain ⟨n1, n2, n3, h⟩ := vR_ok hv b1 b2 b3
        refine ⟨_, ?_, hgood.1 (by omega)⟩
        rw [gG_nrm n1 n2 n3]
        exact Values_ok _ _ _ m h (by omega) (by omega)
  · exact h.elim
attribute [go_sem] valuesCT
end Go.Proofs.Ytneecniebhhhlaa

namespace Go.Proofs.NatL
set_option linter.unusedSimpArgs false
set_option linter.unusedVariables false
structure Eu (a m : Nat) where
  s : Bool
  u : Nat
  v : Nat
  hi : Nat
  lo : Nat
  g : Nat.gcd hi lo = 1
  pos : 0 < hi
  sz : u * lo + v * hi = m
  him : hi ≤ m
  lom : lo ≤ m
  um : u ≤ m
  e1 : ∃ k : Int, (a : Int) * sg s u = hi + m * k
  e2 : ∃ k : Int, (a : Int) * sg (!s) v = lo + m * k
theorem Eu.v_le {a m : Nat} (e : Eu a m) : e.v ≤ m := by
  have h := e.sz
  have := Nat.le_mul_of_pos_right e.v e.pos
  omega
theorem Eu.next_sz {a m : Nat} (e : Eu a m) (h0 : 0 < e.lo) : e.v * (e.hi % e.lo) + (e.u + e.hi / e.lo * e.v) * e.lo = m := by
  have h := e.sz
  have hd := Nat.div_add_mod e.hi e.lo
  rw [← hd, Nat.mul_add] at h
  rw [Nat.add_mul, Nat.mul_right_comm]
  have e1 : e.v * (e.lo * (e.hi / e.lo)) = e.hi / e.lo * e.lo * e.v := by rw [Nat.mul_comm e.v, Nat.mul_comm e.lo]
  omega
theorem eu_not (s : Bool) (n : Nat) : sg (!s) n = -sg s n := by cases s <;> simp [sg]
theorem eu_add (s : Bool) (m n : Nat) : sg s (m + n) = sg s m + sg s n := by cases s <;> simp [sg] <;> omega
theorem eu_mul (s : Bool) (m n : Nat) : sg s (m * n) = (m : Int) * sg s n := by cases s <;> simp [sg, Int.mul_neg]
def Eu.next {a m : Nat} (e : Eu a m) (h0 : 0 < e.lo) : Eu a m where
  s := !e.s
  u := e.v
  v := e.u + e.hi / e.lo * e.v
  hi := e.lo
  lo := e.hi % e.lo
  g := by have := e.g; rw [Nat.gcd_comm, Nat.gcd_rec] at this; rw [Nat.gcd_comm]; exact this
  pos := h0
  sz := e.next_sz h0
  him := e.lom
  lom := Nat.le_trans (Nat.le_of_lt (Nat.mod_lt _ h0)) e.lom
  um := e.v_le
  e1 := e.e2
  e2 := by
    obtain ⟨k, hk⟩ := e.e1
    obtain ⟨l, hl⟩ := e.e2
    refine ⟨k - (e.hi / e.lo : Nat) * l, ?_⟩
    rw [Bool.not_not, eu_add, eu_mul, Int.mul_add, hk]
    have h1 : (a : Int) * (((e.hi / e.lo : Nat) : Int) * sg e.s e.v) = -(((e.hi / e.lo : Nat) : Int) * (e.lo + m * l)) := by
      rw [← hl, eu_not, Int.mul_left_comm, Int.mul_neg, Int.mul_neg, Int.neg_neg]
    rw [h1]
    have hd := Nat.div_add_mod e.hi e.lo
    have hd2 : (e.hi : Int) = e.lo * ((e.hi / e.lo : Nat) : Int) + ((e.hi % e.lo : Nat) : Int) := by
      have := congrArg (fun n : Nat => (n : Int)) hd
      simp only [Int.natCast_add, Int.natCast_mul] at this
      exact this.symm
    rw [hd2, Int.mul_add, Int.mul_sub]
    generalize ((e.hi / e.lo : Nat) : Int) = q
    generalize ((e.hi % e.lo : Nat) : Int) = r
    have c1 : (e.lo : Int) * q = q * e.lo := Int.mul_comm _ _
    have c2 : (m : Int) * (q * l) = q * (m * l) := Int.mul_left_comm _ _ _
    rw [c1, c2]
    generalize q * (e.lo : Int) = p1
    generalize q * ((m : Int) * l) = p2
    omega
def Eu.start (a m : Nat) (hm : 0 < m) (hg : Nat.gcd a m = 1) : Eu a m where
  s := true
  u := 0
  v := 1
  hi := m
  lo := a % m
  g := by rw [Nat.gcd_comm a m, Nat.gcd_rec] at hg; rw [Nat.gcd_comm]; exact hg
  pos := hm
  sz := by omega
  him := Nat.le_refl _
  lom := Nat.le_of_lt (Nat.mod_lt _ hm)
  um := Nat.zero_le _
  e1 := ⟨-1, by simp [sg]; omega⟩
  e2 := ⟨((a / m : Nat) : Int), by
    have h := Nat.div_add_mod a m
    have h2 := congrArg (fun n : Nat => (n : Int)) h
    simp only [Int.natCast_add, Int.natCast_mul] at h2
    simp only [sg, Bool.not_true, Bool.false_eq_true, if_false]
    generalize (m : Int) * ((a / m : Nat) : Int) = p at *
    omega⟩
theorem Eu.ends {a m : Nat} : ∀ n (e : Eu a m), e.lo = n → ∃ e' : Eu a m, e'.lo = 0 := by
  intro n
  induction n using Nat.strongRecOn with
  | _ n ih =>
    intro e he
    by_cases h0 : e.lo = 0
    · exact ⟨e, h0⟩
    · have hp : 0 < e.lo := by omega
      exact ih (e.next hp).lo (by have := Nat.mod_lt e.hi hp; show e.hi % e.lo < n; omega) (e.next hp) rfl
theorem Eu.inv {a m : Nat} (hm : 0 < m) (e : Eu a m) (h0 : e.lo = 0) : ∃ k : Int, (a : Int) * (sg e.s e.u % m) = 1 + m * k := by
  have hg := e.g
  rw [h0, Nat.gcd_zero_right] at hg
  obtain ⟨k, hk⟩ := e.e1
  rw [hg] at hk
  have hd := Int.mul_ediv_add_emod (sg e.s e.u) m
  refine ⟨k - a * (sg e.s e.u / m), ?_⟩
  have : sg e.s e.u % m = sg e.s e.u - m * (sg e.s e.u / m) := by omega
  rw [this, Int.mul_sub, hk, Int.mul_sub, Int.mul_left_comm]
  omega
theorem inv_unique {a m i j : Nat} (hi : i < m) (hj : j < m) (h1 : ∃ k : Int, (a : Int) * i = 1 + m * k) (h2 : ∃ k : Int, (a : Int) * j = 1 + m * k) : i = j := by
  obtain ⟨k, hk⟩ := h1
  obtain ⟨l, hl⟩ := h2
  have e : (i : Int) = j + m * (k * j - l * i) := by
    have e1 : (i : Int) * (a * j) = j * (a * i) := by rw [Int.mul_left_comm, Int.mul_left_comm (j : Int), Int.mul_comm (i : Int) j]
    rw [hl, hk, Int.mul_add, Int.mul_add, Int.mul_one, Int.mul_one, Int.mul_left_comm (i : Int), Int.mul_left_comm (j : Int)] at e1
    rw [Int.mul_sub, Int.mul_comm k, Int.mul_comm l]
    omega
  have h := congrArg (fun x : Int => x % m) e
  simp only [Int.add_mul_emod_self_left] at h
  rw [Int.emod_eq_of_lt (by omega) (by omega), Int.emod_eq_of_lt (by omega) (by omega)] at h
  omega
theorem inv_ex (a m : Nat) (hm : 0 < m) (hg : Nat.gcd a m = 1) : ∃ i : Nat, i < m ∧ ∃ k : Int, (a : Int) * i = 1 + m * k := by
  obtain ⟨e, h0⟩ := Eu.ends _ (Eu.start a m hm hg) rfl
  have h1 := Int.emod_nonneg (sg e.s e.u) (show (m : Int) ≠ 0 by omega)
  have h2 := Int.emod_lt_of_pos (sg e.s e.u) (show (0 : Int) < m by omega)
  obtain ⟨k, hk⟩ := e.inv hm h0
  refine ⟨(sg e.s e.u % m).toNat, by omega, k, ?_⟩
  rw [Int.toNat_of_nonneg h1]; exact hk
end Go.Proofs.NatL
namespace Go.Proofs.Ytneecniebhhhlaa
set_option linter.unusedSimpArgs false
set_option linter.unusedVariables false
open Go.Abs Go.Proofs.NatL

def rv1 : Cfg := listT [(28, iOfCT), (146, (rg2CT (fun a b => FB (a - b)) sub_R)), (147, (rg2CT (fun a b => FB (a * b)) mul_R)), (144, (rg2CT (fun _ b => b ≠ 0) dmR)), (139, zeroRCT)] [28]
theorem rv1_ok : TblOk Try.prog rv1 := listE_ok (by simp only [List.mem_singleton, forall_eq]; exact flt) ⟨⟨iu1, iu1_ok, rfl⟩, ⟨rc2, rc2_ok, rfl⟩, ⟨rc2, rc2_ok, rfl⟩, ⟨rc2, rc2_ok, rfl⟩, ⟨rc2, rc2_ok, rfl⟩, trivial⟩
attribute [go_sem] rv1
theorem zero_len' (z : Int) : decide (((dg 4294967296 z.natAbs).length : Int) = 0) = decide (z = 0) := by
  have := dg_len_pos 4294967296 z.natAbs (by omega)
  congr 1; apply propext; omega
theorem fd_nat (a b : Nat) : (a : Int).fdiv b = ((a / b : Nat) : Int) ∧ (a : Int).fmod b = ((a % b : Nat) : Int) := ⟨by rw [Int.fdiv_eq_ediv_of_nonneg _ (by omega)]; rfl, by rw [Int.fmod_eq_emod_of_nonneg _ (by omega)]; rfl⟩
set_option maxRecDepth 100000 in
set_option maxHeartbeats 6400000 in
theorem inverse_ret (a m i : Nat) (hm : 0 < m) (hg : Nat.gcd a m = 1) (ha : a ≤ 100 * W80) (hb : m ≤ 100 * W80) (hi : i < m) (hk : ∃ k : Int, (a : Int) * i = 1 + m * k) :
    Ret Try.prog 175 false [.inr (gI a), .inr (gI m)] (.g (gI i)) := by
  have hw := W80_ge
  have fa : FB (a : Int) := FB_w (by omega)
  have fm : FB (m : Int) := FB_w (by omega)
  have hm0 : ¬ (m : Int) = 0 := by omega
  obtain ⟨d1, d2⟩ := fd_nat a m
  simp only [gI]
  (refine q_H Try.func175 (fun F => ?_); simp only [q_z,q_y,Try.ntmps175,Try.results175])
  repeat' (first|(with_reducible first|apply q_a|apply q_b|apply q_c|apply q_d|apply q_e|apply q_f|apply q_g|apply q_h|apply q_i|apply q_j|apply q_k|apply q_m|apply q_n|apply q_o|apply q_p|refine q_l ?_)|((with_reducible first|refine q_q rv1_ok fun K hK=>?_|refine q_r rv1_ok fun K hK=>?_);simp (maxSteps:=2000000) only [go_sem,↓reduceIte,reduceCtorEq,Nat.reduceLeDiff,Nat.reduceLT,Nat.reduceBEq,Nat.reduceAdd,d1, d2];(repeat1' with_reducible first|apply And.intro|(intro _;try exact q_v)|(refine hK _ ?_;clear hK K))<;>(try (clear hK K;exact q_u)))|(with_reducible refine q_s ?_;(first|apply q_J|apply q_K|apply q_L|apply q_M|apply q_N|apply q_O)<;>try (intro _;try exact q_v))|with_reducible refine q_t ?_)
  all_goals try omega
  refine q_G (ι := Eu a m) (fun e => ⟨45, [(3, .bx 1 0), (4, .bx 2 0), (5, .bx 3 0), (6, .bx 4 0), (7, .bx 5 0), (9, .bx 7 0)], ⟨[(7, [.c (.b (decide ((e.lo : Int) < 0))), .c (.ints .u32 (dg 4294967296 (e.lo : Int).natAbs))]), (5, [.c (.b (decide ((e.hi : Int) < 0))), .c (.ints .u32 (dg 4294967296 (e.hi : Int).natAbs))]), (4, [.c (.b (decide (sg (!e.s) e.v < 0))), .c (.ints .u32 (dg 4294967296 (sg (!e.s) e.v).natAbs))]), (3, [.c (.b (decide (sg e.s e.u < 0))), .c (.ints .u32 (dg 4294967296 (sg e.s e.u).natAbs))]), (2, [.c (.b false), .c .nil]), (1, [.c (.b (decide ((m : Int) < 0))), .c (.ints .u32 (dg 4294967296 (m : Int).natAbs))])], [], []⟩, 8⟩) (fun e => e.lo) (Eu.start a m hm hg) ?_ ?_
  · have z1 : sg true 0 = 0 := rfl
    have z2 : sg false 1 = 1 := rfl
    have z3 : dg 4294967296 (0 : Int).natAbs = [] := rfl
    simp only [Eu.start, Bool.not_true, z1, z2, z3]
    ((simp only [go_sem,↓reduceIte,reduceCtorEq,Nat.reduceLeDiff,Nat.reduceLT,Nat.reduceBEq,Nat.reduceAdd])<;>(try (simp;done))<;>(try ((simp only [C.i.injEq,C.b.injEq,C.ints.injEq,C.bools.injEq,List.append_cancel_left_eq,List.cons.injEq,true_and,and_true]);(repeat' with_reducible apply And.intro)<;>(first|rfl|assumption|omega|(simp;omega)|(congr 1;omega)|(congr 2;omega)))))
  intro e
  have hv := e.v_le
  have hzl := zero_len' (e.lo : Int)
  have fv : FB (sg (!e.s) e.v) := FB_w (by have : (sg (!e.s) e.v).natAbs = e.v := sg_abs _ _; omega)
  have hhi := e.him
  have hlo := e.lom
  have hum := e.um
  have fh : FB (e.hi : Int) := FB_w (by omega)
  obtain ⟨d3, d4⟩ := fd_nat e.hi e.lo
  by_cases h0 : e.lo = 0
  · have h00 : (e.lo : Int) = 0 := by omega
    have hu : FB (sg e.s e.u) := FB_w (by have : (sg e.s e.u).natAbs = e.u := sg_abs _ _; omega)
    have hr : (sg e.s e.u).fmod m = i := by
      rw [Int.fmod_eq_emod_of_nonneg _ (by omega)]
      have h1 := Int.emod_nonneg (sg e.s e.u) (show (m : Int) ≠ 0 by omega)
      have h2 := Int.emod_lt_of_pos (sg e.s e.u) (show (0 : Int) < m by omega)
      obtain ⟨k, hk2⟩ := e.inv hm h0
      have := inv_unique (a := a) (m := m) (i := (sg e.s e.u % m).toNat) (j := i) (by omega) hi ⟨k, by rw [Int.toNat_of_nonneg h1]; exact hk2⟩ hk
      omega
    repeat' (first|(with_reducible first|apply q_a|apply q_b|apply q_c|apply q_d|apply q_e|apply q_f|apply q_g|apply q_h|apply q_i|apply q_j|apply q_k|apply q_m|apply q_n|apply q_o|apply q_p|refine q_l ?_)|((with_reducible first|refine q_q rv1_ok fun K hK=>?_|refine q_r rv1_ok fun K hK=>?_);simp (maxSteps:=2000000) only [go_sem,↓reduceIte,reduceCtorEq,Nat.reduceLeDiff,Nat.reduceLT,Nat.reduceBEq,Nat.reduceAdd,hzl, h00, hr];(repeat1' with_reducible first|apply And.intro|(intro _;try exact q_v)|(refine hK _ ?_;clear hK K))<;>(try (clear hK K;exact q_u)))|(with_reducible refine q_s ?_;(first|apply q_J|apply q_K|apply q_L|apply q_M|apply q_N|apply q_O)<;>try (intro _;try exact q_v))|with_reducible refine q_t ?_)
    all_goals first | contradiction | omega | exact q_A rfl
  · have hp : 0 < e.lo := by omega
    have h00 : ¬ (e.lo : Int) = 0 := by omega
    have fl : FB (e.lo : Int) := FB_w (by omega)
    have hnv := (e.next hp).v_le
    have hnv2 : (e.next hp).v = e.u + e.hi / e.lo * e.v := rfl
    have hdl : e.hi / e.lo ≤ e.hi := Nat.div_le_self _ _
    have f1 : FB (((e.hi / e.lo : Nat) : Int) * sg (!e.s) e.v) := FB_w (by
      have h1 : (((e.hi / e.lo : Nat) : Int) * sg (!e.s) e.v).natAbs = e.hi / e.lo * e.v := by rw [← eu_mul, sg_abs]
      rw [h1]; omega)
    have e3 : sg e.s e.u - ((e.hi / e.lo : Nat) : Int) * sg (!e.s) e.v = sg (!(e.next hp).s) (e.next hp).v := by
      show _ = sg (!!e.s) (e.u + e.hi / e.lo * e.v)
      rw [Bool.not_not, eu_add, eu_mul, eu_not, Int.mul_neg]; omega
    have f2 : FB (sg e.s e.u - ((e.hi / e.lo : Nat) : Int) * sg (!e.s) e.v) := FB_w (by rw [e3, sg_abs]; exact Nat.le_trans hnv (by omega))
    have f3 : FB (sg e.s e.u) := FB_w (by rw [sg_abs]; omega)
    have f4 : FB ((e.hi / e.lo : Nat) : Int) := FB_w (by rw [Int.natAbs_natCast]; generalize e.hi / e.lo = d at *; omega)
    repeat' (first|(with_reducible first|apply q_a|apply q_b|apply q_c|apply q_d|apply q_e|apply q_f|apply q_g|apply q_h|apply q_i|apply q_j|apply q_k|apply q_m|apply q_n|apply q_o|apply q_p|refine q_l ?_)|((with_reducible first|refine q_q rv1_ok fun K hK=>?_|refine q_r rv1_ok fun K hK=>?_);simp (maxSteps:=2000000) only [go_sem,↓reduceIte,reduceCtorEq,Nat.reduceLeDiff,Nat.reduceLT,Nat.reduceBEq,Nat.reduceAdd,hzl, h00, d3, d4];(repeat1' with_reducible first|apply And.intro|(intro _;try exact q_v)|(refine hK _ ?_;clear hK K))<;>(try (clear hK K;exact q_u)))|(with_reducible refine q_s ?_;(first|apply q_J|apply q_K|apply q_L|apply q_M|apply q_N|apply q_O)<;>try (intro _;try exact q_v))|with_reducible refine q_t ?_)
    all_goals first | contradiction | omega | skip
    all_goals
      refine q_F (e.next hp) ?_ (Nat.mod_lt _ hp)
      rw [e3]
      exact q_D
def pInv (a m : Int) : Prop := 0 ≤ a ∧ 0 < m ∧ a.natAbs ≤ 100 * W80 ∧ m.natAbs ≤ 100 * W80 ∧ Nat.gcd a.natAbs m.natAbs = 1
def inverseCT : CT := mkCT [nP, nP] false fun l K => match l with
  | [.inr [.b s, .ints .u32 xs], .inr [.b t, .ints .u32 ys]] => (Nrm s xs ∧ Nrm t ys ∧ pInv (sv 4294967296 s xs) (sv 4294967296 t ys)) ∧
      (∀ i : Nat, (i : Int) < sv 4294967296 t ys → (∃ k : Int, sv 4294967296 s xs * i = 1 + sv 4294967296 t ys * k) → K (.g (gI i)))
  | _ => False
def rz1 : Cfg := addT 175 inverseCT rc2
theorem rz1_ok : TblOk Try.prog rz1 := q_I rc2_ok Try.func175 fun l K h => by
  split at h
  · rename_i s xs t ys
    obtain ⟨⟨n1, n2, p1, p2, p3, p4, p5⟩, h⟩ := h
    rw [gI_nrm n1, gI_nrm n2]
    generalize sv 4294967296 s xs = a at *
    generalize sv 4294967296 t ys = m at *
    obtain ⟨a, rfl⟩ : ∃ n : Nat, a = n := ⟨a.toNat, by omega⟩
    obtain ⟨m, rfl⟩ : ∃ n : Nat, m = n := ⟨m.toNat, by omega⟩
    simp only [Int.natAbs_natCast] at p3 p4 p5
    obtain ⟨i, hi, hk⟩ := inv_ex a m (by omega) p5
    exact ⟨_, inverse_ret a m i (by omega) p5 p3 p4 hi hk, h i (by omega) hk⟩
  · exact h.elim
attribute [go_sem] inverseCT
end Go.Proofs.Ytneecniebhhhlaa
