import Derived.Test.YtgogdabniebplaaJ2
namespace Go.Proofs.Ytgogdabniebplaa
set_option linter.unusedSimpArgs false
set_option linter.unusedVariables false
open Go.Abs Go.Proofs.NatL

def iminusCT : CT := mkCT [nR] false fun l K => match l with
  | [.inr [.b s, .ints .i64 ys]] => (InB 65536 ys ∧ Trd ys) ∧ K (.g (gR (-sv 65536 s ys)))
  | _ => False
theorem sv_ys {s : Bool} {ys : List Int} (h1 : InB 65536 ys) (h2 : Trd ys) : ys = dg 65536 (V 65536 ys) ∧ sv 65536 s ys = sg s (V 65536 ys) := by
  have e := dg_V 65536 (by omega) ys h1 h2
  exact ⟨e.symm, by rw [← sv_d (B := 65536) (by omega), e]⟩
def jt9 : Cfg := addT 50 iminusCT jt8
theorem jt9_ok : TblOk Try.prog jt9 := q_I jt8_ok Try.func50 fun l K h => by
  split at h
  · rename_i s ys
    obtain ⟨⟨h1, h2⟩, h⟩ := h
    obtain ⟨e1, e2⟩ := sv_ys (s := s) h1 h2
    rw [e2] at h
    have := iminus_ret s (V 65536 ys)
    rw [← e1] at this
    exact ⟨_, this, h⟩
  · exact h.elim
def rI2CT (n : Nat) (f : Int → Int → (AV → Prop) → Prop) : CT := mkCT [nR, nR] false fun l K => match l with
  | [.inr [.b s, .ints .i64 xs], .inr [.b t, .ints .i64 ys]] => (InB 65536 xs ∧ Trd xs ∧ xs.length ≤ n ∧ InB 65536 ys ∧ Trd ys ∧ ys.length ≤ n) ∧ f (sv 65536 s xs) (sv 65536 t ys) K
  | _ => False
def addF (a b : Int) (K : AV → Prop) : Prop := ∀ c : Bool, K (.g (gRz (a + b) c))
def mulF (a b : Int) (K : AV → Prop) : Prop := K (.g (gR (a * b)))
def ordF (a b : Int) (K : AV → Prop) : Prop := K (.c (.i .i64 (cmpZ a b)))
def jt10 : Cfg := addT 39 (rI2CT 1048576 addF) jt9
theorem jt10_ok : TblOk Try.prog jt10 := q_I jt9_ok Try.func39 fun l K h => by
  split at h
  · rename_i s xs t ys
    obtain ⟨⟨h1, h2, h3, h4, h5, h6⟩, h⟩ := h
    obtain ⟨e1, e2⟩ := sv_ys (s := s) h1 h2
    obtain ⟨e3, e4⟩ := sv_ys (s := t) h4 h5
    rw [e2, e4] at h
    obtain ⟨b, this⟩ := iplus_ex s t (V 65536 xs) (V 65536 ys) (by rw [← e1]; exact h3) (by rw [← e3]; exact h6)
    rw [← e1, ← e3] at this
    exact ⟨_, this, h b⟩
  · exact h.elim
def jt11 : Cfg := addT 40 (rI2CT 1048576 mulF) jt10
theorem jt11_ok : TblOk Try.prog jt11 := q_I jt10_ok Try.func40 fun l K h => by
  split at h
  · rename_i s xs t ys
    obtain ⟨⟨h1, h2, h3, h4, h5, h6⟩, h⟩ := h
    obtain ⟨e1, e2⟩ := sv_ys (s := s) h1 h2
    obtain ⟨e3, e4⟩ := sv_ys (s := t) h4 h5
    rw [e2, e4] at h
    have this := itimes_ret s t (V 65536 xs) (V 65536 ys) (by rw [← e1]; exact h3) (by rw [← e3]; exact h6)
    rw [← e1, ← e3] at this
    exact ⟨_, this, h⟩
  · exact h.elim
def jt12 : Cfg := addT 43 (rI2CT 4194304 ordF) jt11
theorem jt12_ok : TblOk Try.prog jt12 := q_I jt11_ok Try.func43 fun l K h => by
  split at h
  · rename_i s xs t ys
    obtain ⟨⟨h1, h2, h3, h4, h5, h6⟩, h⟩ := h
    obtain ⟨e1, e2⟩ := sv_ys (s := s) h1 h2
    obtain ⟨e3, e4⟩ := sv_ys (s := t) h4 h5
    rw [e2, e4] at h
    have this := iorder_ret s t (V 65536 xs) (V 65536 ys) (by rw [← e1]; exact h3) (by rw [← e3]; exact h6)
    rw [← e1, ← e3] at this
    exact ⟨_, this, h⟩
  · exact h.elim
attribute [go_sem] iminusCT rI2CT addF mulF ordF

def jb6 : Cfg := listT [(81, onesCT), (120, binaryCT), (136, doubleCT), (117, rcmpCT), (119, (rnumCT (fun _ _ => True) (· * ·))), (118, (rnumCT (fun xs ys => V 65536 ys ≤ V 65536 xs) (· - ·)))] [28]
theorem jb6_ok : TblOk Try.prog jb6 := listT_ok (big := jt12) jt12_ok ⟨rfl, rfl, rfl, rfl, rfl, rfl, trivial⟩
attribute [go_sem] jb6
set_option maxRecDepth 100000 in
set_option maxHeartbeats 3200000 in
theorem divide_ret' (m n : Nat) (hn : 0 < n) (lm : (dg 65536 m).length ≤ 65536) (ln : (dg 65536 n).length ≤ 65536) :
    Ret Try.prog 137 false [.inl (.ints .i64 (dg 65536 m)), .inl (.ints .i64 (dg 65536 n))] (.t [.inl (.ints .i64 (dg 65536 (m / n))), .inl (.ints .i64 (dg 65536 (m % n)))]) := by
  have hbl : bl m ≤ 1048576 := Nat.le_trans (bl_dg lm) (by omega)
  have hL : (bs m).length ≤ 1048576 := by rw [bs_bl]; exact hbl
  (refine q_H Try.func137 (fun F => ?_); simp only [q_z,q_y,Try.ntmps137,Try.results137])
  repeat' (first|(with_reducible first|apply q_a|apply q_b|apply q_c|apply q_d|apply q_e|apply q_f|apply q_g|apply q_h|apply q_i|apply q_j|apply q_k|apply q_m|apply q_n|apply q_o|apply q_p|refine q_l ?_)|((with_reducible first|refine q_q jb6_ok fun K hK=>?_|refine q_r jb6_ok fun K hK=>?_);simp (maxSteps:=2000000) only [go_sem,↓reduceIte,reduceCtorEq,Nat.reduceLeDiff,Nat.reduceLT,Nat.reduceBEq,Nat.reduceAdd];(repeat1' with_reducible first|apply And.intro|(intro _;try exact q_v)|(refine hK _ ?_;clear hK K))<;>(try (clear hK K;exact q_u)))|(with_reducible refine q_s ?_;(first|apply q_J|apply q_K|apply q_L|apply q_M|apply q_N|apply q_O)<;>try (intro _;try exact q_v))|with_reducible refine q_t ?_)
  all_goals try omega
  refine q_G (ι := { p : Nat × List Bool × Nat // p.1 ≤ (bs m).length ∧ p.2.1.length = (bs m).length - p.1 ∧ p.2.2 < n ∧ B2 p.2.1 * n + p.2.2 = B2 ((bs m).drop p.1) }) (fun p => ⟨41, [(1, .c (.ints .i64 (dg 65536 n))), (6, .c (.bools (bs m))), (7, .own 0 0), (8, .c (.ints .i64 (dg 65536 p.1.2.2))), (9, .c (.i .i64 ((p.1.1 : Int) - 1)))], ⟨[], [(0, ⟨0, 4, 1, .bools (List.replicate p.1.1 false ++ p.1.2.1)⟩)], []⟩, 1⟩) (fun p => p.1.1) ⟨((bs m).length, [], 0), by simp, by simp, hn, by simp [B2_nil]⟩ ?_ ?_
  · ((simp only [go_sem,↓reduceIte,reduceCtorEq,Nat.reduceLeDiff,Nat.reduceLT,Nat.reduceBEq,Nat.reduceAdd])<;>(try (simp;done))<;>(try ((simp only [C.i.injEq,C.b.injEq,C.ints.injEq,C.bools.injEq,List.append_cancel_left_eq,List.cons.injEq,true_and,and_true]);(repeat' with_reducible apply And.intro)<;>(first|rfl|assumption|omega|(simp;omega)|(congr 1;omega)|(congr 2;omega)))))
    all_goals (try simp [dg_zero])
  rintro ⟨⟨k, q, r⟩, g1, g2, g3, g4⟩
  simp only at g1 g2 g3 g4 ⊢
  have lr := dg_len_mono (B := 65536) (by omega) (Nat.le_of_lt g3)
  rcases Nat.eq_zero_or_pos k with hk | hk
  · subst hk
    rw [drop_bs] at g4
    have e1 : B2 q = m / n := by
      rw [← g4, Nat.mul_comm, Nat.mul_add_div hn, Nat.div_eq_of_lt g3]; rfl
    have e2 : r = m % n := by
      rw [← g4, Nat.mul_comm, Nat.mul_add_mod, Nat.mod_eq_of_lt g3]
    have hq : (List.replicate 0 false ++ q).length ≤ 16777216 := by simp; omega
    repeat' (first|(with_reducible first|apply q_a|apply q_b|apply q_c|apply q_d|apply q_e|apply q_f|apply q_g|apply q_h|apply q_i|apply q_j|apply q_k|apply q_m|apply q_n|apply q_o|apply q_p|refine q_l ?_)|((with_reducible first|refine q_q jb6_ok fun K hK=>?_|refine q_r jb6_ok fun K hK=>?_);simp (maxSteps:=2000000) only [go_sem,↓reduceIte,reduceCtorEq,Nat.reduceLeDiff,Nat.reduceLT,Nat.reduceBEq,Nat.reduceAdd];(repeat1' with_reducible first|apply And.intro|(intro _;try exact q_v)|(refine hK _ ?_;clear hK K))<;>(try (clear hK K;exact q_u)))|(with_reducible refine q_s ?_;(first|apply q_J|apply q_K|apply q_L|apply q_M|apply q_N|apply q_O)<;>try (intro _;try exact q_v))|with_reducible refine q_t ?_)
    all_goals first | assumption | omega | skip
    exact q_A (by simp only [resAV, List.replicate_zero, List.nil_append, e1, e2])
  · have hd := drop_bit (bs m) k hk g1
    have ek : ((k : Int) - 1).toNat = k - 1 := by omega
    have hq : (List.replicate k false ++ q).length = (bs m).length := by simp; omega
    have hs := set_zeros k q hk true
    have hx : ∀ b : Bool, (2 * r + b.toNat) < 2 * n := fun b => by cases b <;> simp <;> omega
    have lx : ∀ b : Bool, (dg 65536 (2 * r + b.toNat)).length ≤ 65537 := fun b => by
      refine Nat.le_trans (dg_len_mono (by omega) (Nat.le_of_lt (hx b))) ?_
      rw [Nat.two_mul]; exact add_len (by omega) ln ln
    obtain ⟨c, hc⟩ : ∃ c, (bs m).getD (k - 1) false = c := ⟨_, rfl⟩
    have hx := hx c
    have lx := lx c
    rw [hc] at hd
    have hcn : (if c = true then 1 else 0) = c.toNat := by cases c <;> rfl
    rw [hcn] at hd
    generalize hX : 2 * r + c.toNat = X at *
    by_cases hge : n ≤ X
    · have h3 := (cmp3_ge X n).2 hge
      repeat' (first|(with_reducible first|apply q_a|apply q_b|apply q_c|apply q_d|apply q_e|apply q_f|apply q_g|apply q_h|apply q_i|apply q_j|apply q_k|apply q_m|apply q_n|apply q_o|apply q_p|refine q_l ?_)|((with_reducible first|refine q_q jb6_ok fun K hK=>?_|refine q_r jb6_ok fun K hK=>?_);simp (maxSteps:=2000000) only [go_sem,↓reduceIte,reduceCtorEq,Nat.reduceLeDiff,Nat.reduceLT,Nat.reduceBEq,Nat.reduceAdd,ek, hc, hX, hs, hq];(repeat1' with_reducible first|apply And.intro|(intro _;try exact q_v)|(refine hK _ ?_;clear hK K))<;>(try (clear hK K;exact q_u)))|(with_reducible refine q_s ?_;(first|apply q_J|apply q_K|apply q_L|apply q_M|apply q_N|apply q_O)<;>try (intro _;try exact q_v))|with_reducible refine q_t ?_)
      all_goals first | omega | skip
      refine q_F ⟨(k - 1, true :: q, X - n), by simp only; omega, by simp; omega, by simp only; omega, ?_⟩ ?_ (by simp only; omega)
      · simp only
        rw [hd, ← g4, B2_cons, if_pos rfl, Nat.add_mul, Nat.mul_assoc]; omega
      · exact q_D
    · have h3 : ¬ 0 ≤ cmp3 X n := fun h => hge ((cmp3_ge X n).1 h)
      have hs0 : List.replicate (k - 1) false ++ false :: q = List.replicate k false ++ q := by
        obtain ⟨j, rfl⟩ : ∃ j, k = j + 1 := ⟨k - 1, by omega⟩
        rw [show j + 1 - 1 = j by omega, List.replicate_succ', List.append_assoc]; rfl
      repeat' (first|(with_reducible first|apply q_a|apply q_b|apply q_c|apply q_d|apply q_e|apply q_f|apply q_g|apply q_h|apply q_i|apply q_j|apply q_k|apply q_m|apply q_n|apply q_o|apply q_p|refine q_l ?_)|((with_reducible first|refine q_q jb6_ok fun K hK=>?_|refine q_r jb6_ok fun K hK=>?_);simp (maxSteps:=2000000) only [go_sem,↓reduceIte,reduceCtorEq,Nat.reduceLeDiff,Nat.reduceLT,Nat.reduceBEq,Nat.reduceAdd,ek, hc, hX, hq];(repeat1' with_reducible first|apply And.intro|(intro _;try exact q_v)|(refine hK _ ?_;clear hK K))<;>(try (clear hK K;exact q_u)))|(with_reducible refine q_s ?_;(first|apply q_J|apply q_K|apply q_L|apply q_M|apply q_N|apply q_O)<;>try (intro _;try exact q_v))|with_reducible refine q_t ?_)
      all_goals first | omega | skip
      refine q_F ⟨(k - 1, false :: q, X), by simp only; omega, by simp; omega, by simp only; omega, ?_⟩ ?_ (by simp only; omega)
      · simp only
        rw [hd, ← g4, B2_cons, if_neg (by decide), Nat.add_zero, Nat.mul_assoc]; omega
      · simp only [hs0]
        exact q_D

end Go.Proofs.Ytgogdabniebplaa
