import Derived.Test.YtgogdabniebplaaP7
namespace Go.Proofs.Ytgogdabniebplaa
set_option linter.unusedSimpArgs false
set_option linter.unusedVariables false
open Go.Abs Go.Proofs.NatL

theorem Digits_base (xs : List Int) (b : Int) (ho : okN xs = true) (h : b < 2 ∨ 36 < b) :
    Ret Try.prog 139 false [.inl (.ints .u32 xs), .inl (.i .i64 b)] (.t [.inl (.ints .i64 []), .inr [.i .i64 4, .i .i64 (-2)]]) := by
  (refine q_H Try.func139 (fun F => ?_); simp only [q_z,q_y,Try.ntmps139,Try.results139])
  repeat' (first|(with_reducible first|apply q_a|apply q_b|apply q_c|apply q_d|apply q_e|apply q_f|apply q_g|apply q_h|apply q_i|apply q_j|apply q_k|apply q_m|apply q_n|apply q_o|apply q_p|refine q_l ?_)|((with_reducible first|refine q_q tb21_ok fun K hK=>?_|refine q_r tb21_ok fun K hK=>?_);simp (maxSteps:=2000000) only [go_sem,↓reduceIte,reduceCtorEq,Nat.reduceLeDiff,Nat.reduceLT,Nat.reduceBEq,Nat.reduceAdd];(repeat1' with_reducible first|apply And.intro|(intro _;try exact q_v)|(refine hK _ ?_;clear hK K))<;>(try (clear hK K;exact q_u)))|(with_reducible refine q_s ?_;(first|apply q_J|apply q_K|apply q_L|apply q_M|apply q_N|apply q_O)<;>try (intro _;try exact q_v))|with_reducible refine q_t ?_)
  all_goals exact q_B [.inl (some (.ints .i64 []))] rfl rfl
def digBCT : CT := mkCT [.inl (some (.ints .u32 []))] false fun l K => match l with
  | [.inl (.ints .u32 xs), .inl (.i .i64 b)] => (okN xs = true ∧ (b < 2 ∨ 36 < b)) ∧ K (.t [.inl (.ints .i64 []), .inr [.i .i64 4, .i .i64 (-2)]])
  | _ => False
def iu4 : Cfg := addT 139 digBCT it5
theorem iu4_ok : TblOk Try.prog iu4 := q_I it5_ok Try.func139 fun l K h => by
  split at h
  · exact ⟨_, Digits_base _ _ h.1.1 h.1.2, h.2⟩
  · exact h.elim
attribute [go_sem] digBCT
def ibu : Cfg := listT [(126, icheckCT), (139, digBCT)] [28]
theorem ibu_ok : TblOk Try.prog ibu := listT_ok (big := iu4) iu4_ok ⟨rfl, rfl, trivial⟩
attribute [go_sem] ibu
set_option maxHeartbeats 1600000 in
theorem iText_bad (s : Bool) (xs : List Int) (b : Int) (hx : xs.length ≤ 140737488355328) (ho : okZ s xs = false) :
    Ret Try.prog 70 false [.inr [.b s, .ints .u32 xs], .inl (.i .i64 b)] (.t [.inl (.str ByteArray.empty), .inr [.i .i64 6, .i .i64 (-1)]]) := by
  (refine q_H Try.func70 (fun F => ?_); simp only [q_z,q_y,Try.ntmps70,Try.results70])
  repeat' (first|(with_reducible first|apply q_a|apply q_b|apply q_c|apply q_d|apply q_e|apply q_f|apply q_g|apply q_h|apply q_i|apply q_j|apply q_k|apply q_m|apply q_n|apply q_o|apply q_p|refine q_l ?_)|((with_reducible first|refine q_q ibu_ok fun K hK=>?_|refine q_r ibu_ok fun K hK=>?_);simp (maxSteps:=2000000) only [go_sem,↓reduceIte,reduceCtorEq,Nat.reduceLeDiff,Nat.reduceLT,Nat.reduceBEq,Nat.reduceAdd,ho];(repeat1' with_reducible first|apply And.intro|(intro _;try exact q_v)|(refine hK _ ?_;clear hK K))<;>(try (clear hK K;exact q_u)))|(with_reducible refine q_s ?_;(first|apply q_J|apply q_K|apply q_L|apply q_M|apply q_N|apply q_O)<;>try (intro _;try exact q_v))|with_reducible refine q_t ?_)
  all_goals exact q_A rfl
set_option maxHeartbeats 1600000 in
theorem iText_base (s : Bool) (xs : List Int) (b : Int) (ho : okZ s xs = true) (hb : b < 2 ∨ 36 < b) (hx : xs.length ≤ 140737488355328) (hk : okN xs = true) :
    Ret Try.prog 70 false [.inr [.b s, .ints .u32 xs], .inl (.i .i64 b)] (.t [.inl (.str ByteArray.empty), .inr [.i .i64 4, .i .i64 (-2)]]) := by
  (refine q_H Try.func70 (fun F => ?_); simp only [q_z,q_y,Try.ntmps70,Try.results70])
  repeat' (first|(with_reducible first|apply q_a|apply q_b|apply q_c|apply q_d|apply q_e|apply q_f|apply q_g|apply q_h|apply q_i|apply q_j|apply q_k|apply q_m|apply q_n|apply q_o|apply q_p|refine q_l ?_)|((with_reducible first|refine q_q ibu_ok fun K hK=>?_|refine q_r ibu_ok fun K hK=>?_);simp (maxSteps:=2000000) only [go_sem,↓reduceIte,reduceCtorEq,Nat.reduceLeDiff,Nat.reduceLT,Nat.reduceBEq,Nat.reduceAdd,ho, hk];(repeat1' with_reducible first|apply And.intro|(intro _;try exact q_v)|(refine hK _ ?_;clear hK K))<;>(try (clear hK K;exact q_u)))|(with_reducible refine q_s ?_;(first|apply q_J|apply q_K|apply q_L|apply q_M|apply q_N|apply q_O)<;>try (intro _;try exact q_v))|with_reducible refine q_t ?_)
  all_goals first | omega | exact q_A rfl
def iTextFCT : CT := mkCT [nP] true fun l K => match l with
  | [.inr [.b s, .ints .u32 xs], .inl (.i .i64 b)] => (xs.length ≤ 140737488355328 ∧ InB 4294967296 xs) ∧ (okZ s xs = false → K (.t [.inl (.str ByteArray.empty), .inr [.i .i64 6, .i .i64 (-1)]])) ∧
      (okZ s xs = true → ((b < 2 ∨ 36 < b) → K (.t [.inl (.str ByteArray.empty), .inr [.i .i64 4, .i .i64 (-2)]])) ∧
        (2 ≤ b ∧ b ≤ 36 → K (.t [.inl (.str (strOf (textI (sv 4294967296 s xs) b.toNat))), .inr [.i .i64 0, .i .i64 0]])))
  | _ => False
def iu5 : Cfg := addT 70 iTextFCT iu2
theorem iu5_ok : TblOk Try.prog iu5 := q_I iu2_ok Try.func70 fun l K h => by
  split at h
  · rename_i s xs b
    obtain ⟨⟨h1, h2⟩, hbad, hok⟩ := h
    cases ho : okZ s xs
    · exact ⟨_, (iText_bad s xs b h1 ho).plain rfl, hbad ho⟩
    · obtain ⟨e1, e2, e3⟩ := okZ_eq ho h2
      by_cases hb : b < 2 ∨ 36 < b
      · exact ⟨_, (iText_base s xs b ho hb h1 (by rw [e2]; exact okN_128 (by rw [← e2]; exact e3))).plain rfl, (hok ho).1 hb⟩
      · obtain ⟨n, rfl⟩ : ∃ n : Nat, b = n := ⟨b.toNat, by omega⟩
        have := iText_ok (sv 4294967296 s xs) n (by omega) (by omega) (by rw [← e2]; exact e3)
        simp only [gI, ← e1, ← e2] at this
        exact ⟨_, this.plain rfl, by simpa using (hok ho).2 (by omega)⟩
  · exact h.elim
attribute [go_sem] iTextFCT

end Go.Proofs.Ytgogdabniebplaa
