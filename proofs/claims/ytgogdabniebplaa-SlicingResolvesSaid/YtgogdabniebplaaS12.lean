import Derived.Test.YtgogdabniebplaaS10
import Derived.Test.YtgogdabniebplaaS11
namespace Go.Proofs.Ytgogdabniebplaa
set_option linter.unusedSimpArgs false
set_option linter.unusedVariables false
open Go.Abs Go.Proofs.NatL

def slr : Cfg := listT [(21, cutsCT), (18, indexSCT), (19, resCT), (22, chkCT), (20, sfCT), (23, atCT), (24, ivalidCT), (25, indexedCT), (26, placesCT)] [28]
theorem slr_ok : TblOk Try.prog slr := listE_ok (by simp only [List.mem_singleton, forall_eq]; exact flt) ⟨⟨sw2, sw2_ok, rfl⟩, ⟨su8, su8_ok, rfl⟩, ⟨su8, su8_ok, rfl⟩, ⟨su8, su8_ok, rfl⟩, ⟨sj5, sj5_ok, rfl⟩, ⟨sj5, sj5_ok, rfl⟩, ⟨sj5, sj5_ok, rfl⟩, ⟨sj5, sj5_ok, rfl⟩, ⟨sj5, sj5_ok, rfl⟩, trivial⟩
attribute [go_sem] slr
set_option maxRecDepth 100000 in
set_option maxHeartbeats 12800000 in
theorem resolves_good_false (s s0 s1 s2 g0 g1 g2 : Bool) (xs x0 x1 x2 : List Int) (n : Int) (lx : xs.length ≤ 140737488355328) (l0 : x0.length ≤ 140737488355328) (l1 : x1.length ≤ 140737488355328) (l2 : x2.length ≤ 140737488355328) (bx : InB 4294967296 xs) (b0 : InB 4294967296 x0) (b1 : InB 4294967296 x1) (b2 : InB 4294967296 x2)
    (ho : okZ s xs = false) (hF : slF (prt s0 x0 g0) (prt s1 x1 g1) (prt s2 x2 g2) g2 x2.length = 0) :
    Ret Try.prog 3 false [.inr [.b s, .ints .u32 xs], .inr [.b s0, .ints .u32 x0, .b s1, .ints .u32 x1, .b s2, .ints .u32 x2, .b g0, .b g1, .b g2], .inl (.i .i64 n)] (.c (.b true)) := by
  have hI : slI (prt s0 x0 g0) (prt s1 x1 g1) (prt s2 x2 g2) g2 x2.length = 0 := if_pos hF
  (refine q_H Try.func3 (fun F => ?_); simp only [q_z,q_y,Try.ntmps3,Try.results3])
  repeat' (first|(with_reducible first|apply q_a|apply q_b|apply q_c|apply q_d|apply q_e|apply q_f|apply q_g|apply q_h|apply q_i|apply q_j|apply q_k|apply q_m|apply q_n|apply q_o|apply q_p|refine q_l ?_)|((with_reducible first|refine q_q slr_ok fun K hK=>?_|refine q_r slr_ok fun K hK=>?_);simp (maxSteps:=2000000) only [go_sem,↓reduceIte,reduceCtorEq,Nat.reduceLeDiff,Nat.reduceLT,Nat.reduceBEq,Nat.reduceAdd,ho, hF, hI, slPos_len];(repeat1' with_reducible first|apply And.intro|(intro _;try exact q_v)|(refine hK _ ?_;clear hK K))<;>(try (clear hK K;exact q_u)))|(with_reducible refine q_s ?_;(first|apply q_J|apply q_K|apply q_L|apply q_M|apply q_N|apply q_O)<;>try (intro _;try exact q_v))|with_reducible refine q_t ?_)
  all_goals first | contradiction | omega | exact q_A rfl | exact q_A (by simp [resAV, q_y])
set_option maxRecDepth 100000 in
set_option maxHeartbeats 12800000 in
theorem resolves_bad_false (s s0 s1 s2 g0 g1 g2 : Bool) (xs x0 x1 x2 : List Int) (n F : Int) (lx : xs.length ≤ 140737488355328) (l0 : x0.length ≤ 140737488355328) (l1 : x1.length ≤ 140737488355328) (l2 : x2.length ≤ 140737488355328) (bx : InB 4294967296 xs) (b0 : InB 4294967296 x0) (b1 : InB 4294967296 x1) (b2 : InB 4294967296 x2)
    (ho : okZ s xs = false) (hF : slF (prt s0 x0 g0) (prt s1 x1 g1) (prt s2 x2 g2) g2 x2.length = F) (hn : F ≠ 0) :
    Ret Try.prog 3 false [.inr [.b s, .ints .u32 xs], .inr [.b s0, .ints .u32 x0, .b s1, .ints .u32 x1, .b s2, .ints .u32 x2, .b g0, .b g1, .b g2], .inl (.i .i64 n)] (.c (.b true)) := by
  have hI : slI (prt s0 x0 g0) (prt s1 x1 g1) (prt s2 x2 g2) g2 x2.length = -1 := if_neg (by rw [hF]; exact hn)
  (refine q_H Try.func3 (fun F => ?_); simp only [q_z,q_y,Try.ntmps3,Try.results3])
  repeat' (first|(with_reducible first|apply q_a|apply q_b|apply q_c|apply q_d|apply q_e|apply q_f|apply q_g|apply q_h|apply q_i|apply q_j|apply q_k|apply q_m|apply q_n|apply q_o|apply q_p|refine q_l ?_)|((with_reducible first|refine q_q slr_ok fun K hK=>?_|refine q_r slr_ok fun K hK=>?_);simp (maxSteps:=2000000) only [go_sem,↓reduceIte,reduceCtorEq,Nat.reduceLeDiff,Nat.reduceLT,Nat.reduceBEq,Nat.reduceAdd,ho, hF, hI];(repeat1' with_reducible first|apply And.intro|(intro _;try exact q_v)|(refine hK _ ?_;clear hK K))<;>(try (clear hK K;exact q_u)))|(with_reducible refine q_s ?_;(first|apply q_J|apply q_K|apply q_L|apply q_M|apply q_N|apply q_O)<;>try (intro _;try exact q_v))|with_reducible refine q_t ?_)
  all_goals first | contradiction | omega | exact q_A rfl | exact q_A (by simp [resAV, q_y])
set_option maxRecDepth 100000 in
set_option maxHeartbeats 12800000 in
theorem resolves_good_true (s s0 s1 s2 g0 g1 g2 : Bool) (xs x0 x1 x2 : List Int) (n : Int) (lx : xs.length ≤ 140737488355328) (l0 : x0.length ≤ 140737488355328) (l1 : x1.length ≤ 140737488355328) (l2 : x2.length ≤ 140737488355328) (bx : InB 4294967296 xs) (b0 : InB 4294967296 x0) (b1 : InB 4294967296 x1) (b2 : InB 4294967296 x2)
    (ho : okZ s xs = true) (hF : slF (prt s0 x0 g0) (prt s1 x1 g1) (prt s2 x2 g2) g2 x2.length = 0) :
    Ret Try.prog 3 false [.inr [.b s, .ints .u32 xs], .inr [.b s0, .ints .u32 x0, .b s1, .ints .u32 x1, .b s2, .ints .u32 x2, .b g0, .b g1, .b g2], .inl (.i .i64 n)] (.c (.b true)) := by
  have hI : slI (prt s0 x0 g0) (prt s1 x1 g1) (prt s2 x2 g2) g2 x2.length = 0 := if_pos hF
  (refine q_H Try.func3 (fun F => ?_); simp only [q_z,q_y,Try.ntmps3,Try.results3])
  repeat' (first|(with_reducible first|apply q_a|apply q_b|apply q_c|apply q_d|apply q_e|apply q_f|apply q_g|apply q_h|apply q_i|apply q_j|apply q_k|apply q_m|apply q_n|apply q_o|apply q_p|refine q_l ?_)|((with_reducible first|refine q_q slr_ok fun K hK=>?_|refine q_r slr_ok fun K hK=>?_);simp (maxSteps:=2000000) only [go_sem,↓reduceIte,reduceCtorEq,Nat.reduceLeDiff,Nat.reduceLT,Nat.reduceBEq,Nat.reduceAdd,ho, hF, hI, slPos_len];(repeat1' with_reducible first|apply And.intro|(intro _;try exact q_v)|(refine hK _ ?_;clear hK K))<;>(try (clear hK K;exact q_u)))|(with_reducible refine q_s ?_;(first|apply q_J|apply q_K|apply q_L|apply q_M|apply q_N|apply q_O)<;>try (intro _;try exact q_v))|with_reducible refine q_t ?_)
  all_goals first | contradiction | omega | exact q_A rfl | exact q_A (by simp [resAV, q_y])
set_option maxRecDepth 100000 in
set_option maxHeartbeats 12800000 in
theorem resolves_bad_true (s s0 s1 s2 g0 g1 g2 : Bool) (xs x0 x1 x2 : List Int) (n F : Int) (lx : xs.length ≤ 140737488355328) (l0 : x0.length ≤ 140737488355328) (l1 : x1.length ≤ 140737488355328) (l2 : x2.length ≤ 140737488355328) (bx : InB 4294967296 xs) (b0 : InB 4294967296 x0) (b1 : InB 4294967296 x1) (b2 : InB 4294967296 x2)
    (ho : okZ s xs = true) (hF : slF (prt s0 x0 g0) (prt s1 x1 g1) (prt s2 x2 g2) g2 x2.length = F) (hn : F ≠ 0) :
    Ret Try.prog 3 false [.inr [.b s, .ints .u32 xs], .inr [.b s0, .ints .u32 x0, .b s1, .ints .u32 x1, .b s2, .ints .u32 x2, .b g0, .b g1, .b g2], .inl (.i .i64 n)] (.c (.b true)) := by
  have hI : slI (prt s0 x0 g0) (prt s1 x1 g1) (prt s2 x2 g2) g2 x2.length = -1 := if_neg (by rw [hF]; exact hn)
  (refine q_H Try.func3 (fun F => ?_); simp only [q_z,q_y,Try.ntmps3,Try.results3])
  repeat' (first|(with_reducible first|apply q_a|apply q_b|apply q_c|apply q_d|apply q_e|apply q_f|apply q_g|apply q_h|apply q_i|apply q_j|apply q_k|apply q_m|apply q_n|apply q_o|apply q_p|refine q_l ?_)|((with_reducible first|refine q_q slr_ok fun K hK=>?_|refine q_r slr_ok fun K hK=>?_);simp (maxSteps:=2000000) only [go_sem,↓reduceIte,reduceCtorEq,Nat.reduceLeDiff,Nat.reduceLT,Nat.reduceBEq,Nat.reduceAdd,ho, hF, hI];(repeat1' with_reducible first|apply And.intro|(intro _;try exact q_v)|(refine hK _ ?_;clear hK K))<;>(try (clear hK K;exact q_u)))|(with_reducible refine q_s ?_;(first|apply q_J|apply q_K|apply q_L|apply q_M|apply q_N|apply q_O)<;>try (intro _;try exact q_v))|with_reducible refine q_t ?_)
  all_goals first | contradiction | omega | exact q_A rfl | exact q_A (by simp [resAV, q_y])
theorem resolves_ret (s s0 s1 s2 g0 g1 g2 : Bool) (xs x0 x1 x2 : List Int) (n : Int) (lx : xs.length ≤ 140737488355328) (l : x0.length ≤ 140737488355328 ∧ x1.length ≤ 140737488355328 ∧ x2.length ≤ 140737488355328) (bx : InB 4294967296 xs) (b : InB 4294967296 x0 ∧ InB 4294967296 x1 ∧ InB 4294967296 x2) :
    Ret Try.prog 3 false [.inr [.b s, .ints .u32 xs], .inr [.b s0, .ints .u32 x0, .b s1, .ints .u32 x1, .b s2, .ints .u32 x2, .b g0, .b g1, .b g2], .inl (.i .i64 n)] (.c (.b true)) := by
  obtain ⟨l0, l1, l2⟩ := l
  obtain ⟨b0, b1, b2⟩ := b
  by_cases hF : slF (prt s0 x0 g0) (prt s1 x1 g1) (prt s2 x2 g2) g2 x2.length = 0
  · cases ho : okZ s xs
    · exact resolves_good_false _ _ _ _ _ _ _ _ _ _ _ n lx l0 l1 l2 bx b0 b1 b2 ho hF
    · exact resolves_good_true _ _ _ _ _ _ _ _ _ _ _ n lx l0 l1 l2 bx b0 b1 b2 ho hF
  · cases ho : okZ s xs
    · exact resolves_bad_false _ _ _ _ _ _ _ _ _ _ _ n _ lx l0 l1 l2 bx b0 b1 b2 ho rfl hF
    · exact resolves_bad_true _ _ _ _ _ _ _ _ _ _ _ n _ lx l0 l1 l2 bx b0 b1 b2 ho rfl hF
end Go.Proofs.Ytgogdabniebplaa
