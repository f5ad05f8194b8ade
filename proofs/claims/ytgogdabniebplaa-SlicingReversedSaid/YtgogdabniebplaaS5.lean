import Derived.Test.YtgogdabniebplaaS2
namespace Go.Proofs.Ytgogdabniebplaa
set_option linter.unusedSimpArgs false
set_option linter.unusedVariables false
open Go.Abs Go.Proofs.NatL

set_option maxHeartbeats 1600000 in
theorem grow_ret (n : Int) (h0 : 0 ≤ n) (h1 : n ≤ 16777216) : RetO Try.prog 156 [.inl .nil, .inl (.i .i64 n)] 3 1 (.ints .i64 []) := by
  by_cases hz : n = 0
  · subst hz
    (refine q_x Try.func156 rfl (Nat.le_of_ble_eq_true rfl) (fun F => ?_); simp only [q_z, q_y, Try.ntmps156, Try.results156])
    repeat' (first|(with_reducible first|apply q_a|apply q_b|apply q_c|apply q_d|apply q_e|apply q_f|apply q_g|apply q_h|apply q_i|apply q_j|apply q_k|apply q_m|apply q_n|apply q_o|apply q_p|refine q_l ?_)|((with_reducible first|refine q_q cf0_ok fun K hK=>?_|refine q_r cf0_ok fun K hK=>?_);simp (maxSteps:=2000000) only [go_sem,↓reduceIte,reduceCtorEq,Nat.reduceLeDiff,Nat.reduceLT,Nat.reduceBEq,Nat.reduceAdd];(repeat1' with_reducible first|apply And.intro|(intro _;try exact q_v)|(refine hK _ ?_;clear hK K))<;>(try (clear hK K;exact q_u)))|(with_reducible refine q_s ?_;(first|apply q_J|apply q_K|apply q_L|apply q_M|apply q_N|apply q_O)<;>try (intro _;try exact q_v)))
    exact endsO_nil rfl rfl rfl (by omega) rfl
  · (refine q_x Try.func156 rfl (Nat.le_of_ble_eq_true rfl) (fun F => ?_); simp only [q_z, q_y, Try.ntmps156, Try.results156])
    repeat' (first|(with_reducible first|apply q_a|apply q_b|apply q_c|apply q_d|apply q_e|apply q_f|apply q_g|apply q_h|apply q_i|apply q_j|apply q_k|apply q_m|apply q_n|apply q_o|apply q_p|refine q_l ?_)|((with_reducible first|refine q_q cf0_ok fun K hK=>?_|refine q_r cf0_ok fun K hK=>?_);simp (maxSteps:=2000000) only [go_sem,↓reduceIte,reduceCtorEq,Nat.reduceLeDiff,Nat.reduceLT,Nat.reduceBEq,Nat.reduceAdd];(repeat1' with_reducible first|apply And.intro|(intro _;try exact q_v)|(refine hK _ ?_;clear hK K))<;>(try (clear hK K;exact q_u)))|(with_reducible refine q_s ?_;(first|apply q_J|apply q_K|apply q_L|apply q_M|apply q_N|apply q_O)<;>try (intro _;try exact q_v)))
    all_goals first | omega | exact endsO_own rfl rfl rfl rfl rfl rfl rfl
def growCT : CT := mkCTO [] 3 1 fun l K => match l with
  | [.inl .nil, .inl (.i .i64 n)] => (0 ≤ n ∧ n ≤ 16777216) ∧ K (.c (.ints .i64 []))
  | _ => False
def so1 : Cfg := addT 156 growCT su7
theorem so1_ok : TblOk Try.prog so1 := mkCTO_ok su7_ok (q_C Try.func156 (by kernel_rfl) (by kernel_rfl)) rfl fun l K h => by
  split at h
  · exact ⟨_, grow_ret _ h.1.1 h.1.2, h.2⟩
  · exact h.elim
attribute [go_sem] growCT
def sob : Cfg := listT [(156, growCT)] [28]
theorem sob_ok : TblOk Try.prog sob := listT_ok (big := so1) so1_ok ⟨rfl, trivial⟩
attribute [go_sem] sob

def rowL (xs : List Int) : List C := [.ints .i64 xs]
def unL : List (List C) → Option (List (List Int))
  | [] => some []
  | [.ints .i64 xs] :: r => (unL r).map (xs :: ·)
  | _ :: _ => none
theorem unL_some : ∀ {rows : List (List C)} {l : List (List Int)}, unL rows = some l → rows = l.map rowL
  | [], l, h => by simp [unL] at h; subst h; rfl
  | r :: rows, l, h => by
    unfold unL at h
    split at h
    · rename_i heq; cases heq
    · rename_i xs r' heq
      cases heq
      obtain ⟨l', h1, rfl⟩ := Option.map_eq_some_iff.1 h
      rw [unL_some h1]; rfl
    · cases h
theorem rowL_get (l : List (List Int)) (i : Nat) (h : i < l.length) : (l.map rowL).getD i [] = [.ints .i64 (l.getD i [])] := by
  simp [List.getD_eq_getElem?_getD, List.getElem?_eq_getElem h, rowL]
theorem flat_take (l : List (List Int)) (i : Nat) (h : i < l.length) : (l.take (i + 1)).flatten = (l.take i).flatten ++ l.getD i [] := by
  rw [List.take_succ_eq_append_getElem h, List.flatten_append]
  simp [List.getD_eq_getElem?_getD, List.getElem?_eq_getElem h]
theorem flat_le (l : List (List Int)) (i : Nat) : (l.take i).flatten.length ≤ l.flatten.length := by
  conv => rhs; rw [← List.take_append_drop i l]
  rw [List.flatten_append, List.length_append]
  omega
set_option maxRecDepth 100000 in
set_option maxHeartbeats 3200000 in
theorem concat_ret (l : List (List Int)) (hn : l.length ≤ 1000) (hl : l.flatten.length ≤ 4194304) : RetO Try.prog 100 [.inl (.sl 1 (l.map rowL))] 3 1 (.ints .i64 l.flatten) := by
  (refine q_x Try.func100 rfl (Nat.le_of_ble_eq_true rfl) (fun F => ?_); simp only [q_z, q_y, Try.ntmps100, Try.results100])
  repeat' (first|(with_reducible first|apply q_a|apply q_b|apply q_c|apply q_d|apply q_e|apply q_f|apply q_g|apply q_h|apply q_i|apply q_j|apply q_k|apply q_m|apply q_n|apply q_o|apply q_p|refine q_l ?_)|((with_reducible first|refine q_q sob_ok fun K hK=>?_|refine q_r sob_ok fun K hK=>?_);simp (maxSteps:=2000000) only [go_sem,↓reduceIte,reduceCtorEq,Nat.reduceLeDiff,Nat.reduceLT,Nat.reduceBEq,Nat.reduceAdd,List.length_map];(repeat1' with_reducible first|apply And.intro|(intro _;try exact q_v)|(refine hK _ ?_;clear hK K))<;>(try (clear hK K;exact q_u)))|(with_reducible refine q_s ?_;(first|apply q_J|apply q_K|apply q_L|apply q_M|apply q_N|apply q_O)<;>try (intro _;try exact q_v)))
  refine q_G (ι := { i : Nat // i ≤ l.length }) (fun i => ⟨36, [(0, .c (.sl 1 (l.map rowL))), (3, .c (.i .i64 ((l.take i.1).flatten.length : Nat))), (9, .c (.sl 1 (l.map rowL))), (10, .c (.i .i64 l.length)), (11, .c (.i .i64 (i.1 : Nat)))], ⟨[], [], []⟩, 0⟩) (fun i => l.length - i.1) ⟨0, by omega⟩ ?_ ?_
  · exact q_D
  rintro ⟨i, g1⟩
  simp only at g1 ⊢
  have fl := flat_le l i
  rcases Nat.lt_or_ge i l.length with hi | hi
  · have ht := flat_take l i hi
    have fl2 := flat_le l (i + 1)
    have hr := rowL_get l i hi
    have hlen := congrArg List.length ht
    rw [List.length_append] at hlen
    repeat' (first|(with_reducible first|apply q_a|apply q_b|apply q_c|apply q_d|apply q_e|apply q_f|apply q_g|apply q_h|apply q_i|apply q_j|apply q_k|apply q_m|apply q_n|apply q_o|apply q_p|refine q_l ?_)|((with_reducible first|refine q_q sob_ok fun K hK=>?_|refine q_r sob_ok fun K hK=>?_);simp (maxSteps:=2000000) only [go_sem,↓reduceIte,reduceCtorEq,Nat.reduceLeDiff,Nat.reduceLT,Nat.reduceBEq,Nat.reduceAdd,hr, List.length_map];(repeat1' with_reducible first|apply And.intro|(intro _;try exact q_v)|(refine hK _ ?_;clear hK K))<;>(try (clear hK K;exact q_u)))|(with_reducible refine q_s ?_;(first|apply q_J|apply q_K|apply q_L|apply q_M|apply q_N|apply q_O)<;>try (intro _;try exact q_v)))
    all_goals try omega
    refine q_F ⟨i + 1, hi⟩ ?_ (by simp only; omega)
    simp only [hlen, Int.natCast_add]
    exact q_D
  · have hi' : i = l.length := by omega
    subst hi'
    repeat' (first|(with_reducible first|apply q_a|apply q_b|apply q_c|apply q_d|apply q_e|apply q_f|apply q_g|apply q_h|apply q_i|apply q_j|apply q_k|apply q_m|apply q_n|apply q_o|apply q_p|refine q_l ?_)|((with_reducible first|refine q_q sob_ok fun K hK=>?_|refine q_r sob_ok fun K hK=>?_);simp (maxSteps:=2000000) only [go_sem,↓reduceIte,reduceCtorEq,Nat.reduceLeDiff,Nat.reduceLT,Nat.reduceBEq,Nat.reduceAdd,List.take_length, List.length_map];(repeat1' with_reducible first|apply And.intro|(intro _;try exact q_v)|(refine hK _ ?_;clear hK K))<;>(try (clear hK K;exact q_u)))|(with_reducible refine q_s ?_;(first|apply q_J|apply q_K|apply q_L|apply q_M|apply q_N|apply q_O)<;>try (intro _;try exact q_v)))
    all_goals try omega
    refine q_G (ι := { i : Nat // i ≤ l.length }) (fun i => ⟨36, [(6, .own 0 0), (25, .c (.sl 1 (l.map rowL))), (26, .c (.i .i64 l.length)), (27, .c (.i .i64 (i.1 : Nat)))], ⟨[], [(0, ⟨0, 3, 1, .ints .i64 (l.take i.1).flatten⟩)], []⟩, 1⟩) (fun i => l.length - i.1) ⟨0, by omega⟩ ?_ ?_
    · exact q_D
    rintro ⟨i, g1⟩
    simp only at g1 ⊢
    have fl := flat_le l i
    rcases Nat.lt_or_ge i l.length with hi | hi
    · have ht := flat_take l i hi
      have fl2 := flat_le l (i + 1)
      have hr := rowL_get l i hi
      have hlen := congrArg List.length ht
      rw [List.length_append] at hlen
      repeat' (first|(with_reducible first|apply q_a|apply q_b|apply q_c|apply q_d|apply q_e|apply q_f|apply q_g|apply q_h|apply q_i|apply q_j|apply q_k|apply q_m|apply q_n|apply q_o|apply q_p|refine q_l ?_)|((with_reducible first|refine q_q sob_ok fun K hK=>?_|refine q_r sob_ok fun K hK=>?_);simp (maxSteps:=2000000) only [go_sem,↓reduceIte,reduceCtorEq,Nat.reduceLeDiff,Nat.reduceLT,Nat.reduceBEq,Nat.reduceAdd,hr, List.length_map];(repeat1' with_reducible first|apply And.intro|(intro _;try exact q_v)|(refine hK _ ?_;clear hK K))<;>(try (clear hK K;exact q_u)))|(with_reducible refine q_s ?_;(first|apply q_J|apply q_K|apply q_L|apply q_M|apply q_N|apply q_O)<;>try (intro _;try exact q_v)))
      all_goals try omega
      refine q_F ⟨i + 1, hi⟩ ?_ (by simp only; omega)
      simp only [ht]
      exact q_D
    · have hi' : i = l.length := by omega
      subst hi'
      repeat' (first|(with_reducible first|apply q_a|apply q_b|apply q_c|apply q_d|apply q_e|apply q_f|apply q_g|apply q_h|apply q_i|apply q_j|apply q_k|apply q_m|apply q_n|apply q_o|apply q_p|refine q_l ?_)|((with_reducible first|refine q_q sob_ok fun K hK=>?_|refine q_r sob_ok fun K hK=>?_);simp (maxSteps:=2000000) only [go_sem,↓reduceIte,reduceCtorEq,Nat.reduceLeDiff,Nat.reduceLT,Nat.reduceBEq,Nat.reduceAdd,List.take_length, List.length_map];(repeat1' with_reducible first|apply And.intro|(intro _;try exact q_v)|(refine hK _ ?_;clear hK K))<;>(try (clear hK K;exact q_u)))|(with_reducible refine q_s ?_;(first|apply q_J|apply q_K|apply q_L|apply q_M|apply q_N|apply q_O)<;>try (intro _;try exact q_v)))
      all_goals first | omega | exact endsO_own rfl rfl rfl rfl rfl rfl rfl
def concatCT : CT := mkCT [] true fun l K => match l with
  | [.inl (.sl 1 rows)] => match unL rows with
    | some l => (l.length ≤ 1000 ∧ l.flatten.length ≤ 4194304) ∧ K (.c (.ints .i64 l.flatten))
    | none => False
  | _ => False
def so2 : Cfg := addT 100 concatCT so1
theorem so2_ok : TblOk Try.prog so2 := q_I so1_ok Try.func100 fun l K h => by
  split at h
  · split at h
    · rename_i l hl
      rw [unL_some hl]
      exact ⟨_, (concat_ret l h.1.1 h.1.2).ret, h.2⟩
    · exact h.elim
  · exact h.elim
set_option maxHeartbeats 800000 in
theorem cloneI_ret (xs : List Int) (hx : xs.length ≤ 16777216) : RetO Try.prog 101 [.inl (.ints .i64 xs)] 3 1 (.ints .i64 xs) := by
  by_cases h0 : xs = []
  · subst h0
    refine retO_split rfl ?_ ?_
    · (refine q_x Try.func101 rfl (Nat.le_of_ble_eq_true rfl) (fun F => ?_); simp only [q_z, q_y, Try.ntmps101, Try.results101])
      repeat' (first|(with_reducible first|apply q_a|apply q_b|apply q_c|apply q_d|apply q_e|apply q_f|apply q_g|apply q_h|apply q_i|apply q_j|apply q_k|apply q_m|apply q_n|apply q_o|apply q_p|refine q_l ?_)|((with_reducible first|refine q_q cf0_ok fun K hK=>?_|refine q_r cf0_ok fun K hK=>?_);simp (maxSteps:=2000000) only [go_sem,↓reduceIte,reduceCtorEq,Nat.reduceLeDiff,Nat.reduceLT,Nat.reduceBEq,Nat.reduceAdd];(repeat1' with_reducible first|apply And.intro|intro _|(refine hK _ ?_;clear hK K))<;>(try (clear hK K;exact q_u)))|(with_reducible refine q_s ?_;(first|apply q_J|apply q_K|apply q_L|apply q_M|apply q_N|apply q_O)<;>try intro _))
      exact endsO_nil rfl rfl rfl (by omega) rfl
    · (refine q_x Try.func101 rfl (Nat.le_of_ble_eq_true rfl) (fun F => ?_); simp only [q_z, q_y, Try.ntmps101, Try.results101])
      repeat' (first|(with_reducible first|apply q_a|apply q_b|apply q_c|apply q_d|apply q_e|apply q_f|apply q_g|apply q_h|apply q_i|apply q_j|apply q_k|apply q_m|apply q_n|apply q_o|apply q_p|refine q_l ?_)|((with_reducible first|refine q_q cf0_ok fun K hK=>?_|refine q_r cf0_ok fun K hK=>?_);simp (maxSteps:=2000000) only [go_sem,↓reduceIte,reduceCtorEq,Nat.reduceLeDiff,Nat.reduceLT,Nat.reduceBEq,Nat.reduceAdd];(repeat1' with_reducible first|apply And.intro|intro _|(refine hK _ ?_;clear hK K))<;>(try (clear hK K;exact q_u)))|(with_reducible refine q_s ?_;(first|apply q_J|apply q_K|apply q_L|apply q_M|apply q_N|apply q_O)<;>try intro _))
      exact endsO_own rfl rfl rfl rfl rfl rfl rfl
  · (refine q_x Try.func101 rfl (Nat.le_of_ble_eq_true rfl) (fun F => ?_); simp only [q_z, q_y, Try.ntmps101, Try.results101])
    repeat' (first|(with_reducible first|apply q_a|apply q_b|apply q_c|apply q_d|apply q_e|apply q_f|apply q_g|apply q_h|apply q_i|apply q_j|apply q_k|apply q_m|apply q_n|apply q_o|apply q_p|refine q_l ?_)|((with_reducible first|refine q_q cf0_ok fun K hK=>?_|refine q_r cf0_ok fun K hK=>?_);simp (maxSteps:=2000000) only [go_sem,↓reduceIte,reduceCtorEq,Nat.reduceLeDiff,Nat.reduceLT,Nat.reduceBEq,Nat.reduceAdd];(repeat1' with_reducible first|apply And.intro|intro _|(refine hK _ ?_;clear hK K))<;>(try (clear hK K;exact q_u)))|(with_reducible refine q_s ?_;(first|apply q_J|apply q_K|apply q_L|apply q_M|apply q_N|apply q_O)<;>try intro _))
    exact endsO_own rfl rfl rfl rfl rfl rfl rfl
def cloneICT : CT := mkCTO [.inl (some (.ints .i64 []))] 3 1 fun l K => match l with
  | [.inl (.ints .i64 xs)] => xs.length ≤ 16777216 ∧ K (.c (.ints .i64 xs))
  | _ => False
def so3 : Cfg := addT 101 cloneICT so2
theorem so3_ok : TblOk Try.prog so3 := mkCTO_ok so2_ok (q_C Try.func101 (by kernel_rfl) (by kernel_rfl)) rfl fun l K h => by
  split at h
  · exact ⟨_, cloneI_ret _ h.1, h.2⟩
  · exact h.elim
attribute [go_sem] concatCT cloneICT unL
end Go.Proofs.Ytgogdabniebplaa
