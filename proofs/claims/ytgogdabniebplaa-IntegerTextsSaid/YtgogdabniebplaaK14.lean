import Derived.Test.YtgogdabniebplaaK1
import Derived.Test.YtgogdabniebplaaI13
import Derived.Test.YtgogdabniebplaaJ10
namespace Go.Proofs.Ytgogdabniebplaa
set_option linter.unusedSimpArgs false
set_option linter.unusedVariables false
open Go.Abs Go.Proofs.NatL

theorem parse_none {b : Nat} {l : List Int} (h : pz b l = none) : parseO b l = .t [.inr [.b false, .ints .u32 []], .inr [.i .i64 1, .i .i64 (-1)]] ∧ intTextO b l = .t [.inr [.b false, .ints .i64 []], .inl (.b false)] := by
  unfold parseO intTextO; rw [h]; exact ⟨rfl, rfl⟩
theorem parse_some {b : Nat} {l : List Int} {z : Int} (h : pz b l = some z) : parseO b l = .t [.inr (gI (cl 128 z)), .inr [.i .i64 (clC 128 z), .i .i64 (clI 128 z)]] ∧ intTextO b l = .t [.inr (gR z), .inl (.b true)] := by
  unfold parseO intTextO; rw [h]; exact ⟨rfl, rfl⟩
theorem parse_text {b : Nat} (z : Int) (h1 : 2 ≤ b) (h2 : b ≤ 36) (lz : (dg 4294967296 z.natAbs).length ≤ 128) : parseO b (textI z b) = .t [.inr (gI z), .inr [.i .i64 0, .i .i64 0]] := by
  obtain ⟨e1, e2, e3⟩ := cl_fit lz
  rw [(parse_some (pz_text z b h1 h2)).1, e1, e2, e3]
theorem emp_eq : (ByteArray.empty.toList == ByteArray.toList { data := #[] }) = true := by rw [str_eq]; decide
def ktx : Cfg := listT [(65, countsCT), (74, yieldsCT), (23, atCT), (24, ivalidCT), (54, intOfCT), (53, noIntCT), (46, sameIntsCT), (70, iTextFCT), (71, iParseCT), (72, textOfCT), (73, intTextCT)] [28]
theorem ktx_ok : TblOk Try.prog ktx := listE_ok (by simp only [List.mem_singleton, forall_eq]; exact flt) ⟨⟨kd2, kd2_ok, rfl⟩, ⟨kd2, kd2_ok, rfl⟩, ⟨kd2, kd2_ok, rfl⟩, ⟨kd2, kd2_ok, rfl⟩, ⟨kd2, kd2_ok, rfl⟩, ⟨kd2, kd2_ok, rfl⟩, ⟨kd2, kd2_ok, rfl⟩, ⟨iu5, iu5_ok, rfl⟩, ⟨iu7, iu7_ok, rfl⟩, ⟨jx2, jx2_ok, rfl⟩, ⟨jx2, jx2_ok, rfl⟩, trivial⟩
attribute [go_sem] ktx
set_option maxRecDepth 100000 in
set_option maxHeartbeats 6400000 in
theorem texts_bad (s : Bool) (xs : List Int) (b : Int) (t : ByteArray) (hx : xs.length ≤ 140737488355328) (hb : InB 4294967296 xs) (ho : okZ s xs = false) (ht : t.size ≤ Go.maxLen) :
    Ret Try.prog 13 false [.inr [.b s, .ints .u32 xs], .inl (.i .i64 b), .inl (.str t)] (.c (.b true)) := by
  have hsz := str_size t
  by_cases h : b < 2 ∨ 36 < b
  · (refine q_H Try.func13 (fun F => ?_); simp only [q_z,q_y,Try.ntmps13,Try.results13])
    repeat' (first|(with_reducible first|apply q_a|apply q_b|apply q_c|apply q_d|apply q_e|apply q_f|apply q_g|apply q_h|apply q_i|apply q_j|apply q_k|apply q_m|apply q_n|apply q_o|apply q_p|refine q_l ?_)|((with_reducible first|refine q_q ktx_ok fun K hK=>?_|refine q_r ktx_ok fun K hK=>?_);simp (maxSteps:=2000000) only [go_sem,↓reduceIte,reduceCtorEq,Nat.reduceLeDiff,Nat.reduceLT,Nat.reduceBEq,Nat.reduceAdd,emp_eq, ho];(repeat1' with_reducible first|apply And.intro|(intro _;try exact q_v)|(refine hK _ ?_;clear hK K))<;>(try (clear hK K;exact q_u)))|(with_reducible refine q_s ?_;(first|apply q_J|apply q_K|apply q_L|apply q_M|apply q_N|apply q_O)<;>try (intro _;try exact q_v))|with_reducible refine q_t ?_)
    all_goals first | contradiction | omega | exact q_A rfl | exact q_A (by simp [resAV, q_y])
  obtain ⟨n, rfl⟩ : ∃ n : Nat, b = n := ⟨b.toNat, by omega⟩
  cases hp : pz n (bytesOf t) with
  | none =>
    obtain ⟨p1, p2⟩ := parse_none hp
    (refine q_H Try.func13 (fun F => ?_); simp only [q_z,q_y,Try.ntmps13,Try.results13])
    repeat' (first|(with_reducible first|apply q_a|apply q_b|apply q_c|apply q_d|apply q_e|apply q_f|apply q_g|apply q_h|apply q_i|apply q_j|apply q_k|apply q_m|apply q_n|apply q_o|apply q_p|refine q_l ?_)|((with_reducible first|refine q_q ktx_ok fun K hK=>?_|refine q_r ktx_ok fun K hK=>?_);simp (maxSteps:=2000000) only [go_sem,↓reduceIte,reduceCtorEq,Nat.reduceLeDiff,Nat.reduceLT,Nat.reduceBEq,Nat.reduceAdd,emp_eq, ho, p1, p2, hsz];(repeat1' with_reducible first|apply And.intro|(intro _;try exact q_v)|(refine hK _ ?_;clear hK K))<;>(try (clear hK K;exact q_u)))|(with_reducible refine q_s ?_;(first|apply q_J|apply q_K|apply q_L|apply q_M|apply q_N|apply q_O)<;>try (intro _;try exact q_v))|with_reducible refine q_t ?_)
    all_goals first | contradiction | omega | exact q_A rfl | exact q_A (by simp [resAV, q_y])
  | some z =>
    obtain ⟨p1, p2⟩ := parse_some hp
    have lz := pz_len (by omega) (by omega) hp
    have lc := Nat.le_trans (cl_len 128 z) (show 128 ≤ 16777216 by omega)
    (refine q_H Try.func13 (fun F => ?_); simp only [q_z,q_y,Try.ntmps13,Try.results13])
    repeat' (first|(with_reducible first|apply q_a|apply q_b|apply q_c|apply q_d|apply q_e|apply q_f|apply q_g|apply q_h|apply q_i|apply q_j|apply q_k|apply q_m|apply q_n|apply q_o|apply q_p|refine q_l ?_)|((with_reducible first|refine q_q ktx_ok fun K hK=>?_|refine q_r ktx_ok fun K hK=>?_);simp (maxSteps:=2000000) only [go_sem,↓reduceIte,reduceCtorEq,Nat.reduceLeDiff,Nat.reduceLT,Nat.reduceBEq,Nat.reduceAdd,emp_eq, ho, p1, p2, hsz];(repeat1' with_reducible first|apply And.intro|(intro _;try exact q_v)|(refine hK _ ?_;clear hK K))<;>(try (clear hK K;exact q_u)))|(with_reducible refine q_s ?_;(first|apply q_J|apply q_K|apply q_L|apply q_M|apply q_N|apply q_O)<;>try (intro _;try exact q_v))|with_reducible refine q_t ?_)
    all_goals first | contradiction | omega | exact q_A rfl | exact q_A (by simp [resAV, q_y])

set_option maxRecDepth 100000 in
set_option maxHeartbeats 6400000 in
theorem texts_ok (a : Int) (b : Int) (t : ByteArray) (la : (dg 4294967296 a.natAbs).length ≤ 128) (ht : t.size ≤ Go.maxLen) :
    Ret Try.prog 13 false [.inr (gI a), .inl (.i .i64 b), .inl (.str t)] (.c (.b true)) := by
  have hsz := str_size t
  have oa := (okZ_g a).trans (decide_eq_true la)
  have l65 := (dg_half' a.natAbs 128).2 la
  by_cases h : b < 2 ∨ 36 < b
  · simp only [gI]
    (refine q_H Try.func13 (fun F => ?_); simp only [q_z,q_y,Try.ntmps13,Try.results13])
    repeat' (first|(with_reducible first|apply q_a|apply q_b|apply q_c|apply q_d|apply q_e|apply q_f|apply q_g|apply q_h|apply q_i|apply q_j|apply q_k|apply q_m|apply q_n|apply q_o|apply q_p|refine q_l ?_)|((with_reducible first|refine q_q ktx_ok fun K hK=>?_|refine q_r ktx_ok fun K hK=>?_);simp (maxSteps:=2000000) only [go_sem,↓reduceIte,reduceCtorEq,Nat.reduceLeDiff,Nat.reduceLT,Nat.reduceBEq,Nat.reduceAdd,emp_eq, oa];(repeat1' with_reducible first|apply And.intro|(intro _;try exact q_v)|(refine hK _ ?_;clear hK K))<;>(try (clear hK K;exact q_u)))|(with_reducible refine q_s ?_;(first|apply q_J|apply q_K|apply q_L|apply q_M|apply q_N|apply q_O)<;>try (intro _;try exact q_v))|with_reducible refine q_t ?_)
    all_goals first | contradiction | omega | exact q_A rfl | exact q_A (by simp [resAV, q_y])
  obtain ⟨n, rfl⟩ : ∃ n : Nat, b = n := ⟨b.toNat, by omega⟩
  have pt := parse_text (b := n) a (by omega) (by omega) la
  have tb := text_bytes a n (by omega) (by omega)
  have tl := textI_len a n (by omega) la
  simp only [gI] at pt ⊢
  cases hp : pz n (bytesOf t) with
  | none =>
    obtain ⟨p1, p2⟩ := parse_none hp
    (refine q_H Try.func13 (fun F => ?_); simp only [q_z,q_y,Try.ntmps13,Try.results13])
    repeat' (first|(with_reducible first|apply q_a|apply q_b|apply q_c|apply q_d|apply q_e|apply q_f|apply q_g|apply q_h|apply q_i|apply q_j|apply q_k|apply q_m|apply q_n|apply q_o|apply q_p|refine q_l ?_)|((with_reducible first|refine q_q ktx_ok fun K hK=>?_|refine q_r ktx_ok fun K hK=>?_);simp (maxSteps:=2000000) only [go_sem,↓reduceIte,reduceCtorEq,Nat.reduceLeDiff,Nat.reduceLT,Nat.reduceBEq,Nat.reduceAdd,emp_eq, oa, p1, p2, hsz, pt, tb];(repeat1' with_reducible first|apply And.intro|(intro _;try exact q_v)|(refine hK _ ?_;clear hK K))<;>(try (clear hK K;exact q_u)))|(with_reducible refine q_s ?_;(first|apply q_J|apply q_K|apply q_L|apply q_M|apply q_N|apply q_O)<;>try (intro _;try exact q_v))|with_reducible refine q_t ?_)
    all_goals first | contradiction | omega | exact q_A rfl | exact q_A (by simp [resAV, q_y])
  | some z =>
    obtain ⟨p1, p2⟩ := parse_some hp
    have lz := pz_len (by omega) (by omega) hp
    have lc := Nat.le_trans (cl_len 128 z) (show 128 ≤ 16777216 by omega)
    (refine q_H Try.func13 (fun F => ?_); simp only [q_z,q_y,Try.ntmps13,Try.results13])
    repeat' (first|(with_reducible first|apply q_a|apply q_b|apply q_c|apply q_d|apply q_e|apply q_f|apply q_g|apply q_h|apply q_i|apply q_j|apply q_k|apply q_m|apply q_n|apply q_o|apply q_p|refine q_l ?_)|((with_reducible first|refine q_q ktx_ok fun K hK=>?_|refine q_r ktx_ok fun K hK=>?_);simp (maxSteps:=2000000) only [go_sem,↓reduceIte,reduceCtorEq,Nat.reduceLeDiff,Nat.reduceLT,Nat.reduceBEq,Nat.reduceAdd,emp_eq, oa, p1, p2, hsz, pt, tb];(repeat1' with_reducible first|apply And.intro|(intro _;try exact q_v)|(refine hK _ ?_;clear hK K))<;>(try (clear hK K;exact q_u)))|(with_reducible refine q_s ?_;(first|apply q_J|apply q_K|apply q_L|apply q_M|apply q_N|apply q_O)<;>try (intro _;try exact q_v))|with_reducible refine q_t ?_)
    all_goals first | contradiction | omega | exact q_A rfl | exact q_A (by simp [resAV, q_y])
theorem texts_ret (s : Bool) (xs : List Int) (b : Int) (t : ByteArray) (hx : xs.length ≤ 140737488355328) (hb : InB 4294967296 xs) (ht : t.size ≤ Go.maxLen) :
    Ret Try.prog 13 false [.inr [.b s, .ints .u32 xs], .inl (.i .i64 b), .inl (.str t)] (.c (.b true)) := by
  cases ho : okZ s xs
  · exact texts_bad s xs b t hx hb ho ht
  · obtain ⟨e1, e2, e3⟩ := okZ_eq ho hb
    have := texts_ok (sv 4294967296 s xs) b t (by rw [← e2]; exact e3) ht
    simp only [gI, ← e1, ← e2] at this
    exact this
end Go.Proofs.Ytgogdabniebplaa
