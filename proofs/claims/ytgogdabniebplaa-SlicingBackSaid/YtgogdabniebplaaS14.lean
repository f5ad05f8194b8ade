import Derived.Test.YtgogdabniebplaaS13
import Derived.Test.YtgogdabniebplaaS11
namespace Go.Proofs.Ytgogdabniebplaa
set_option linter.unusedSimpArgs false
set_option linter.unusedVariables false
open Go.Abs Go.Proofs.NatL

def slb : Cfg := listT [(21, cutsCT), (27, takeCT), (29, putCT), (30, dropCT), (19, resCT), (32, numbersCT), (23, atCT)] [28]
theorem slb_ok : TblOk Try.prog slb := listE_ok (by simp only [List.mem_singleton, forall_eq]; exact flt) ⟨⟨sw2, sw2_ok, rfl⟩, ⟨sv1, sv1_ok, rfl⟩, ⟨sv2, sv2_ok, rfl⟩, ⟨sv3, sv3_ok, rfl⟩, ⟨su8, su8_ok, rfl⟩, ⟨sw2, sw2_ok, rfl⟩, ⟨jt12, jt12_ok, rfl⟩, trivial⟩
attribute [go_sem] slb
theorem put_back {xs : List Int} {st sp : Int} {c : Nat} (hc : c ≤ xs.length) (h1 : sp = 1 → 0 ≤ st ∧ st + c ≤ xs.length) (hp : ∀ k : Nat, k < c → 0 ≤ st + (k : Int) * sp ∧ st + (k : Int) * sp < xs.length) :
    putO xs (takeL xs st sp c) xs.length st sp c = [.inl (.ints .i64 xs), .inr [.i .i64 0, .i .i64 0]] := by
  unfold putO
  rw [takeL_len, if_neg (fun h => h.2 rfl), if_neg (by omega)]
  split
  · rename_i e
    subst e
    obtain ⟨h2, h3⟩ := h1 rfl
    obtain ⟨a, rfl⟩ : ∃ a : Nat, st = a := ⟨st.toNat, by omega⟩
    rw [Int.toNat_natCast, back_one (by omega)]
  · rw [putL_take hp c (Nat.le_refl _)]
theorem put_none {xs : List Int} {st sp : Int} {c : Nat} (hc : c ≤ xs.length) (h1 : sp = 1 → 0 ≤ st ∧ st + c ≤ xs.length) :
    putO xs [] xs.length st sp c = if sp = 1 then [.inl (.ints .i64 (dropL xs (slPos st sp c) xs.length)), .inr [.i .i64 0, .i .i64 0]] else if c = 0 then [.inl (.ints .i64 xs), .inr [.i .i64 0, .i .i64 0]] else [.inl (.ints .i64 []), .inr [.i .i64 9, .i .i64 (-3)]] := by
  unfold putO
  by_cases e : sp = 1
  · subst e
    obtain ⟨h2, h3⟩ := h1 rfl
    obtain ⟨a, rfl⟩ : ∃ a : Nat, st = a := ⟨st.toNat, by omega⟩
    rw [if_neg (fun h => h.1 rfl), if_neg (by simp; omega), if_pos rfl, if_pos rfl, Int.toNat_natCast, dropL_all (by omega), List.nil_append]
  · rw [if_neg e]
    by_cases hz : c = 0
    · subst hz
      rw [if_neg (fun h => h.2 rfl), if_neg (by simp), if_neg e, if_pos rfl]; rfl
    · rw [if_pos ⟨e, fun h => hz h.symm⟩, if_neg hz, if_neg e]
set_option maxRecDepth 100000 in
set_option maxHeartbeats 12800000 in
theorem back_bad (xs : List Int) (s0 s1 s2 g0 g1 g2 : Bool) (x0 x1 x2 : List Int) (F : Int) (l0 : x0.length ≤ 140737488355328) (l1 : x1.length ≤ 140737488355328) (l2 : x2.length ≤ 140737488355328) (b0 : InB 4294967296 x0) (b1 : InB 4294967296 x1) (b2 : InB 4294967296 x2)
    (hF : slF (prt s0 x0 g0) (prt s1 x1 g1) (prt s2 x2 g2) g2 x2.length = F) (hn : F ≠ 0) :
    Ret Try.prog 6 false [.inl (.ints .i64 xs), .inr [.b s0, .ints .u32 x0, .b s1, .ints .u32 x1, .b s2, .ints .u32 x2, .b g0, .b g1, .b g2]] (.c (.b true)) := by
  (refine q_H Try.func6 (fun F => ?_); simp only [q_z,q_y,Try.ntmps6,Try.results6])
  repeat' (first|(with_reducible first|apply q_a|apply q_b|apply q_c|apply q_d|apply q_e|apply q_f|apply q_g|apply q_h|apply q_i|apply q_j|apply q_k|apply q_m|apply q_n|apply q_o|apply q_p|refine q_l ?_)|((with_reducible first|refine q_q slb_ok fun K hK=>?_|refine q_r slb_ok fun K hK=>?_);simp (maxSteps:=2000000) only [go_sem,↓reduceIte,reduceCtorEq,Nat.reduceLeDiff,Nat.reduceLT,Nat.reduceBEq,Nat.reduceAdd,hF];(repeat1' with_reducible first|apply And.intro|(intro _;try exact q_v)|(refine hK _ ?_;clear hK K))<;>(try (clear hK K;exact q_u)))|(with_reducible refine q_s ?_;(first|apply q_J|apply q_K|apply q_L|apply q_M|apply q_N|apply q_O)<;>try (intro _;try exact q_v))|with_reducible refine q_t ?_)
  all_goals first | contradiction | omega | exact q_A rfl | exact q_A (by simp [resAV, q_y])
set_option maxRecDepth 100000 in
set_option maxHeartbeats 12800000 in
theorem back_good (xs : List Int) (s0 s1 s2 g0 g1 g2 : Bool) (x0 x1 x2 : List Int) (l0 : x0.length ≤ 140737488355328) (l1 : x1.length ≤ 140737488355328) (l2 : x2.length ≤ 140737488355328) (b0 : InB 4294967296 x0) (b1 : InB 4294967296 x1) (b2 : InB 4294967296 x2)
    (hF : slF (prt s0 x0 g0) (prt s1 x1 g1) (prt s2 x2 g2) g2 x2.length = 0) (hl : xs.length ≤ 4000) (st sp : Int) (c : Nat) (hst : rSt s0 x0 g0 xs.length (rSp s2 x2 g2) = st) (hsp : rSp s2 x2 g2 = sp)
    (hc : slCnt (rSt s0 x0 g0 xs.length (rSp s2 x2 g2)) (rSo s1 x1 g1 xs.length (rSp s2 x2 g2)) (rSp s2 x2 g2) = c) :
    Ret Try.prog 6 false [.inl (.ints .i64 xs), .inr [.b s0, .ints .u32 x0, .b s1, .ints .u32 x1, .b s2, .ints .u32 x2, .b g0, .b g1, .b g2]] (.c (.b true)) := by
  obtain ⟨r1, r2, r3, r4, r5, r6, r7⟩ := r_facts (s0 := s0) (s1 := s1) (g0 := g0) (g1 := g1) (x0 := x0) (x1 := x1) b2 hF (n := xs.length) (by omega)
  have r6 := r6 _ rfl
  rw [hc] at r5 r6
  rw [hst, hsp] at r5
  rw [hst] at r3 r7
  rw [hsp] at r1 r2 r7
  have hc' := hc
  rw [hsp] at hst hc'
  rw [hst] at hc'
  have h1 : sp = 1 → 0 ≤ st ∧ st + c ≤ xs.length := fun e => by
    have r7 := r7 e
    subst e
    rcases Nat.eq_zero_or_pos c with h | h
    · omega
    · have := r5 (c - 1) (by omega)
      omega
  have e1 := put_back r6 h1 r5
  have e2 := put_none r6 h1
  have e3 := drop_count r1 r5
  have tl := takeL_len xs st sp c
  by_cases hs : sp = 1
  · rw [if_pos hs] at e2
    (refine q_H Try.func6 (fun F => ?_); simp only [q_z,q_y,Try.ntmps6,Try.results6])
    repeat' (first|(with_reducible first|apply q_a|apply q_b|apply q_c|apply q_d|apply q_e|apply q_f|apply q_g|apply q_h|apply q_i|apply q_j|apply q_k|apply q_m|apply q_n|apply q_o|apply q_p|refine q_l ?_)|((with_reducible first|refine q_q slb_ok fun K hK=>?_|refine q_r slb_ok fun K hK=>?_);simp (maxSteps:=2000000) only [go_sem,↓reduceIte,reduceCtorEq,Nat.reduceLeDiff,Nat.reduceLT,Nat.reduceBEq,Nat.reduceAdd,hF, hsp, hst, hc', tl, e1, e2];(repeat1' with_reducible first|apply And.intro|(intro _;try exact q_v)|(refine hK _ ?_;clear hK K))<;>(try (clear hK K;exact q_u)))|(with_reducible refine q_s ?_;(first|apply q_J|apply q_K|apply q_L|apply q_M|apply q_N|apply q_O)<;>try (intro _;try exact q_v))|with_reducible refine q_t ?_)
    all_goals first | contradiction | omega | exact q_A rfl | exact q_A (by simp [resAV, q_y]) | (simp at *; done)
  · rw [if_neg hs] at e2
    by_cases hz : c = 0
    · rw [if_pos hz] at e2
      (refine q_H Try.func6 (fun F => ?_); simp only [q_z,q_y,Try.ntmps6,Try.results6])
      repeat' (first|(with_reducible first|apply q_a|apply q_b|apply q_c|apply q_d|apply q_e|apply q_f|apply q_g|apply q_h|apply q_i|apply q_j|apply q_k|apply q_m|apply q_n|apply q_o|apply q_p|refine q_l ?_)|((with_reducible first|refine q_q slb_ok fun K hK=>?_|refine q_r slb_ok fun K hK=>?_);simp (maxSteps:=2000000) only [go_sem,↓reduceIte,reduceCtorEq,Nat.reduceLeDiff,Nat.reduceLT,Nat.reduceBEq,Nat.reduceAdd,hF, hsp, hst, hc', tl, e1, e2];(repeat1' with_reducible first|apply And.intro|(intro _;try exact q_v)|(refine hK _ ?_;clear hK K))<;>(try (clear hK K;exact q_u)))|(with_reducible refine q_s ?_;(first|apply q_J|apply q_K|apply q_L|apply q_M|apply q_N|apply q_O)<;>try (intro _;try exact q_v))|with_reducible refine q_t ?_)
      all_goals first | contradiction | omega | exact q_A rfl | exact q_A (by simp [resAV, q_y]) | (simp at *; done)
    · rw [if_neg hz] at e2
      (refine q_H Try.func6 (fun F => ?_); simp only [q_z,q_y,Try.ntmps6,Try.results6])
      repeat' (first|(with_reducible first|apply q_a|apply q_b|apply q_c|apply q_d|apply q_e|apply q_f|apply q_g|apply q_h|apply q_i|apply q_j|apply q_k|apply q_m|apply q_n|apply q_o|apply q_p|refine q_l ?_)|((with_reducible first|refine q_q slb_ok fun K hK=>?_|refine q_r slb_ok fun K hK=>?_);simp (maxSteps:=2000000) only [go_sem,↓reduceIte,reduceCtorEq,Nat.reduceLeDiff,Nat.reduceLT,Nat.reduceBEq,Nat.reduceAdd,hF, hsp, hst, hc', tl, e1, e2];(repeat1' with_reducible first|apply And.intro|(intro _;try exact q_v)|(refine hK _ ?_;clear hK K))<;>(try (clear hK K;exact q_u)))|(with_reducible refine q_s ?_;(first|apply q_J|apply q_K|apply q_L|apply q_M|apply q_N|apply q_O)<;>try (intro _;try exact q_v))|with_reducible refine q_t ?_)
      all_goals first | contradiction | omega | exact q_A rfl | exact q_A (by simp [resAV, q_y]) | (simp at *; done)
set_option maxRecDepth 100000 in
theorem back_ret (xs : List Int) (s0 s1 s2 g0 g1 g2 : Bool) (x0 x1 x2 : List Int) (l : x0.length ≤ 140737488355328 ∧ x1.length ≤ 140737488355328 ∧ x2.length ≤ 140737488355328) (b : InB 4294967296 x0 ∧ InB 4294967296 x1 ∧ InB 4294967296 x2) :
    Ret Try.prog 6 false [.inl (.ints .i64 xs), .inr [.b s0, .ints .u32 x0, .b s1, .ints .u32 x1, .b s2, .ints .u32 x2, .b g0, .b g1, .b g2]] (.c (.b true)) := by
  obtain ⟨l0, l1, l2⟩ := l
  obtain ⟨b0, b1, b2⟩ := b
  by_cases hF : slF (prt s0 x0 g0) (prt s1 x1 g1) (prt s2 x2 g2) g2 x2.length = 0
  · by_cases hl : xs.length ≤ 4000
    · exact back_good xs s0 s1 s2 g0 g1 g2 x0 x1 x2 l0 l1 l2 b0 b1 b2 hF hl _ _ _ rfl rfl rfl
    · (refine q_H Try.func6 (fun F => ?_); simp only [q_z,q_y,Try.ntmps6,Try.results6])
      repeat' (first|(with_reducible first|apply q_a|apply q_b|apply q_c|apply q_d|apply q_e|apply q_f|apply q_g|apply q_h|apply q_i|apply q_j|apply q_k|apply q_m|apply q_n|apply q_o|apply q_p|refine q_l ?_)|((with_reducible first|refine q_q slb_ok fun K hK=>?_|refine q_r slb_ok fun K hK=>?_);simp (maxSteps:=2000000) only [go_sem,↓reduceIte,reduceCtorEq,Nat.reduceLeDiff,Nat.reduceLT,Nat.reduceBEq,Nat.reduceAdd];(repeat1' with_reducible first|apply And.intro|(intro _;try exact q_v)|(refine hK _ ?_;clear hK K))<;>(try (clear hK K;exact q_u)))|(with_reducible refine q_s ?_;(first|apply q_J|apply q_K|apply q_L|apply q_M|apply q_N|apply q_O)<;>try (intro _;try exact q_v))|with_reducible refine q_t ?_)
      all_goals first | contradiction | omega | exact q_A rfl
  · exact back_bad xs s0 s1 s2 g0 g1 g2 x0 x1 x2 _ l0 l1 l2 b0 b1 b2 rfl hF
end Go.Proofs.Ytgogdabniebplaa
