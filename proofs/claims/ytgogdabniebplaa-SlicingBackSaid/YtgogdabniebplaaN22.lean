import Derived.Test.YtgogdabniebplaaN21
import Derived.Test.YtgogdabniebplaaL
namespace Go.Proofs.Ytgogdabniebplaa
set_option linter.unusedSimpArgs false
set_option linter.unusedVariables false
open Go.Abs Go.Proofs.NatL

theorem trim1 (d : Nat) (h : d < 4294967296) : trimL [(d : Int)] = dg 4294967296 d := by
  rw [trimL_eq 4294967296 (by omega) _ (InB_one (by omega) (by omega)), V_one, Int.toNat_natCast]
theorem one_len (d : Nat) (h : d < 4294967296) : (dg 4294967296 d).length ≤ 1 := dg_len_le (by omega) _ _ (by omega)
theorem mulN1 (m d : Nat) : mulN (dg 4294967296 m) [(d : Int)] = dg 4294967296 (m * d) := by
  unfold mulN; rw [V32, V_one, Int.toNat_natCast]
theorem addNd (m d : Nat) : addN (dg 4294967296 m) (dg 4294967296 d) = dg 4294967296 (m + d) := by
  unfold addN; rw [V32, V32]
theorem fitN_big {xs ys : List Int} (h : xs = ys ∨ 600 < xs.length ∧ 600 < ys.length) (tx : Trd xs) (ty : Trd ys) : fitN xs = fitN ys ∧ fitC xs = fitC ys ∧ fitI xs = fitI ys := by
  rcases h with h | ⟨h1, h2⟩
  · subst h; exact ⟨rfl, rfl, rfl⟩
  · have e1 : trimL xs = xs := trimL_stop xs (tx.imp_left (by simp_all))
    have e2 : trimL ys = ys := trimL_stop ys (ty.imp_left (by simp_all))
    have g1 : ¬ xs.length ≤ 600 := by omega
    have g2 : ¬ ys.length ≤ 600 := by omega
    simp [fitN, fitC, fitI, e1, e2, h1, h2, g1, g2]

def tb22 : Cfg := listT [(161, atCT), (174, trimCT), (163, fitCT), (164, (numCT (fun _ _ => True) addN)), (173, (numCT (fun _ _ => True) mulN))] [28]
theorem tb22_ok : TblOk Try.prog tb22 := listT_ok (big := ck3) ck3_ok ⟨rfl, rfl, rfl, rfl, rfl, trivial⟩
attribute [go_sem] tb22
set_option maxRecDepth 100000 in
set_option maxHeartbeats 1600000 in
theorem From_good (ds : List Int) (b : Nat) (hd : InB b ds) (h1 : 2 ≤ b) (h2 : b ≤ 36) (hl : ds.length ≤ 140737488355328) :
    Ret Try.prog 141 false [.inl (.ints .i64 ds), .inl (.i .i64 b)] (.t [.inl (.ints .u32 (fitN (dg 4294967296 (rdv b ds)))), .inr [.i .i64 (fitC (dg 4294967296 (rdv b ds))), .i .i64 (fitI (dg 4294967296 (rdv b ds)))]]) := by
  (refine q_H Try.func141 (fun F => ?_); simp only [q_z,q_y,Try.ntmps141,Try.results141])
  repeat' (first|(with_reducible first|apply q_a|apply q_b|apply q_c|apply q_d|apply q_e|apply q_f|apply q_g|apply q_h|apply q_i|apply q_j|apply q_k|apply q_m|apply q_n|apply q_o|apply q_p|refine q_l ?_)|((with_reducible first|refine q_q tb22_ok fun K hK=>?_|refine q_r tb22_ok fun K hK=>?_);simp (maxSteps:=2000000) only [go_sem,↓reduceIte,reduceCtorEq,Nat.reduceLeDiff,Nat.reduceLT,Nat.reduceBEq,Nat.reduceAdd];(repeat1' with_reducible first|apply And.intro|(intro _;try exact q_v)|(refine hK _ ?_;clear hK K))<;>(try (clear hK K;exact q_u)))|(with_reducible refine q_s ?_;(first|apply q_J|apply q_K|apply q_L|apply q_M|apply q_N|apply q_O)<;>try (intro _;try exact q_v))|with_reducible refine q_t ?_)
  refine q_G (ι := { p : Nat × Nat // p.1 ≤ ds.length ∧ (dg 4294967296 p.2).length ≤ 601 ∧ (p.2 = rdv b (ds.take p.1) ∨ 600 < (dg 4294967296 p.2).length ∧ 600 < (dg 4294967296 (rdv b (ds.take p.1))).length) }) (fun p => ⟨50, [(0, .c (.ints .i64 ds)), (1, .c (.i .i64 b)), (5, .bx 0 0), (6, .c (.ints .u32 (dg 4294967296 p.1.2))), (16, .c (.ints .i64 ds)), (17, .c (.i .i64 ds.length)), (18, .c (.i .i64 (p.1.1 : Nat)))], ⟨[(0, [.c (.i .i64 0), .c (.i .i64 0)])], [], []⟩, 1⟩) (fun p => ds.length - p.1.1) ⟨(0, 0), by simp, by simp [dg_zero], by simp [rdv_nil]⟩ ?_ ?_
  · ((simp only [go_sem,↓reduceIte,reduceCtorEq,Nat.reduceLeDiff,Nat.reduceLT,Nat.reduceBEq,Nat.reduceAdd])<;>(try (simp;done))<;>(try ((simp only [C.i.injEq,C.b.injEq,C.ints.injEq,C.bools.injEq,List.append_cancel_left_eq,List.cons.injEq,true_and,and_true]);(repeat' with_reducible apply And.intro)<;>(first|rfl|assumption|omega|(simp;omega)|(congr 1;omega)|(congr 2;omega)))))
    simp [dg_zero]
  rintro ⟨⟨i, m⟩, g1, g2, g3⟩
  simp only at g1 g2 g3 ⊢
  have b1 := InB_getD (by omega) hd i
  obtain ⟨d, hdd⟩ : ∃ d : Nat, ds.getD i 0 = d := ⟨(ds.getD i 0).toNat, by omega⟩
  rw [hdd] at b1
  have hdb : d < b := by omega
  have bm := InB_dg 4294967296 (by omega) m
  have bb : InB 4294967296 [(b : Int)] := InB_one (by omega) (by omega)
  have hbm : (b : Int) % 4294967296 = b := by omega
  have hdm : (d : Int) % 4294967296 = d := by omega
  have tr := trim1 d (by omega)
  have mu := mulN1 m b
  have ad := addNd (m * b) d
  have tl : (dg 4294967296 d).length ≤ 1 := dg_len_le (by omega) _ _ (by omega)
  have ml : (dg 4294967296 (m * b)).length ≤ 602 := mul_len (by omega) g2 (one_len b (by omega))
  have al : (dg 4294967296 m).length ≤ 600 → (dg 4294967296 (m * b + d)).length ≤ 601 := fun h => snoc_len (by omega) h (by omega) (by omega) hdb
  have hstep : i < ds.length → rdv b (ds.take (i + 1)) = rdv b (ds.take i) * b + d := fun h => by rw [rdv_take _ _ _ h, hdd, Int.toNat_natCast]
  have hgrow : (dg 4294967296 (rdv b (ds.take i))).length ≤ (dg 4294967296 (rdv b (ds.take i) * b + d)).length := dg_len_mono (by omega) (rdv_grows b (by omega) _ _)
  repeat' (first|(with_reducible first|apply q_a|apply q_b|apply q_c|apply q_d|apply q_e|apply q_f|apply q_g|apply q_h|apply q_i|apply q_j|apply q_k|apply q_m|apply q_n|apply q_o|apply q_p|refine q_l ?_)|((with_reducible first|refine q_q tb22_ok fun K hK=>?_|refine q_r tb22_ok fun K hK=>?_);simp (maxSteps:=2000000) only [go_sem,↓reduceIte,reduceCtorEq,Nat.reduceLeDiff,Nat.reduceLT,Nat.reduceBEq,Nat.reduceAdd,hdd, hbm, hdm, tr, mu, ad];(repeat1' with_reducible first|apply And.intro|(intro _;try exact q_v)|(refine hK _ ?_;clear hK K))<;>(try (clear hK K;exact q_u)))|(with_reducible refine q_s ?_;(first|apply q_J|apply q_K|apply q_L|apply q_M|apply q_N|apply q_O)<;>try (intro _;try exact q_v))|with_reducible refine q_t ?_)
  · rename_i q1 q2 q3 q4
    refine q_F ⟨(i + 1, m), by simp only; omega, g2, .inr ⟨by simp only; omega, ?_⟩⟩ ?_ (by simp only; omega)
    · rw [hstep (by omega)]
      rcases g3 with g3 | g3
      · rw [← g3] at hgrow ⊢; omega
      · omega
    · exact q_D
  · rename_i q1 q2 q3 q4
    refine q_F ⟨(i + 1, m * b + d), by simp only; omega, al (by omega), .inl ?_⟩ ?_ (by simp only; omega)
    · simp only
      rcases g3 with g3 | g3
      · rw [hstep (by omega), ← g3]
      · omega
    · exact q_D
  · rename_i q1
    have hi : i = ds.length := by omega
    rw [hi, List.take_length] at g3
    obtain ⟨e1, e2, e3⟩ := fitN_big (xs := dg 4294967296 m) (ys := dg 4294967296 (rdv b ds)) (g3.imp_left (fun h => by rw [h])) (dg_trd 4294967296 (by omega) _) (dg_trd 4294967296 (by omega) _)
    exact q_A (by rw [e1, e2, e3]; rfl)

set_option maxRecDepth 100000 in
set_option maxHeartbeats 1600000 in
theorem From_badd (ds : List Int) (b k : Nat) (hk : k < ds.length) (hd : InB b (ds.take k)) (hb : ¬ (0 ≤ ds.getD k 0 ∧ ds.getD k 0 < b)) (h1 : 2 ≤ b) (h2 : b ≤ 36) (hl : ds.length ≤ 140737488355328) :
    Ret Try.prog 141 false [.inl (.ints .i64 ds), .inl (.i .i64 b)] (.t [.inl (.ints .u32 []), .inr [.i .i64 4, .i .i64 k]]) := by
  (refine q_H Try.func141 (fun F => ?_); simp only [q_z,q_y,Try.ntmps141,Try.results141])
  repeat' (first|(with_reducible first|apply q_a|apply q_b|apply q_c|apply q_d|apply q_e|apply q_f|apply q_g|apply q_h|apply q_i|apply q_j|apply q_k|apply q_m|apply q_n|apply q_o|apply q_p|refine q_l ?_)|((with_reducible first|refine q_q tb22_ok fun K hK=>?_|refine q_r tb22_ok fun K hK=>?_);simp (maxSteps:=2000000) only [go_sem,↓reduceIte,reduceCtorEq,Nat.reduceLeDiff,Nat.reduceLT,Nat.reduceBEq,Nat.reduceAdd];(repeat1' with_reducible first|apply And.intro|(intro _;try exact q_v)|(refine hK _ ?_;clear hK K))<;>(try (clear hK K;exact q_u)))|(with_reducible refine q_s ?_;(first|apply q_J|apply q_K|apply q_L|apply q_M|apply q_N|apply q_O)<;>try (intro _;try exact q_v))|with_reducible refine q_t ?_)
  refine q_G (ι := { p : Nat × Nat // p.1 ≤ k ∧ (dg 4294967296 p.2).length ≤ 601 }) (fun p => ⟨50, [(0, .c (.ints .i64 ds)), (1, .c (.i .i64 b)), (5, .bx 0 0), (6, .c (.ints .u32 (dg 4294967296 p.1.2))), (16, .c (.ints .i64 ds)), (17, .c (.i .i64 ds.length)), (18, .c (.i .i64 (p.1.1 : Nat)))], ⟨[(0, [.c (.i .i64 0), .c (.i .i64 0)])], [], []⟩, 1⟩) (fun p => k - p.1.1) ⟨(0, 0), by simp, by simp [dg_zero]⟩ ?_ ?_
  · ((simp only [go_sem,↓reduceIte,reduceCtorEq,Nat.reduceLeDiff,Nat.reduceLT,Nat.reduceBEq,Nat.reduceAdd])<;>(try (simp;done))<;>(try ((simp only [C.i.injEq,C.b.injEq,C.ints.injEq,C.bools.injEq,List.append_cancel_left_eq,List.cons.injEq,true_and,and_true]);(repeat' with_reducible apply And.intro)<;>(first|rfl|assumption|omega|(simp;omega)|(congr 1;omega)|(congr 2;omega)))))
    simp [dg_zero]
  rintro ⟨⟨i, m⟩, g1, g2⟩
  simp only at g1 g2 ⊢
  rcases Nat.lt_or_ge i k with hik | hik
  · have b1 := InB_getD (by omega) hd i
    have b2 : (ds.take k).getD i 0 = ds.getD i 0 := by simp [List.getD_eq_getElem?_getD, List.getElem?_take, hik]
    rw [b2] at b1
    obtain ⟨d, hdd⟩ : ∃ d : Nat, ds.getD i 0 = d := ⟨(ds.getD i 0).toNat, by omega⟩
    rw [hdd] at b1
    have hdb : d < b := by omega
    have bm := InB_dg 4294967296 (by omega) m
    have bb : InB 4294967296 [(b : Int)] := InB_one (by omega) (by omega)
    have hbm : (b : Int) % 4294967296 = b := by omega
    have hdm : (d : Int) % 4294967296 = d := by omega
    have tr := trim1 d (by omega)
    have mu := mulN1 m b
    have ad := addNd (m * b) d
    have tl : (dg 4294967296 d).length ≤ 1 := dg_len_le (by omega) _ _ (by omega)
    have ml : (dg 4294967296 (m * b)).length ≤ 602 := mul_len (by omega) g2 (one_len b (by omega))
    have al : (dg 4294967296 m).length ≤ 600 → (dg 4294967296 (m * b + d)).length ≤ 601 := fun h => snoc_len (by omega) h (by omega) (by omega) hdb
    repeat' (first|(with_reducible first|apply q_a|apply q_b|apply q_c|apply q_d|apply q_e|apply q_f|apply q_g|apply q_h|apply q_i|apply q_j|apply q_k|apply q_m|apply q_n|apply q_o|apply q_p|refine q_l ?_)|((with_reducible first|refine q_q tb22_ok fun K hK=>?_|refine q_r tb22_ok fun K hK=>?_);simp (maxSteps:=2000000) only [go_sem,↓reduceIte,reduceCtorEq,Nat.reduceLeDiff,Nat.reduceLT,Nat.reduceBEq,Nat.reduceAdd,hdd, hbm, hdm, tr, mu, ad];(repeat1' with_reducible first|apply And.intro|(intro _;try exact q_v)|(refine hK _ ?_;clear hK K))<;>(try (clear hK K;exact q_u)))|(with_reducible refine q_s ?_;(first|apply q_J|apply q_K|apply q_L|apply q_M|apply q_N|apply q_O)<;>try (intro _;try exact q_v))|with_reducible refine q_t ?_)
    · refine q_F ⟨(i + 1, m), by simp only; omega, g2⟩ ?_ (by simp only; omega)
      exact q_D
    · refine q_F ⟨(i + 1, m * b + d), by simp only; omega, al (by omega)⟩ ?_ (by simp only; omega)
      exact q_D
  · have hik : i = k := by omega
    subst hik
    repeat' (first|(with_reducible first|apply q_a|apply q_b|apply q_c|apply q_d|apply q_e|apply q_f|apply q_g|apply q_h|apply q_i|apply q_j|apply q_k|apply q_m|apply q_n|apply q_o|apply q_p|refine q_l ?_)|((with_reducible first|refine q_q tb22_ok fun K hK=>?_|refine q_r tb22_ok fun K hK=>?_);simp (maxSteps:=2000000) only [go_sem,↓reduceIte,reduceCtorEq,Nat.reduceLeDiff,Nat.reduceLT,Nat.reduceBEq,Nat.reduceAdd];(repeat1' with_reducible first|apply And.intro|(intro _;try exact q_v)|(refine hK _ ?_;clear hK K))<;>(try (clear hK K;exact q_u)))|(with_reducible refine q_s ?_;(first|apply q_J|apply q_K|apply q_L|apply q_M|apply q_N|apply q_O)<;>try (intro _;try exact q_v))|with_reducible refine q_t ?_)
    · exact q_B [.inl (some (.ints .u32 []))] rfl rfl
    · exact q_B [.inl (some (.ints .u32 []))] rfl rfl

theorem From_base (ds : List Int) (b : Int) (h : b < 2 ∨ 36 < b) :
    Ret Try.prog 141 false [.inl (.ints .i64 ds), .inl (.i .i64 b)] (.t [.inl (.ints .u32 []), .inr [.i .i64 4, .i .i64 (-2)]]) := by
  (refine q_H Try.func141 (fun F => ?_); simp only [q_z,q_y,Try.ntmps141,Try.results141])
  repeat' (first|(with_reducible first|apply q_a|apply q_b|apply q_c|apply q_d|apply q_e|apply q_f|apply q_g|apply q_h|apply q_i|apply q_j|apply q_k|apply q_m|apply q_n|apply q_o|apply q_p|refine q_l ?_)|((with_reducible first|refine q_q tb22_ok fun K hK=>?_|refine q_r tb22_ok fun K hK=>?_);simp (maxSteps:=2000000) only [go_sem,↓reduceIte,reduceCtorEq,Nat.reduceLeDiff,Nat.reduceLT,Nat.reduceBEq,Nat.reduceAdd];(repeat1' with_reducible first|apply And.intro|(intro _;try exact q_v)|(refine hK _ ?_;clear hK K))<;>(try (clear hK K;exact q_u)))|(with_reducible refine q_s ?_;(first|apply q_J|apply q_K|apply q_L|apply q_M|apply q_N|apply q_O)<;>try (intro _;try exact q_v))|with_reducible refine q_t ?_)
  all_goals (exact q_B [.inl (some (.ints .u32 []))] rfl rfl)

end Go.Proofs.Ytgogdabniebplaa
