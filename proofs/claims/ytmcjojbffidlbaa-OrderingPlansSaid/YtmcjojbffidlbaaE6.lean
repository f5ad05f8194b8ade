import Derived.Test.YtmcjojbffidlbaaE5
namespace Go.Proofs.Ytmcjojbffidlbaa
set_option linter.unusedSimpArgs false
set_option linter.unusedVariables false
open Go.Abs Go.Proofs.NatL

def ojt : Cfg:=listT [(11,atCT),(12,mergedCT),(13,openCT),(14,answerCT),(17,numbersCT),(8,startCT),(15,askCT),(16,tellCT),(10,orderCT),(9,sortsCT)] [27]
theorem ojt_ok : TblOk Try.prog ojt:=listE_ok (by simp only [List.mem_singleton,forall_eq]; exact flt) ⟨⟨oa2,oa2_ok,rfl⟩,⟨oq6,oq6_ok,rfl⟩,⟨oq2,oq2_ok,rfl⟩,⟨oq5,oq5_ok,rfl⟩,⟨og2,og2_ok,rfl⟩,⟨oc3,oc3_ok,rfl⟩,⟨oc2,oc2_ok,rfl⟩,⟨oc4,oc4_ok,rfl⟩,⟨oc5,oc5_ok,rfl⟩,⟨oc6,oc6_ok,rfl⟩,trivial⟩
attribute [go_sem] ojt
set_option maxRecDepth 100000 in
set_option maxHeartbeats 6400000 in
theorem plans_bad (n a : Int) (bz : List Bool) (hbz : bz.length ≤ 140737488355328) (hn : n < 0 ∨ 1000 < n) :
  Ret Try.prog 3 false [.inl (.i .i64 n),.inl (.bools bz),.inl (.i .i64 a)] (.c (.b true)):=by
 (refine q_H Try.func3 (fun F=>?_); simp only [q_z,q_y,Try.ntmps3,Try.results3])
 repeat' (first|with_reducible refine q_0 ?_|((with_reducible first|refine q_q ojt_ok fun K hK=>?_|refine q_r ojt_ok fun K hK=>?_);simp (maxSteps:=2000000) only [go_sem,↓reduceIte,reduceCtorEq,Nat.reduceLeDiff,Nat.reduceLT,Nat.reduceBEq,Nat.reduceAdd];(repeat1' with_reducible first|apply And.intro|(intro _;try exact q_v)|(refine hK _ ?_;clear hK K))<;>(try (clear hK K;exact q_u)))|(with_reducible refine q_s ?_;(first|apply q_J|apply q_K|apply q_L|apply q_M|apply q_N|apply q_O)<;>try (intro _;try exact q_v)))
 all_goals first | omega | contradiction | exact q_A rfl | skip

set_option maxRecDepth 100000 in
set_option maxHeartbeats 6400000 in
theorem plans_good (n : Nat) (a : Int) (bz : List Bool) (hbz : bz.length ≤ 140737488355328) (hn : n ≤ 1000) :
    Ret Try.prog 3 false [.inl (.i .i64 (n : Nat)), .inl (.bools bz), .inl (.i .i64 a)] (.c (.b true)) := by
  obtain ⟨K, hK, hoff, hall⟩ := pm_all hn bz
  obtain ⟨p0, hp0⟩ : ∃ p, pS n bz 0 = p := ⟨_, rfl⟩
  have e0 : settle (startP n) = p0 := hp0
  have e1 : loadM (startM n) = mS n bz 0 := rfl
  (refine q_H Try.func3 (fun F => ?_); simp only [q_z,q_y,Try.ntmps3,Try.results3])
  repeat' (first|with_reducible refine q_0 ?_|((with_reducible first|refine q_q ojt_ok fun K hK=>?_|refine q_r ojt_ok fun K hK=>?_);simp (maxSteps:=2000000) only [go_sem,↓reduceIte,reduceCtorEq,Nat.reduceLeDiff,Nat.reduceLT,Nat.reduceBEq,Nat.reduceAdd,e0, e1];(repeat1' with_reducible first|apply And.intro|(intro _;try exact q_v)|(refine hK _ ?_;clear hK K))<;>(try (clear hK K;exact q_u)))|(with_reducible refine q_s ?_;(first|apply q_J|apply q_K|apply q_L|apply q_M|apply q_N|apply q_O)<;>try (intro _;try exact q_v)))
  all_goals first | omega | contradiction | skip
  refine loop_rb (ι := { k : Nat // k ≤ K }) (fun k => ⟨234, [(0, .c (.i .i64 (n : Nat))), (1, .c (.bools bz)), (2, .c (.i .i64 a)), (7, .bx 0 0), (8, .bx 1 0), (11, .bx 2 0)],
    ⟨[(2, [.c (.ints .i64 (mS n bz k.1).o), .own 2 0, .c (.i .i64 ((mS n bz k.1).w : Nat)), .c (.i .i64 ((mS n bz k.1).f : Nat)), .c (.ints .i64 (mS n bz k.1).l), .c (.ints .i64 (mS n bz k.1).r), .own 3 0]), (1, [.c (.i .i64 0), .c (.i .i64 0)]),
      (0, [.c (.ints .i64 p0.o), .c (.i .i64 (p0.w : Nat)), .c (.i .i64 (p0.f : Nat)), .c (.i .i64 (p0.l : Nat)), .c (.i .i64 (p0.r : Nat)), .c (.ints .i64 p0.m)])],
     [(2, ⟨0, 42, 2, .sl 2 (askS n bz k.1)⟩), (3, ⟨0, 3, 1, .ints .i64 (mS n bz k.1).x⟩)], []⟩, 5⟩) (fun k => K - k.1) ⟨0, by omega⟩ ?_ ?_
  · have ak0 : askS n bz 0 = [] := rfl
    simp only [ak0]
    exact q_D
  rintro ⟨k, hk⟩
  simp only at hk ⊢
  have al := ask_len n bz k
  have ae := ask_succ n bz k
  obtain ⟨hF, hon⟩ := hall k hk
  rcases Nat.lt_or_ge k K with hlt | hge
  · have ho := hon hlt
    have hop := (hF.rel.opn hF.ok hF.asks hF.opn).2 ho
    have hm := hF.mok
    have en : mS n bz (k + 1) = (mS n bz k).ans (bz.getD k false) := rfl
    clear hF hon hall hoff e0 e1 hp0
    generalize mS n bz k = m at *
    generalize askS n bz k = A at *
    obtain ⟨o1, o2⟩ := hop
    have hE : Mg.mk m.o m.w m.f m.l m.r m.x = m := rfl
    by_cases hb : k < bz.length
    · repeat' (first|with_reducible refine q_0 ?_|((with_reducible first|refine q_q ojt_ok fun K hK=>?_|refine q_r ojt_ok fun K hK=>?_);simp (maxSteps:=2000000) only [go_sem,↓reduceIte,reduceCtorEq,Nat.reduceLeDiff,Nat.reduceLT,Nat.reduceBEq,Nat.reduceAdd,al, hE];(repeat1' with_reducible first|apply And.intro|(intro _;try exact q_v)|(refine hK _ ?_;clear hK K))<;>(try (clear hK K;exact q_u)))|(with_reducible refine q_s ?_;(first|apply q_J|apply q_K|apply q_L|apply q_M|apply q_N|apply q_O)<;>try (intro _;try exact q_v)))
      all_goals first | omega | contradiction | exact hm | skip
      all_goals refine roundr_n [(8, 2), (9, 3)] ⟨k + 1, hlt⟩ ?_ (by simp only; omega)
      all_goals simp only [ae, en]
      all_goals exact q_D
    · have hg : bz.getD k false = false := by simp [List.getD_eq_getElem?_getD, List.getElem?_eq_none (by omega : bz.length ≤ k)]
      rw [hg] at en
      repeat' (first|with_reducible refine q_0 ?_|((with_reducible first|refine q_q ojt_ok fun K hK=>?_|refine q_r ojt_ok fun K hK=>?_);simp (maxSteps:=2000000) only [go_sem,↓reduceIte,reduceCtorEq,Nat.reduceLeDiff,Nat.reduceLT,Nat.reduceBEq,Nat.reduceAdd,al, hE];(repeat1' with_reducible first|apply And.intro|(intro _;try exact q_v)|(refine hK _ ?_;clear hK K))<;>(try (clear hK K;exact q_u)))|(with_reducible refine q_s ?_;(first|apply q_J|apply q_K|apply q_L|apply q_M|apply q_N|apply q_O)<;>try (intro _;try exact q_v)))
      all_goals first | omega | contradiction | exact hm | skip
      all_goals refine roundr_n [(8, 2), (9, 3)] ⟨k + 1, hlt⟩ ?_ (by simp only; omega)
      all_goals simp only [ae, en]
      all_goals exact q_D
  · obtain rfl : k = K := by omega
    have hno : ¬ (mS n bz k).opn := fun h => hoff ((hF.rel.opn hF.ok hF.asks hF.opn).1 h)
    have hord : (mS n bz k).o = (pS n bz k).o := hF.rel.order hoff
    have hol : (mS n bz k).o.length = n := by rw [hord]; exact hF.len
    have hoff2 : ¬ (pS n bz k).w < (pS n bz k).o.length := hoff
    have hat : ∀ j, j < k → (askS n bz k).getD j [] = [.i .i64 (pS n bz j).i, .i .i64 (pS n bz j).j] := fun j hj => by
      obtain ⟨g1, g2⟩ := hall j (by omega)
      obtain ⟨g3, g4⟩ := pm_ij g1 (g2 hj)
      rw [List.getD_eq_getElem?_getD, ask_at n bz hj, g3, g4]
      rfl
    clear e0 e1 hon
    generalize mS n bz k = m at *
    generalize askS n bz k = A at *
    have hno2 : ¬ (0 < m.l.length ∧ 0 < m.r.length) := hno
    repeat' (first|with_reducible refine q_0 ?_|((with_reducible first|refine q_q ojt_ok fun K hK=>?_|refine q_r ojt_ok fun K hK=>?_);simp (maxSteps:=2000000) only [go_sem,↓reduceIte,reduceCtorEq,Nat.reduceLeDiff,Nat.reduceLT,Nat.reduceBEq,Nat.reduceAdd,al];(repeat1' with_reducible first|apply And.intro|(intro _;try exact q_v)|(refine hK _ ?_;clear hK K))<;>(try (clear hK K;exact q_u)))|(with_reducible refine q_s ?_;(first|apply q_J|apply q_K|apply q_L|apply q_M|apply q_N|apply q_O)<;>try (intro _;try exact q_v)))
    all_goals first | omega | contradiction | skip
    all_goals refine roundr_exit ?_
    repeat' (first|with_reducible refine q_0 ?_|((with_reducible first|refine q_q ojt_ok fun K hK=>?_|refine q_r ojt_ok fun K hK=>?_);simp (maxSteps:=2000000) only [go_sem,↓reduceIte,reduceCtorEq,Nat.reduceLeDiff,Nat.reduceLT,Nat.reduceBEq,Nat.reduceAdd,al];(repeat1' with_reducible first|apply And.intro|(intro _;try exact q_v)|(refine hK _ ?_;clear hK K))<;>(try (clear hK K;exact q_u)))|(with_reducible refine q_s ?_;(first|apply q_J|apply q_K|apply q_L|apply q_M|apply q_N|apply q_O)<;>try (intro _;try exact q_v)))
    all_goals first | omega | contradiction | skip
    rw [hord]
    have hol2 : (pS n bz k).o.length = n := hF.len
    clear hord
    generalize hz : (pS n bz k).o = O at *
    refine q_G (ι := { i : Nat // i ≤ k }) (fun i => ⟨234, [(1, .c (.bools bz)), (2, .c (.i .i64 a)), (7, .bx 0 0), (8, .bx 1 0), (13, .c (.sl 2 A)), (14, .c (.ints .i64 O)), (15, .bx 8 0), (16, .c (.i .i64 (i.1 : Nat)))],
      ⟨[(8, [.c (.ints .i64 (keptS n bz a i.1).o), .c (.i .i64 ((keptS n bz a i.1).w : Nat)), .c (.i .i64 ((keptS n bz a i.1).f : Nat)), .c (.i .i64 ((keptS n bz a i.1).l : Nat)), .c (.i .i64 ((keptS n bz a i.1).r : Nat)), .c (.ints .i64 (keptS n bz a i.1).m)]), (1, [.c (.i .i64 0), .c (.i .i64 0)]),
        (0, [.c (.ints .i64 (pS n bz i.1).o), .c (.i .i64 ((pS n bz i.1).w : Nat)), .c (.i .i64 ((pS n bz i.1).f : Nat)), .c (.i .i64 ((pS n bz i.1).l : Nat)), .c (.i .i64 ((pS n bz i.1).r : Nat)), .c (.ints .i64 (pS n bz i.1).m)])], [], []⟩, 9⟩) (fun i => k - i.1) ⟨0, by omega⟩ ?_ ?_
    · have k0 : keptS n bz a 0 = p0 := hp0
      simp only [k0, hp0]
      exact q_D
    rintro ⟨i, hi⟩
    simp only at hi ⊢
    rcases Nat.lt_or_ge i k with hik | hik
    · obtain ⟨hF2, hon2⟩ := hall i hi
      have ha := hat i hik
      have ho2 : (pS n bz i).w < (pS n bz i).o.length := hon2 hik
      have hok2 := hF2.ok
      have has2 := hF2.asks
      have hkt : keptS n bz a (i + 1) = if (i : Int) = a then pS n bz i else keptS n bz a i := rfl
      have hpt : pS n bz (i + 1) = tellP (pS n bz i) (bz.getD i false) := rfl
      have hE2 : Pn.mk (pS n bz i).o (pS n bz i).w (pS n bz i).f (pS n bz i).l (pS n bz i).r (pS n bz i).m = pS n bz i := rfl
      clear hF2 hon2 hat hall hoff hoff2 hF hz
      generalize pS n bz i = p at *
      generalize keptS n bz a i = kp at *
      have hasks := has2 ho2
      have hpn := hok2.n
      have zm : ∀ z : List C, List.drop (0 * 1) z = z := fun z => rfl
      have om : ∀ x y : C, List.drop (Int.toNat 1 * 1) [x, y] = [y] := fun x y => rfl
      by_cases hia : (i : Int) = a
      · rw [if_pos hia] at hkt
        by_cases hb : i < bz.length
        · repeat' (first|with_reducible refine q_0 ?_|((with_reducible first|refine q_q ojt_ok fun K hK=>?_|refine q_r ojt_ok fun K hK=>?_);simp (maxSteps:=2000000) only [go_sem,↓reduceIte,reduceCtorEq,Nat.reduceLeDiff,Nat.reduceLT,Nat.reduceBEq,Nat.reduceAdd,al, hE2, ha, zm, om];(repeat1' with_reducible first|apply And.intro|(intro _;try exact q_v)|(refine hK _ ?_;clear hK K))<;>(try (clear hK K;exact q_u)))|(with_reducible refine q_s ?_;(first|apply q_J|apply q_K|apply q_L|apply q_M|apply q_N|apply q_O)<;>try (intro _;try exact q_v)))
          all_goals first | omega | contradiction | exact hok2 | exact ⟨hok2, hasks⟩ | skip
          all_goals first | (refine q_F ⟨i + 1, hik⟩ ?_ (by simp only; omega); simp only [hkt, hpt]; exact q_D) | skip
        · have hg : bz.getD i false = false := by simp [List.getD_eq_getElem?_getD, List.getElem?_eq_none (by omega : bz.length ≤ i)]
          rw [hg] at hpt
          repeat' (first|with_reducible refine q_0 ?_|((with_reducible first|refine q_q ojt_ok fun K hK=>?_|refine q_r ojt_ok fun K hK=>?_);simp (maxSteps:=2000000) only [go_sem,↓reduceIte,reduceCtorEq,Nat.reduceLeDiff,Nat.reduceLT,Nat.reduceBEq,Nat.reduceAdd,al, hE2, ha, zm, om];(repeat1' with_reducible first|apply And.intro|(intro _;try exact q_v)|(refine hK _ ?_;clear hK K))<;>(try (clear hK K;exact q_u)))|(with_reducible refine q_s ?_;(first|apply q_J|apply q_K|apply q_L|apply q_M|apply q_N|apply q_O)<;>try (intro _;try exact q_v)))
          all_goals first | omega | contradiction | exact hok2 | exact ⟨hok2, hasks⟩ | skip
          all_goals first | (refine q_F ⟨i + 1, hik⟩ ?_ (by simp only; omega); simp only [hkt, hpt]; exact q_D) | skip
      · rw [if_neg hia] at hkt
        by_cases hb : i < bz.length
        · repeat' (first|with_reducible refine q_0 ?_|((with_reducible first|refine q_q ojt_ok fun K hK=>?_|refine q_r ojt_ok fun K hK=>?_);simp (maxSteps:=2000000) only [go_sem,↓reduceIte,reduceCtorEq,Nat.reduceLeDiff,Nat.reduceLT,Nat.reduceBEq,Nat.reduceAdd,al, hE2, ha, zm, om];(repeat1' with_reducible first|apply And.intro|(intro _;try exact q_v)|(refine hK _ ?_;clear hK K))<;>(try (clear hK K;exact q_u)))|(with_reducible refine q_s ?_;(first|apply q_J|apply q_K|apply q_L|apply q_M|apply q_N|apply q_O)<;>try (intro _;try exact q_v)))
          all_goals first | omega | contradiction | exact hok2 | exact ⟨hok2, hasks⟩ | skip
          all_goals first | (refine q_F ⟨i + 1, hik⟩ ?_ (by simp only; omega); simp only [hkt, hpt]; exact q_D) | skip
        · have hg : bz.getD i false = false := by simp [List.getD_eq_getElem?_getD, List.getElem?_eq_none (by omega : bz.length ≤ i)]
          rw [hg] at hpt
          repeat' (first|with_reducible refine q_0 ?_|((with_reducible first|refine q_q ojt_ok fun K hK=>?_|refine q_r ojt_ok fun K hK=>?_);simp (maxSteps:=2000000) only [go_sem,↓reduceIte,reduceCtorEq,Nat.reduceLeDiff,Nat.reduceLT,Nat.reduceBEq,Nat.reduceAdd,al, hE2, ha, zm, om];(repeat1' with_reducible first|apply And.intro|(intro _;try exact q_v)|(refine hK _ ?_;clear hK K))<;>(try (clear hK K;exact q_u)))|(with_reducible refine q_s ?_;(first|apply q_J|apply q_K|apply q_L|apply q_M|apply q_N|apply q_O)<;>try (intro _;try exact q_v)))
          all_goals first | omega | contradiction | exact hok2 | exact ⟨hok2, hasks⟩ | skip
          all_goals first | (refine q_F ⟨i + 1, hik⟩ ?_ (by simp only; omega); simp only [hkt, hpt]; exact q_D) | skip
    · obtain rfl : i = k := by omega
      have hol3 : (pS n bz i).o.length = n := by rw [hz]; exact hol2
      have hpo : tellP (pS n bz i) true = pS n bz i := if_neg hoff
      have hok2 := (hall i hi).1.ok
      have hE2 : Pn.mk (pS n bz i).o (pS n bz i).w (pS n bz i).f (pS n bz i).l (pS n bz i).r (pS n bz i).m = pS n bz i := rfl
      by_cases hia : 0 ≤ a ∧ a < (i : Int)
      · obtain ⟨h1, h2⟩ := hia
        obtain ⟨j, rfl⟩ := Int.eq_ofNat_of_zero_le h1
        have hji : j < i := by omega
        obtain ⟨hF2, hon2⟩ := hall j (by omega)
        have ha := hat j hji
        have zm : ∀ z : List C, List.drop (0 * 1) z = z := fun z => rfl
        have om : ∀ x y : C, List.drop (Int.toNat 1 * 1) [x, y] = [y] := fun x y => rfl
        have ho2 : (pS n bz j).w < (pS n bz j).o.length := hon2 hji
        have hok3 := hF2.ok
        have hasks := hF2.asks ho2
        have hpn := hok3.n
        have hE3 : Pn.mk (pS n bz j).o (pS n bz j).w (pS n bz j).f (pS n bz j).l (pS n bz j).r (pS n bz j).m = pS n bz j := rfl
        rw [kept_is n bz j i hji]
        clear hF2 hon2 hat hall hF hoff
        generalize pS n bz j = q at *
        generalize pS n bz i = p at *
        subst hz
        repeat' (first|with_reducible refine q_0 ?_|((with_reducible first|refine q_q ojt_ok fun K hK=>?_|refine q_r ojt_ok fun K hK=>?_);simp (maxSteps:=2000000) only [go_sem,↓reduceIte,reduceCtorEq,Nat.reduceLeDiff,Nat.reduceLT,Nat.reduceBEq,Nat.reduceAdd,al, hE2, hE3, hpo, ha, zm, om];(repeat1' with_reducible first|apply And.intro|(intro _;try exact q_v)|(refine hK _ ?_;clear hK K))<;>(try (clear hK K;exact q_u)))|(with_reducible refine q_s ?_;(first|apply q_J|apply q_K|apply q_L|apply q_M|apply q_N|apply q_O)<;>try (intro _;try exact q_v)))
        all_goals first | omega | contradiction | exact hok2 | exact ⟨hok3, hasks⟩ | exact q_A rfl | skip
      · generalize keptS n bz a i = kp at *
        clear hat hall hF hoff
        generalize pS n bz i = p at *
        subst hz
        repeat' (first|with_reducible refine q_0 ?_|((with_reducible first|refine q_q ojt_ok fun K hK=>?_|refine q_r ojt_ok fun K hK=>?_);simp (maxSteps:=2000000) only [go_sem,↓reduceIte,reduceCtorEq,Nat.reduceLeDiff,Nat.reduceLT,Nat.reduceBEq,Nat.reduceAdd,al, hE2, hpo];(repeat1' with_reducible first|apply And.intro|(intro _;try exact q_v)|(refine hK _ ?_;clear hK K))<;>(try (clear hK K;exact q_u)))|(with_reducible refine q_s ?_;(first|apply q_J|apply q_K|apply q_L|apply q_M|apply q_N|apply q_O)<;>try (intro _;try exact q_v)))
        all_goals first | omega | contradiction | exact hok2 | exact q_A rfl | skip
end Go.Proofs.Ytmcjojbffidlbaa
