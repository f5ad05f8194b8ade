import Derived.Test.YtlefdhkjbbdijaaH12
import Derived.Test.YtlefdhkjbbdijaaH18
import Derived.Test.YtlefdhkjbbdijaaH19
import Derived.Test.YtlefdhkjbbdijaaH20
import Derived.Test.YtlefdhkjbbdijaaH3
import Derived.Test.YtlefdhkjbbdijaaH4
import Derived.Test.YtlefdhkjbbdijaaH5
namespace Go.Proofs.Ytlefdhkjbbdijaa
set_option linter.unusedSimpArgs false
set_option linter.unusedVariables false
open Go.Abs Go.Proofs.NatL

def sin : Cfg := listT [(54, cutsCT)] [30]
theorem sin_ok : TblOk Try.prog sin := listT_ok (big := sw2) sw2_ok ⟨rfl, trivial⟩
attribute [go_sem] sin
set_option maxHeartbeats 1600000 in
theorem in_ret (xs : List Int) (n : Int) (hx : xs.length ≤ 16777216) : Ret Try.prog 57 false [.inl (.ints .i64 xs), .inl (.i .i64 n)] (.c (.b (decide (n ∈ xs)))) := by
  (refine q_H Try.func57 (fun F => ?_); simp only [q_z,q_y,Try.ntmps57,Try.results57])
  repeat' (first|(with_reducible first|apply q_a|apply q_b|apply q_c|apply q_d|apply q_e|apply q_f|apply q_g|apply q_h|apply q_i|apply q_j|apply q_k|apply q_m|apply q_n|apply q_o|apply q_p|refine q_l ?_)|((with_reducible first|refine q_q sin_ok fun K hK=>?_|refine q_r sin_ok fun K hK=>?_);simp (maxSteps:=2000000) only [go_sem,↓reduceIte,reduceCtorEq,Nat.reduceLeDiff,Nat.reduceLT,Nat.reduceBEq,Nat.reduceAdd];(repeat1' with_reducible first|apply And.intro|(intro _;try exact q_v)|(refine hK _ ?_;clear hK K))<;>(try (clear hK K;exact q_u)))|(with_reducible refine q_s ?_;(first|apply q_J|apply q_K|apply q_L|apply q_M|apply q_N|apply q_O)<;>try (intro _;try exact q_v))|with_reducible refine q_t ?_)
  all_goals try omega
  refine q_G (ι := { k : Nat // k ≤ xs.length ∧ n ∉ xs.take k }) (fun k => ⟨18, [(0, .c (.ints .i64 xs)), (1, .c (.i .i64 n)), (5, .c (.i .i64 (k.1 : Nat)))], ⟨[], [], []⟩, 0⟩) (fun k => xs.length - k.1) ⟨0, by omega, by simp⟩ ?_ ?_
  · exact q_D
  rintro ⟨k, k1, k2⟩
  simp only at k1 k2 ⊢
  rcases Nat.lt_or_ge k xs.length with hk | hk
  · have hg := getD_eq xs k hk
    by_cases he : xs.getD k 0 = n
    · have hm : n ∈ xs := by rw [← he, hg]; exact List.getElem_mem hk
      rw [decide_eq_true hm]
      repeat' (first|(with_reducible first|apply q_a|apply q_b|apply q_c|apply q_d|apply q_e|apply q_f|apply q_g|apply q_h|apply q_i|apply q_j|apply q_k|apply q_m|apply q_n|apply q_o|apply q_p|refine q_l ?_)|((with_reducible first|refine q_q sin_ok fun K hK=>?_|refine q_r sin_ok fun K hK=>?_);simp (maxSteps:=2000000) only [go_sem,↓reduceIte,reduceCtorEq,Nat.reduceLeDiff,Nat.reduceLT,Nat.reduceBEq,Nat.reduceAdd,he];(repeat1' with_reducible first|apply And.intro|(intro _;try exact q_v)|(refine hK _ ?_;clear hK K))<;>(try (clear hK K;exact q_u)))|(with_reducible refine q_s ?_;(first|apply q_J|apply q_K|apply q_L|apply q_M|apply q_N|apply q_O)<;>try (intro _;try exact q_v))|with_reducible refine q_t ?_)
      all_goals first | contradiction | omega | exact q_A rfl | skip
    · repeat' (first|(with_reducible first|apply q_a|apply q_b|apply q_c|apply q_d|apply q_e|apply q_f|apply q_g|apply q_h|apply q_i|apply q_j|apply q_k|apply q_m|apply q_n|apply q_o|apply q_p|refine q_l ?_)|((with_reducible first|refine q_q sin_ok fun K hK=>?_|refine q_r sin_ok fun K hK=>?_);simp (maxSteps:=2000000) only [go_sem,↓reduceIte,reduceCtorEq,Nat.reduceLeDiff,Nat.reduceLT,Nat.reduceBEq,Nat.reduceAdd,he];(repeat1' with_reducible first|apply And.intro|(intro _;try exact q_v)|(refine hK _ ?_;clear hK K))<;>(try (clear hK K;exact q_u)))|(with_reducible refine q_s ?_;(first|apply q_J|apply q_K|apply q_L|apply q_M|apply q_N|apply q_O)<;>try (intro _;try exact q_v))|with_reducible refine q_t ?_)
      all_goals first | contradiction | omega | skip
      all_goals
        refine q_F ⟨k + 1, hk, ?_⟩ q_D (by simp only; omega)
        rw [List.take_succ_eq_append_getElem hk]
        simp only [List.mem_append, List.mem_singleton, not_or]
        exact ⟨k2, fun e => he (by rw [hg]; exact e.symm)⟩
  · have hk' : k = xs.length := by omega
    subst hk'
    rw [List.take_length] at k2
    rw [decide_eq_false k2]
    repeat' (first|(with_reducible first|apply q_a|apply q_b|apply q_c|apply q_d|apply q_e|apply q_f|apply q_g|apply q_h|apply q_i|apply q_j|apply q_k|apply q_m|apply q_n|apply q_o|apply q_p|refine q_l ?_)|((with_reducible first|refine q_q sin_ok fun K hK=>?_|refine q_r sin_ok fun K hK=>?_);simp (maxSteps:=2000000) only [go_sem,↓reduceIte,reduceCtorEq,Nat.reduceLeDiff,Nat.reduceLT,Nat.reduceBEq,Nat.reduceAdd];(repeat1' with_reducible first|apply And.intro|(intro _;try exact q_v)|(refine hK _ ?_;clear hK K))<;>(try (clear hK K;exact q_u)))|(with_reducible refine q_s ?_;(first|apply q_J|apply q_K|apply q_L|apply q_M|apply q_N|apply q_O)<;>try (intro _;try exact q_v))|with_reducible refine q_t ?_)
    all_goals first | contradiction | omega | exact q_A rfl | skip
def inCT : CT := mkCT [.inl (some (.ints .i64 []))] true fun l K => match l with
  | [.inl (.ints .i64 xs), .inl (.i .i64 n)] => xs.length ≤ 16777216 ∧ K (.c (.b (decide (n ∈ xs))))
  | _ => False
def sx1 : Cfg := addT 57 inCT sw2
theorem sx1_ok : TblOk Try.prog sx1 := q_I sw2_ok Try.func57 fun l K h => by
  split at h
  · exact ⟨_, (in_ret _ _ h.1).plain rfl, h.2⟩
  · exact h.elim
attribute [go_sem] inCT
end Go.Proofs.Ytlefdhkjbbdijaa

namespace Go.Proofs.Ytlefdhkjbbdijaa
set_option linter.unusedSimpArgs false
set_option linter.unusedVariables false
open Go.Abs Go.Proofs.NatL

def slt : Cfg := listT [(54, cutsCT), (51, takeCT), (52, putCT), (53, dropCT), (55, sfCT), (56, placesCT), (58, numbersCT), (57, inCT), (32, atCT)] [30]
theorem slt_ok : TblOk Try.prog slt := listE_ok (by simp only [List.mem_singleton, forall_eq]; exact flt) ⟨⟨sw2, sw2_ok, rfl⟩, ⟨sv1, sv1_ok, rfl⟩, ⟨sv2, sv2_ok, rfl⟩, ⟨sv3, sv3_ok, rfl⟩, ⟨sj5, sj5_ok, rfl⟩, ⟨sj5, sj5_ok, rfl⟩, ⟨sw1, sw1_ok, rfl⟩, ⟨sx1, sx1_ok, rfl⟩, ⟨jt12, jt12_ok, rfl⟩, trivial⟩
attribute [go_sem] slt
set_option maxRecDepth 100000 in
set_option maxHeartbeats 12800000 in
theorem takes_bad (xs w : List Int) (most : Int) (s0 s1 s2 g0 g1 g2 : Bool) (x0 x1 x2 : List Int) (F : Int) (hw : w.length ≤ 1048576) (l0 : x0.length ≤ 140737488355328) (l1 : x1.length ≤ 140737488355328) (l2 : x2.length ≤ 140737488355328) (b0 : InB 4294967296 x0) (b1 : InB 4294967296 x1) (b2 : InB 4294967296 x2)
    (hF : slF (prt s0 x0 g0) (prt s1 x1 g1) (prt s2 x2 g2) g2 x2.length = F) (hn : F ≠ 0) :
    Ret Try.prog 9 false [.inl (.ints .i64 xs), .inr [.b s0, .ints .u32 x0, .b s1, .ints .u32 x1, .b s2, .ints .u32 x2, .b g0, .b g1, .b g2], .inl (.ints .i64 w), .inl (.i .i64 most)] (.c (.b true)) := by
  (refine q_H Try.func9 (fun F => ?_); simp only [q_z,q_y,Try.ntmps9,Try.results9])
  have hI : slI (prt s0 x0 g0) (prt s1 x1 g1) (prt s2 x2 g2) g2 x2.length = -1 := if_neg (by rw [hF]; exact hn)
  repeat' (first|(with_reducible first|apply q_a|apply q_b|apply q_c|apply q_d|apply q_e|apply q_f|apply q_g|apply q_h|apply q_i|apply q_j|apply q_k|apply q_m|apply q_n|apply q_o|apply q_p|refine q_l ?_)|((with_reducible first|refine q_q slt_ok fun K hK=>?_|refine q_r slt_ok fun K hK=>?_);simp (maxSteps:=2000000) only [go_sem,↓reduceIte,reduceCtorEq,Nat.reduceLeDiff,Nat.reduceLT,Nat.reduceBEq,Nat.reduceAdd,hF, hI];(repeat1' with_reducible first|apply And.intro|(intro _;try exact q_v)|(refine hK _ ?_;clear hK K))<;>(try (clear hK K;exact q_u)))|(with_reducible refine q_s ?_;(first|apply q_J|apply q_K|apply q_L|apply q_M|apply q_N|apply q_O)<;>try (intro _;try exact q_v))|with_reducible refine q_t ?_)
  all_goals first | contradiction | omega | exact q_A rfl | exact q_A (by simp [resAV, q_y])
theorem seq_cutS {F : Fr} {Q : Exit → St → Prop} {st : St} {a b c d e f g h i j k Y : Code} (mid : St) (h1 : ∀ Y', AWp Try.prog F Y' Q mid → AWp Try.prog F (.seq a (.seq b (.seq c (.seq d (.seq e (.seq f (.seq g (.seq h (.seq i (.seq j (.seq k Y'))))))))))) Q st) (h2 : AWp Try.prog F Y Q mid) : AWp Try.prog F (.seq a (.seq b (.seq c (.seq d (.seq e (.seq f (.seq g (.seq h (.seq i (.seq j (.seq k Y))))))))))) Q st := h1 Y h2
set_option maxRecDepth 100000 in
set_option maxHeartbeats 25600000 in
theorem takes_good (xs w bs : List Int) (most gc gi : Int) (s0 s1 s2 g0 g1 g2 : Bool) (x0 x1 x2 : List Int) (hw : w.length ≤ 1048576) (l0 : x0.length ≤ 140737488355328) (l1 : x1.length ≤ 140737488355328) (l2 : x2.length ≤ 140737488355328) (b0 : InB 4294967296 x0) (b1 : InB 4294967296 x1) (b2 : InB 4294967296 x2)
    (hm : -9223372036854775808 ≤ most ∧ most ≤ 9223372036854775807) (hF : slF (prt s0 x0 g0) (prt s1 x1 g1) (prt s2 x2 g2) g2 x2.length = 0) (hl : xs.length ≤ 4000) (st sp : Int) (c : Nat) (hst : rSt s0 x0 g0 xs.length (rSp s2 x2 g2) = st) (hsp : rSp s2 x2 g2 = sp)
    (hc : slCnt (rSt s0 x0 g0 xs.length (rSp s2 x2 g2)) (rSo s1 x1 g1 xs.length (rSp s2 x2 g2)) (rSp s2 x2 g2) = c) (hP : putO xs w most st sp c = [.inl (.ints .i64 bs), .inr [.i .i64 gc, .i .i64 gi]]) (ps : List Int) (hps : slPos st sp c = ps) :
    Ret Try.prog 9 false [.inl (.ints .i64 xs), .inr [.b s0, .ints .u32 x0, .b s1, .ints .u32 x1, .b s2, .ints .u32 x2, .b g0, .b g1, .b g2], .inl (.ints .i64 w), .inl (.i .i64 most)] (.c (.b true)) := by
  obtain ⟨r1, r2, r3, r4, r5, r6, r7⟩ := r_facts (s0 := s0) (s1 := s1) (g0 := g0) (g1 := g1) (x0 := x0) (x1 := x1) b2 hF (n := xs.length) (by omega)
  have r6 := r6 _ rfl
  rw [hc] at r5 r6
  rw [hst, hsp] at r5
  rw [hst] at r3 r7
  rw [hsp] at r1 r2 r7
  have hc' := hc
  rw [hsp] at hst hc'
  rw [hst] at hc'
  have tl := takeL_len xs st sp c
  have dl := dropL_le xs ps xs.length
  have pl : ps.length = c := by rw [← hps]; exact slPos_len st sp c
  have e3 := drop_count r1 r5
  have psg : ∀ k : Nat, k < c → ps.getD k 0 = st + (k : Int) * sp := by rw [← hps]; exact fun k hk => slPos_get st sp c k hk
  have h1 : sp = 1 → 0 ≤ st ∧ st + c ≤ xs.length := fun e => by
    have r7 := r7 e
    subst e
    rcases Nat.eq_zero_or_pos c with h | h
    · omega
    · have := r5 (c - 1) (by omega)
      omega
  have hda : sp = 1 → dropL xs (slPos st sp c) xs.length = xs.take st.toNat ++ xs.drop (st.toNat + c) := fun e => by
    obtain ⟨h2, h3⟩ := h1 e
    subst e
    obtain ⟨a, rfl⟩ : ∃ a : Nat, st = a := ⟨st.toNat, by omega⟩
    rw [Int.toNat_natCast]
    exact dropL_all (by omega)
  rw [hps] at e3 hda
  (refine q_H Try.func9 (fun F => ?_); simp only [q_z,q_y,Try.ntmps9,Try.results9])
  refine seq_cutS (⟨214, [(0, .c (.ints .i64 xs)), (2, .c (.ints .i64 w)), (3, .c (.i .i64 most)), (9, .c (.ints .i64 (takeL xs st sp c))), (10, .bx 1 0), (11, .c (.ints .i64 bs)), (12, .bx 2 0), (13, .c (.ints .i64 (dropL xs ps xs.length))), (14, .bx 3 0), (16, .c (.i .i64 st)), (17, .c (.i .i64 sp)), (18, .c (.ints .i64 ps)), (19, .c (.ints .i64 (takeL xs st sp c))), (20, .c (.ints .i64 (dropL xs ps xs.length)))], ⟨[(3, [.c (.i .i64 0), .c (.i .i64 0)]), (2, [.c (.i .i64 gc), .c (.i .i64 gi)]), (1, [.c (.i .i64 0), .c (.i .i64 0)])], [], []⟩, 7⟩) (fun Y hY => ?_) ?_
  · repeat' (first|(with_reducible first|apply q_a|apply q_b|apply q_c|apply q_d|apply q_e|apply q_f|apply q_g|apply q_h|apply q_i|apply q_j|apply q_k|apply q_m|apply q_n|apply q_o|apply q_p|refine q_l ?_)|((with_reducible first|refine q_q slt_ok fun K hK=>?_|refine q_r slt_ok fun K hK=>?_);simp (maxSteps:=2000000) only [go_sem,↓reduceIte,reduceCtorEq,Nat.reduceLeDiff,Nat.reduceLT,Nat.reduceBEq,Nat.reduceAdd,hF, hsp, hst, hc', tl, pl, hP, hps];(repeat1' with_reducible first|apply And.intro|(intro _;try exact q_v)|(refine hK _ ?_;clear hK K))<;>(try (clear hK K;exact q_u)))|(with_reducible refine q_s ?_;(first|apply q_J|apply q_K|apply q_L|apply q_M|apply q_N|apply q_O)<;>try (intro _;try exact q_v))|with_reducible refine q_t ?_)
    all_goals first | contradiction | omega | skip
    refine q_G (ι := { k : Nat // k ≤ c }) (fun k => ⟨214, [(0, .c (.ints .i64 xs)), (2, .c (.ints .i64 w)), (3, .c (.i .i64 most)), (9, .c (.ints .i64 (takeL xs st sp c))), (10, .bx 1 0), (11, .c (.ints .i64 bs)), (12, .bx 2 0), (13, .c (.ints .i64 (dropL xs ps xs.length))), (14, .bx 3 0), (16, .c (.i .i64 st)), (17, .c (.i .i64 sp)), (18, .c (.ints .i64 ps)), (19, .own 5 0), (20, .c .nil), (21, .c (.i .i64 (k.1 : Nat)))], ⟨[(3, [.c (.i .i64 0), .c (.i .i64 0)]), (2, [.c (.i .i64 gc), .c (.i .i64 gi)]), (1, [.c (.i .i64 0), .c (.i .i64 0)])], [(5, ⟨0, 3, 1, .ints .i64 (takeL xs st sp k.1)⟩)], []⟩, 6⟩) (fun k => c - k.1) ⟨0, by omega⟩ ?_ ?_
    · have e9 : takeL xs st sp 0 = [] := rfl
      simp only [e9]
      ((simp only [go_sem,↓reduceIte,reduceCtorEq,Nat.reduceLeDiff,Nat.reduceLT,Nat.reduceBEq,Nat.reduceAdd])<;>(try (simp;done))<;>(try ((simp only [C.i.injEq,C.b.injEq,C.ints.injEq,C.bools.injEq,List.append_cancel_left_eq,List.cons.injEq,true_and,and_true]);(repeat' with_reducible apply And.intro)<;>(first|rfl|assumption|omega|(simp;omega)|(congr 1;omega)|(congr 2;omega)))))
    rintro ⟨k, k1⟩
    simp only at k1 ⊢
    have tk := takeL_len xs st sp k
    rcases Nat.lt_or_ge k c with hk | hk
    · have hr := r5 k hk
      have ts := takeL_succ xs st sp k
      have pg := psg k hk
      repeat' (first|(with_reducible first|apply q_a|apply q_b|apply q_c|apply q_d|apply q_e|apply q_f|apply q_g|apply q_h|apply q_i|apply q_j|apply q_k|apply q_m|apply q_n|apply q_o|apply q_p|refine q_l ?_)|((with_reducible first|refine q_q slt_ok fun K hK=>?_|refine q_r slt_ok fun K hK=>?_);simp (maxSteps:=2000000) only [go_sem,↓reduceIte,reduceCtorEq,Nat.reduceLeDiff,Nat.reduceLT,Nat.reduceBEq,Nat.reduceAdd,tk, pl, pg];(repeat1' with_reducible first|apply And.intro|(intro _;try exact q_v)|(refine hK _ ?_;clear hK K))<;>(try (clear hK K;exact q_u)))|(with_reducible refine q_s ?_;(first|apply q_J|apply q_K|apply q_L|apply q_M|apply q_N|apply q_O)<;>try (intro _;try exact q_v))|with_reducible refine q_t ?_)
      all_goals first | contradiction | omega | skip
      refine q_F ⟨k + 1, hk⟩ ?_ (by simp only; omega)
      simp only [ts]
      exact q_D
    · have hk' : k = c := by omega
      subst hk'
      repeat' (first|(with_reducible first|apply q_a|apply q_b|apply q_c|apply q_d|apply q_e|apply q_f|apply q_g|apply q_h|apply q_i|apply q_j|apply q_k|apply q_m|apply q_n|apply q_o|apply q_p|refine q_l ?_)|((with_reducible first|refine q_q slt_ok fun K hK=>?_|refine q_r slt_ok fun K hK=>?_);simp (maxSteps:=2000000) only [go_sem,↓reduceIte,reduceCtorEq,Nat.reduceLeDiff,Nat.reduceLT,Nat.reduceBEq,Nat.reduceAdd,tk, pl];(repeat1' with_reducible first|apply And.intro|(intro _;try exact q_v)|(refine hK _ ?_;clear hK K))<;>(try (clear hK K;exact q_u)))|(with_reducible refine q_s ?_;(first|apply q_J|apply q_K|apply q_L|apply q_M|apply q_N|apply q_O)<;>try (intro _;try exact q_v))|with_reducible refine q_t ?_)
      all_goals first | contradiction | omega | skip
      refine q_G (ι := { i : Nat // i ≤ xs.length }) (fun i => ⟨214, [(0, .c (.ints .i64 xs)), (2, .c (.ints .i64 w)), (3, .c (.i .i64 most)), (9, .c (.ints .i64 (takeL xs st sp k))), (10, .bx 1 0), (11, .c (.ints .i64 bs)), (12, .bx 2 0), (13, .c (.ints .i64 (dropL xs ps xs.length))), (14, .bx 3 0), (16, .c (.i .i64 st)), (17, .c (.i .i64 sp)), (18, .c (.ints .i64 ps)), (19, .c (.ints .i64 (takeL xs st sp k))), (20, .own 6 0), (22, .c (.i .i64 (i.1 : Nat)))], ⟨[(3, [.c (.i .i64 0), .c (.i .i64 0)]), (2, [.c (.i .i64 gc), .c (.i .i64 gi)]), (1, [.c (.i .i64 0), .c (.i .i64 0)])], [(6, ⟨0, 3, 1, .ints .i64 (dropL xs ps i.1)⟩)], []⟩, 7⟩) (fun i => xs.length - i.1) ⟨0, by omega⟩ ?_ ?_
      · have e9 : dropL xs ps 0 = [] := rfl
        simp only [e9]
        ((simp only [go_sem,↓reduceIte,reduceCtorEq,Nat.reduceLeDiff,Nat.reduceLT,Nat.reduceBEq,Nat.reduceAdd])<;>(try (simp;done))<;>(try ((simp only [C.i.injEq,C.b.injEq,C.ints.injEq,C.bools.injEq,List.append_cancel_left_eq,List.cons.injEq,true_and,and_true]);(repeat' with_reducible apply And.intro)<;>(first|rfl|assumption|omega|(simp;omega)|(congr 1;omega)|(congr 2;omega)))))
      rintro ⟨i, i1⟩
      simp only at i1 ⊢
      have di := dropL_le xs ps i
      rcases Nat.lt_or_ge i xs.length with hi | hi
      · by_cases hm : (i : Int) ∈ ps
        · have hd : dropL xs ps (i + 1) = dropL xs ps i := if_pos hm
          have hmd : decide ((i : Int) ∈ ps) = true := decide_eq_true hm
          repeat' (first|(with_reducible first|apply q_a|apply q_b|apply q_c|apply q_d|apply q_e|apply q_f|apply q_g|apply q_h|apply q_i|apply q_j|apply q_k|apply q_m|apply q_n|apply q_o|apply q_p|refine q_l ?_)|((with_reducible first|refine q_q slt_ok fun K hK=>?_|refine q_r slt_ok fun K hK=>?_);simp (maxSteps:=2000000) only [go_sem,↓reduceIte,reduceCtorEq,Nat.reduceLeDiff,Nat.reduceLT,Nat.reduceBEq,Nat.reduceAdd,pl, hmd];(repeat1' with_reducible first|apply And.intro|(intro _;try exact q_v)|(refine hK _ ?_;clear hK K))<;>(try (clear hK K;exact q_u)))|(with_reducible refine q_s ?_;(first|apply q_J|apply q_K|apply q_L|apply q_M|apply q_N|apply q_O)<;>try (intro _;try exact q_v))|with_reducible refine q_t ?_)
          all_goals first | contradiction | omega | skip
          refine q_F ⟨i + 1, hi⟩ ?_ (by simp only; omega)
          simp only [hd]
          exact q_D
        · have hd : dropL xs ps (i + 1) = dropL xs ps i ++ [xs.getD i 0] := if_neg hm
          have hmd : decide ((i : Int) ∈ ps) = false := decide_eq_false hm
          repeat' (first|(with_reducible first|apply q_a|apply q_b|apply q_c|apply q_d|apply q_e|apply q_f|apply q_g|apply q_h|apply q_i|apply q_j|apply q_k|apply q_m|apply q_n|apply q_o|apply q_p|refine q_l ?_)|((with_reducible first|refine q_q slt_ok fun K hK=>?_|refine q_r slt_ok fun K hK=>?_);simp (maxSteps:=2000000) only [go_sem,↓reduceIte,reduceCtorEq,Nat.reduceLeDiff,Nat.reduceLT,Nat.reduceBEq,Nat.reduceAdd,pl, hmd];(repeat1' with_reducible first|apply And.intro|(intro _;try exact q_v)|(refine hK _ ?_;clear hK K))<;>(try (clear hK K;exact q_u)))|(with_reducible refine q_s ?_;(first|apply q_J|apply q_K|apply q_L|apply q_M|apply q_N|apply q_O)<;>try (intro _;try exact q_v))|with_reducible refine q_t ?_)
          all_goals first | contradiction | omega | skip
          refine q_F ⟨i + 1, hi⟩ ?_ (by simp only; omega)
          simp only [hd]
          exact q_D
      · have hi' : i = xs.length := by omega
        subst hi'
        repeat' (first|(with_reducible first|apply q_a|apply q_b|apply q_c|apply q_d|apply q_e|apply q_f|apply q_g|apply q_h|apply q_i|apply q_j|apply q_k|apply q_m|apply q_n|apply q_o|apply q_p|refine q_l ?_)|((with_reducible first|refine q_q slt_ok fun K hK=>?_|refine q_r slt_ok fun K hK=>?_);simp (maxSteps:=2000000) only [go_sem,↓reduceIte,reduceCtorEq,Nat.reduceLeDiff,Nat.reduceLT,Nat.reduceBEq,Nat.reduceAdd,pl];(repeat1' with_reducible first|apply And.intro|(intro _;try exact q_v)|(refine hK _ ?_;clear hK K))<;>(try (clear hK K;exact q_u)))|(with_reducible refine q_s ?_;(first|apply q_J|apply q_K|apply q_L|apply q_M|apply q_N|apply q_O)<;>try (intro _;try exact q_v))|with_reducible refine q_t ?_)
        all_goals first | contradiction | omega | exact awp_told _ q_D hY | skip
  unfold putO at hP
  by_cases h0 : sp ≠ 1 ∧ w.length ≠ c
  · rw [if_pos h0] at hP
    obtain ⟨h1a, h1b⟩ := h0
    simp only [List.cons.injEq, Sum.inl.injEq, Sum.inr.injEq, C.ints.injEq, C.i.injEq, true_and, and_true] at hP
    obtain ⟨rfl, rfl, rfl⟩ := hP
    repeat' (first|(with_reducible first|apply q_a|apply q_b|apply q_c|apply q_d|apply q_e|apply q_f|apply q_g|apply q_h|apply q_i|apply q_j|apply q_k|apply q_m|apply q_n|apply q_o|apply q_p|refine q_l ?_)|((with_reducible first|refine q_q slt_ok fun K hK=>?_|refine q_r slt_ok fun K hK=>?_);simp (maxSteps:=2000000) only [go_sem,↓reduceIte,reduceCtorEq,Nat.reduceLeDiff,Nat.reduceLT,Nat.reduceBEq,Nat.reduceAdd,tl, pl];(repeat1' with_reducible first|apply And.intro|(intro _;try exact q_v)|(refine hK _ ?_;clear hK K))<;>(try (clear hK K;exact q_u)))|(with_reducible refine q_s ?_;(first|apply q_J|apply q_K|apply q_L|apply q_M|apply q_N|apply q_O)<;>try (intro _;try exact q_v))|with_reducible refine q_t ?_)
    all_goals first | contradiction | omega | exact q_A rfl | skip
  rw [if_neg h0] at hP
  by_cases h2 : most < (xs.length : Int) - c + w.length
  · rw [if_pos h2] at hP
    simp only [List.cons.injEq, Sum.inl.injEq, Sum.inr.injEq, C.ints.injEq, C.i.injEq, true_and, and_true] at hP
    obtain ⟨rfl, rfl, rfl⟩ := hP
    repeat' (first|(with_reducible first|apply q_a|apply q_b|apply q_c|apply q_d|apply q_e|apply q_f|apply q_g|apply q_h|apply q_i|apply q_j|apply q_k|apply q_m|apply q_n|apply q_o|apply q_p|refine q_l ?_)|((with_reducible first|refine q_q slt_ok fun K hK=>?_|refine q_r slt_ok fun K hK=>?_);simp (maxSteps:=2000000) only [go_sem,↓reduceIte,reduceCtorEq,Nat.reduceLeDiff,Nat.reduceLT,Nat.reduceBEq,Nat.reduceAdd,tl, pl];(repeat1' with_reducible first|apply And.intro|(intro _;try exact q_v)|(refine hK _ ?_;clear hK K))<;>(try (clear hK K;exact q_u)))|(with_reducible refine q_s ?_;(first|apply q_J|apply q_K|apply q_L|apply q_M|apply q_N|apply q_O)<;>try (intro _;try exact q_v))|with_reducible refine q_t ?_)
    all_goals first | contradiction | omega | exact q_A rfl | skip
  rw [if_neg h2] at hP
  by_cases h3 : sp = 1
  · rw [if_pos h3] at hP
    simp only [List.cons.injEq, Sum.inl.injEq, Sum.inr.injEq, C.ints.injEq, C.i.injEq, true_and, and_true] at hP
    obtain ⟨rfl, rfl, rfl⟩ := hP
    obtain ⟨g1, g2⟩ := h1 h3
    have hda := hda h3
    have la : (xs.take st.toNat).length = st.toNat := by rw [List.length_take]; omega
    have hfin : xs.take st.toNat ++ (w ++ xs.drop (st.toNat + c)) = xs.take st.toNat ++ w ++ List.drop st.toNat (List.take (dropL xs ps xs.length).length (dropL xs ps xs.length)) := by
      have hd0 : List.drop st.toNat (xs.take st.toNat) = [] := List.drop_of_length_le (by omega)
      rw [List.take_length, hda, List.drop_append_of_le_length (by omega), hd0, List.nil_append, List.append_assoc]
    have lb : (xs.take st.toNat ++ (w ++ xs.drop (st.toNat + c))).length ≤ 1048576 + 4000 := by
      rw [List.length_append, List.length_append, List.length_drop]; omega
    repeat' (first|(with_reducible first|apply q_a|apply q_b|apply q_c|apply q_d|apply q_e|apply q_f|apply q_g|apply q_h|apply q_i|apply q_j|apply q_k|apply q_m|apply q_n|apply q_o|apply q_p|refine q_l ?_)|((with_reducible first|refine q_q slt_ok fun K hK=>?_|refine q_r slt_ok fun K hK=>?_);simp (maxSteps:=2000000) only [go_sem,↓reduceIte,reduceCtorEq,Nat.reduceLeDiff,Nat.reduceLT,Nat.reduceBEq,Nat.reduceAdd,tl, pl];(repeat1' with_reducible first|apply And.intro|(intro _;try exact q_v)|(refine hK _ ?_;clear hK K))<;>(try (clear hK K;exact q_u)))|(with_reducible refine q_s ?_;(first|apply q_J|apply q_K|apply q_L|apply q_M|apply q_N|apply q_O)<;>try (intro _;try exact q_v))|with_reducible refine q_t ?_)
    all_goals first | contradiction | omega | exact q_A (congrArg (fun b => AV.c (C.b b)) (decide_eq_true hfin)) | skip
  · rw [if_neg h3] at hP
    simp only [List.cons.injEq, Sum.inl.injEq, Sum.inr.injEq, C.ints.injEq, C.i.injEq, true_and, and_true] at hP
    obtain ⟨rfl, rfl, rfl⟩ := hP
    have hwc : w.length = c := by omega
    repeat' (first|(with_reducible first|apply q_a|apply q_b|apply q_c|apply q_d|apply q_e|apply q_f|apply q_g|apply q_h|apply q_i|apply q_j|apply q_k|apply q_m|apply q_n|apply q_o|apply q_p|refine q_l ?_)|((with_reducible first|refine q_q slt_ok fun K hK=>?_|refine q_r slt_ok fun K hK=>?_);simp (maxSteps:=2000000) only [go_sem,↓reduceIte,reduceCtorEq,Nat.reduceLeDiff,Nat.reduceLT,Nat.reduceBEq,Nat.reduceAdd,tl, pl];(repeat1' with_reducible first|apply And.intro|(intro _;try exact q_v)|(refine hK _ ?_;clear hK K))<;>(try (clear hK K;exact q_u)))|(with_reducible refine q_s ?_;(first|apply q_J|apply q_K|apply q_L|apply q_M|apply q_N|apply q_O)<;>try (intro _;try exact q_v))|with_reducible refine q_t ?_)
    all_goals first | contradiction | omega | exact q_A rfl | skip
    refine q_G (ι := { k : Nat // k ≤ c }) (fun k => ⟨214, [(2, .c (.ints .i64 w)), (11, .c (.ints .i64 (putL xs st sp w w.length))), (12, .bx 2 0), (18, .c (.ints .i64 ps)), (23, .own 7 0), (24, .c (.i .i64 (k.1 : Nat)))], ⟨[(2, [.c (.i .i64 0), .c (.i .i64 0)])], [(7, ⟨0, 3, 1, .ints .i64 (putL xs st sp w k.1)⟩)], []⟩, 8⟩) (fun k => c - k.1) ⟨0, by omega⟩ ?_ ?_
    · have e9 : putL xs st sp w 0 = xs := rfl
      simp only [e9]
      ((simp only [go_sem,↓reduceIte,reduceCtorEq,Nat.reduceLeDiff,Nat.reduceLT,Nat.reduceBEq,Nat.reduceAdd])<;>(try (simp;done))<;>(try ((simp only [C.i.injEq,C.b.injEq,C.ints.injEq,C.bools.injEq,List.append_cancel_left_eq,List.cons.injEq,true_and,and_true]);(repeat' with_reducible apply And.intro)<;>(first|rfl|assumption|omega|(simp;omega)|(congr 1;omega)|(congr 2;omega)))))
    rintro ⟨k, k1⟩
    simp only at k1 ⊢
    have tk := putL_len xs st sp w k
    have tw := putL_len xs st sp w w.length
    rcases Nat.lt_or_ge k c with hk | hk
    · have hr := r5 k hk
      have pg := psg k hk
      repeat' (first|(with_reducible first|apply q_a|apply q_b|apply q_c|apply q_d|apply q_e|apply q_f|apply q_g|apply q_h|apply q_i|apply q_j|apply q_k|apply q_m|apply q_n|apply q_o|apply q_p|refine q_l ?_)|((with_reducible first|refine q_q slt_ok fun K hK=>?_|refine q_r slt_ok fun K hK=>?_);simp (maxSteps:=2000000) only [go_sem,↓reduceIte,reduceCtorEq,Nat.reduceLeDiff,Nat.reduceLT,Nat.reduceBEq,Nat.reduceAdd,tk, pl, pg];(repeat1' with_reducible first|apply And.intro|(intro _;try exact q_v)|(refine hK _ ?_;clear hK K))<;>(try (clear hK K;exact q_u)))|(with_reducible refine q_s ?_;(first|apply q_J|apply q_K|apply q_L|apply q_M|apply q_N|apply q_O)<;>try (intro _;try exact q_v))|with_reducible refine q_t ?_)
      all_goals first | contradiction | omega | skip
      refine q_F ⟨k + 1, hk⟩ ?_ (by simp only; omega)
      simp only [putL]
      exact q_D
    · have hk' : k = c := by omega
      subst hk'
      repeat' (first|(with_reducible first|apply q_a|apply q_b|apply q_c|apply q_d|apply q_e|apply q_f|apply q_g|apply q_h|apply q_i|apply q_j|apply q_k|apply q_m|apply q_n|apply q_o|apply q_p|refine q_l ?_)|((with_reducible first|refine q_q slt_ok fun K hK=>?_|refine q_r slt_ok fun K hK=>?_);simp (maxSteps:=2000000) only [go_sem,↓reduceIte,reduceCtorEq,Nat.reduceLeDiff,Nat.reduceLT,Nat.reduceBEq,Nat.reduceAdd,tk, tw];(repeat1' with_reducible first|apply And.intro|(intro _;try exact q_v)|(refine hK _ ?_;clear hK K))<;>(try (clear hK K;exact q_u)))|(with_reducible refine q_s ?_;(first|apply q_J|apply q_K|apply q_L|apply q_M|apply q_N|apply q_O)<;>try (intro _;try exact q_v))|with_reducible refine q_t ?_)
      all_goals first | contradiction | omega | exact q_A rfl | exact q_A (congrArg (fun b => AV.c (C.b b)) (decide_eq_true (by rw [hwc]))) | skip
theorem takes_ret (xs w : List Int) (most : Int) (s0 s1 s2 g0 g1 g2 : Bool) (x0 x1 x2 : List Int) (hw : w.length ≤ 1048576) (l : x0.length ≤ 140737488355328 ∧ x1.length ≤ 140737488355328 ∧ x2.length ≤ 140737488355328) (b : InB 4294967296 x0 ∧ InB 4294967296 x1 ∧ InB 4294967296 x2) (hm : -9223372036854775808 ≤ most ∧ most ≤ 9223372036854775807) :
    Ret Try.prog 9 false [.inl (.ints .i64 xs), .inr [.b s0, .ints .u32 x0, .b s1, .ints .u32 x1, .b s2, .ints .u32 x2, .b g0, .b g1, .b g2], .inl (.ints .i64 w), .inl (.i .i64 most)] (.c (.b true)) := by
  obtain ⟨l0, l1, l2⟩ := l
  obtain ⟨b0, b1, b2⟩ := b
  by_cases hF : slF (prt s0 x0 g0) (prt s1 x1 g1) (prt s2 x2 g2) g2 x2.length = 0
  · by_cases hl : xs.length ≤ 4000
    · obtain ⟨bs, gc, gi, hP⟩ : ∃ bs gc gi, putO xs w most (rSt s0 x0 g0 xs.length (rSp s2 x2 g2)) (rSp s2 x2 g2) (slCnt (rSt s0 x0 g0 xs.length (rSp s2 x2 g2)) (rSo s1 x1 g1 xs.length (rSp s2 x2 g2)) (rSp s2 x2 g2)) = [.inl (.ints .i64 bs), .inr [.i .i64 gc, .i .i64 gi]] := by
        unfold putO
        split
        · exact ⟨_, _, _, rfl⟩
        · split
          · exact ⟨_, _, _, rfl⟩
          · split
            · exact ⟨_, _, _, rfl⟩
            · exact ⟨_, _, _, rfl⟩
      exact takes_good xs w bs most gc gi s0 s1 s2 g0 g1 g2 x0 x1 x2 hw l0 l1 l2 b0 b1 b2 hm hF hl _ _ _ rfl rfl rfl hP _ rfl
    · (refine q_H Try.func9 (fun F => ?_); simp only [q_z,q_y,Try.ntmps9,Try.results9])
      repeat' (first|(with_reducible first|apply q_a|apply q_b|apply q_c|apply q_d|apply q_e|apply q_f|apply q_g|apply q_h|apply q_i|apply q_j|apply q_k|apply q_m|apply q_n|apply q_o|apply q_p|refine q_l ?_)|((with_reducible first|refine q_q slt_ok fun K hK=>?_|refine q_r slt_ok fun K hK=>?_);simp (maxSteps:=2000000) only [go_sem,↓reduceIte,reduceCtorEq,Nat.reduceLeDiff,Nat.reduceLT,Nat.reduceBEq,Nat.reduceAdd];(repeat1' with_reducible first|apply And.intro|(intro _;try exact q_v)|(refine hK _ ?_;clear hK K))<;>(try (clear hK K;exact q_u)))|(with_reducible refine q_s ?_;(first|apply q_J|apply q_K|apply q_L|apply q_M|apply q_N|apply q_O)<;>try (intro _;try exact q_v))|with_reducible refine q_t ?_)
      all_goals first | contradiction | omega | exact q_A rfl
  · exact takes_bad xs w most s0 s1 s2 g0 g1 g2 x0 x1 x2 _ hw l0 l1 l2 b0 b1 b2 rfl hF
end Go.Proofs.Ytlefdhkjbbdijaa

namespace Go.Proofs.Ytlefdhkjbbdijaa
set_option linter.unusedSimpArgs false
set_option linter.unusedVariables false
open Go.Abs Go.Proofs.NatL Go.ChangeShapes Go.WideShapes Go.ChangeAt Go.RowKit

theorem own_knob : ownKnob Try.prog.godebug = none := by kernel_rfl
theorem kids : Kids Try.prog (· < Try.prog.types.size) := kids_rows (by kernel_rfl) (by kernel_rfl)
theorem full : ∀ t e, t < Try.prog.types.size → Try.prog.underlying t = some (.slice e) → 0 < Try.prog.cellsOf e := slices_full_of Try.prog (by kernel_rfl)
theorem cells_u32 : Try.prog.cellsOf 95 = 1 := by kernel_rfl
theorem bytes_u32 : Try.prog.bytesOf 95 = 4 := by kernel_rfl

theorem u32_in {xs : List Int} (h : ∀ n ∈ xs, (Lit.int .u32 n).wf = true) : InB 4294967296 xs := fun x hx => by
  have := bounds_u32 (h x hx)
  omega

end Go.Proofs.Ytlefdhkjbbdijaa

namespace Go.Proofs.Ytlefdhkjbbdijaa
set_option linter.unusedSimpArgs false
set_option linter.unusedVariables false
open Go.Abs Go.Proofs.NatL Go.ChangeShapes Go.WideShapes Go.ChangeAt Go.RowKit

theorem cells_bool : Try.prog.cellsOf 4 = 1 := by kernel_rfl
theorem cells_limbs : Try.prog.cellsOf 22 = 1 := by kernel_rfl

end Go.Proofs.Ytlefdhkjbbdijaa

namespace Go.Proofs.Ytlefdhkjbbdijaa
set_option linter.unusedSimpArgs false
set_option linter.unusedVariables false
open Go.Abs Go.Proofs.NatL Go.ChangeShapes Go.WideShapes Go.ChangeAt Go.RowKit

set_option maxRecDepth 100000 in
theorem int_cells {H : Type} {enc : TypeId × Value → H} {W : World} {fuel : Nat} {cs : List Value} {x : DataW H × List MemPlace} (h : DataW.trod enc Try.prog W 0 (fun _ => true) true fuel 24 cs = some x) (hs : Sized Try.prog 24 x.1) :
    ∃ (s : Bool) (xs : List Int), RdL W Top [.b s, .ints .u32 xs] cs ∧ xs.length ≤ 140737488355328 ∧ InB 4294967296 xs := by
  obtain ⟨y0, y1, n, rfl, hl, h0, h1⟩ := trod_struct2 Try.underlying24 h
  simp only at h0 h1 hl
  rw [cells_bool] at h0
  rw [cells_limbs] at h1
  obtain ⟨s, e0, rfl⟩ := DataW.trod_bool Try.underlying4 h0
  obtain ⟨xs, u, e1, ho, hrd, hm, hw, hd⟩ := rd_ints Try.underlying22 Try.underlying95 cells_u32 h1
  obtain ⟨s0, hs'⟩ := szd_cons (szd_struct Try.underlying24 hs)
  obtain ⟨s1, -⟩ := szd_cons hs'
  have hl2 := szd_slice (n := xs.length) Try.underlying22 s1 (by
    rcases hd with ⟨h1, h2⟩ | h1
    · exact .inl ⟨h1, by rw [h2]; rfl⟩
    · exact .inr h1)
  rw [bytes_u32] at hl2
  have hcells : cs = [.bool s, u] := by
    have hlen : cs.length = 2 := by rw [hl]; kernel_rfl
    match cs, hlen with
    | [a, b], _ =>
      simp at e0 e1
      rw [e0, e1]
  refine ⟨s, xs, ?_, by simp only [reachBytes] at hl2; omega, u32_in hw⟩
  rw [hcells]
  exact rdL_append (rdL_one (.b s)) (rdL_one hrd)

theorem cells_Int : Try.prog.cellsOf 24 = 2 := by kernel_rfl
set_option maxRecDepth 100000 in
theorem open_Slice {H : Type} {enc : TypeId × Value → H} {W : World} {base : Nat} {v : Value} {d : DataW H} {p : List MemPlace} (hval : Value.okWide Try.prog W .any base 80 v) (h : DataW.Trod enc Try.prog W 0 (fun _ => true) true 80 v d p) (hs : Sized Try.prog 80 d) :
    ∃ (s0 : Bool) (xs0 : List Int) (s1 : Bool) (xs1 : List Int) (s2 : Bool) (xs2 : List Int) (g0 g1 g2 : Bool), RdS W Top (.inr [.b s0, .ints .u32 xs0, .b s1, .ints .u32 xs1, .b s2, .ints .u32 xs2, .b g0, .b g1, .b g2]) v ∧
      (xs0.length ≤ 140737488355328 ∧ xs1.length ≤ 140737488355328 ∧ xs2.length ≤ 140737488355328) ∧ (InB 4294967296 xs0 ∧ InB 4294967296 xs1 ∧ InB 4294967296 xs2) := by
  obtain ⟨cs, rfl, hcs⟩ := okWide_struct Try.underlying80 hval
  obtain ⟨fuel, hf⟩ := h
  obtain ⟨ys, n, _, hy, hl, hlen, hfs⟩ := DataW.trod_struct Try.underlying80 hf
  cases hy
  match ys, hlen with
  | [y0, y1, y2, y3, y4, y5], _ =>
  have f0 : DataW.trod enc Try.prog W 0 (fun _ => true) true n 24 ((cs.toList.drop 0).take (Try.prog.cellsOf 24)) = some y0 := hfs 0 _ rfl
  rw [cells_Int] at f0
  have f1 : DataW.trod enc Try.prog W 0 (fun _ => true) true n 24 ((cs.toList.drop 2).take (Try.prog.cellsOf 24)) = some y1 := hfs 1 _ rfl
  rw [cells_Int] at f1
  have f2 : DataW.trod enc Try.prog W 0 (fun _ => true) true n 24 ((cs.toList.drop 4).take (Try.prog.cellsOf 24)) = some y2 := hfs 2 _ rfl
  rw [cells_Int] at f2
  have f3 : DataW.trod enc Try.prog W 0 (fun _ => true) true n 4 ((cs.toList.drop 6).take (Try.prog.cellsOf 4)) = some y3 := hfs 3 _ rfl
  rw [cells_bool] at f3
  have f4 : DataW.trod enc Try.prog W 0 (fun _ => true) true n 4 ((cs.toList.drop 7).take (Try.prog.cellsOf 4)) = some y4 := hfs 4 _ rfl
  rw [cells_bool] at f4
  have f5 : DataW.trod enc Try.prog W 0 (fun _ => true) true n 4 ((cs.toList.drop 8).take (Try.prog.cellsOf 4)) = some y5 := hfs 5 _ rfl
  rw [cells_bool] at f5
  have hl : cs.toList.length = Try.prog.cellsOf 80 := hl
  obtain ⟨z0, hs⟩ := szd_cons (szd_struct Try.underlying80 hs)
  obtain ⟨z1, hs⟩ := szd_cons hs
  obtain ⟨z2, hs⟩ := szd_cons hs
  obtain ⟨s0, xs0, r0, l0, b0⟩ := int_cells f0 z0
  obtain ⟨s1, xs1, r1, l1, b1⟩ := int_cells f1 z1
  obtain ⟨s2, xs2, r2, l2, b2⟩ := int_cells f2 z2
  obtain ⟨g0, e3, _⟩ := DataW.trod_bool Try.underlying4 f3
  obtain ⟨g1, e4, _⟩ := DataW.trod_bool Try.underlying4 f4
  obtain ⟨g2, e5, _⟩ := DataW.trod_bool Try.underlying4 f5
  refine ⟨s0, xs0, s1, xs1, s2, xs2, g0, g1, g2, ⟨cs, rfl, ?_⟩, ⟨l0, l1, l2⟩, ⟨b0, b1, b2⟩⟩
  have hlen : cs.toList.length = 9 := by rw [hl]; kernel_rfl
  match hq : cs.toList, hlen with
  | [a0, a1, a2, a3, a4, a5, a6, a7, a8], _ =>
  rw [hq] at r0 r1 r2 e3 e4 e5
  simp only [List.drop_zero, List.drop_succ_cons, List.take_succ_cons, List.take_zero, List.cons.injEq, and_true] at r0 r1 r2 e3 e4 e5
  subst e3; subst e4; subst e5
  exact rdL_append r0 (rdL_append r1 (rdL_append r2 (rdL_append (rdL_one (.b g0)) (rdL_append (rdL_one (.b g1)) (rdL_one (.b g2))))))

end Go.Proofs.Ytlefdhkjbbdijaa

namespace Go.Proofs.Ytlefdhkjbbdijaa
set_option linter.unusedSimpArgs false
set_option linter.unusedVariables false
open Go.Abs Go.Proofs.NatL Go.ChangeShapes Go.WideShapes Go.ChangeAt Go.RowKit
theorem cells_int : Try.prog.cellsOf 3 = 1 := by kernel_rfl
theorem bytes_int : Try.prog.bytesOf 3 = 8 := by kernel_rfl
set_option maxRecDepth 100000 in
theorem open_ints {H : Type} {enc : TypeId × Value → H} {W : World} {base : Nat} {v : Value} {d : DataW H} {p : List MemPlace} (hval : Value.okWide Try.prog W .any base 34 v) (h : DataW.Trod enc Try.prog W 0 (fun _ => true) true 34 v d p) (hs : Sized Try.prog 34 d) :
    ∃ xs : List Int, Rd W Top (.ints .i64 xs) v ∧ xs.length ≤ 140737488355328 ∧ ∀ x ∈ xs, -9223372036854775808 ≤ x ∧ x ≤ 9223372036854775807 := by
  obtain ⟨fuel, hf⟩ := h
  obtain ⟨xs, u, hu, ho, hrd, hm, hw, hd⟩ := rd_ints Try.underlying34 Try.underlying3 cells_int hf
  obtain rfl := one_of Try.underlying34 rfl hval hu ho
  have hl := szd_slice (n := xs.length) Try.underlying34 hs (by
    rcases hd with ⟨h1, h2⟩ | h1
    · exact .inl ⟨h1, by rw [h2]; rfl⟩
    · exact .inr h1)
  rw [bytes_int] at hl
  exact ⟨xs, hrd, by simp only [reachBytes] at hl; omega, fun x hx => bounds_i64 (hw x hx)⟩

end Go.Proofs.Ytlefdhkjbbdijaa
