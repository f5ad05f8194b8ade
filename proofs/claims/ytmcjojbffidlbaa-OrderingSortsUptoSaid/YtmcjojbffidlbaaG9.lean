import Derived.Test.YtmcjojbffidlbaaG7
import Derived.Test.YtmcjojbffidlbaaG8
namespace Go.Proofs.Ytmcjojbffidlbaa
set_option linter.unusedSimpArgs false
set_option linter.unusedVariables false
open Go.Abs Go.Proofs.NatL

set_option maxRecDepth 100000 in
theorem lesser2_ret (k : Int) (h : k ≠ 0 ∧ k ≠ 1) : RetG Try.prog 23 ⟨[],[],[]⟩ [.c (.i .i64 k)] ⟨[(0,[.c (.i .i64 k)])],[],[]⟩ [.fn 37 [.bx 0 0]]:=by
 obtain ⟨h0,h1⟩:=h
 (refine ret_ge Try.func23 (fun F bs=>?_); simp only [avSl,ancs,hnx,Nat.reduceAdd,Nat.reduceLeDiff,if_true,if_false,List.length_cons,List.length_nil,List.cons_append,List.nil_append,Try.ntmps23,Try.results23])
 repeat' (first|with_reducible refine q_0 ?_|((with_reducible first|refine q_q omt_ok fun K hK=>?_|refine q_r omt_ok fun K hK=>?_);simp (maxSteps:=2000000) only [go_sem,↓reduceIte,reduceCtorEq,Nat.reduceLeDiff,Nat.reduceLT,Nat.reduceBEq,Nat.reduceAdd];(repeat1' with_reducible first|apply And.intro|(intro _;try exact q_v)|(refine hK _ ?_;clear hK K))<;>(try (clear hK K;exact q_u)))|(with_reducible refine q_s ?_;(first|apply q_J|apply q_K|apply q_L|apply q_M|apply q_N|apply q_O)<;>try (intro _;try exact q_v)))
 all_goals first | omega | contradiction | exact ends_g [(2,.fn 37 [.bx 0 0])] 1 (by exact q_D) rfl | skip
def lesserCTM : CT:=mkCTG fun H al K=>match H,al with
 | ⟨[],[],[]⟩,[.c (.i .i64 k)]=>(k ≠ 0 ∧ k ≠ 1) ∧ K ⟨[(0,[.c (.i .i64 k)])],[],[]⟩ [.fn 37 [.bx 0 0]]
 | _,_=>False
def osM0 : Cfg:=addT 23 lesserCTM cf0
theorem osM0_ok : TblOk Try.prog osM0:=ctg_ok cf0_ok Try.func23 fun H al K h=>by
 split at h
 ·exact ⟨_,_,lesser2_ret _ h.1,h.2⟩
 ·exact h.elim
def sortCTM : CT:=mkCTG fun H al K=>match H,al with
 | ⟨[(0,[.c (.i .i64 k)])],[],[]⟩,[.c (.ints .i64 l),.fn 37 [.bx 0 0]]=>l.length ≤ 17592186044416 ∧ ∀ (a : List Int) (c w : Int),(1000 < l.length → a = [] ∧ c = 4 ∧ w = -1) → (l.length ≤ 1000 → a = permL l (runAll (byL (lt2 k) l) (settle (startP l.length))).o ∧ c = 0 ∧ w = 0) → a.length ≤ 1000 → K ⟨[(0,[.c (.i .i64 k)]),(1,[.c (.i .i64 c),.c (.i .i64 w)])],[],[]⟩ [.c (.ints .i64 a),.g [.i .i64 c,.i .i64 w]]
 | _,_=>False
def osM1 : Cfg:=addT 21 sortCTM cf0
theorem osM1_ok : TblOk Try.prog osM1:=ctg_ok cf0_ok Try.func21 fun H al K h=>by
 split at h
 ·rename_i k l
  obtain ⟨hl,h⟩:=h
  rcases Nat.lt_or_ge 1000 l.length with hc | hc
  ·exact ⟨_,_,sort_long_M k l hc hl,h _ _ _ (fun _=>⟨rfl,rfl,rfl⟩) (fun h'=>by omega) (by simp)⟩
  ·obtain ⟨s1,s2,s3⟩:=settle_facts (startP_ok hc)
   have s4 : (startP l.length).o.length = l.length:=by simp [startP]
   have hle : (permL l (runAll (byL (lt2 k) l) (settle (startP l.length))).o).length ≤ 1000:=by rw [permL_len,runAll_len s1 s2,s3,s4]; exact hc
   exact ⟨_,_,sort_M k PI l hc (startP_pi hc) (fun q hq _ ho ha=>hq.tell ho ha _) (fun q hq=>hq.pr),h _ _ _ (fun h'=>by omega) (fun _=>⟨rfl,rfl,rfl⟩) hle⟩
 ·exact h.elim
def searchCTM : CT:=mkCTG fun H al K=>match H,al with
 | ⟨[(0,[.c (.i .i64 k)])],[],[]⟩,[.c (.ints .i64 l),.c (.i .i64 x),.fn 37 [.bx 0 0],.c (.b beh)]=>l.length ≤ 17592186044416 ∧ K ⟨[(0,[.c (.i .i64 k)])],[],[]⟩ [.c (.i .i64 (srch (lt2 k) beh l x 0 l.length : Nat))]
 | _,_=>False
def osM2 : Cfg:=addT 25 searchCTM cf0
theorem osM2_ok : TblOk Try.prog osM2:=ctg_ok cf0_ok Try.func25 fun H al K h=>by
 split at h
 ·exact ⟨_,_,search_M _ _ _ _ h.1,h.2⟩
 ·exact h.elim
def mergeCTM : CT:=mkCTG fun H al K=>match H,al with
 | ⟨[(0,[.c (.i .i64 k)])],[],[]⟩,[.c (.ints .i64 a),.c (.ints .i64 b),.fn 37 [.bx 0 0]]=>a.length + b.length ≤ 17592186044416 ∧ K ⟨[(0,[.c (.i .i64 k)])],[],[]⟩ [.c (.ints .i64 (mrg (lt2 k) a b))]
 | _,_=>False
def osM3 : Cfg:=addT 24 mergeCTM cf0
theorem osM3_ok : TblOk Try.prog osM3:=ctg_ok cf0_ok Try.func24 fun H al K h=>by
 split at h
 ·exact ⟨_,_,merge_M _ _ _ h.1,h.2⟩
 ·exact h.elim
def brokenCTM : CT:=mkCTG fun H al K=>match H,al with
 | ⟨[(0,[.c (.i .i64 k)])],[],[]⟩,[.c (.ints .i64 l),.fn 37 [.bx 0 0]]=>l.length ≤ 17592186044416 ∧ K ⟨[(0,[.c (.i .i64 k)])],[],[]⟩ [.c (.i .i64 (brkF (lt2 k) l 1 (l.length - 1)))]
 | _,_=>False
def osM4 : Cfg:=addT 26 brokenCTM cf0
theorem osM4_ok : TblOk Try.prog osM4:=ctg_ok cf0_ok Try.func26 fun H al K h=>by
 split at h
 ·exact ⟨_,_,broken_M _ _ h.1,h.2⟩
 ·exact h.elim
def mergedOkCTM : CT:=mkCTG fun H al K=>match H,al with
 | ⟨[(0,[.c (.i .i64 k)])],[],[]⟩,[.c (.ints .i64 b),.c (.ints .i64 l),.c (.ints .i64 m),.fn 37 [.bx 0 0]]=>(l.length + m.length ≤ 17592186044416 ∧ mrg (lt2 k) l m = b) ∧ K ⟨[(0,[.c (.i .i64 k)])],[],[]⟩ [.c (.b true)]
 | _,_=>False
def osM5 : Cfg:=addT 27 mergedOkCTM cf0
theorem osM5_ok : TblOk Try.prog osM5:=ctg_ok cf0_ok Try.func27 fun H al K h=>by
 split at h
 ·exact ⟨_,_,merged_M _ _ _ _ h.1.2 h.1.1,h.2⟩
 ·exact h.elim
attribute [go_sem] lesserCTM sortCTM searchCTM mergeCTM brokenCTM mergedOkCTM
def otM : Cfg:=listT [(23,lesserCTM),(21,sortCTM),(25,searchCTM),(24,mergeCTM),(26,brokenCTM),(27,mergedOkCTM),(9,sortsCT),(37,less2CT),(11,atCT),(12,mergedCT),(13,openCT),(28,pairCT),(14,answerCT),(17,numbersCT)] [27]
theorem otM_ok : TblOk Try.prog otM:=listE_ok (by simp only [List.mem_singleton,forall_eq]; exact flt) ⟨⟨osM0,osM0_ok,rfl⟩,⟨osM1,osM1_ok,rfl⟩,⟨osM2,osM2_ok,rfl⟩,⟨osM3,osM3_ok,rfl⟩,⟨osM4,osM4_ok,rfl⟩,⟨osM5,osM5_ok,rfl⟩,⟨oc6,oc6_ok,rfl⟩,⟨om3,om3_ok,rfl⟩,⟨oa2,oa2_ok,rfl⟩,⟨oq6,oq6_ok,rfl⟩,⟨oq2,oq2_ok,rfl⟩,⟨oq3,oq3_ok,rfl⟩,⟨oq5,oq5_ok,rfl⟩,⟨og2,og2_ok,rfl⟩,trivial⟩
attribute [go_sem] otM
set_option maxRecDepth 100000 in
set_option maxHeartbeats 6400000 in
theorem law_M (kd : Int) (hkd : kd ≠ 0 ∧ kd ≠ 1) (l m : List Int) (x : Int) (beh : Bool) (hl : l.length + m.length ≤ 17592186044416) : Ret Try.prog 6 false [.inl (.ints .i64 l), .inl (.ints .i64 m), .inl (.i .i64 x), .inl (.i .i64 kd), .inl (.b beh)] (.c (.b true)) := by
  obtain ⟨mz, hmz⟩ : ∃ z, mrg (lt2 kd) l m = z := ⟨_, rfl⟩
  obtain ⟨sk, hsk⟩ : ∃ z, srch (lt2 kd) beh l x 0 l.length = z := ⟨_, rfl⟩
  obtain ⟨bk, hbk⟩ : ∃ z, brkF (lt2 kd) l 1 (l.length - 1) = z := ⟨_, rfl⟩
  have hzl : mz.length = l.length + m.length := by rw [← hmz]; exact mrg_len _ _ _
  (refine q_H Try.func6 (fun F => ?_); simp only [q_z,q_y,Try.ntmps6,Try.results6])
  refine seq_cut12 (ι := { q : List Int × Int × Int // ((1000 < l.length → q.1 = [] ∧ q.2.1 = 4 ∧ q.2.2 = -1) ∧ (l.length ≤ 1000 → q.1 = permL l (runAll (byL (lt2 kd) l) (settle (startP l.length))).o ∧ q.2.1 = 0 ∧ q.2.2 = 0)) ∧ q.1.length ≤ 1000 }) (fun q => ⟨181, [(0, .c (.ints .i64 l)), (11, .fn 37 [.bx 0 0]), (12, .c (.ints .i64 q.1.1)), (13, .bx 3 0)],
    ⟨[(3, [.c (.i .i64 q.1.2.1), .c (.i .i64 q.1.2.2)]), (0, [.c (.i .i64 kd)])], [], []⟩, 4⟩) (fun Y hY => ?_) ?_
  · repeat' (first|with_reducible refine q_0 ?_|((with_reducible first|refine q_q otM_ok fun K hK=>?_|refine q_r otM_ok fun K hK=>?_);simp (maxSteps:=2000000) only [go_sem,↓reduceIte,reduceCtorEq,Nat.reduceLeDiff,Nat.reduceLT,Nat.reduceBEq,Nat.reduceAdd,hmz, hsk, hbk];(repeat1' with_reducible first|apply And.intro|(intro _;try exact q_v)|(refine hK _ ?_;clear hK K))<;>(try (clear hK K;exact q_u)))|(with_reducible refine q_s ?_;(first|apply q_J|apply q_K|apply q_L|apply q_M|apply q_N|apply q_O)<;>try (intro _;try exact q_v)))
    all_goals first | omega | rfl | exact keep_of [] trivial | exact keep_of [2] ⟨rfl, trivial⟩ | skip
    rename_i a c w ha1 ha2 ha3
    refine q_G (ι := { q : Nat × Nat // q.1 ≤ q.2 ∧ q.2 ≤ l.length ∧ srch (lt2 kd) beh l x q.1 q.2 = sk }) (fun q => ⟨181, [(0, .c (.ints .i64 l)), (1, .c (.ints .i64 m)), (2, .c (.i .i64 x)), (4, .c (.b beh)), (11, .fn 37 [.bx 0 0]), (12, .c (.ints .i64 a)), (13, .bx 3 0), (14, .c (.ints .i64 mz)), (15, .c (.i .i64 (sk : Nat))), (16, .c (.i .i64 bk)), (17, .c (.i .i64 (q.1.1 : Nat))), (18, .c (.i .i64 (q.1.2 : Nat)))], ⟨[(3, [.c (.i .i64 c), .c (.i .i64 w)]), (0, [.c (.i .i64 kd)])], [], []⟩, 4⟩) (fun q => q.1.2 - q.1.1) ⟨(0, l.length), by simp, by simp, hsk⟩ ?_ ?_
    · exact q_D
    rintro ⟨⟨lo, hi⟩, q1, q2, q3⟩
    simp only at q1 q2 q3 ⊢
    rcases Nat.lt_or_ge lo hi with hk | hk
    · have e1 : (((lo : Int) + (hi : Int)).tdiv 2) = (((lo + hi) / 2 : Nat) : Int) := by rw [Int.tdiv_eq_ediv_of_nonneg (by omega)]; omega
      obtain ⟨mid, hm⟩ : ∃ mid, (lo + hi) / 2 = mid := ⟨_, rfl⟩
      have hml : lo ≤ mid ∧ mid < hi := by omega
      have su := srch_up (lt := (lt2 kd)) (beh := beh) (l := l) (x := x) hk
      have sd := srch_dn (lt := (lt2 kd)) (beh := beh) (l := l) (x := x) hk
      rw [hm] at e1 su sd
      unfold upF at su sd
      clear hmz hbk hsk
      cases beh
      all_goals
        simp only [Bool.false_eq_true, if_false, if_true, Bool.not_eq_true', Bool.not_eq_false', decide_eq_true_eq, decide_eq_false_iff_not] at su sd
        repeat' (first|with_reducible refine q_0 ?_|((with_reducible first|refine q_q otM_ok fun K hK=>?_|refine q_r otM_ok fun K hK=>?_);simp (maxSteps:=2000000) only [go_sem,↓reduceIte,reduceCtorEq,Nat.reduceLeDiff,Nat.reduceLT,Nat.reduceBEq,Nat.reduceAdd,e1];(repeat1' with_reducible first|apply And.intro|(intro _;try exact q_v)|(refine hK _ ?_;clear hK K))<;>(try (clear hK K;exact q_u)))|(with_reducible refine q_s ?_;(first|apply q_J|apply q_K|apply q_L|apply q_M|apply q_N|apply q_O)<;>try (intro _;try exact q_v)))
        all_goals first | omega | rfl | exact keep_of [] trivial | exact keep_of [2] ⟨rfl, trivial⟩ | contradiction | skip
      all_goals first
      | (refine q_F ⟨(mid + 1, hi), by simp only; omega, q2, (su (by assumption)).symm.trans q3⟩ ?_ (by simp only; omega); exact q_D)
      | (refine q_F ⟨(lo, mid), by simp only; omega, by simp only; omega, (sd (by assumption)).symm.trans q3⟩ ?_ (by simp only; omega); exact q_D)
      | skip
    · have hs := srch_end (lt := (lt2 kd)) (beh := beh) (l := l) (x := x) (lo := lo) (hi := hi) (by omega)
      rw [hs] at q3
      have q3 : (lo : Int) = (sk : Int) := by omega
      repeat' (first|with_reducible refine q_0 ?_|((with_reducible first|refine q_q otM_ok fun K hK=>?_|refine q_r otM_ok fun K hK=>?_);simp (maxSteps:=2000000) only [go_sem,↓reduceIte,reduceCtorEq,Nat.reduceLeDiff,Nat.reduceLT,Nat.reduceBEq,Nat.reduceAdd];(repeat1' with_reducible first|apply And.intro|(intro _;try exact q_v)|(refine hK _ ?_;clear hK K))<;>(try (clear hK K;exact q_u)))|(with_reducible refine q_s ?_;(first|apply q_J|apply q_K|apply q_L|apply q_M|apply q_N|apply q_O)<;>try (intro _;try exact q_v)))
      all_goals first | omega | rfl | exact keep_of [] trivial | exact keep_of [2] ⟨rfl, trivial⟩ | contradiction | skip
      refine q_G (ι := { k : Nat // k ≤ l.length ∧ (k = 0 → l.length = 0) }) (fun k => ⟨181, [(0, .c (.ints .i64 l)), (1, .c (.ints .i64 m)), (11, .fn 37 [.bx 0 0]), (12, .c (.ints .i64 a)), (13, .bx 3 0), (14, .c (.ints .i64 mz)), (15, .c (.i .i64 (sk : Nat))), (16, .c (.i .i64 bk)), (17, .c (.i .i64 (lo : Nat))), (20, .c (.i .i64 (brkF (lt2 kd) l k.1 (l.length - k.1)))), (21, .c (.i .i64 ((k.1 : Int) - 1)))], ⟨[(3, [.c (.i .i64 c), .c (.i .i64 w)]), (0, [.c (.i .i64 kd)])], [], []⟩, 4⟩) (fun k => k.1) ⟨l.length, Nat.le_refl _, fun h => h⟩ ?_ ?_
      · have e0 : brkF (lt2 kd) l l.length (l.length - l.length) = -1 := by rw [Nat.sub_self]; rfl
        simp only [e0]
        exact q_D
      rintro ⟨k, k1, k2⟩
      simp only at k1 k2 ⊢
      rcases Nat.lt_or_ge 1 k with hk1 | hk1
      · have bs := brk_step (lt := (lt2 kd)) (l := l) (i := k - 1) (by omega)
        have e1 : ((k : Int) - 1).toNat = k - 1 := by omega
        have e2 : ((k : Int) - 1 - 1).toNat = k - 1 - 1 := by omega
        have e3 : k - 1 + 1 = k := by omega
        have e4 : ((k - 1 : Nat) : Int) = (k : Int) - 1 := by omega
        rw [e3, e4] at bs
        clear hmz hbk hsk
        generalize brkF (lt2 kd) l k (l.length - k) = at_ at *
        cases hc : (lt2 kd) (l.getD (k - 1) 0) (l.getD (k - 1 - 1) 0)
        · rw [if_neg (by rw [hc]; simp)] at bs
          repeat' (first|with_reducible refine q_0 ?_|((with_reducible first|refine q_q otM_ok fun K hK=>?_|refine q_r otM_ok fun K hK=>?_);simp (maxSteps:=2000000) only [go_sem,↓reduceIte,reduceCtorEq,Nat.reduceLeDiff,Nat.reduceLT,Nat.reduceBEq,Nat.reduceAdd,e1, e2, hc];(repeat1' with_reducible first|apply And.intro|(intro _;try exact q_v)|(refine hK _ ?_;clear hK K))<;>(try (clear hK K;exact q_u)))|(with_reducible refine q_s ?_;(first|apply q_J|apply q_K|apply q_L|apply q_M|apply q_N|apply q_O)<;>try (intro _;try exact q_v)))
          all_goals first | omega | rfl | exact keep_of [] trivial | exact keep_of [2] ⟨rfl, trivial⟩ | contradiction | skip
          all_goals refine q_F ⟨k - 1, by omega, by omega⟩ ?_ (by simp only; omega)
          all_goals simp only [bs, e4]
          all_goals exact q_D
        · rw [if_pos hc] at bs
          repeat' (first|with_reducible refine q_0 ?_|((with_reducible first|refine q_q otM_ok fun K hK=>?_|refine q_r otM_ok fun K hK=>?_);simp (maxSteps:=2000000) only [go_sem,↓reduceIte,reduceCtorEq,Nat.reduceLeDiff,Nat.reduceLT,Nat.reduceBEq,Nat.reduceAdd,e1, e2, hc];(repeat1' with_reducible first|apply And.intro|(intro _;try exact q_v)|(refine hK _ ?_;clear hK K))<;>(try (clear hK K;exact q_u)))|(with_reducible refine q_s ?_;(first|apply q_J|apply q_K|apply q_L|apply q_M|apply q_N|apply q_O)<;>try (intro _;try exact q_v)))
          all_goals first | omega | rfl | exact keep_of [] trivial | exact keep_of [2] ⟨rfl, trivial⟩ | contradiction | skip
          all_goals refine q_F ⟨k - 1, by omega, by omega⟩ ?_ (by simp only; omega)
          all_goals simp only [bs, e4]
          all_goals exact q_D
      · have e5 : brkF (lt2 kd) l k (l.length - k) = bk := by
          rw [← hbk]
          rcases Nat.eq_zero_or_pos k with h0 | h0
          · have := k2 h0; rw [this, h0]; rfl
          · have : k = 1 := by omega
            rw [this]
        rw [e5]
        clear hbk hsk
        repeat' (first|with_reducible refine q_0 ?_|((with_reducible first|refine q_q otM_ok fun K hK=>?_|refine q_r otM_ok fun K hK=>?_);simp (maxSteps:=2000000) only [go_sem,↓reduceIte,reduceCtorEq,Nat.reduceLeDiff,Nat.reduceLT,Nat.reduceBEq,Nat.reduceAdd,hmz];(repeat1' with_reducible first|apply And.intro|(intro _;try exact q_v)|(refine hK _ ?_;clear hK K))<;>(try (clear hK K;exact q_u)))|(with_reducible refine q_s ?_;(first|apply q_J|apply q_K|apply q_L|apply q_M|apply q_N|apply q_O)<;>try (intro _;try exact q_v)))
        all_goals first | omega | rfl | exact keep_of [] trivial | exact keep_of [2] ⟨rfl, trivial⟩ | contradiction | exact hmz | skip
        all_goals refine cut_fit hY ⟨(a, c, w), ⟨ha1, ha2⟩, ha3⟩ ?_
        all_goals exact q_D
  · rintro ⟨⟨a, c, w⟩, ⟨ha1, ha2⟩, ha3⟩
    simp only at ha1 ha2 ha3 ⊢
    rcases Nat.lt_or_ge 1000 l.length with hlong | hshort
    · obtain ⟨rfl, rfl, rfl⟩ := ha1 hlong
      clear hmz hsk hbk
      repeat' (first|with_reducible refine q_0 ?_|((with_reducible first|refine q_q otM_ok fun K hK=>?_|refine q_r otM_ok fun K hK=>?_);simp (maxSteps:=2000000) only [go_sem,↓reduceIte,reduceCtorEq,Nat.reduceLeDiff,Nat.reduceLT,Nat.reduceBEq,Nat.reduceAdd];(repeat1' with_reducible first|apply And.intro|(intro _;try exact q_v)|(refine hK _ ?_;clear hK K))<;>(try (clear hK K;exact q_u)))|(with_reducible refine q_s ?_;(first|apply q_J|apply q_K|apply q_L|apply q_M|apply q_N|apply q_O)<;>try (intro _;try exact q_v)))
      all_goals first | omega | rfl | exact keep_of [] trivial | exact keep_of [2] ⟨rfl, trivial⟩ | contradiction | exact q_A rfl | skip
    · obtain ⟨rfl, rfl, rfl⟩ := ha2 hshort
      clear hmz hsk hbk ha1 ha2 ha3
      have st := lp_start (b := byL (lt2 kd) l) (n := l.length) hshort
      have sn := nu_le4 (p := settle (startP l.length)) (by rw [st.len]; exact hshort)
      generalize hz : runAll (byL (lt2 kd) l) (settle (startP l.length)) = z at *
      generalize settle (startP l.length) = p0 at *
      generalize hm0 : loadM (startM l.length) = m0 at *
      repeat' (first|with_reducible refine q_0 ?_|((with_reducible first|refine q_q otM_ok fun K hK=>?_|refine q_r otM_ok fun K hK=>?_);simp (maxSteps:=2000000) only [go_sem,↓reduceIte,reduceCtorEq,Nat.reduceLeDiff,Nat.reduceLT,Nat.reduceBEq,Nat.reduceAdd,hm0];(repeat1' with_reducible first|apply And.intro|(intro _;try exact q_v)|(refine hK _ ?_;clear hK K))<;>(try (clear hK K;exact q_u)))|(with_reducible refine q_s ?_;(first|apply q_J|apply q_K|apply q_L|apply q_M|apply q_N|apply q_O)<;>try (intro _;try exact q_v)))
      all_goals first | omega | rfl | exact keep_of [] trivial | exact keep_of [2] ⟨rfl, trivial⟩ | contradiction | skip
      refine loop_rb (ι := { q : Pn × Mg × List (List C) // Lp (byL (lt2 kd) l) l.length z q.1 q.2.1 ∧ q.2.2.length + q.1.nu ≤ 2003000 }) (fun q => ⟨181, [(0, .c (.ints .i64 l)), (11, .fn 37 [.bx 0 0]), (12, .c (.ints .i64 (permL l z.o))), (13, .bx 3 0), (22, .bx 4 0)],
        ⟨[(4, [.c (.ints .i64 q.1.2.1.o), .own 4 0, .c (.i .i64 (q.1.2.1.w : Nat)), .c (.i .i64 (q.1.2.1.f : Nat)), .c (.ints .i64 q.1.2.1.l), .c (.ints .i64 q.1.2.1.r), .own 5 0]), (3, [.c (.i .i64 0), .c (.i .i64 0)]), (0, [.c (.i .i64 kd)])],
         [(4, ⟨0, 42, 2, .sl 2 q.1.2.2⟩), (5, ⟨0, 3, 1, .ints .i64 q.1.2.1.x⟩)], []⟩, 7⟩) (fun q => q.1.1.nu) ⟨(p0, m0, []), st, by simp only [List.length_nil]; omega⟩ ?_ ?_
      · exact q_D
      rintro ⟨⟨p, g, A⟩, q1, q2⟩
      simp only at q1 q2 ⊢
      by_cases ho : p.on
      · obtain ⟨n1, n2, n3, n4, n5, n6, n7⟩ := lp_next q1 ho
        obtain ⟨o1, o2⟩ := n3
        have hgm := q1.mok
        have hE : Mg.mk g.o g.w g.f g.l g.r g.x = g := rfl
        have b1 : 0 ≤ g.r.getD 0 0 ∧ g.r.getD 0 0 < (l.length : Int) := by have : g.r.getD 0 0 = p.i := n4; omega
        have b2 : 0 ≤ g.l.getD 0 0 ∧ g.l.getD 0 0 < (l.length : Int) := by have : g.l.getD 0 0 = p.j := n5; omega
        have hb : (lt2 kd) (l.getD (g.r.getD 0 0).toNat 0) (l.getD (g.l.getD 0 0).toNat 0) = byL (lt2 kd) l p := by
          show (lt2 kd) (l.getD g.i.toNat 0) (l.getD g.j.toNat 0) = _
          rw [n4, n5]; rfl
        generalize byL (lt2 kd) l p = bv at *
        clear st sn hz hm0
        have eA : g.r.getD 0 0 = g.i := rfl
        have eB : g.l.getD 0 0 = g.j := rfl
        have eg : ∀ x y : Int, [AV.c (C.i .i64 x), AV.c (C.i .i64 y)][0 * 1]? = some (AV.c (C.i .i64 x)) := fun _ _ => rfl
        have eh : ∀ x y : Int, [AV.c (C.i .i64 x), AV.c (C.i .i64 y)][Int.toNat 1 * 1]? = some (AV.c (C.i .i64 y)) := fun _ _ => rfl
        repeat' (first|with_reducible refine q_0 ?_|((with_reducible first|refine q_q otM_ok fun K hK=>?_|refine q_r otM_ok fun K hK=>?_);simp (maxSteps:=2000000) only [go_sem,↓reduceIte,reduceCtorEq,Nat.reduceLeDiff,Nat.reduceLT,Nat.reduceBEq,Nat.reduceAdd,hE, hb, eg, eh];(repeat1' with_reducible first|apply And.intro|(intro _;try exact q_v)|(refine hK _ ?_;clear hK K))<;>(try (clear hK K;exact q_u)))|(with_reducible refine q_s ?_;(first|apply q_J|apply q_K|apply q_L|apply q_M|apply q_N|apply q_O)<;>try (intro _;try exact q_v)))
        all_goals first | omega | rfl | exact keep_of [] trivial | exact keep_of [2] ⟨rfl, trivial⟩ | contradiction | exact hgm | rfl | exact keep_of [] trivial | exact keep_of [2] ⟨rfl, trivial⟩ | skip
        all_goals refine roundr_n [(12, 4), (13, 5)] ⟨(tellP p bv, g.ans bv, A ++ [[.i .i64 g.i, .i .i64 g.j]]), n1, by simp only [List.length_append, List.length_cons, List.length_nil]; omega⟩ ?_ n2
        all_goals exact q_D
      · obtain ⟨e1, e2, e3, e4⟩ := lp_end q1 ho
        have hgd := range_good e3.pr
        clear st sn hm0
        have hno : ¬ (0 < g.l.length ∧ 0 < g.r.length) := e1
        rw [e2]
        repeat' (first|with_reducible refine q_0 ?_|((with_reducible first|refine q_q otM_ok fun K hK=>?_|refine q_r otM_ok fun K hK=>?_);simp (maxSteps:=2000000) only [go_sem,↓reduceIte,reduceCtorEq,Nat.reduceLeDiff,Nat.reduceLT,Nat.reduceBEq,Nat.reduceAdd];(repeat1' with_reducible first|apply And.intro|(intro _;try exact q_v)|(refine hK _ ?_;clear hK K))<;>(try (clear hK K;exact q_u)))|(with_reducible refine q_s ?_;(first|apply q_J|apply q_K|apply q_L|apply q_M|apply q_N|apply q_O)<;>try (intro _;try exact q_v)))
        all_goals first | omega | rfl | exact keep_of [] trivial | exact keep_of [2] ⟨rfl, trivial⟩ | contradiction | skip
        all_goals refine roundr_exit ?_
        repeat' (first|with_reducible refine q_0 ?_|((with_reducible first|refine q_q otM_ok fun K hK=>?_|refine q_r otM_ok fun K hK=>?_);simp (maxSteps:=2000000) only [go_sem,↓reduceIte,reduceCtorEq,Nat.reduceLeDiff,Nat.reduceLT,Nat.reduceBEq,Nat.reduceAdd];(repeat1' with_reducible first|apply And.intro|(intro _;try exact q_v)|(refine hK _ ?_;clear hK K))<;>(try (clear hK K;exact q_u)))|(with_reducible refine q_s ?_;(first|apply q_J|apply q_K|apply q_L|apply q_M|apply q_N|apply q_O)<;>try (intro _;try exact q_v)))
        all_goals first | omega | rfl | exact keep_of [] trivial | exact keep_of [2] ⟨rfl, trivial⟩ | contradiction | skip
        refine q_G (ι := { i : Nat // i ≤ z.o.length }) (fun i => ⟨181, [(0, .c (.ints .i64 l)), (12, .c (.ints .i64 (permL l z.o))), (13, .bx 3 0), (22, .bx 4 0), (24, .own 20 0), (25, .c (.i .i64 (i.1 : Nat)))],
          ⟨[(4, [.c (.ints .i64 z.o), .u, .u, .u, .u, .u, .u]), (3, [.c (.i .i64 0), .c (.i .i64 0)])], [(20, ⟨0, 3, 1, .ints .i64 (permL l (z.o.take i.1))⟩)], []⟩, 21⟩) (fun i => z.o.length - i.1) ⟨0, by omega⟩ ?_ ?_
        · exact q_D
        rintro ⟨i, i1⟩
        simp only at i1 ⊢
        have hpl : (permL l (z.o.take i)).length = i := by rw [permL_len, List.length_take]; omega
        have hpz : (permL l z.o).length = l.length := by rw [permL_len, e4]
        rcases Nat.lt_or_ge i z.o.length with hk | hk
        · have hs := permL_snoc l z.o hk
          have hlo := hgd.lo i hk
          generalize permL l (z.o.take i) = R at *
          generalize permL l z.o = zz at *
          repeat' (first|with_reducible refine q_0 ?_|((with_reducible first|refine q_q otM_ok fun K hK=>?_|refine q_r otM_ok fun K hK=>?_);simp (maxSteps:=2000000) only [go_sem,↓reduceIte,reduceCtorEq,Nat.reduceLeDiff,Nat.reduceLT,Nat.reduceBEq,Nat.reduceAdd,hpl];(repeat1' with_reducible first|apply And.intro|(intro _;try exact q_v)|(refine hK _ ?_;clear hK K))<;>(try (clear hK K;exact q_u)))|(with_reducible refine q_s ?_;(first|apply q_J|apply q_K|apply q_L|apply q_M|apply q_N|apply q_O)<;>try (intro _;try exact q_v)))
          all_goals first | omega | rfl | exact keep_of [] trivial | exact keep_of [2] ⟨rfl, trivial⟩ | contradiction | skip
          all_goals refine q_F ⟨i + 1, hk⟩ ?_ (by simp only; omega)
          all_goals simp only [hs]
          all_goals exact q_D
        · have ht : permL l (z.o.take i) = permL l z.o := by rw [List.take_of_length_le hk]
          rw [ht] at hpl ⊢
          generalize permL l z.o = R at *
          repeat' (first|with_reducible refine q_0 ?_|((with_reducible first|refine q_q otM_ok fun K hK=>?_|refine q_r otM_ok fun K hK=>?_);simp (maxSteps:=2000000) only [go_sem,↓reduceIte,reduceCtorEq,Nat.reduceLeDiff,Nat.reduceLT,Nat.reduceBEq,Nat.reduceAdd,hpl];(repeat1' with_reducible first|apply And.intro|(intro _;try exact q_v)|(refine hK _ ?_;clear hK K))<;>(try (clear hK K;exact q_u)))|(with_reducible refine q_s ?_;(first|apply q_J|apply q_K|apply q_L|apply q_M|apply q_N|apply q_O)<;>try (intro _;try exact q_v)))
          all_goals first | omega | rfl | exact keep_of [] trivial | exact keep_of [2] ⟨rfl, trivial⟩ | contradiction | exact q_A rfl | exact q_A (by simp) | skip
end Go.Proofs.Ytmcjojbffidlbaa
