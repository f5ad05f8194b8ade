import Derived.Laws.Externs
import Derived.Test.YtgkajjifbcmoeaaGreatDoorP20
namespace Go.Proofs.YtgkajjifbcmoeaaGreatDoor
set_option linter.unusedSimpArgs false
set_option linter.unusedVariables false
open Go.Abs Go.Proofs.NatL

def idxCT : CT:=mkCT [] true fun l K=>match l with
 | [.inl (.ints .u8 xs),.inl (.i .u8 c)]=>(xs.length ≤ 36 ∧ xs = digB xs.length) ∧ K (.c (.i .i64 (dv xs.length c)))
 | _=>False
set_option maxHeartbeats 800000 in
theorem idx_ret (b : Nat) (c : Int) (hb : b ≤ 36) : Ret Tryz.prog 176 false [.inl (.ints .u8 (digB b)),.inl (.i .u8 c)] (.c (.i .i64 (dv b c))):=by
 have hl:=digB_len b
 have hg:=digB_at b
 generalize digB b = xs at *
 (refine q_H Tryz.func176 (fun F=>?_); simp only [q_z,q_y,Tryz.ntmps176,Tryz.results176])
 repeat' (first|with_reducible refine q_0 ?_|((with_reducible first|refine q_q cf0_ok fun K hK=>?_|refine q_r cf0_ok fun K hK=>?_);simp (maxSteps:=2000000) only [go_sem,↓reduceIte,reduceCtorEq,Nat.reduceLeDiff,Nat.reduceLT,Nat.reduceBEq,Nat.reduceAdd];(repeat1' with_reducible first|apply And.intro|intro _|(refine hK _ ?_;clear hK K))<;>(try (clear hK K;exact q_u)))|(with_reducible refine q_s ?_;(first|apply q_J|apply q_K|apply q_L|apply q_M|apply q_N|apply q_O)<;>try intro _))
 refine q_G (ι:={ i : Nat // i ≤ b ∧ dv i c = -1 }) (fun i=>⟨19,[(0,.c (.ints .u8 xs)),(1,.c (.i .u8 c)),(7,.c (.i .i64 b)),(8,.c (.i .i64 (i.1 : Nat)))],⟨[],[],[]⟩,0⟩) (fun i=>b - i.1) ⟨0,by omega,dv_zero c⟩ ?_ ?_
 ·subst hl
  exact q_D
 rintro ⟨i,g1,g2⟩
 simp only at g1 g2 ⊢
 have hs:=dv_succ i
 rcases Nat.lt_or_ge i b with hi | hi
 ·have hs:=hs (by omega) c
  have hg:=hg i hi
  by_cases hc : c = chr (i : Int)
  ·rw [if_pos hc.symm] at hs
   have e : dv b c = i:=by rw [hc]; exact dv_chr hb hi
   repeat' (first|with_reducible refine q_0 ?_|((with_reducible first|refine q_q cf0_ok fun K hK=>?_|refine q_r cf0_ok fun K hK=>?_);simp (maxSteps:=2000000) only [go_sem,↓reduceIte,reduceCtorEq,Nat.reduceLeDiff,Nat.reduceLT,Nat.reduceBEq,Nat.reduceAdd,hg,hc];(repeat1' with_reducible first|apply And.intro|(intro _;try exact q_v)|(refine hK _ ?_;clear hK K))<;>(try (clear hK K;exact q_u)))|(with_reducible refine q_s ?_;(first|apply q_J|apply q_K|apply q_L|apply q_M|apply q_N|apply q_O)<;>try (intro _;try exact q_v)))
   exact q_A (by rw [e]; rfl)
  ·rw [if_neg (fun h=>hc h.symm),g2] at hs
   repeat' (first|with_reducible refine q_0 ?_|((with_reducible first|refine q_q cf0_ok fun K hK=>?_|refine q_r cf0_ok fun K hK=>?_);simp (maxSteps:=2000000) only [go_sem,↓reduceIte,reduceCtorEq,Nat.reduceLeDiff,Nat.reduceLT,Nat.reduceBEq,Nat.reduceAdd,hg,hc];(repeat1' with_reducible first|apply And.intro|(intro _;try exact q_v)|(refine hK _ ?_;clear hK K))<;>(try (clear hK K;exact q_u)))|(with_reducible refine q_s ?_;(first|apply q_J|apply q_K|apply q_L|apply q_M|apply q_N|apply q_O)<;>try (intro _;try exact q_v)))
   refine q_F ⟨i + 1,hi,hs⟩ ?_ (by simp only; omega)
   exact q_D
 ·have hi' : i = b:=by omega
  subst hi'
  repeat' (first|with_reducible refine q_0 ?_|((with_reducible first|refine q_q cf0_ok fun K hK=>?_|refine q_r cf0_ok fun K hK=>?_);simp (maxSteps:=2000000) only [go_sem,↓reduceIte,reduceCtorEq,Nat.reduceLeDiff,Nat.reduceLT,Nat.reduceBEq,Nat.reduceAdd];(repeat1' with_reducible first|apply And.intro|(intro _;try exact q_v)|(refine hK _ ?_;clear hK K))<;>(try (clear hK K;exact q_u)))|(with_reducible refine q_s ?_;(first|apply q_J|apply q_K|apply q_L|apply q_M|apply q_N|apply q_O)<;>try (intro _;try exact q_v)))
  exact q_A (by rw [g2]; rfl)
def iu6 : Cfg:=addT 176 idxCT cf0
theorem iu6_ok : TblOk Tryz.prog iu6:=q_I cf0_ok Tryz.func176 fun l K h=>by
 split at h
 ·rename_i xs c
  obtain ⟨⟨h1,h2⟩,h⟩:=h
  have:=idx_ret xs.length c h1
  rw [← h2] at this
  exact ⟨_,this.plain rfl,h⟩
 ·exact h.elim
attribute [go_sem] idxCT digB_len
def ibv : Cfg:=listT [(175,atCT),(176,idxCT),(177,fromG),(178,isignedCT)] [34]
theorem ibv_ok : TblOk Tryz.prog ibv:=listE_ok (by simp only [List.mem_singleton,forall_eq]; exact flt) ⟨⟨it1,it1_ok,rfl⟩,⟨iu6,iu6_ok,rfl⟩,⟨nt6,nt6_ok,rfl⟩,⟨it4,it4_ok,rfl⟩,trivial⟩
attribute [go_sem] ibv
theorem iParse_base (s : ByteArray) (b : Int) (h : b < 2 ∨ 36 < b) : Ret Tryz.prog 103 false [.inl (.str s),.inl (.i .i64 b)] (.t [.inr [.b false,.ints .u32 []],.inr [.i .i64 4,.i .i64 (-2)]]):=by
 (refine q_H Tryz.func103 (fun F=>?_); simp only [q_z,q_y,Tryz.ntmps103,Tryz.results103])
 repeat' (first|with_reducible refine q_0 ?_|((with_reducible first|refine q_q ibv_ok fun K hK=>?_|refine q_r ibv_ok fun K hK=>?_);simp (maxSteps:=2000000) only [go_sem,↓reduceIte,reduceCtorEq,Nat.reduceLeDiff,Nat.reduceLT,Nat.reduceBEq,Nat.reduceAdd];(repeat1' with_reducible first|apply And.intro|(intro _;try exact q_v)|(refine hK _ ?_;clear hK K))<;>(try (clear hK K;exact q_u)))|(with_reducible refine q_s ?_;(first|apply q_J|apply q_K|apply q_L|apply q_M|apply q_N|apply q_O)<;>try (intro _;try exact q_v)))
 all_goals exact q_B [nP] rfl rfl
theorem iParse_long (s : ByteArray) (b : Int) (h1 : 2 ≤ b) (h2 : b ≤ 36) (h : 4097 < s.size) : Ret Tryz.prog 103 false [.inl (.str s),.inl (.i .i64 b)] (.t [.inr [.b false,.ints .u32 []],.inr [.i .i64 3,.i .i64 (-1)]]):=by
 (refine q_H Tryz.func103 (fun F=>?_); simp only [q_z,q_y,Tryz.ntmps103,Tryz.results103])
 repeat' (first|with_reducible refine q_0 ?_|((with_reducible first|refine q_q ibv_ok fun K hK=>?_|refine q_r ibv_ok fun K hK=>?_);simp (maxSteps:=2000000) only [go_sem,↓reduceIte,reduceCtorEq,Nat.reduceLeDiff,Nat.reduceLT,Nat.reduceBEq,Nat.reduceAdd];(repeat1' with_reducible first|apply And.intro|(intro _;try exact q_v)|(refine hK _ ?_;clear hK K))<;>(try (clear hK K;exact q_u)))|(with_reducible refine q_s ?_;(first|apply q_J|apply q_K|apply q_L|apply q_M|apply q_N|apply q_O)<;>try (intro _;try exact q_v)))
 all_goals first | omega | exact q_B [nP] rfl rfl
theorem rz_val {b : Nat} {neg : Bool} {r : List Int} (hb : 2 ≤ b) (z : Int) (h : z = sg neg (rdv b (r.map (dv b)))) (hg : neg = true → 0 < rdv b (r.map (dv b))) :
  ((dg 4294967296 (rdv b (r.map (dv b)))).length ≤ 600 → sv 4294967296 neg (dg 4294967296 (rdv b (r.map (dv b)))) = z) ∧ (¬ (dg 4294967296 (rdv b (r.map (dv b)))).length ≤ 600 → cl 128 z = 0 ∧ clC 128 z = 14 ∧ clI 128 z = -1):=by
 generalize rdv b (r.map (dv b)) = m at *
 have e : sv 4294967296 neg (dg 4294967296 m) = sg neg m:=sv_d (by omega) _ _
 refine ⟨fun _=>by rw [e,h],fun hl=>cl_big (fun hh=>hl ?_)⟩
 have : z.natAbs = m:=by rw [h]; cases neg <;> simp [sg]
 rw [this] at hh; omega
set_option maxRecDepth 100000 in
set_option maxHeartbeats 3200000 in
theorem iParse_true (s : ByteArray) (b : Nat) (h1 : 2 ≤ b) (h2 : b ≤ 36) (hs : s.size ≤ 4097) (hA : 0 < (bytesOf s).length ∧ (bytesOf s).getD 0 0 = 45) (r : List Int) (hr : r = if true = true then (bytesOf s).drop 1 else bytesOf s) :
    Ret Tryz.prog 103 false [.inl (.str s), .inl (.i .i64 b)] (match pzR b true r with
      | none => .t [.inr [.b false, .ints .u32 []], .inr [.i .i64 1, .i .i64 (-1)]]
      | some z => .t [.inr (gI (cl 128 z)), .inr [.i .i64 (clC 128 z), .i .i64 (clI 128 z)]]) := by
  have hsz := str_size s
  have lit := lit_full
  have ltake := lit_take b h2
  have llen := digB_len 36
  have lb := digB_len b
  have hml : (b ≤ maxLen) = True := eq_true (by unfold maxLen; omega)
  have hin := bytes_inB s
  generalize htx : bytesOf s = tx at *
  have hR : bytesOf (s.extract 1 tx.length) = r := by
    first
      | (rw [str_sub, htx, List.take_length]; exact hr.symm)
      | (rw [htx]; exact hr.symm)
  have hlen : r.length ≤ 4097 := by
    rw [hr]
    split
    · rw [List.length_drop]; omega
    · omega
  first
    | (have hrt : r = tx := by
         rw [hr]; rfl
       subst hrt)
    | skip
  have hT : tx = [48] ↔ (true = false ∧ r = [48]) := by
    constructor
    · intro e
      first
        | (exfalso; have := hA.2; rw [e] at this; simp at this; done)
        | exact ⟨rfl, e⟩
    · rintro ⟨e1, e2⟩
      first
        | (exfalso; cases e1; done)
        | exact e2
  by_cases h0 : r = []
  · have hp : pzR b true r = none := by unfold pzR; rw [if_pos (.inl h0)]
    rw [hp]
    (refine q_H Tryz.func103 (fun F => ?_); simp only [q_z,q_y,Tryz.ntmps103,Tryz.results103])
    repeat' (first|with_reducible refine q_0 ?_|((with_reducible first|refine q_q ibv_ok fun K hK=>?_|refine q_r ibv_ok fun K hK=>?_);simp (maxSteps:=2000000) only [go_sem,↓reduceIte,reduceCtorEq,Nat.reduceLeDiff,Nat.reduceLT,Nat.reduceBEq,Nat.reduceAdd,toNat_one, str_size, str_at, str_eq, htx, hR, h0, lit_none, lit_zero, decide_true];(repeat1' with_reducible first|apply And.intro|(intro _;try exact q_v)|(refine hK _ ?_;clear hK K))<;>(try (clear hK K;exact q_u)))|(with_reducible refine q_s ?_;(first|apply q_J|apply q_K|apply q_L|apply q_M|apply q_N|apply q_O)<;>try (intro _;try exact q_v)))
    all_goals first | omega | exact q_B [nP] rfl rfl
  have h0' : decide (r = []) = false := decide_eq_false h0
  have hpos : 0 < r.length := List.length_pos_iff.2 h0
  by_cases h48 : r.getD 0 0 = 48 ∧ (1 < r.length ∨ true = true)
  · have hp : pzR b true r = none := by unfold pzR; rw [if_pos (.inr h48)]
    have hT' : decide (tx = [48]) = false := decide_eq_false (fun e => by
      obtain ⟨e1, e2⟩ := hT.1 e
      rcases h48.2 with h | h
      · rw [e2] at h; simp at h
      · first | exact absurd e1 (by decide) | exact absurd h (by decide))
    have h48' := h48.1
    rw [hp]
    (refine q_H Tryz.func103 (fun F => ?_); simp only [q_z,q_y,Tryz.ntmps103,Tryz.results103])
    repeat' (first|with_reducible refine q_0 ?_|((with_reducible first|refine q_q ibv_ok fun K hK=>?_|refine q_r ibv_ok fun K hK=>?_);simp (maxSteps:=2000000) only [go_sem,↓reduceIte,reduceCtorEq,Nat.reduceLeDiff,Nat.reduceLT,Nat.reduceBEq,Nat.reduceAdd,toNat_one, str_size, str_at, str_eq, htx, hR, h0', hT', h48', lit_none, lit_zero];(repeat1' with_reducible first|apply And.intro|(intro _;try exact q_v)|(refine hK _ ?_;clear hK K))<;>(try (clear hK K;exact q_u)))|(with_reducible refine q_s ?_;(first|apply q_J|apply q_K|apply q_L|apply q_M|apply q_N|apply q_O)<;>try (intro _;try exact q_v)))
    all_goals first | omega | exact q_B [nP] rfl rfl
  have hT' : r.getD 0 0 = 48 → decide (tx = [48]) = true := fun e => decide_eq_true (hT.2 (by
    have h3 : ¬ (1 < r.length ∨ true = true) := fun h => h48 ⟨e, h⟩
    refine ⟨by first | rfl | exact absurd (.inr rfl) h3, ?_⟩
    match r, hpos with
    | [x], _ => exact congrArg (fun y => [y]) (show x = 48 from e)
    | x :: y :: l, _ => exact absurd (.inl (by simp)) h3))
  have hcase : (true = false ∧ r.getD 0 0 = 48) ∨ ¬ r.getD 0 0 = 48 := by
    by_cases hz : r.getD 0 0 = 48
    · left
      refine ⟨?_, hz⟩
      first
        | rfl
        | exact absurd ⟨hz, .inr rfl⟩ h48
    · exact .inr hz
  rcases hcase with ⟨hS, hz⟩ | hz
  all_goals try (exact absurd hS (by decide))
  all_goals
    first | have hT2 := hT' hz | have hT2 := hml
    (refine q_H Tryz.func103 (fun F => ?_); simp only [q_z,q_y,Tryz.ntmps103,Tryz.results103])
    repeat' (first|with_reducible refine q_0 ?_|((with_reducible first|refine q_q ibv_ok fun K hK=>?_|refine q_r ibv_ok fun K hK=>?_);simp (maxSteps:=2000000) only [go_sem,↓reduceIte,reduceCtorEq,Nat.reduceLeDiff,Nat.reduceLT,Nat.reduceBEq,Nat.reduceAdd,toNat_one, str_size, str_at, str_eq, htx, hR, h0', hT2, hz, lit_none, lit_zero];(repeat1' with_reducible first|apply And.intro|(intro _;try exact q_v)|(refine hK _ ?_;clear hK K))<;>(try (clear hK K;exact q_u)))|(with_reducible refine q_s ?_;(first|apply q_J|apply q_K|apply q_L|apply q_M|apply q_N|apply q_O)<;>try (intro _;try exact q_v)))
    try omega
    refine q_G (ι := { i : Nat // i ≤ r.length ∧ ∀ c ∈ r.take i, 0 ≤ dv b c }) (fun i => ⟨89, [(1, .c (.i .i64 b)), (4, .bx 0 0), (5, .bx 1 0), (6, .c (.str (s.extract 1 tx.length))), (7, .c (.b true)), (8, .own 2 0), (53, .c (.i .i64 r.length)), (54, .c (.i .i64 (i.1 : Nat)))], ⟨[(1, [.c (.i .i64 0), .c (.i .i64 0)]), (0, [.c (.b false), .c .nil])], [(2, ⟨0, 3, 1, .ints .i64 ((r.take i.1).map (dv b))⟩)], []⟩, 3⟩) (fun i => r.length - i.1) ⟨0, by omega, by simp⟩ ?_ ?_
    · exact q_D
    rintro ⟨i, g1, g2⟩
    simp only at g1 g2 ⊢
    have hml2 : ((r.take i).map (dv b)).length = i := by simp; omega
    have hd := dv_cases b (r.getD i 0) h2
    rcases Nat.lt_or_ge i r.length with hi | hi
    · by_cases hc : 0 ≤ dv b (r.getD i 0)
      · have hms := map_snoc (dv b) r i hi
        repeat' (first|with_reducible refine q_0 ?_|((with_reducible first|refine q_q ibv_ok fun K hK=>?_|refine q_r ibv_ok fun K hK=>?_);simp (maxSteps:=2000000) only [go_sem,↓reduceIte,reduceCtorEq,Nat.reduceLeDiff,Nat.reduceLT,Nat.reduceBEq,Nat.reduceAdd,toNat_one, str_size, str_at, str_sub, str_eq, htx, hR, lit, ltake, llen, lb, hml, hml2];(repeat1' with_reducible first|apply And.intro|(intro _;try exact q_v)|(refine hK _ ?_;clear hK K))<;>(try (clear hK K;exact q_u)))|(with_reducible refine q_s ?_;(first|apply q_J|apply q_K|apply q_L|apply q_M|apply q_N|apply q_O)<;>try (intro _;try exact q_v)))
        refine q_F ⟨i + 1, hi, ?_⟩ ?_ (by simp only; omega)
        · intro c hc2
          rw [List.take_succ_eq_append_getElem hi] at hc2
          rcases List.mem_append.1 hc2 with h | h
          · exact g2 c h
          · rw [getD_eq _ _ hi] at hc
            simp at h; subst h; exact hc
        · simp only [hms]
          exact q_D
      · have hp : pzR b true r = none := by
          unfold pzR
          rw [if_neg (fun h => h.elim h0 h48), if_neg (fun h => hc (by rw [getD_eq _ _ hi]; exact h _ (List.getElem_mem hi)))]
        rw [hp]
        repeat' (first|with_reducible refine q_0 ?_|((with_reducible first|refine q_q ibv_ok fun K hK=>?_|refine q_r ibv_ok fun K hK=>?_);simp (maxSteps:=2000000) only [go_sem,↓reduceIte,reduceCtorEq,Nat.reduceLeDiff,Nat.reduceLT,Nat.reduceBEq,Nat.reduceAdd,toNat_one, str_size, str_at, str_sub, str_eq, htx, hR, lit, ltake, llen, lb, hml, hml2];(repeat1' with_reducible first|apply And.intro|(intro _;try exact q_v)|(refine hK _ ?_;clear hK K))<;>(try (clear hK K;exact q_u)))|(with_reducible refine q_s ?_;(first|apply q_J|apply q_K|apply q_L|apply q_M|apply q_N|apply q_O)<;>try (intro _;try exact q_v)))
        all_goals first | omega | exact q_B [nP] rfl rfl
    · have hi' : i = r.length := by omega
      subst hi'
      rw [List.take_length] at g2
      have hp : pzR b true r = some (sg true (rdv b (r.map (dv b)))) := by
        unfold pzR
        rw [if_neg (fun h => h.elim h0 h48), if_pos g2]
      have hcan := pzR_canon h1 hp
      obtain ⟨v1, v2⟩ := rz_val h1 _ hcan.1 hcan.2.1
      have hib : InB b (r.map (dv b)) := fun x hx => by
        obtain ⟨c, hc, rfl⟩ := List.mem_map.1 hx
        have := g2 c hc
        have := dv_cases b c h2
        omega
      obtain ⟨f1, f2, f3⟩ := fit_dg (rdv b (r.map (dv b)))
      have bm := InB_dg 4294967296 (by omega) (rdv b (r.map (dv b)))
      have tm := dg_trd 4294967296 (by omega) (rdv b (r.map (dv b)))
      rw [hp]
      obtain ⟨m, hmm⟩ : ∃ m, rdv b (r.map (dv b)) = m := ⟨_, rfl⟩
      rw [hmm] at v1 v2 f1 f2 f3 bm tm ⊢
      by_cases h6 : (dg 4294967296 m).length ≤ 600
      · have v1 := v1 h6
        rw [if_pos h6] at f1 f2 f3
        have lm : (r.map (dv b)).length ≤ 140737488355328 := by rw [List.length_map]; omega
        repeat' (first|with_reducible refine q_0 ?_|((with_reducible first|refine q_q ibv_ok fun K hK=>?_|refine q_r ibv_ok fun K hK=>?_);simp (maxSteps:=2000000) only [go_sem,↓reduceIte,reduceCtorEq,Nat.reduceLeDiff,Nat.reduceLT,Nat.reduceBEq,Nat.reduceAdd,List.take_length, hmm, f1, f2, f3, v1];(repeat1' with_reducible first|apply And.intro|(intro _;try exact q_v)|(refine hK _ ?_;clear hK K))<;>(try (clear hK K;exact q_u)))|(with_reducible refine q_s ?_;(first|apply q_J|apply q_K|apply q_L|apply q_M|apply q_N|apply q_O)<;>try (intro _;try exact q_v)))
        exact q_A rfl
      · obtain ⟨w1, w2, w3⟩ := v2 h6
        rw [if_neg h6] at f1 f2 f3
        have lm : (r.map (dv b)).length ≤ 140737488355328 := by rw [List.length_map]; omega
        repeat' (first|with_reducible refine q_0 ?_|((with_reducible first|refine q_q ibv_ok fun K hK=>?_|refine q_r ibv_ok fun K hK=>?_);simp (maxSteps:=2000000) only [go_sem,↓reduceIte,reduceCtorEq,Nat.reduceLeDiff,Nat.reduceLT,Nat.reduceBEq,Nat.reduceAdd,List.take_length, hmm, f1, f2, f3];(repeat1' with_reducible first|apply And.intro|(intro _;try exact q_v)|(refine hK _ ?_;clear hK K))<;>(try (clear hK K;exact q_u)))|(with_reducible refine q_s ?_;(first|apply q_J|apply q_K|apply q_L|apply q_M|apply q_N|apply q_O)<;>try (intro _;try exact q_v)))
        exact q_B [nP] rfl (by simp only [norm, nz, nzL, resAV, w1, w2, w3, dg_zeroA]; rfl)
set_option maxRecDepth 100000 in
set_option maxHeartbeats 3200000 in
theorem iParse_false (s : ByteArray) (b : Nat) (h1 : 2 ≤ b) (h2 : b ≤ 36) (hs : s.size ≤ 4097) (hA : ¬ (0 < (bytesOf s).length ∧ (bytesOf s).getD 0 0 = 45)) (r : List Int) (hr : r = if false = true then (bytesOf s).drop 1 else bytesOf s) :
    Ret Tryz.prog 103 false [.inl (.str s), .inl (.i .i64 b)] (match pzR b false r with
      | none => .t [.inr [.b false, .ints .u32 []], .inr [.i .i64 1, .i .i64 (-1)]]
      | some z => .t [.inr (gI (cl 128 z)), .inr [.i .i64 (clC 128 z), .i .i64 (clI 128 z)]]) := by
  have hsz := str_size s
  have lit := lit_full
  have ltake := lit_take b h2
  have llen := digB_len 36
  have lb := digB_len b
  have hml : (b ≤ maxLen) = True := eq_true (by unfold maxLen; omega)
  have hin := bytes_inB s
  generalize htx : bytesOf s = tx at *
  have hR : bytesOf s = r := by
    first
      | (rw [str_sub, htx, List.take_length]; exact hr.symm)
      | (rw [htx]; exact hr.symm)
  have hlen : r.length ≤ 4097 := by
    rw [hr]
    split
    · rw [List.length_drop]; omega
    · omega
  first
    | (have hrt : r = tx := by
         rw [hr]; rfl
       subst hrt)
    | skip
  have hT : r = [48] ↔ (false = false ∧ r = [48]) := by
    constructor
    · intro e
      first
        | (exfalso; have := hA.2; rw [e] at this; simp at this; done)
        | exact ⟨rfl, e⟩
    · rintro ⟨e1, e2⟩
      first
        | (exfalso; cases e1; done)
        | exact e2
  by_cases h0 : r = []
  · have hp : pzR b false r = none := by unfold pzR; rw [if_pos (.inl h0)]
    rw [hp]
    (refine q_H Tryz.func103 (fun F => ?_); simp only [q_z,q_y,Tryz.ntmps103,Tryz.results103])
    repeat' (first|with_reducible refine q_0 ?_|((with_reducible first|refine q_q ibv_ok fun K hK=>?_|refine q_r ibv_ok fun K hK=>?_);simp (maxSteps:=2000000) only [go_sem,↓reduceIte,reduceCtorEq,Nat.reduceLeDiff,Nat.reduceLT,Nat.reduceBEq,Nat.reduceAdd,toNat_one, str_size, str_at, str_eq, htx, hR, h0, lit_none, lit_zero, decide_true];(repeat1' with_reducible first|apply And.intro|(intro _;try exact q_v)|(refine hK _ ?_;clear hK K))<;>(try (clear hK K;exact q_u)))|(with_reducible refine q_s ?_;(first|apply q_J|apply q_K|apply q_L|apply q_M|apply q_N|apply q_O)<;>try (intro _;try exact q_v)))
    all_goals first | omega | exact q_B [nP] rfl rfl
  have h0' : decide (r = []) = false := decide_eq_false h0
  have hpos : 0 < r.length := List.length_pos_iff.2 h0
  by_cases h48 : r.getD 0 0 = 48 ∧ (1 < r.length ∨ false = true)
  · have hp : pzR b false r = none := by unfold pzR; rw [if_pos (.inr h48)]
    have hT' : decide (r = [48]) = false := decide_eq_false (fun e => by
      obtain ⟨e1, e2⟩ := hT.1 e
      rcases h48.2 with h | h
      · rw [e2] at h; simp at h
      · first | exact absurd e1 (by decide) | exact absurd h (by decide))
    have h48' := h48.1
    rw [hp]
    (refine q_H Tryz.func103 (fun F => ?_); simp only [q_z,q_y,Tryz.ntmps103,Tryz.results103])
    repeat' (first|with_reducible refine q_0 ?_|((with_reducible first|refine q_q ibv_ok fun K hK=>?_|refine q_r ibv_ok fun K hK=>?_);simp (maxSteps:=2000000) only [go_sem,↓reduceIte,reduceCtorEq,Nat.reduceLeDiff,Nat.reduceLT,Nat.reduceBEq,Nat.reduceAdd,toNat_one, str_size, str_at, str_eq, htx, hR, h0', hT', h48', lit_none, lit_zero];(repeat1' with_reducible first|apply And.intro|(intro _;try exact q_v)|(refine hK _ ?_;clear hK K))<;>(try (clear hK K;exact q_u)))|(with_reducible refine q_s ?_;(first|apply q_J|apply q_K|apply q_L|apply q_M|apply q_N|apply q_O)<;>try (intro _;try exact q_v)))
    all_goals first | omega | exact q_B [nP] rfl rfl
  have hT' : r.getD 0 0 = 48 → decide (r = [48]) = true := fun e => decide_eq_true (hT.2 (by
    have h3 : ¬ (1 < r.length ∨ false = true) := fun h => h48 ⟨e, h⟩
    refine ⟨by first | rfl | exact absurd (.inr rfl) h3, ?_⟩
    match r, hpos with
    | [x], _ => exact congrArg (fun y => [y]) (show x = 48 from e)
    | x :: y :: l, _ => exact absurd (.inl (by simp)) h3))
  have hcase : (false = false ∧ r.getD 0 0 = 48) ∨ ¬ r.getD 0 0 = 48 := by
    by_cases hz : r.getD 0 0 = 48
    · left
      refine ⟨?_, hz⟩
      first
        | rfl
        | exact absurd ⟨hz, .inr rfl⟩ h48
    · exact .inr hz
  rcases hcase with ⟨hS, hz⟩ | hz
  all_goals try (exact absurd hS (by decide))
  all_goals
    first | have hT2 := hT' hz | have hT2 := hml
    (refine q_H Tryz.func103 (fun F => ?_); simp only [q_z,q_y,Tryz.ntmps103,Tryz.results103])
    repeat' (first|with_reducible refine q_0 ?_|((with_reducible first|refine q_q ibv_ok fun K hK=>?_|refine q_r ibv_ok fun K hK=>?_);simp (maxSteps:=2000000) only [go_sem,↓reduceIte,reduceCtorEq,Nat.reduceLeDiff,Nat.reduceLT,Nat.reduceBEq,Nat.reduceAdd,toNat_one, str_size, str_at, str_eq, htx, hR, h0', hT2, hz, lit_none, lit_zero];(repeat1' with_reducible first|apply And.intro|(intro _;try exact q_v)|(refine hK _ ?_;clear hK K))<;>(try (clear hK K;exact q_u)))|(with_reducible refine q_s ?_;(first|apply q_J|apply q_K|apply q_L|apply q_M|apply q_N|apply q_O)<;>try (intro _;try exact q_v)))
    try omega
    refine q_G (ι := { i : Nat // i ≤ r.length ∧ ∀ c ∈ r.take i, 0 ≤ dv b c }) (fun i => ⟨89, [(1, .c (.i .i64 b)), (4, .bx 0 0), (5, .bx 1 0), (6, .c (.str s)), (7, .c (.b false)), (8, .own 2 0), (53, .c (.i .i64 r.length)), (54, .c (.i .i64 (i.1 : Nat)))], ⟨[(1, [.c (.i .i64 0), .c (.i .i64 0)]), (0, [.c (.b false), .c .nil])], [(2, ⟨0, 3, 1, .ints .i64 ((r.take i.1).map (dv b))⟩)], []⟩, 3⟩) (fun i => r.length - i.1) ⟨0, by omega, by simp⟩ ?_ ?_
    · exact q_D
    rintro ⟨i, g1, g2⟩
    simp only at g1 g2 ⊢
    have hml2 : ((r.take i).map (dv b)).length = i := by simp; omega
    have hd := dv_cases b (r.getD i 0) h2
    rcases Nat.lt_or_ge i r.length with hi | hi
    · by_cases hc : 0 ≤ dv b (r.getD i 0)
      · have hms := map_snoc (dv b) r i hi
        repeat' (first|with_reducible refine q_0 ?_|((with_reducible first|refine q_q ibv_ok fun K hK=>?_|refine q_r ibv_ok fun K hK=>?_);simp (maxSteps:=2000000) only [go_sem,↓reduceIte,reduceCtorEq,Nat.reduceLeDiff,Nat.reduceLT,Nat.reduceBEq,Nat.reduceAdd,toNat_one, str_size, str_at, str_sub, str_eq, htx, hR, lit, ltake, llen, lb, hml, hml2];(repeat1' with_reducible first|apply And.intro|(intro _;try exact q_v)|(refine hK _ ?_;clear hK K))<;>(try (clear hK K;exact q_u)))|(with_reducible refine q_s ?_;(first|apply q_J|apply q_K|apply q_L|apply q_M|apply q_N|apply q_O)<;>try (intro _;try exact q_v)))
        refine q_F ⟨i + 1, hi, ?_⟩ ?_ (by simp only; omega)
        · intro c hc2
          rw [List.take_succ_eq_append_getElem hi] at hc2
          rcases List.mem_append.1 hc2 with h | h
          · exact g2 c h
          · rw [getD_eq _ _ hi] at hc
            simp at h; subst h; exact hc
        · simp only [hms]
          exact q_D
      · have hp : pzR b false r = none := by
          unfold pzR
          rw [if_neg (fun h => h.elim h0 h48), if_neg (fun h => hc (by rw [getD_eq _ _ hi]; exact h _ (List.getElem_mem hi)))]
        rw [hp]
        repeat' (first|with_reducible refine q_0 ?_|((with_reducible first|refine q_q ibv_ok fun K hK=>?_|refine q_r ibv_ok fun K hK=>?_);simp (maxSteps:=2000000) only [go_sem,↓reduceIte,reduceCtorEq,Nat.reduceLeDiff,Nat.reduceLT,Nat.reduceBEq,Nat.reduceAdd,toNat_one, str_size, str_at, str_sub, str_eq, htx, hR, lit, ltake, llen, lb, hml, hml2];(repeat1' with_reducible first|apply And.intro|(intro _;try exact q_v)|(refine hK _ ?_;clear hK K))<;>(try (clear hK K;exact q_u)))|(with_reducible refine q_s ?_;(first|apply q_J|apply q_K|apply q_L|apply q_M|apply q_N|apply q_O)<;>try (intro _;try exact q_v)))
        all_goals first | omega | exact q_B [nP] rfl rfl
    · have hi' : i = r.length := by omega
      subst hi'
      rw [List.take_length] at g2
      have hp : pzR b false r = some (sg false (rdv b (r.map (dv b)))) := by
        unfold pzR
        rw [if_neg (fun h => h.elim h0 h48), if_pos g2]
      have hcan := pzR_canon h1 hp
      obtain ⟨v1, v2⟩ := rz_val h1 _ hcan.1 hcan.2.1
      have hib : InB b (r.map (dv b)) := fun x hx => by
        obtain ⟨c, hc, rfl⟩ := List.mem_map.1 hx
        have := g2 c hc
        have := dv_cases b c h2
        omega
      obtain ⟨f1, f2, f3⟩ := fit_dg (rdv b (r.map (dv b)))
      have bm := InB_dg 4294967296 (by omega) (rdv b (r.map (dv b)))
      have tm := dg_trd 4294967296 (by omega) (rdv b (r.map (dv b)))
      rw [hp]
      obtain ⟨m, hmm⟩ : ∃ m, rdv b (r.map (dv b)) = m := ⟨_, rfl⟩
      rw [hmm] at v1 v2 f1 f2 f3 bm tm ⊢
      by_cases h6 : (dg 4294967296 m).length ≤ 600
      · have v1 := v1 h6
        rw [if_pos h6] at f1 f2 f3
        have lm : (r.map (dv b)).length ≤ 140737488355328 := by rw [List.length_map]; omega
        repeat' (first|with_reducible refine q_0 ?_|((with_reducible first|refine q_q ibv_ok fun K hK=>?_|refine q_r ibv_ok fun K hK=>?_);simp (maxSteps:=2000000) only [go_sem,↓reduceIte,reduceCtorEq,Nat.reduceLeDiff,Nat.reduceLT,Nat.reduceBEq,Nat.reduceAdd,List.take_length, hmm, f1, f2, f3, v1];(repeat1' with_reducible first|apply And.intro|(intro _;try exact q_v)|(refine hK _ ?_;clear hK K))<;>(try (clear hK K;exact q_u)))|(with_reducible refine q_s ?_;(first|apply q_J|apply q_K|apply q_L|apply q_M|apply q_N|apply q_O)<;>try (intro _;try exact q_v)))
        exact q_A rfl
      · obtain ⟨w1, w2, w3⟩ := v2 h6
        rw [if_neg h6] at f1 f2 f3
        have lm : (r.map (dv b)).length ≤ 140737488355328 := by rw [List.length_map]; omega
        repeat' (first|with_reducible refine q_0 ?_|((with_reducible first|refine q_q ibv_ok fun K hK=>?_|refine q_r ibv_ok fun K hK=>?_);simp (maxSteps:=2000000) only [go_sem,↓reduceIte,reduceCtorEq,Nat.reduceLeDiff,Nat.reduceLT,Nat.reduceBEq,Nat.reduceAdd,List.take_length, hmm, f1, f2, f3];(repeat1' with_reducible first|apply And.intro|(intro _;try exact q_v)|(refine hK _ ?_;clear hK K))<;>(try (clear hK K;exact q_u)))|(with_reducible refine q_s ?_;(first|apply q_J|apply q_K|apply q_L|apply q_M|apply q_N|apply q_O)<;>try (intro _;try exact q_v)))
        exact q_B [nP] rfl (by simp only [norm, nz, nzL, resAV, w1, w2, w3, dg_zeroA]; rfl)
def parseO (b : Nat) (l : List Int) : AV:=match pz b l with
 | none=>.t [.inr [.b false,.ints .u32 []],.inr [.i .i64 1,.i .i64 (-1)]]
 | some z=>.t [.inr (gI (cl 128 z)),.inr [.i .i64 (clC 128 z),.i .i64 (clI 128 z)]]
def iParseCT : CT:=mkCT [] false fun l K=>match l with
 | [.inl (.str s),.inl (.i .i64 b)]=>((b < 2 ∨ 36 < b) → K (.t [.inr [.b false,.ints .u32 []],.inr [.i .i64 4,.i .i64 (-2)]])) ∧
   (2 ≤ b ∧ b ≤ 36 → (4097 < (bytesOf s).length → K (.t [.inr [.b false,.ints .u32 []],.inr [.i .i64 3,.i .i64 (-1)]])) ∧
    ((bytesOf s).length ≤ 4097 → K (parseO b.toNat (bytesOf s))))
 | _=>False
def iu7 : Cfg:=addT 103 iParseCT cf0
theorem iu7_ok : TblOk Tryz.prog iu7:=q_I cf0_ok Tryz.func103 fun l K h=>by
 split at h
 ·rename_i s b
  obtain ⟨h1,h2⟩:=h
  rw [← str_size] at h2
  by_cases hb : b < 2 ∨ 36 < b
  ·exact ⟨_,iParse_base s b hb,h1 hb⟩
  ·have h2:=h2 (by omega)
   obtain ⟨n,rfl⟩ : ∃ n : Nat,b = n:=⟨b.toNat,by omega⟩
   by_cases hs : 4097 < s.size
   ·exact ⟨_,iParse_long s n (by omega) (by omega) hs,h2.1 hs⟩
   ·have h2:=h2.2 (by omega)
    rw [Int.toNat_natCast] at h2
    refine ⟨parseO n (bytesOf s),?_,h2⟩
    unfold parseO pz
    by_cases hA : 0 < (bytesOf s).length ∧ (bytesOf s).getD 0 0 = 45
    ·rw [if_pos hA]
     exact iParse_true s n (by omega) (by omega) (by omega) hA _ rfl
    ·rw [if_neg hA]
     exact iParse_false s n (by omega) (by omega) (by omega) hA _ rfl
 ·exact h.elim
attribute [go_sem] iParseCT
end Go.Proofs.YtgkajjifbcmoeaaGreatDoor

namespace Go.Abs
set_option linter.unusedSimpArgs false
set_option linter.unusedVariables false
open Go.RowKit
variable {P : Program}

theorem ext_opQ {H : Hp} {nx : Nat} {f : FuncId} {fn : Func} {e : Array Value → Sem Value} (hf : P.funcs[f]? = some fn) (hname : (fn.name == "runtime.NumGoroutine") = false) (hb : fn.body.isNone = true) (hn : Extern.findNext fn = none) (he : Extern.find fn = some e)
  {o : Oper} {ev : Operand → AV} {args : Array Operand} {ts : Array TypeId} (ho : o.op = .call { callee:=.value (.func f),args,argTypes:=ts }) (hev : ev (.func f) = .c (.a (.func (.func f) #[] #[]))) {r : AV}
  (hrun : ∀ (F : Fr) (H : Hp) (m : Mp) (w : World) (ρ : Operand → Value),(∀ x ∈ args,RepA F H m w (ev x) (ρ x)) → ∃ v,(e (args.map ρ)).run P w = .ok v w ∧ RepA F H m w r v) (F : Fr) : OpQ P F H nx nx o ev r:=by
 refine OpQ.of_ext fun H' m w ρ hsup hrep hops=>?_
 obtain ⟨cvs,hρf,hcs,_⟩:=fnA_rep (x:=ev (.func f)) (f:=f) (caps:=[]) (by rw [hev]; rfl) (hops (.func f) (by simp [ho,Op.operands,Call.operands]))
 have hc0 : cvs = #[]:=Array.eq_empty_of_size_eq_zero hcs
 subst hc0
 obtain ⟨v,hv,hr⟩:=hrun F H' m w ρ (fun x hx=>hops x (by simp only [ho,Op.operands,Call.operands]; simp [hx]))
 have hx : (execOp ρ o).run P w = .ok (.value v) w:=by
  have h1 : (execOp ρ o).run P w = (callFunc f (args.map ρ)).run P w:=by
   simp [execOp,ho,resolve,Deferred.ofValue,hρf,invoke,Sem.run]
  rw [h1,run_callFunc_extern hf hname hb hn he,hv]
  rfl
 unfold Exec
 rw [hx]
 exact ⟨Below.refl _ _,hr⟩
def RunX (P : Program) (cf : Cfg) : List Oper → St → (St → Prop) → Prop
 | [],st,K=>K st
 | o :: os,st,K=>o.guard = none ∧ ∃ r st',OpS P cf st st' o r ∧ RunX P cf os (st'.putO o.dst r) K
theorem runX_sound {cf : Cfg} {ops : Array Oper} {F : Fr} {K : St → Prop} : ∀ (os : List Oper) (k : Nat) (st : St) (m : Mp) (a : Act) (w : World) (Q : Exit → Act → World → Prop),
  (∀ i,i < os.length → ops[k + i]? = os[i]?) → (∀ st m a w,K st → StRep F st m a w → Q .normal a w) → StRep F st m a w → RunX P cf os st K → wpOps P ops Q (List.range' k os.length) a w
 | [],k,st,m,a,w,Q,_,hK,hs,h=>hK st m a w h hs
 | o :: os,k,st,m,a,w,Q,hidx,hK,hs,h=>by
  have h0 : ops[k]? = some o:=by simpa using hidx 0 (by simp)
  have hrest : ∀ i,i < os.length → ops[k + 1 + i]? = os[i]?:=fun i hi=>by
   have:=hidx (i + 1) (by simpa using hi)
   rw [show k + 1 + i = k + (i + 1) by omega]; simpa using this
  rw [List.length_cons,List.range'_succ,wpOps_cons]
  unfold wpOp
  simp only [h0]
  obtain ⟨hg,r,st',hop,hk⟩:=h
  have hw : Region.wanted o (yielded ops a.tmps) = true:=by simp [Region.wanted,hg]
  rw [if_pos hw]
  exact .inl ((hop.exec hs).wp fun v w' ⟨m',h1,h2⟩=>runX_sound os (k + 1) _ m' _ w' Q hrest hK (h1.putO o.dst h2) hk)
theorem awp_regionX (cf : Cfg) {F : Fr} {Q : Exit → St → Prop} {st : St} {id : Nat} {ops : Array Oper} (h : RunX P cf ops.toList st (Q .normal)) : AWp P F (.region id ops false) Q st:=fun m a w hs=>by
 refine wp_region ?_
 have:=runX_sound (ops:=ops) (F:=F) (K:=Q .normal) ops.toList 0 st m a w (fun e a' w'=>∃ st' m',Q e st' ∧ StRep F st' m' a' w') (fun i hi=>by simp) (fun st m a w hK hs=>⟨st,m,hK,hs⟩) hs h
 rw [List.range_eq_range']
 simpa using this
theorem ext_indexByte {H : Hp} {nx : Nat} {f : FuncId} {fn : Func} (hf : P.funcs[f]? = some fn) (hname : (fn.name == "runtime.NumGoroutine") = false) (hb : fn.body.isNone = true) (hn : Extern.findNext fn = none) (he : Extern.find fn = some Extern.BytealgIndexByte.indexByte)
  {o : Oper} {ev : Operand → AV} {x y : Operand} {ts : Array TypeId} (ho : o.op = .call { callee:=.value (.func f),args:=#[x,y],argTypes:=ts }) (hev : ev (.func f) = .c (.a (.func (.func f) #[] #[])))
  {s : ByteArray} {c : Int} (hx : ev x = .c (.str s)) (hy : ev y = .c (.i .u8 c)) (F : Fr) : OpQ P F H nx nx o ev (.c (.i .i64 (firstIdx s c.toNat.toUInt8))):=by
 refine ext_opQ hf hname hb hn he ho hev (fun F H m w ρ hr=>?_) F
 have h1:=hr x (by simp)
 have h2:=hr y (by simp)
 rw [hx] at h1
 rw [hy] at h2
 have e1 : ρ x = .string s:=rd_str h1
 have e2 : ρ y = .int .u8 c:=rep_i h2
 refine ⟨_,?_,rep_int F H m w .i64 _⟩
 have : (#[x,y].map ρ) = #[.string s,.int .u8 c]:=by simp [e1,e2]
 rw [this]
 exact run_indexByte_string s c w
end Go.Abs

namespace Go.Proofs.NatL
set_option linter.unusedSimpArgs false
set_option linter.unusedVariables false
open Go.Abs
theorem so_data (l : List Int) : (strOf l).data.toList = l.map fun n=>UInt8.ofNat n.toNat:=by
 have key : ∀ (l : List Int) (r : ByteArray),(l.foldl (fun r n=>r.push (UInt8.ofNat n.toNat)) r).data.toList = r.data.toList ++ l.map fun n=>UInt8.ofNat n.toNat:=by
  intro l
  induction l with
  | nil=>intro r; simp
  | cons x l ih=>intro r; rw [List.foldl_cons,ih]; simp [ByteArray.push]
 have:=key l ByteArray.empty
 simpa [strOf] using this
theorem ba_ext {s t : ByteArray} (h : s.data.toList = t.data.toList) : s = t:=by
 cases s; cases t; simp only [ByteArray.mk.injEq] at *; exact Array.ext' h
theorem so_app (l m : List Int) : strOf l ++ strOf m = strOf (l ++ m):=by
 refine ba_ext ?_
 rw [so_data,List.map_append,← so_data,← so_data]
 simp [ByteArray.data_append]
theorem so_size (l : List Int) : (strOf l).size = l.length:=by
 have h:=congrArg List.length (so_data l)
 simp only [Array.length_toList,List.length_map] at h
 exact h
theorem so_sub (l : List Int) (a b : Nat) : (strOf l).extract a b = strOf ((l.take b).drop a):=by
 refine ba_ext ?_
 rw [so_data,ByteArray.data_extract]
 simp only [Array.toList_extract,so_data,List.extract_eq_take_drop,List.map_drop,List.map_take]
 rw [← List.map_take,← List.map_drop,← List.map_drop,← List.map_take]
 rw [List.drop_take]
theorem so_of (s : ByteArray) : s = strOf (bytesOf s):=by
 refine ba_ext ?_
 rw [so_data,bytesOf,List.map_map]
 symm
 refine List.map_id'' (fun x=>?_) _
 simp
theorem sub_so (s : ByteArray) (a b : Nat) : s.extract a b = strOf (((bytesOf s).take b).drop a):=by
 rw [← so_sub,← so_of]
def chrAt (c : Int) (l : List Int) : Option Nat:=l.findIdx? (fun x=>decide (x = c))
theorem chr_some {c : Int} {l : List Int} {k : Nat} (h : chrAt c l = some k) : k < l.length ∧ l.getD k 0 = c ∧ ∀ j,j < k → l.getD j 0 ≠ c:=by
 unfold chrAt at h
 rw [List.findIdx?_eq_some_iff_getElem] at h
 obtain ⟨h1,h2,h3⟩:=h
 refine ⟨h1,?_,fun j hj=>?_⟩
 ·rw [getD_eq l k h1]; simpa using h2
 ·have:=h3 j hj
  rw [getD_eq l j (by omega)]; simpa using this
theorem chr_none {c : Int} {l : List Int} (h : chrAt c l = none) : ∀ x ∈ l,x ≠ c:=by
 unfold chrAt at h
 rw [List.findIdx?_eq_none_iff] at h
 intro x hx
 simpa using h x hx
def chrI (c : Int) (l : List Int) : Int:=match chrAt c l with | some k=>(k : Int) | none => -1
def cutL (c : Int) (l : List Int) : List Int:=match chrAt c l with | some k=>l.take k | none=>l
def cutR (c : Int) (l : List Int) : List Int:=match chrAt c l with | some k=>l.drop (k + 1) | none=>[]
def cutF (c : Int) (l : List Int) : Bool:=(chrAt c l).isSome
theorem cut_some {c : Int} {l : List Int} {k : Nat} (h : chrAt c l = some k) : cutL c l = l.take k ∧ cutR c l = l.drop (k + 1) ∧ cutF c l = true ∧ chrI c l = k:=by
 unfold cutL cutR cutF chrI; rw [h]; exact ⟨rfl,rfl,rfl,rfl⟩
theorem cut_none {c : Int} {l : List Int} (h : chrAt c l = none) : cutL c l = l ∧ cutR c l = [] ∧ cutF c l = false ∧ chrI c l = -1:=by
 unfold cutL cutR cutF chrI; rw [h]; exact ⟨rfl,rfl,rfl,rfl⟩
def dropC (c : Int) (l : List Int) : List Int:=l.dropWhile (fun x=>decide (x = c))
theorem dropC_cons (c x : Int) (l : List Int) : dropC c (x :: l) = if x = c then dropC c l else x :: l:=by
 unfold dropC; rw [List.dropWhile_cons]; by_cases h : x = c <;> simp [h]
theorem dropC_drop (c : Int) (l : List Int) (i : Nat) (h : i < l.length) : dropC c (l.drop i) = if l.getD i 0 = c then dropC c (l.drop (i + 1)) else l.drop i:=by
 rw [List.drop_eq_getElem_cons h,dropC_cons,getD_eq l i h]
def dgs (l : List Int) : Bool:=!l.isEmpty && l.all fun c=>decide (48 ≤ c ∧ c ≤ 57)
end Go.Proofs.NatL
namespace Go.Abs
set_option linter.unusedSimpArgs false
set_option linter.unusedVariables false
variable {P : Program}
theorem opS_moveX {cf : Cfg} (hcf : TblOk P cf) {st : St} {o : Oper} {x : Operand} (ho : o.op = .move x) : OpS P cf st st o (st.ev x):=by
 obtain ⟨r,st',⟨rfl,rfl⟩,h⟩:=opE_sound (st:=st) (o:=o) hcf (K:=fun r st'=>r = st.ev x ∧ st' = st) (by rw [ho]; exact ⟨rfl,rfl⟩)
 exact h
theorem opS_assignX {cf : Cfg} (hcf : TblOk P cf) {st : St} {o : Oper} {x : Operand} (ho : o.op = .assign x) : OpS P cf st st o (st.ev x):=by
 obtain ⟨r,st',⟨rfl,rfl⟩,h⟩:=opE_sound (st:=st) (o:=o) hcf (K:=fun r st'=>r = st.ev x ∧ st' = st) (by rw [ho]; exact ⟨rfl,rfl⟩)
 exact h
end Go.Abs
namespace Go.Proofs.YtgkajjifbcmoeaaGreatDoor
set_option linter.unusedSimpArgs false
set_option linter.unusedVariables false
open Go.Abs Go.Proofs.NatL

theorem sIndexByte_ret (s : ByteArray) (c : Int) : Ret Tryz.prog 222 false [.inl (.str s),.inl (.i .u8 c)] (.c (.i .i64 (firstIdx s c.toNat.toUInt8))):=by
 (refine q_H Tryz.func222 (fun F=>?_); simp only [q_z,q_y,Tryz.ntmps222,Tryz.results222])
 repeat' (first|with_reducible refine q_0 ?_|((with_reducible first|refine q_q cf0_ok fun K hK=>?_|refine q_r cf0_ok fun K hK=>?_);simp (maxSteps:=2000000) only [go_sem,↓reduceIte,reduceCtorEq,Nat.reduceLeDiff,Nat.reduceLT,Nat.reduceBEq,Nat.reduceAdd];(repeat1' with_reducible first|apply And.intro|intro _|(refine hK _ ?_;clear hK K))<;>(try (clear hK K;exact q_u)))|(with_reducible refine q_s ?_;(first|apply q_J|apply q_K|apply q_L|apply q_M|apply q_N|apply q_O)<;>try intro _))
 refine awp_regionX cf0 ?_
 refine ⟨rfl,_,_,opS_moveX cf0_ok rfl,?_⟩
 refine ⟨rfl,_,_,opS_moveX cf0_ok rfl,?_⟩
 refine ⟨rfl,_,_,OpS.same (ext_indexByte (s:=s) (c:=c) Tryz.func239 (by kernel_rfl) (by kernel_rfl) (by kernel_rfl) (by kernel_rfl) rfl rfl rfl rfl),?_⟩
 refine ⟨rfl,_,_,opS_assignX cf0_ok rfl,?_⟩
 refine (q_h ?_ : AWp _ _ _ _ _)
 exact ⟨.inl rfl,[.inl (.i .i64 (firstIdx s c.toNat.toUInt8))],rfl,q_A rfl⟩
theorem firstIdx_chr (s : ByteArray) (c : Int) (h0 : 0 ≤ c) (h1 : c < 256) : firstIdx s c.toNat.toUInt8 = chrI c (bytesOf s):=by
 have hsz : s.size = (bytesOf s).length:=str_size s
 have hat : ∀ i,i < s.size → (s[i]! == c.toNat.toUInt8) = decide ((bytesOf s).getD i 0 = c):=fun i hi=>by
  have h1:=str_at s i
  have h2 : s[i]! = s.data.toList.getD i 0:=by
   have hi' : i < s.data.size:=hi
   rw [getElem!_pos s i hi]
   have : s[i] = s.data[i]:=rfl
   rw [this]
   simp only [List.getD_eq_getElem?_getD,Array.getElem?_toList]
   rw [Array.getElem?_eq_getElem hi']
   rfl
  rw [← h1,← h2]
  generalize s[i]! = x
  have hc : c.toNat.toUInt8.toNat = c.toNat:=by
   simp only [Nat.toUInt8,UInt8.toNat_ofNat']; omega
  by_cases hx : x = c.toNat.toUInt8
  ·rw [hx,hc,beq_self_eq_true]; symm; exact decide_eq_true (by omega)
  ·have h3 : (x == c.toNat.toUInt8) = false:=by simpa using hx
   rw [h3]
   symm
   refine decide_eq_false fun h=>hx ?_
   exact UInt8.toNat_inj.1 (by rw [hc]; omega)
 unfold firstIdx chrI
 cases hs : chrAt c (bytesOf s) with
 | some k =>
  obtain ⟨h1,h2,h3⟩:=chr_some hs
  have : (List.range s.size).find? (fun i=>s[i]! == c.toNat.toUInt8) = some k:=by
   rw [List.find?_range_eq_some]
   refine ⟨by rw [hat k (by omega)]; exact decide_eq_true h2,List.mem_range.2 (by omega),fun x hx=>?_⟩
   rw [hat x (by omega)]
   simpa using h3 x hx
  rw [this]
 | none =>
  have h1:=chr_none hs
  have : (List.range s.size).find? (fun i=>s[i]! == c.toNat.toUInt8) = none:=by
   rw [List.find?_eq_none]
   intro x hx
   have hx:=List.mem_range.1 hx
   rw [hat x hx]
   have h2 : x < (bytesOf s).length:=by omega
   have:=h1 ((bytesOf s).getD x 0) (by rw [getD_eq _ _ h2]; exact List.getElem_mem h2)
   simpa using this
  rw [this]
def sIndexByteCT : CT:=mkCT [] true fun l K=>match l with
 | [.inl (.str s),.inl (.i .u8 c)]=>(0 ≤ c ∧ c < 256) ∧ K (.c (.i .i64 (chrI c (bytesOf s))))
 | _=>False
def sd1 : Cfg:=addT 222 sIndexByteCT cf0
theorem sd1_ok : TblOk Tryz.prog sd1:=q_I cf0_ok Tryz.func222 fun l K h=>by
 split at h
 ·rename_i s c
  obtain ⟨⟨h1,h2⟩,h⟩:=h
  have:=sIndexByte_ret s c
  rw [firstIdx_chr s c h1 h2] at this
  exact ⟨_,this.plain rfl,h⟩
 ·exact h.elim
attribute [go_sem] sIndexByteCT
def sdb1 : Cfg:=listT [(222,sIndexByteCT)] [34]
theorem sdb1_ok : TblOk Tryz.prog sdb1:=listE_ok (by simp only [List.mem_singleton,forall_eq]; exact flt) ⟨⟨sd1,sd1_ok,rfl⟩,trivial⟩
attribute [go_sem] sdb1
theorem to_nat1 : (1 : Int).toNat = 1:=rfl
set_option maxHeartbeats 1600000 in
theorem sIndex_ret (s t : ByteArray) (c : Int) (hc : 0 ≤ c ∧ c < 256) (ht : bytesOf t = [c]) : Ret Tryz.prog 205 false [.inl (.str s),.inl (.str t)] (.c (.i .i64 (chrI c (bytesOf s)))):=by
 have hs:=str_size t
 have h0:=str_at t 0
 rw [ht] at hs h0
 have hq:=str_eq t s
 rw [ht] at hq
 obtain ⟨c0,c1⟩:=hc
 by_cases hst : bytesOf s = [c]
 ·have e : chrI c (bytesOf s) = 0:=by
   rw [hst]; simp [chrI,chrAt,List.findIdx?_cons]
  rw [decide_eq_true hst.symm] at hq
  rw [e]
  (refine q_H Tryz.func205 (fun F=>?_); simp only [q_z,q_y,Tryz.ntmps205,Tryz.results205])
  repeat' (first|with_reducible refine q_0 ?_|((with_reducible first|refine q_q sdb1_ok fun K hK=>?_|refine q_r sdb1_ok fun K hK=>?_);simp (maxSteps:=2000000) only [go_sem,↓reduceIte,reduceCtorEq,Nat.reduceLeDiff,Nat.reduceLT,Nat.reduceBEq,Nat.reduceAdd,str_size,str_at,ht,to_nat1,hq];(repeat1' with_reducible first|apply And.intro|(intro _;try exact q_v)|(refine hK _ ?_;clear hK K))<;>(try (clear hK K;exact q_u)))|(with_reducible refine q_s ?_;(first|apply q_J|apply q_K|apply q_L|apply q_M|apply q_N|apply q_O)<;>try (intro _;try exact q_v)))
  all_goals first | omega | exact q_A rfl | skip
 ·rw [decide_eq_false (fun h=>hst h.symm)] at hq
  have ec : ([c] : List Int).getD 0 0 = c:=rfl
  (refine q_H Tryz.func205 (fun F=>?_); simp only [q_z,q_y,Tryz.ntmps205,Tryz.results205])
  repeat' (first|with_reducible refine q_0 ?_|((with_reducible first|refine q_q sdb1_ok fun K hK=>?_|refine q_r sdb1_ok fun K hK=>?_);simp (maxSteps:=2000000) only [go_sem,↓reduceIte,reduceCtorEq,Nat.reduceLeDiff,Nat.reduceLT,Nat.reduceBEq,Nat.reduceAdd,str_size,str_at,ht,to_nat1,hq,ec];(repeat1' with_reducible first|apply And.intro|(intro _;try exact q_v)|(refine hK _ ?_;clear hK K))<;>(try (clear hK K;exact q_u)))|(with_reducible refine q_s ?_;(first|apply q_J|apply q_K|apply q_L|apply q_M|apply q_N|apply q_O)<;>try (intro _;try exact q_v)))
  all_goals first | omega | exact q_A rfl | skip
def sIndexCT : CT:=mkCT [] true fun l K=>match l with
 | [.inl (.str s),.inl (.str t)]=>(bytesOf t).length = 1 ∧ K (.c (.i .i64 (chrI ((bytesOf t).getD 0 0) (bytesOf s))))
 | _=>False
def sd2 : Cfg:=addT 205 sIndexCT cf0
theorem sd2_ok : TblOk Tryz.prog sd2:=q_I cf0_ok Tryz.func205 fun l K h=>by
 split at h
 ·rename_i s t
  obtain ⟨h1,h⟩:=h
  obtain ⟨c,hc⟩ : ∃ c,bytesOf t = [c]:=List.length_eq_one_iff.1 h1
  have hb:=bytes_inB t c (by rw [hc]; exact List.mem_singleton.2 rfl)
  rw [hc] at h
  exact ⟨_,(sIndex_ret s t c ⟨hb.1,by have:=hb.2; omega⟩ hc).plain rfl,h⟩
 ·exact h.elim
attribute [go_sem] sIndexCT
def sdb2 : Cfg:=listT [(205,sIndexCT)] [34]
theorem sdb2_ok : TblOk Tryz.prog sdb2:=listE_ok (by simp only [List.mem_singleton,forall_eq]; exact flt) ⟨⟨sd2,sd2_ok,rfl⟩,trivial⟩
attribute [go_sem] sdb2
def sCutR (c : Int) (l : List Int) : AV:=.t [.inl (.str (strOf (cutL c l))),.inl (.str (strOf (cutR c l))),.inl (.b (cutF c l))]
set_option maxHeartbeats 1600000 in
theorem sCut_ret (s t : ByteArray) (c : Int) (ht : bytesOf t = [c]) (hm : (bytesOf s).length ≤ 100000) : Ret Tryz.prog 169 false [.inl (.str s),.inl (.str t)] (sCutR c (bytesOf s)):=by
 have hs:=str_size t
 rw [ht] at hs
 have hs : t.size = 1:=hs
 have hl:=str_size s
 have ec : ([c] : List Int).getD 0 0 = c:=rfl
 have so:=so_of s
 unfold sCutR
 cases hk : chrAt c (bytesOf s) with
 | some k =>
  obtain ⟨e1,e2,e3,e4⟩:=cut_some hk
  obtain ⟨k1,_,_⟩:=chr_some hk
  rw [e1,e2,e3]
  have x1 : s.extract 0 k = strOf ((bytesOf s).take k):=by rw [sub_so,List.drop_zero]
  have x2 : s.extract (k + 1) s.size = strOf ((bytesOf s).drop (k + 1)):=by rw [sub_so,hl,List.take_length]
  have ek : ((k : Int) + 1).toNat = k + 1:=by omega
  rw [← x1,← x2]
  (refine q_H Tryz.func169 (fun F=>?_); simp only [q_z,q_y,Tryz.ntmps169,Tryz.results169])
  repeat' (first|with_reducible refine q_0 ?_|((with_reducible first|refine q_q sdb2_ok fun K hK=>?_|refine q_r sdb2_ok fun K hK=>?_);simp (maxSteps:=2000000) only [go_sem,↓reduceIte,reduceCtorEq,Nat.reduceLeDiff,Nat.reduceLT,Nat.reduceBEq,Nat.reduceAdd,ht,hs,ec,e4,ek];(repeat1' with_reducible first|apply And.intro|(intro _;try exact q_v)|(refine hK _ ?_;clear hK K))<;>(try (clear hK K;exact q_u)))|(with_reducible refine q_s ?_;(first|apply q_J|apply q_K|apply q_L|apply q_M|apply q_N|apply q_O)<;>try (intro _;try exact q_v)))
  all_goals first | omega | exact q_A rfl | skip
 | none =>
  obtain ⟨e1,e2,e3,e4⟩:=cut_none hk
  rw [e1,e2,e3,← so]
  (refine q_H Tryz.func169 (fun F=>?_); simp only [q_z,q_y,Tryz.ntmps169,Tryz.results169])
  repeat' (first|with_reducible refine q_0 ?_|((with_reducible first|refine q_q sdb2_ok fun K hK=>?_|refine q_r sdb2_ok fun K hK=>?_);simp (maxSteps:=2000000) only [go_sem,↓reduceIte,reduceCtorEq,Nat.reduceLeDiff,Nat.reduceLT,Nat.reduceBEq,Nat.reduceAdd,ht,hs,ec,e4];(repeat1' with_reducible first|apply And.intro|(intro _;try exact q_v)|(refine hK _ ?_;clear hK K))<;>(try (clear hK K;exact q_u)))|(with_reducible refine q_s ?_;(first|apply q_J|apply q_K|apply q_L|apply q_M|apply q_N|apply q_O)<;>try (intro _;try exact q_v)))
  all_goals first | omega | exact q_A rfl | skip
def sCutCT : CT:=mkCT [] true fun l K=>match l with
 | [.inl (.str s),.inl (.str t)]=>((bytesOf t).length = 1 ∧ (bytesOf s).length ≤ 100000) ∧ K (sCutR ((bytesOf t).getD 0 0) (bytesOf s))
 | _=>False
def sd3 : Cfg:=addT 169 sCutCT cf0
theorem sd3_ok : TblOk Tryz.prog sd3:=q_I cf0_ok Tryz.func169 fun l K h=>by
 split at h
 ·rename_i s t
  obtain ⟨⟨h1,h2⟩,h⟩:=h
  obtain ⟨c,hc⟩ : ∃ c,bytesOf t = [c]:=List.length_eq_one_iff.1 h1
  rw [hc] at h
  exact ⟨_,(sCut_ret s t c hc h2).plain rfl,h⟩
 ·exact h.elim
attribute [go_sem] sCutCT sCutR
def sdb3 : Cfg:=listT [(169,sCutCT)] [34]
theorem sdb3_ok : TblOk Tryz.prog sdb3:=listE_ok (by simp only [List.mem_singleton,forall_eq]; exact flt) ⟨⟨sd3,sd3_ok,rfl⟩,trivial⟩
attribute [go_sem] sdb3
def sd4 : Cfg:=addT 99 sCutCT cf0
theorem sd4_ok : TblOk Tryz.prog sd4:=q_I cf0_ok Tryz.func99 fun l K h=>by
 split at h
 ·rename_i s t
  obtain ⟨⟨h1,h2⟩,h⟩:=h
  refine ⟨_,Ret.plain (r:=sCutR ((bytesOf t).getD 0 0) (bytesOf s)) ?_ rfl,h⟩
  (refine q_H Tryz.func99 (fun F=>?_); simp only [q_z,q_y,Tryz.ntmps99,Tryz.results99])
  repeat' (first|with_reducible refine q_0 ?_|((with_reducible first|refine q_q sdb3_ok fun K hK=>?_|refine q_r sdb3_ok fun K hK=>?_);simp (maxSteps:=2000000) only [go_sem,↓reduceIte,reduceCtorEq,Nat.reduceLeDiff,Nat.reduceLT,Nat.reduceBEq,Nat.reduceAdd,h1];(repeat1' with_reducible first|apply And.intro|(intro _;try exact q_v)|(refine hK _ ?_;clear hK K))<;>(try (clear hK K;exact q_u)))|(with_reducible refine q_s ?_;(first|apply q_J|apply q_K|apply q_L|apply q_M|apply q_N|apply q_O)<;>try (intro _;try exact q_v)))
  all_goals first | omega | exact q_A rfl | skip
 ·exact h.elim

def hasP (l m : List Int) : Bool:=decide (m.length ≤ l.length ∧ l.take m.length = m)
set_option maxHeartbeats 1600000 in
theorem sHasPrefix_ret (s t : ByteArray) : Ret Tryz.prog 199 false [.inl (.str s),.inl (.str t)] (.c (.b (hasP (bytesOf s) (bytesOf t)))):=by
 have hs:=str_size s
 have ht:=str_size t
 have he : ((s.extract 0 t.size).toList == t.toList) = decide ((bytesOf s).take (bytesOf t).length = bytesOf t):=by
  rw [str_eq,str_sub,List.drop_zero,ht]
 by_cases h : (bytesOf t).length ≤ (bytesOf s).length
 ·have e1 : hasP (bytesOf s) (bytesOf t) = decide ((bytesOf s).take (bytesOf t).length = bytesOf t):=by
   unfold hasP; congr 1; exact propext ⟨fun x=>x.2,fun x=>⟨h,x⟩⟩
  rw [e1]
  (refine q_H Tryz.func199 (fun F=>?_); simp only [q_z,q_y,Tryz.ntmps199,Tryz.results199])
  repeat' (first|with_reducible refine q_0 ?_|((with_reducible first|refine q_q sdb3_ok fun K hK=>?_|refine q_r sdb3_ok fun K hK=>?_);simp (maxSteps:=2000000) only [go_sem,↓reduceIte,reduceCtorEq,Nat.reduceLeDiff,Nat.reduceLT,Nat.reduceBEq,Nat.reduceAdd,he];(repeat1' with_reducible first|apply And.intro|(intro _;try exact q_v)|(refine hK _ ?_;clear hK K))<;>(try (clear hK K;exact q_u)))|(with_reducible refine q_s ?_;(first|apply q_J|apply q_K|apply q_L|apply q_M|apply q_N|apply q_O)<;>try (intro _;try exact q_v)))
  all_goals first | omega | exact q_A rfl | skip
 ·have e1 : hasP (bytesOf s) (bytesOf t) = false:=decide_eq_false (fun x=>h x.1)
  rw [e1]
  (refine q_H Tryz.func199 (fun F=>?_); simp only [q_z,q_y,Tryz.ntmps199,Tryz.results199])
  repeat' (first|with_reducible refine q_0 ?_|((with_reducible first|refine q_q sdb3_ok fun K hK=>?_|refine q_r sdb3_ok fun K hK=>?_);simp (maxSteps:=2000000) only [go_sem,↓reduceIte,reduceCtorEq,Nat.reduceLeDiff,Nat.reduceLT,Nat.reduceBEq,Nat.reduceAdd,he];(repeat1' with_reducible first|apply And.intro|(intro _;try exact q_v)|(refine hK _ ?_;clear hK K))<;>(try (clear hK K;exact q_u)))|(with_reducible refine q_s ?_;(first|apply q_J|apply q_K|apply q_L|apply q_M|apply q_N|apply q_O)<;>try (intro _;try exact q_v)))
  all_goals first | omega | exact q_A rfl | skip
def sHasPCT : CT:=mkCT [] true fun l K=>match l with
 | [.inl (.str s),.inl (.str t)]=>K (.c (.b (hasP (bytesOf s) (bytesOf t))))
 | _=>False
def sd5 : Cfg:=addT 199 sHasPCT cf0
theorem sd5_ok : TblOk Tryz.prog sd5:=q_I cf0_ok Tryz.func199 fun l K h=>by
 split at h
 ·exact ⟨_,(sHasPrefix_ret _ _).plain rfl,h⟩
 ·exact h.elim
attribute [go_sem] sHasPCT
def sdb4 : Cfg:=listT [(199,sHasPCT)] [34]
theorem sdb4_ok : TblOk Tryz.prog sdb4:=listE_ok (by simp only [List.mem_singleton,forall_eq]; exact flt) ⟨⟨sd5,sd5_ok,rfl⟩,trivial⟩
attribute [go_sem] sdb4
def cutPR (l m : List Int) : AV:=.t [.inl (.str (strOf (if hasP l m then l.drop m.length else l))),.inl (.b (hasP l m))]
set_option maxHeartbeats 1600000 in
theorem sCutPrefix_ret (s t : ByteArray) : Ret Tryz.prog 168 false [.inl (.str s),.inl (.str t)] (cutPR (bytesOf s) (bytesOf t)):=by
 have hs:=str_size s
 have ht:=str_size t
 have so:=so_of s
 unfold cutPR
 cases h : hasP (bytesOf s) (bytesOf t)
 ·simp only [Bool.false_eq_true,if_false]
  rw [← so]
  (refine q_H Tryz.func168 (fun F=>?_); simp only [q_z,q_y,Tryz.ntmps168,Tryz.results168])
  repeat' (first|with_reducible refine q_0 ?_|((with_reducible first|refine q_q sdb4_ok fun K hK=>?_|refine q_r sdb4_ok fun K hK=>?_);simp (maxSteps:=2000000) only [go_sem,↓reduceIte,reduceCtorEq,Nat.reduceLeDiff,Nat.reduceLT,Nat.reduceBEq,Nat.reduceAdd,h];(repeat1' with_reducible first|apply And.intro|(intro _;try exact q_v)|(refine hK _ ?_;clear hK K))<;>(try (clear hK K;exact q_u)))|(with_reducible refine q_s ?_;(first|apply q_J|apply q_K|apply q_L|apply q_M|apply q_N|apply q_O)<;>try (intro _;try exact q_v)))
  all_goals first | omega | exact q_A rfl | skip
 ·simp only [if_true]
  have h2:=(of_decide_eq_true h).1
  have x2 : s.extract t.size s.size = strOf ((bytesOf s).drop (bytesOf t).length):=by rw [sub_so,hs,List.take_length,ht]
  rw [← x2]
  (refine q_H Tryz.func168 (fun F=>?_); simp only [q_z,q_y,Tryz.ntmps168,Tryz.results168])
  repeat' (first|with_reducible refine q_0 ?_|((with_reducible first|refine q_q sdb4_ok fun K hK=>?_|refine q_r sdb4_ok fun K hK=>?_);simp (maxSteps:=2000000) only [go_sem,↓reduceIte,reduceCtorEq,Nat.reduceLeDiff,Nat.reduceLT,Nat.reduceBEq,Nat.reduceAdd,h,Int.toNat_natCast];(repeat1' with_reducible first|apply And.intro|(intro _;try exact q_v)|(refine hK _ ?_;clear hK K))<;>(try (clear hK K;exact q_u)))|(with_reducible refine q_s ?_;(first|apply q_J|apply q_K|apply q_L|apply q_M|apply q_N|apply q_O)<;>try (intro _;try exact q_v)))
  all_goals first | omega | exact q_A rfl | skip
def sCutPCT : CT:=mkCT [] true fun l K=>match l with
 | [.inl (.str s),.inl (.str t)]=>K (cutPR (bytesOf s) (bytesOf t))
 | _=>False
def sd7 : Cfg:=addT 168 sCutPCT cf0
theorem sd7_ok : TblOk Tryz.prog sd7:=q_I cf0_ok Tryz.func168 fun l K h=>by
 split at h
 ·exact ⟨_,(sCutPrefix_ret _ _).plain rfl,h⟩
 ·exact h.elim
attribute [go_sem] sCutPCT cutPR
def sdb5 : Cfg:=listT [(168,sCutPCT)] [34]
theorem sdb5_ok : TblOk Tryz.prog sdb5:=listE_ok (by simp only [List.mem_singleton,forall_eq]; exact flt) ⟨⟨sd7,sd7_ok,rfl⟩,trivial⟩
attribute [go_sem] sdb5
def sd8 : Cfg:=addT 98 sCutPCT cf0
theorem sd8_ok : TblOk Tryz.prog sd8:=q_I cf0_ok Tryz.func98 fun l K h=>by
 split at h
 ·rename_i s t
  refine ⟨_,Ret.plain (r:=cutPR (bytesOf s) (bytesOf t)) ?_ rfl,h⟩
  (refine q_H Tryz.func98 (fun F=>?_); simp only [q_z,q_y,Tryz.ntmps98,Tryz.results98])
  repeat' (first|with_reducible refine q_0 ?_|((with_reducible first|refine q_q sdb5_ok fun K hK=>?_|refine q_r sdb5_ok fun K hK=>?_);simp (maxSteps:=2000000) only [go_sem,↓reduceIte,reduceCtorEq,Nat.reduceLeDiff,Nat.reduceLT,Nat.reduceBEq,Nat.reduceAdd];(repeat1' with_reducible first|apply And.intro|(intro _;try exact q_v)|(refine hK _ ?_;clear hK K))<;>(try (clear hK K;exact q_u)))|(with_reducible refine q_s ?_;(first|apply q_J|apply q_K|apply q_L|apply q_M|apply q_N|apply q_O)<;>try (intro _;try exact q_v)))
  all_goals first | omega | exact q_A rfl | skip
 ·exact h.elim

set_option maxHeartbeats 1600000 in
theorem trimLeftByte_ret (s : ByteArray) (c : Int) : Ret Tryz.prog 171 false [.inl (.str s),.inl (.i .u8 c)] (.c (.str (strOf (dropC c (bytesOf s))))):=by
 have e0 : s = strOf ((bytesOf s).drop 0):=by rw [List.drop_zero]; exact so_of s
 have hb:=bytes_inB s
 generalize bytesOf s = l at *
 subst e0
 (refine q_H Tryz.func171 (fun F=>?_); simp only [q_z,q_y,Tryz.ntmps171,Tryz.results171])
 repeat' (first|with_reducible refine q_0 ?_|((with_reducible first|refine q_q sdb5_ok fun K hK=>?_|refine q_r sdb5_ok fun K hK=>?_);simp (maxSteps:=2000000) only [go_sem,↓reduceIte,reduceCtorEq,Nat.reduceLeDiff,Nat.reduceLT,Nat.reduceBEq,Nat.reduceAdd];(repeat1' with_reducible first|apply And.intro|(intro _;try exact q_v)|(refine hK _ ?_;clear hK K))<;>(try (clear hK K;exact q_u)))|(with_reducible refine q_s ?_;(first|apply q_J|apply q_K|apply q_L|apply q_M|apply q_N|apply q_O)<;>try (intro _;try exact q_v)))
 all_goals first | omega | skip
 generalize hT : dropC c l = T
 refine q_G (ι:={ i : Nat // i ≤ l.length ∧ dropC c (l.drop i) = T }) (fun i=>⟨17,[(0,.c (.str (strOf (l.drop i.1)))),(1,.c (.i .u8 c))],⟨[],[],[]⟩,0⟩) (fun i=>l.length - i.1) ⟨0,by omega,by rw [List.drop_zero]; exact hT⟩ ?_ ?_
 ·exact q_D
 rintro ⟨i,g1,g2⟩
 simp only at g1 g2 ⊢
 have hz:=so_size (l.drop i)
 rw [List.length_drop] at hz
 have hbb : bytesOf (strOf (l.drop i)) = l.drop i:=bytesOf_strOf _ (InB_drop hb i)
 have hat:=str_at (strOf (l.drop i)) 0
 rw [hbb] at hat
 have hx : (strOf (l.drop i)).extract 1 (strOf (l.drop i)).size = strOf (l.drop (i + 1)):=by
  rw [so_sub,so_size,List.take_length,List.drop_drop]
 rcases Nat.lt_or_ge i l.length with hi | hi
 ·have hd:=dropC_drop c l i hi
  have hg : (l.drop i).getD 0 0 = l.getD i 0:=by simp [List.getD_eq_getElem?_getD]
  rw [hg] at hat
  rw [hz] at hx
  by_cases hc : l.getD i 0 = c
  ·rw [if_pos hc] at hd
   repeat' (first|with_reducible refine q_0 ?_|((with_reducible first|refine q_q sdb5_ok fun K hK=>?_|refine q_r sdb5_ok fun K hK=>?_);simp (maxSteps:=2000000) only [go_sem,↓reduceIte,reduceCtorEq,Nat.reduceLeDiff,Nat.reduceLT,Nat.reduceBEq,Nat.reduceAdd,hz,hat,hx,to_nat1];(repeat1' with_reducible first|apply And.intro|(intro _;try exact q_v)|(refine hK _ ?_;clear hK K))<;>(try (clear hK K;exact q_u)))|(with_reducible refine q_s ?_;(first|apply q_J|apply q_K|apply q_L|apply q_M|apply q_N|apply q_O)<;>try (intro _;try exact q_v)))
   all_goals first | omega | skip
   refine q_F ⟨i + 1,hi,by rw [← hd]; exact g2⟩ ?_ (by simp only; omega)
   ((simp only [go_sem,↓reduceIte,reduceCtorEq,Nat.reduceLeDiff,Nat.reduceLT,Nat.reduceBEq,Nat.reduceAdd])<;>(try (simp;done))<;>(try ((simp only [C.i.injEq,C.b.injEq,C.ints.injEq,C.bools.injEq,List.append_cancel_left_eq,List.cons.injEq,true_and,and_true]);(repeat' with_reducible apply And.intro)<;>(first|rfl|assumption|omega|(simp;omega)|(congr 1;omega)|(congr 2;omega)))))
  ·rw [if_neg hc,g2] at hd
   subst hd
   repeat' (first|with_reducible refine q_0 ?_|((with_reducible first|refine q_q sdb5_ok fun K hK=>?_|refine q_r sdb5_ok fun K hK=>?_);simp (maxSteps:=2000000) only [go_sem,↓reduceIte,reduceCtorEq,Nat.reduceLeDiff,Nat.reduceLT,Nat.reduceBEq,Nat.reduceAdd,hz,hat,to_nat1];(repeat1' with_reducible first|apply And.intro|(intro _;try exact q_v)|(refine hK _ ?_;clear hK K))<;>(try (clear hK K;exact q_u)))|(with_reducible refine q_s ?_;(first|apply q_J|apply q_K|apply q_L|apply q_M|apply q_N|apply q_O)<;>try (intro _;try exact q_v)))
   all_goals first | omega | exact q_A rfl | skip
 ·have hi' : i = l.length:=by omega
  subst hi'
  have hn : l.drop l.length = []:=List.drop_length
  rw [hn] at hz g2
  have hT2 : ([] : List Int) = T:=g2
  subst hT2
  repeat' (first|with_reducible refine q_0 ?_|((with_reducible first|refine q_q sdb5_ok fun K hK=>?_|refine q_r sdb5_ok fun K hK=>?_);simp (maxSteps:=2000000) only [go_sem,↓reduceIte,reduceCtorEq,Nat.reduceLeDiff,Nat.reduceLT,Nat.reduceBEq,Nat.reduceAdd,hz,hn];(repeat1' with_reducible first|apply And.intro|(intro _;try exact q_v)|(refine hK _ ?_;clear hK K))<;>(try (clear hK K;exact q_u)))|(with_reducible refine q_s ?_;(first|apply q_J|apply q_K|apply q_L|apply q_M|apply q_N|apply q_O)<;>try (intro _;try exact q_v)))
  all_goals first | omega | exact q_A rfl | skip
def trimLBCT : CT:=mkCT [] true fun l K=>match l with
 | [.inl (.str s),.inl (.i .u8 c)]=>K (.c (.str (strOf (dropC c (bytesOf s)))))
 | _=>False
def sd9 : Cfg:=addT 171 trimLBCT cf0
theorem sd9_ok : TblOk Tryz.prog sd9:=q_I cf0_ok Tryz.func171 fun l K h=>by
 split at h
 ·exact ⟨_,(trimLeftByte_ret _ _).plain rfl,h⟩
 ·exact h.elim
attribute [go_sem] trimLBCT
def sdb6 : Cfg:=listT [(171,trimLBCT)] [34]
theorem sdb6_ok : TblOk Tryz.prog sdb6:=listE_ok (by simp only [List.mem_singleton,forall_eq]; exact flt) ⟨⟨sd9,sd9_ok,rfl⟩,trivial⟩
attribute [go_sem] sdb6
set_option maxHeartbeats 1600000 in
theorem trimLeft_ret (s t : ByteArray) (c : Int) (ht : bytesOf t = [c]) (hc : c < 128) : Ret Tryz.prog 102 false [.inl (.str s),.inl (.str t)] (.c (.str (strOf (dropC c (bytesOf s))))):=by
 have hs:=str_size t
 rw [ht] at hs
 have h0:=str_at t 0
 rw [ht] at h0
 have ec : ([c] : List Int).getD 0 0 = c:=rfl
 have q1 : (t.toList == (ByteArray.mk #[]).toList) = false:=by rw [str_eq,ht]; rfl
 have q2 : (s.toList == (ByteArray.mk #[]).toList) = decide (bytesOf s = []):=by rw [str_eq]; rfl
 have so:=so_of s
 by_cases hn : bytesOf s = []
 ·have e1 : strOf (dropC c (bytesOf s)) = s:=by rw [hn,so,hn]; rfl
  rw [decide_eq_true hn] at q2
  rw [e1]
  (refine q_H Tryz.func102 (fun F=>?_); simp only [q_z,q_y,Tryz.ntmps102,Tryz.results102])
  repeat' (first|with_reducible refine q_0 ?_|((with_reducible first|refine q_q sdb6_ok fun K hK=>?_|refine q_r sdb6_ok fun K hK=>?_);simp (maxSteps:=2000000) only [go_sem,↓reduceIte,reduceCtorEq,Nat.reduceLeDiff,Nat.reduceLT,Nat.reduceBEq,Nat.reduceAdd,q1,q2];(repeat1' with_reducible first|apply And.intro|(intro _;try exact q_v)|(refine hK _ ?_;clear hK K))<;>(try (clear hK K;exact q_u)))|(with_reducible refine q_s ?_;(first|apply q_J|apply q_K|apply q_L|apply q_M|apply q_N|apply q_O)<;>try (intro _;try exact q_v)))
  all_goals first | omega | exact q_A rfl | skip
 ·rw [decide_eq_false hn] at q2
  (refine q_H Tryz.func102 (fun F=>?_); simp only [q_z,q_y,Tryz.ntmps102,Tryz.results102])
  repeat' (first|with_reducible refine q_0 ?_|((with_reducible first|refine q_q sdb6_ok fun K hK=>?_|refine q_r sdb6_ok fun K hK=>?_);simp (maxSteps:=2000000) only [go_sem,↓reduceIte,reduceCtorEq,Nat.reduceLeDiff,Nat.reduceLT,Nat.reduceBEq,Nat.reduceAdd,q1,q2,hs,h0,ec];(repeat1' with_reducible first|apply And.intro|(intro _;try exact q_v)|(refine hK _ ?_;clear hK K))<;>(try (clear hK K;exact q_u)))|(with_reducible refine q_s ?_;(first|apply q_J|apply q_K|apply q_L|apply q_M|apply q_N|apply q_O)<;>try (intro _;try exact q_v)))
  all_goals first | omega | exact q_A rfl | skip
def trimLCT : CT:=mkCT [] true fun l K=>match l with
 | [.inl (.str s),.inl (.str t)]=>((bytesOf t).length = 1 ∧ (bytesOf t).getD 0 0 < 128) ∧ K (.c (.str (strOf (dropC ((bytesOf t).getD 0 0) (bytesOf s)))))
 | _=>False
def sd10 : Cfg:=addT 102 trimLCT cf0
theorem sd10_ok : TblOk Tryz.prog sd10:=q_I cf0_ok Tryz.func102 fun l K h=>by
 split at h
 ·rename_i s t
  obtain ⟨⟨h1,h2⟩,h⟩:=h
  obtain ⟨c,hc⟩ : ∃ c,bytesOf t = [c]:=List.length_eq_one_iff.1 h1
  rw [hc] at h h2
  exact ⟨_,(trimLeft_ret s t c hc h2).plain rfl,h⟩
 ·exact h.elim
attribute [go_sem] trimLCT
end Go.Proofs.YtgkajjifbcmoeaaGreatDoor
