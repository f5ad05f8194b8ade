import Derived.Laws.Externs
import Derived.Test.YtgkajjifbcmoeaaGreatDoorH17
import Derived.Test.YtgkajjifbcmoeaaGreatDoorH3
namespace Go.Proofs.YtgkajjifbcmoeaaGreatDoor
set_option linter.unusedSimpArgs false
set_option linter.unusedVariables false
open Go.Abs Go.Proofs.NatL

def idxCT : CT := mkCT [] true fun l K => match l with
 | [.inl (.ints .u8 xs), .inl (.i .u8 c)] => (xs.length ≤ 36 ∧ xs = digB xs.length) ∧ K (.c (.i .i64 (dv xs.length c)))
 | _ => False
set_option maxHeartbeats 800000 in
theorem idx_ret (b : Nat) (c : Int) (hb : b ≤ 36) : Ret Tryz.prog 176 false [.inl (.ints .u8 (digB b)), .inl (.i .u8 c)] (.c (.i .i64 (dv b c))) := by
 have hl := digB_len b
 have hg := digB_at b
 generalize digB b = xs at *
 (refine q_H Tryz.func176 (fun F => ?_); simp only [q_z,q_y,Tryz.ntmps176,Tryz.results176])
 repeat' (first|(with_reducible first|apply q_a|apply q_b|apply q_c|apply q_d|apply q_e|apply q_f|apply q_g|apply q_h|apply q_i|apply q_j|apply q_k|apply q_m|apply q_n|apply q_o|apply q_p|refine q_l ?_)|((with_reducible first|refine q_q cf0_ok fun K hK=>?_|refine q_r cf0_ok fun K hK=>?_);simp (maxSteps:=2000000) only [go_sem,↓reduceIte,reduceCtorEq,Nat.reduceLeDiff,Nat.reduceLT,Nat.reduceBEq,Nat.reduceAdd];(repeat1' with_reducible first|apply And.intro|intro _|(refine hK _ ?_;clear hK K))<;>(try (clear hK K;exact q_u)))|(with_reducible refine q_s ?_;(first|apply q_J|apply q_K|apply q_L|apply q_M|apply q_N|apply q_O)<;>try intro _)|with_reducible refine q_t ?_)
 refine q_G (ι := { i : Nat // i ≤ b ∧ dv i c = -1 }) (fun i => ⟨19, [(0, .c (.ints .u8 xs)), (1, .c (.i .u8 c)), (7, .c (.i .i64 b)), (8, .c (.i .i64 (i.1 : Nat)))], ⟨[], [], []⟩, 0⟩) (fun i => b - i.1) ⟨0, by omega, dv_zero c⟩ ?_ ?_
 ·subst hl
  exact q_D
 rintro ⟨i, g1, g2⟩
 simp only at g1 g2 ⊢
 have hs := dv_succ i
 rcases Nat.lt_or_ge i b with hi | hi
 ·have hs := hs (by omega) c
  have hg := hg i hi
  by_cases hc : c = chr (i : Int)
  ·rw [if_pos hc.symm] at hs
   have e : dv b c = i := by rw [hc]; exact dv_chr hb hi
   repeat' (first|(with_reducible first|apply q_a|apply q_b|apply q_c|apply q_d|apply q_e|apply q_f|apply q_g|apply q_h|apply q_i|apply q_j|apply q_k|apply q_m|apply q_n|apply q_o|apply q_p|refine q_l ?_)|((with_reducible first|refine q_q cf0_ok fun K hK=>?_|refine q_r cf0_ok fun K hK=>?_);simp (maxSteps:=2000000) only [go_sem,↓reduceIte,reduceCtorEq,Nat.reduceLeDiff,Nat.reduceLT,Nat.reduceBEq,Nat.reduceAdd,hg, hc];(repeat1' with_reducible first|apply And.intro|(intro _;try exact q_v)|(refine hK _ ?_;clear hK K))<;>(try (clear hK K;exact q_u)))|(with_reducible refine q_s ?_;(first|apply q_J|apply q_K|apply q_L|apply q_M|apply q_N|apply q_O)<;>try (intro _;try exact q_v))|with_reducible refine q_t ?_)
   exact q_A (by rw [e]; rfl)
  ·rw [if_neg (fun h => hc h.symm), g2] at hs
   repeat' (first|(with_reducible first|apply q_a|apply q_b|apply q_c|apply q_d|apply q_e|apply q_f|apply q_g|apply q_h|apply q_i|apply q_j|apply q_k|apply q_m|apply q_n|apply q_o|apply q_p|refine q_l ?_)|((with_reducible first|refine q_q cf0_ok fun K hK=>?_|refine q_r cf0_ok fun K hK=>?_);simp (maxSteps:=2000000) only [go_sem,↓reduceIte,reduceCtorEq,Nat.reduceLeDiff,Nat.reduceLT,Nat.reduceBEq,Nat.reduceAdd,hg, hc];(repeat1' with_reducible first|apply And.intro|(intro _;try exact q_v)|(refine hK _ ?_;clear hK K))<;>(try (clear hK K;exact q_u)))|(with_reducible refine q_s ?_;(first|apply q_J|apply q_K|apply q_L|apply q_M|apply q_N|apply q_O)<;>try (intro _;try exact q_v))|with_reducible refine q_t ?_)
   refine q_F ⟨i + 1, hi, hs⟩ ?_ (by simp only; omega)
   exact q_D
 ·have hi' : i = b := by omega
  subst hi'
  repeat' (first|(with_reducible first|apply q_a|apply q_b|apply q_c|apply q_d|apply q_e|apply q_f|apply q_g|apply q_h|apply q_i|apply q_j|apply q_k|apply q_m|apply q_n|apply q_o|apply q_p|refine q_l ?_)|((with_reducible first|refine q_q cf0_ok fun K hK=>?_|refine q_r cf0_ok fun K hK=>?_);simp (maxSteps:=2000000) only [go_sem,↓reduceIte,reduceCtorEq,Nat.reduceLeDiff,Nat.reduceLT,Nat.reduceBEq,Nat.reduceAdd];(repeat1' with_reducible first|apply And.intro|(intro _;try exact q_v)|(refine hK _ ?_;clear hK K))<;>(try (clear hK K;exact q_u)))|(with_reducible refine q_s ?_;(first|apply q_J|apply q_K|apply q_L|apply q_M|apply q_N|apply q_O)<;>try (intro _;try exact q_v))|with_reducible refine q_t ?_)
  exact q_A (by rw [g2]; rfl)
def iu6 : Cfg := addT 176 idxCT cf0
theorem iu6_ok : TblOk Tryz.prog iu6 := q_I cf0_ok Tryz.func176 fun l K h => by
 split at h
 ·rename_i xs c
  obtain ⟨⟨h1, h2⟩, h⟩ := h
  have := idx_ret xs.length c h1
  rw [← h2] at this
  exact ⟨_, this.plain rfl, h⟩
 ·exact h.elim
attribute [go_sem] idxCT digB_len
def ibv : Cfg := listT [(175, atCT), (176, idxCT), (177, fromG), (178, isignedCT)] [34]
theorem ibv_ok : TblOk Tryz.prog ibv := listE_ok (by simp only [List.mem_singleton, forall_eq]; exact flt) ⟨⟨it1, it1_ok, rfl⟩, ⟨iu6, iu6_ok, rfl⟩, ⟨nt6, nt6_ok, rfl⟩, ⟨it4, it4_ok, rfl⟩, trivial⟩
attribute [go_sem] ibv
theorem iParse_base (s : ByteArray) (b : Int) (h : b < 2 ∨ 36 < b) : Ret Tryz.prog 103 false [.inl (.str s), .inl (.i .i64 b)] (.t [.inr [.b false, .ints .u32 []], .inr [.i .i64 4, .i .i64 (-2)]]) := by
 (refine q_H Tryz.func103 (fun F => ?_); simp only [q_z,q_y,Tryz.ntmps103,Tryz.results103])
 repeat' (first|(with_reducible first|apply q_a|apply q_b|apply q_c|apply q_d|apply q_e|apply q_f|apply q_g|apply q_h|apply q_i|apply q_j|apply q_k|apply q_m|apply q_n|apply q_o|apply q_p|refine q_l ?_)|((with_reducible first|refine q_q ibv_ok fun K hK=>?_|refine q_r ibv_ok fun K hK=>?_);simp (maxSteps:=2000000) only [go_sem,↓reduceIte,reduceCtorEq,Nat.reduceLeDiff,Nat.reduceLT,Nat.reduceBEq,Nat.reduceAdd];(repeat1' with_reducible first|apply And.intro|(intro _;try exact q_v)|(refine hK _ ?_;clear hK K))<;>(try (clear hK K;exact q_u)))|(with_reducible refine q_s ?_;(first|apply q_J|apply q_K|apply q_L|apply q_M|apply q_N|apply q_O)<;>try (intro _;try exact q_v))|with_reducible refine q_t ?_)
 all_goals exact q_B [nP] rfl rfl
theorem iParse_long (s : ByteArray) (b : Int) (h1 : 2 ≤ b) (h2 : b ≤ 36) (h : 4097 < s.size) : Ret Tryz.prog 103 false [.inl (.str s), .inl (.i .i64 b)] (.t [.inr [.b false, .ints .u32 []], .inr [.i .i64 3, .i .i64 (-1)]]) := by
 (refine q_H Tryz.func103 (fun F => ?_); simp only [q_z,q_y,Tryz.ntmps103,Tryz.results103])
 repeat' (first|(with_reducible first|apply q_a|apply q_b|apply q_c|apply q_d|apply q_e|apply q_f|apply q_g|apply q_h|apply q_i|apply q_j|apply q_k|apply q_m|apply q_n|apply q_o|apply q_p|refine q_l ?_)|((with_reducible first|refine q_q ibv_ok fun K hK=>?_|refine q_r ibv_ok fun K hK=>?_);simp (maxSteps:=2000000) only [go_sem,↓reduceIte,reduceCtorEq,Nat.reduceLeDiff,Nat.reduceLT,Nat.reduceBEq,Nat.reduceAdd];(repeat1' with_reducible first|apply And.intro|(intro _;try exact q_v)|(refine hK _ ?_;clear hK K))<;>(try (clear hK K;exact q_u)))|(with_reducible refine q_s ?_;(first|apply q_J|apply q_K|apply q_L|apply q_M|apply q_N|apply q_O)<;>try (intro _;try exact q_v))|with_reducible refine q_t ?_)
 all_goals first | omega | exact q_B [nP] rfl rfl
theorem rz_val {b : Nat} {neg : Bool} {r : List Int} (hb : 2 ≤ b) (z : Int) (h : z = sg neg (rdv b (r.map (dv b)))) (hg : neg = true → 0 < rdv b (r.map (dv b))) :
  ((dg 4294967296 (rdv b (r.map (dv b)))).length ≤ 600 → sv 4294967296 neg (dg 4294967296 (rdv b (r.map (dv b)))) = z) ∧ (¬ (dg 4294967296 (rdv b (r.map (dv b)))).length ≤ 600 → cl 128 z = 0 ∧ clC 128 z = 14 ∧ clI 128 z = -1) := by
 generalize rdv b (r.map (dv b)) = m at *
 have e : sv 4294967296 neg (dg 4294967296 m) = sg neg m := sv_d (by omega) _ _
 refine ⟨fun _ => by rw [e, h], fun hl => cl_big (fun hh => hl ?_)⟩
 have : z.natAbs = m := by rw [h]; cases neg <;> simp [sg]
 rw [this] at hh; omega
set_option maxRecDepth 100000 in
set_option maxHeartbeats 3200000 in
theorem iParse_true (s : ByteArray) (b : Nat) (h1 : 2 ≤ b) (h2 : b ≤ 36) (hs : s.size ≤ 4097) (hA : 0 < (bytesOf s).length ∧ (bytesOf s).getD 0 0 = 45) (r : List Int) (hr : r = if true = true then (bytesOf s).drop 1 else bytesOf s) :
    Ret Tryz.prog 103 false [.inl (.str s), .inl (.i .i64 b)] (match pzR b true r with
      | none => .t [.inr [.b false, .ints .u32 []], .inr [.i .i64 1, .i .i64 (-1)]]
      | some z => .t [.inr (gI (cl 128 z)), .inr [.i .i64 (clC 128 z), .i .i64 (clI 128 z)]]) := by
  have hsz := str_size s
  have lit := lit_full
  have ltake := lit_take b h2
  have llen := digB_len 36
  have lb := digB_len b
  have hml : (b ≤ maxLen) = True := eq_true (by unfold maxLen; omega)
  have hin := bytes_inB s
  generalize htx : bytesOf s = tx at *
  have hR : bytesOf (s.extract 1 tx.length) = r := by
    first
      | (rw [str_sub, htx, List.take_length]; exact hr.symm)
      | (rw [htx]; exact hr.symm)
  have hlen : r.length ≤ 4097 := by
    rw [hr]
    split
    · rw [List.length_drop]; omega
    · omega
  first
    | (have hrt : r = tx := by
         rw [hr]; rfl
       subst hrt)
    | skip
  have hT : tx = [48] ↔ (true = false ∧ r = [48]) := by
    constructor
    · intro e
      first
        | (exfalso; have := hA.2; rw [e] at this; simp at this; done)
        | exact ⟨rfl, e⟩
    · rintro ⟨e1, e2⟩
      first
        | (exfalso; cases e1; done)
        | exact e2
  by_cases h0 : r = []
  · have hp : pzR b true r = none := by unfold pzR; rw [if_pos (.inl h0)]
    rw [hp]
    (refine q_H Tryz.func103 (fun F => ?_); simp only [q_z,q_y,Tryz.ntmps103,Tryz.results103])
    repeat' (first|(with_reducible first|apply q_a|apply q_b|apply q_c|apply q_d|apply q_e|apply q_f|apply q_g|apply q_h|apply q_i|apply q_j|apply q_k|apply q_m|apply q_n|apply q_o|apply q_p|refine q_l ?_)|((with_reducible first|refine q_q ibv_ok fun K hK=>?_|refine q_r ibv_ok fun K hK=>?_);simp (maxSteps:=2000000) only [go_sem,↓reduceIte,reduceCtorEq,Nat.reduceLeDiff,Nat.reduceLT,Nat.reduceBEq,Nat.reduceAdd,toNat_one, str_size, str_at, str_eq, htx, hR, h0, lit_none, lit_zero, decide_true];(repeat1' with_reducible first|apply And.intro|(intro _;try exact q_v)|(refine hK _ ?_;clear hK K))<;>(try (clear hK K;exact q_u)))|(with_reducible refine q_s ?_;(first|apply q_J|apply q_K|apply q_L|apply q_M|apply q_N|apply q_O)<;>try (intro _;try exact q_v))|with_reducible refine q_t ?_)
    all_goals first | omega | exact q_B [nP] rfl rfl
  have h0' : decide (r = []) = false := decide_eq_false h0
  have hpos : 0 < r.length := List.length_pos_iff.2 h0
  by_cases h48 : r.getD 0 0 = 48 ∧ (1 < r.length ∨ true = true)
  · have hp : pzR b true r = none := by unfold pzR; rw [if_pos (.inr h48)]
    have hT' : decide (tx = [48]) = false := decide_eq_false (fun e => by
      obtain ⟨e1, e2⟩ := hT.1 e
      rcases h48.2 with h | h
      · rw [e2] at h; simp at h
      · first | exact absurd e1 (by decide) | exact absurd h (by decide))
    have h48' := h48.1
    rw [hp]
    (refine q_H Tryz.func103 (fun F => ?_); simp only [q_z,q_y,Tryz.ntmps103,Tryz.results103])
    repeat' (first|(with_reducible first|apply q_a|apply q_b|apply q_c|apply q_d|apply q_e|apply q_f|apply q_g|apply q_h|apply q_i|apply q_j|apply q_k|apply q_m|apply q_n|apply q_o|apply q_p|refine q_l ?_)|((with_reducible first|refine q_q ibv_ok fun K hK=>?_|refine q_r ibv_ok fun K hK=>?_);simp (maxSteps:=2000000) only [go_sem,↓reduceIte,reduceCtorEq,Nat.reduceLeDiff,Nat.reduceLT,Nat.reduceBEq,Nat.reduceAdd,toNat_one, str_size, str_at, str_eq, htx, hR, h0', hT', h48', lit_none, lit_zero];(repeat1' with_reducible first|apply And.intro|(intro _;try exact q_v)|(refine hK _ ?_;clear hK K))<;>(try (clear hK K;exact q_u)))|(with_reducible refine q_s ?_;(first|apply q_J|apply q_K|apply q_L|apply q_M|apply q_N|apply q_O)<;>try (intro _;try exact q_v))|with_reducible refine q_t ?_)
    all_goals first | omega | exact q_B [nP] rfl rfl
  have hT' : r.getD 0 0 = 48 → decide (tx = [48]) = true := fun e => decide_eq_true (hT.2 (by
    have h3 : ¬ (1 < r.length ∨ true = true) := fun h => h48 ⟨e, h⟩
    refine ⟨by first | rfl | exact absurd (.inr rfl) h3, ?_⟩
    match r, hpos with
    | [x], _ => exact congrArg (fun y => [y]) (show x = 48 from e)
    | x :: y :: l, _ => exact absurd (.inl (by simp)) h3))
  have hcase : (true = false ∧ r.getD 0 0 = 48) ∨ ¬ r.getD 0 0 = 48 := by
    by_cases hz : r.getD 0 0 = 48
    · left
      refine ⟨?_, hz⟩
      first
        | rfl
        | exact absurd ⟨hz, .inr rfl⟩ h48
    · exact .inr hz
  rcases hcase with ⟨hS, hz⟩ | hz
  all_goals try (exact absurd hS (by decide))
  all_goals
    first | have hT2 := hT' hz | have hT2 := hml
    (refine q_H Tryz.func103 (fun F => ?_); simp only [q_z,q_y,Tryz.ntmps103,Tryz.results103])
    repeat' (first|(with_reducible first|apply q_a|apply q_b|apply q_c|apply q_d|apply q_e|apply q_f|apply q_g|apply q_h|apply q_i|apply q_j|apply q_k|apply q_m|apply q_n|apply q_o|apply q_p|refine q_l ?_)|((with_reducible first|refine q_q ibv_ok fun K hK=>?_|refine q_r ibv_ok fun K hK=>?_);simp (maxSteps:=2000000) only [go_sem,↓reduceIte,reduceCtorEq,Nat.reduceLeDiff,Nat.reduceLT,Nat.reduceBEq,Nat.reduceAdd,toNat_one, str_size, str_at, str_eq, htx, hR, h0', hT2, hz, lit_none, lit_zero];(repeat1' with_reducible first|apply And.intro|(intro _;try exact q_v)|(refine hK _ ?_;clear hK K))<;>(try (clear hK K;exact q_u)))|(with_reducible refine q_s ?_;(first|apply q_J|apply q_K|apply q_L|apply q_M|apply q_N|apply q_O)<;>try (intro _;try exact q_v))|with_reducible refine q_t ?_)
    try omega
    refine q_G (ι := { i : Nat // i ≤ r.length ∧ ∀ c ∈ r.take i, 0 ≤ dv b c }) (fun i => ⟨89, [(1, .c (.i .i64 b)), (4, .bx 0 0), (5, .bx 1 0), (6, .c (.str (s.extract 1 tx.length))), (7, .c (.b true)), (8, .own 2 0), (53, .c (.i .i64 r.length)), (54, .c (.i .i64 (i.1 : Nat)))], ⟨[(1, [.c (.i .i64 0), .c (.i .i64 0)]), (0, [.c (.b false), .c .nil])], [(2, ⟨0, 3, 1, .ints .i64 ((r.take i.1).map (dv b))⟩)], []⟩, 3⟩) (fun i => r.length - i.1) ⟨0, by omega, by simp⟩ ?_ ?_
    · exact q_D
    rintro ⟨i, g1, g2⟩
    simp only at g1 g2 ⊢
    have hml2 : ((r.take i).map (dv b)).length = i := by simp; omega
    have hd := dv_cases b (r.getD i 0) h2
    rcases Nat.lt_or_ge i r.length with hi | hi
    · by_cases hc : 0 ≤ dv b (r.getD i 0)
      · have hms := map_snoc (dv b) r i hi
        repeat' (first|(with_reducible first|apply q_a|apply q_b|apply q_c|apply q_d|apply q_e|apply q_f|apply q_g|apply q_h|apply q_i|apply q_j|apply q_k|apply q_m|apply q_n|apply q_o|apply q_p|refine q_l ?_)|((with_reducible first|refine q_q ibv_ok fun K hK=>?_|refine q_r ibv_ok fun K hK=>?_);simp (maxSteps:=2000000) only [go_sem,↓reduceIte,reduceCtorEq,Nat.reduceLeDiff,Nat.reduceLT,Nat.reduceBEq,Nat.reduceAdd,toNat_one, str_size, str_at, str_sub, str_eq, htx, hR, lit, ltake, llen, lb, hml, hml2];(repeat1' with_reducible first|apply And.intro|(intro _;try exact q_v)|(refine hK _ ?_;clear hK K))<;>(try (clear hK K;exact q_u)))|(with_reducible refine q_s ?_;(first|apply q_J|apply q_K|apply q_L|apply q_M|apply q_N|apply q_O)<;>try (intro _;try exact q_v))|with_reducible refine q_t ?_)
        refine q_F ⟨i + 1, hi, ?_⟩ ?_ (by simp only; omega)
        · intro c hc2
          rw [List.take_succ_eq_append_getElem hi] at hc2
          rcases List.mem_append.1 hc2 with h | h
          · exact g2 c h
          · rw [getD_eq _ _ hi] at hc
            simp at h; subst h; exact hc
        · simp only [hms]
          exact q_D
      · have hp : pzR b true r = none := by
          unfold pzR
          rw [if_neg (fun h => h.elim h0 h48), if_neg (fun h => hc (by rw [getD_eq _ _ hi]; exact h _ (List.getElem_mem hi)))]
        rw [hp]
        repeat' (first|(with_reducible first|apply q_a|apply q_b|apply q_c|apply q_d|apply q_e|apply q_f|apply q_g|apply q_h|apply q_i|apply q_j|apply q_k|apply q_m|apply q_n|apply q_o|apply q_p|refine q_l ?_)|((with_reducible first|refine q_q ibv_ok fun K hK=>?_|refine q_r ibv_ok fun K hK=>?_);simp (maxSteps:=2000000) only [go_sem,↓reduceIte,reduceCtorEq,Nat.reduceLeDiff,Nat.reduceLT,Nat.reduceBEq,Nat.reduceAdd,toNat_one, str_size, str_at, str_sub, str_eq, htx, hR, lit, ltake, llen, lb, hml, hml2];(repeat1' with_reducible first|apply And.intro|(intro _;try exact q_v)|(refine hK _ ?_;clear hK K))<;>(try (clear hK K;exact q_u)))|(with_reducible refine q_s ?_;(first|apply q_J|apply q_K|apply q_L|apply q_M|apply q_N|apply q_O)<;>try (intro _;try exact q_v))|with_reducible refine q_t ?_)
        all_goals first | omega | exact q_B [nP] rfl rfl
    · have hi' : i = r.length := by omega
      subst hi'
      rw [List.take_length] at g2
      have hp : pzR b true r = some (sg true (rdv b (r.map (dv b)))) := by
        unfold pzR
        rw [if_neg (fun h => h.elim h0 h48), if_pos g2]
      have hcan := pzR_canon h1 hp
      obtain ⟨v1, v2⟩ := rz_val h1 _ hcan.1 hcan.2.1
      have hib : InB b (r.map (dv b)) := fun x hx => by
        obtain ⟨c, hc, rfl⟩ := List.mem_map.1 hx
        have := g2 c hc
        have := dv_cases b c h2
        omega
      obtain ⟨f1, f2, f3⟩ := fit_dg (rdv b (r.map (dv b)))
      have bm := InB_dg 4294967296 (by omega) (rdv b (r.map (dv b)))
      have tm := dg_trd 4294967296 (by omega) (rdv b (r.map (dv b)))
      rw [hp]
      obtain ⟨m, hmm⟩ : ∃ m, rdv b (r.map (dv b)) = m := ⟨_, rfl⟩
      rw [hmm] at v1 v2 f1 f2 f3 bm tm ⊢
      by_cases h6 : (dg 4294967296 m).length ≤ 600
      · have v1 := v1 h6
        rw [if_pos h6] at f1 f2 f3
        have lm : (r.map (dv b)).length ≤ 140737488355328 := by rw [List.length_map]; omega
        repeat' (first|(with_reducible first|apply q_a|apply q_b|apply q_c|apply q_d|apply q_e|apply q_f|apply q_g|apply q_h|apply q_i|apply q_j|apply q_k|apply q_m|apply q_n|apply q_o|apply q_p|refine q_l ?_)|((with_reducible first|refine q_q ibv_ok fun K hK=>?_|refine q_r ibv_ok fun K hK=>?_);simp (maxSteps:=2000000) only [go_sem,↓reduceIte,reduceCtorEq,Nat.reduceLeDiff,Nat.reduceLT,Nat.reduceBEq,Nat.reduceAdd,List.take_length, hmm, f1, f2, f3, v1];(repeat1' with_reducible first|apply And.intro|(intro _;try exact q_v)|(refine hK _ ?_;clear hK K))<;>(try (clear hK K;exact q_u)))|(with_reducible refine q_s ?_;(first|apply q_J|apply q_K|apply q_L|apply q_M|apply q_N|apply q_O)<;>try (intro _;try exact q_v))|with_reducible refine q_t ?_)
        exact q_A rfl
      · obtain ⟨w1, w2, w3⟩ := v2 h6
        rw [if_neg h6] at f1 f2 f3
        have lm : (r.map (dv b)).length ≤ 140737488355328 := by rw [List.length_map]; omega
        repeat' (first|(with_reducible first|apply q_a|apply q_b|apply q_c|apply q_d|apply q_e|apply q_f|apply q_g|apply q_h|apply q_i|apply q_j|apply q_k|apply q_m|apply q_n|apply q_o|apply q_p|refine q_l ?_)|((with_reducible first|refine q_q ibv_ok fun K hK=>?_|refine q_r ibv_ok fun K hK=>?_);simp (maxSteps:=2000000) only [go_sem,↓reduceIte,reduceCtorEq,Nat.reduceLeDiff,Nat.reduceLT,Nat.reduceBEq,Nat.reduceAdd,List.take_length, hmm, f1, f2, f3];(repeat1' with_reducible first|apply And.intro|(intro _;try exact q_v)|(refine hK _ ?_;clear hK K))<;>(try (clear hK K;exact q_u)))|(with_reducible refine q_s ?_;(first|apply q_J|apply q_K|apply q_L|apply q_M|apply q_N|apply q_O)<;>try (intro _;try exact q_v))|with_reducible refine q_t ?_)
        exact q_B [nP] rfl (by simp only [norm, nz, nzL, resAV, w1, w2, w3, dg_zeroA]; rfl)
set_option maxRecDepth 100000 in
set_option maxHeartbeats 3200000 in
theorem iParse_false (s : ByteArray) (b : Nat) (h1 : 2 ≤ b) (h2 : b ≤ 36) (hs : s.size ≤ 4097) (hA : ¬ (0 < (bytesOf s).length ∧ (bytesOf s).getD 0 0 = 45)) (r : List Int) (hr : r = if false = true then (bytesOf s).drop 1 else bytesOf s) :
    Ret Tryz.prog 103 false [.inl (.str s), .inl (.i .i64 b)] (match pzR b false r with
      | none => .t [.inr [.b false, .ints .u32 []], .inr [.i .i64 1, .i .i64 (-1)]]
      | some z => .t [.inr (gI (cl 128 z)), .inr [.i .i64 (clC 128 z), .i .i64 (clI 128 z)]]) := by
  have hsz := str_size s
  have lit := lit_full
  have ltake := lit_take b h2
  have llen := digB_len 36
  have lb := digB_len b
  have hml : (b ≤ maxLen) = True := eq_true (by unfold maxLen; omega)
  have hin := bytes_inB s
  generalize htx : bytesOf s = tx at *
  have hR : bytesOf s = r := by
    first
      | (rw [str_sub, htx, List.take_length]; exact hr.symm)
      | (rw [htx]; exact hr.symm)
  have hlen : r.length ≤ 4097 := by
    rw [hr]
    split
    · rw [List.length_drop]; omega
    · omega
  first
    | (have hrt : r = tx := by
         rw [hr]; rfl
       subst hrt)
    | skip
  have hT : r = [48] ↔ (false = false ∧ r = [48]) := by
    constructor
    · intro e
      first
        | (exfalso; have := hA.2; rw [e] at this; simp at this; done)
        | exact ⟨rfl, e⟩
    · rintro ⟨e1, e2⟩
      first
        | (exfalso; cases e1; done)
        | exact e2
  by_cases h0 : r = []
  · have hp : pzR b false r = none := by unfold pzR; rw [if_pos (.inl h0)]
    rw [hp]
    (refine q_H Tryz.func103 (fun F => ?_); simp only [q_z,q_y,Tryz.ntmps103,Tryz.results103])
    repeat' (first|(with_reducible first|apply q_a|apply q_b|apply q_c|apply q_d|apply q_e|apply q_f|apply q_g|apply q_h|apply q_i|apply q_j|apply q_k|apply q_m|apply q_n|apply q_o|apply q_p|refine q_l ?_)|((with_reducible first|refine q_q ibv_ok fun K hK=>?_|refine q_r ibv_ok fun K hK=>?_);simp (maxSteps:=2000000) only [go_sem,↓reduceIte,reduceCtorEq,Nat.reduceLeDiff,Nat.reduceLT,Nat.reduceBEq,Nat.reduceAdd,toNat_one, str_size, str_at, str_eq, htx, hR, h0, lit_none, lit_zero, decide_true];(repeat1' with_reducible first|apply And.intro|(intro _;try exact q_v)|(refine hK _ ?_;clear hK K))<;>(try (clear hK K;exact q_u)))|(with_reducible refine q_s ?_;(first|apply q_J|apply q_K|apply q_L|apply q_M|apply q_N|apply q_O)<;>try (intro _;try exact q_v))|with_reducible refine q_t ?_)
    all_goals first | omega | exact q_B [nP] rfl rfl
  have h0' : decide (r = []) = false := decide_eq_false h0
  have hpos : 0 < r.length := List.length_pos_iff.2 h0
  by_cases h48 : r.getD 0 0 = 48 ∧ (1 < r.length ∨ false = true)
  · have hp : pzR b false r = none := by unfold pzR; rw [if_pos (.inr h48)]
    have hT' : decide (r = [48]) = false := decide_eq_false (fun e => by
      obtain ⟨e1, e2⟩ := hT.1 e
      rcases h48.2 with h | h
      · rw [e2] at h; simp at h
      · first | exact absurd e1 (by decide) | exact absurd h (by decide))
    have h48' := h48.1
    rw [hp]
    (refine q_H Tryz.func103 (fun F => ?_); simp only [q_z,q_y,Tryz.ntmps103,Tryz.results103])
    repeat' (first|(with_reducible first|apply q_a|apply q_b|apply q_c|apply q_d|apply q_e|apply q_f|apply q_g|apply q_h|apply q_i|apply q_j|apply q_k|apply q_m|apply q_n|apply q_o|apply q_p|refine q_l ?_)|((with_reducible first|refine q_q ibv_ok fun K hK=>?_|refine q_r ibv_ok fun K hK=>?_);simp (maxSteps:=2000000) only [go_sem,↓reduceIte,reduceCtorEq,Nat.reduceLeDiff,Nat.reduceLT,Nat.reduceBEq,Nat.reduceAdd,toNat_one, str_size, str_at, str_eq, htx, hR, h0', hT', h48', lit_none, lit_zero];(repeat1' with_reducible first|apply And.intro|(intro _;try exact q_v)|(refine hK _ ?_;clear hK K))<;>(try (clear hK K;exact q_u)))|(with_reducible refine q_s ?_;(first|apply q_J|apply q_K|apply q_L|apply q_M|apply q_N|apply q_O)<;>try (intro _;try exact q_v))|with_reducible refine q_t ?_)
    all_goals first | omega | exact q_B [nP] rfl rfl
  have hT' : r.getD 0 0 = 48 → decide (r = [48]) = true := fun e => decide_eq_true (hT.2 (by
    have h3 : ¬ (1 < r.length ∨ false = true) := fun h => h48 ⟨e, h⟩
    refine ⟨by first | rfl | exact absurd (.inr rfl) h3, ?_⟩
    match r, hpos with
    | [x], _ => exact congrArg (fun y => [y]) (show x = 48 from e)
    | x :: y :: l, _ => exact absurd (.inl (by simp)) h3))
  have hcase : (false = false ∧ r.getD 0 0 = 48) ∨ ¬ r.getD 0 0 = 48 := by
    by_cases hz : r.getD 0 0 = 48
    · left
      refine ⟨?_, hz⟩
      first
        | rfl
        | exact absurd ⟨hz, .inr rfl⟩ h48
    · exact .inr hz
  rcases hcase with ⟨hS, hz⟩ | hz
  all_goals try (exact absurd hS (by decide))
  all_goals
    first | have hT2 := hT' hz | have hT2 := hml
    (refine q_H Tryz.func103 (fun F => ?_); simp only [q_z,q_y,Tryz.ntmps103,Tryz.results103])
    repeat' (first|(with_reducible first|apply q_a|apply q_b|apply q_c|apply q_d|apply q_e|apply q_f|apply q_g|apply q_h|apply q_i|apply q_j|apply q_k|apply q_m|apply q_n|apply q_o|apply q_p|refine q_l ?_)|((with_reducible first|refine q_q ibv_ok fun K hK=>?_|refine q_r ibv_ok fun K hK=>?_);simp (maxSteps:=2000000) only [go_sem,↓reduceIte,reduceCtorEq,Nat.reduceLeDiff,Nat.reduceLT,Nat.reduceBEq,Nat.reduceAdd,toNat_one, str_size, str_at, str_eq, htx, hR, h0', hT2, hz, lit_none, lit_zero];(repeat1' with_reducible first|apply And.intro|(intro _;try exact q_v)|(refine hK _ ?_;clear hK K))<;>(try (clear hK K;exact q_u)))|(with_reducible refine q_s ?_;(first|apply q_J|apply q_K|apply q_L|apply q_M|apply q_N|apply q_O)<;>try (intro _;try exact q_v))|with_reducible refine q_t ?_)
    try omega
    refine q_G (ι := { i : Nat // i ≤ r.length ∧ ∀ c ∈ r.take i, 0 ≤ dv b c }) (fun i => ⟨89, [(1, .c (.i .i64 b)), (4, .bx 0 0), (5, .bx 1 0), (6, .c (.str s)), (7, .c (.b false)), (8, .own 2 0), (53, .c (.i .i64 r.length)), (54, .c (.i .i64 (i.1 : Nat)))], ⟨[(1, [.c (.i .i64 0), .c (.i .i64 0)]), (0, [.c (.b false), .c .nil])], [(2, ⟨0, 3, 1, .ints .i64 ((r.take i.1).map (dv b))⟩)], []⟩, 3⟩) (fun i => r.length - i.1) ⟨0, by omega, by simp⟩ ?_ ?_
    · exact q_D
    rintro ⟨i, g1, g2⟩
    simp only at g1 g2 ⊢
    have hml2 : ((r.take i).map (dv b)).length = i := by simp; omega
    have hd := dv_cases b (r.getD i 0) h2
    rcases Nat.lt_or_ge i r.length with hi | hi
    · by_cases hc : 0 ≤ dv b (r.getD i 0)
      · have hms := map_snoc (dv b) r i hi
        repeat' (first|(with_reducible first|apply q_a|apply q_b|apply q_c|apply q_d|apply q_e|apply q_f|apply q_g|apply q_h|apply q_i|apply q_j|apply q_k|apply q_m|apply q_n|apply q_o|apply q_p|refine q_l ?_)|((with_reducible first|refine q_q ibv_ok fun K hK=>?_|refine q_r ibv_ok fun K hK=>?_);simp (maxSteps:=2000000) only [go_sem,↓reduceIte,reduceCtorEq,Nat.reduceLeDiff,Nat.reduceLT,Nat.reduceBEq,Nat.reduceAdd,toNat_one, str_size, str_at, str_sub, str_eq, htx, hR, lit, ltake, llen, lb, hml, hml2];(repeat1' with_reducible first|apply And.intro|(intro _;try exact q_v)|(refine hK _ ?_;clear hK K))<;>(try (clear hK K;exact q_u)))|(with_reducible refine q_s ?_;(first|apply q_J|apply q_K|apply q_L|apply q_M|apply q_N|apply q_O)<;>try (intro _;try exact q_v))|with_reducible refine q_t ?_)
        refine q_F ⟨i + 1, hi, ?_⟩ ?_ (by simp only; omega)
        · intro c hc2
          rw [List.take_succ_eq_append_getElem hi] at hc2
          rcases List.mem_append.1 hc2 with h | h
          · exact g2 c h
          · rw [getD_eq _ _ hi] at hc
            simp at h; subst h; exact hc
        · simp only [hms]
          exact q_D
      · have hp : pzR b false r = none := by
          unfold pzR
          rw [if_neg (fun h => h.elim h0 h48), if_neg (fun h => hc (by rw [getD_eq _ _ hi]; exact h _ (List.getElem_mem hi)))]
        rw [hp]
        repeat' (first|(with_reducible first|apply q_a|apply q_b|apply q_c|apply q_d|apply q_e|apply q_f|apply q_g|apply q_h|apply q_i|apply q_j|apply q_k|apply q_m|apply q_n|apply q_o|apply q_p|refine q_l ?_)|((with_reducible first|refine q_q ibv_ok fun K hK=>?_|refine q_r ibv_ok fun K hK=>?_);simp (maxSteps:=2000000) only [go_sem,↓reduceIte,reduceCtorEq,Nat.reduceLeDiff,Nat.reduceLT,Nat.reduceBEq,Nat.reduceAdd,toNat_one, str_size, str_at, str_sub, str_eq, htx, hR, lit, ltake, llen, lb, hml, hml2];(repeat1' with_reducible first|apply And.intro|(intro _;try exact q_v)|(refine hK _ ?_;clear hK K))<;>(try (clear hK K;exact q_u)))|(with_reducible refine q_s ?_;(first|apply q_J|apply q_K|apply q_L|apply q_M|apply q_N|apply q_O)<;>try (intro _;try exact q_v))|with_reducible refine q_t ?_)
        all_goals first | omega | exact q_B [nP] rfl rfl
    · have hi' : i = r.length := by omega
      subst hi'
      rw [List.take_length] at g2
      have hp : pzR b false r = some (sg false (rdv b (r.map (dv b)))) := by
        unfold pzR
        rw [if_neg (fun h => h.elim h0 h48), if_pos g2]
      have hcan := pzR_canon h1 hp
      obtain ⟨v1, v2⟩ := rz_val h1 _ hcan.1 hcan.2.1
      have hib : InB b (r.map (dv b)) := fun x hx => by
        obtain ⟨c, hc, rfl⟩ := List.mem_map.1 hx
        have := g2 c hc
        have := dv_cases b c h2
        omega
      obtain ⟨f1, f2, f3⟩ := fit_dg (rdv b (r.map (dv b)))
      have bm := InB_dg 4294967296 (by omega) (rdv b (r.map (dv b)))
      have tm := dg_trd 4294967296 (by omega) (rdv b (r.map (dv b)))
      rw [hp]
      obtain ⟨m, hmm⟩ : ∃ m, rdv b (r.map (dv b)) = m := ⟨_, rfl⟩
      rw [hmm] at v1 v2 f1 f2 f3 bm tm ⊢
      by_cases h6 : (dg 4294967296 m).length ≤ 600
      · have v1 := v1 h6
        rw [if_pos h6] at f1 f2 f3
        have lm : (r.map (dv b)).length ≤ 140737488355328 := by rw [List.length_map]; omega
        repeat' (first|(with_reducible first|apply q_a|apply q_b|apply q_c|apply q_d|apply q_e|apply q_f|apply q_g|apply q_h|apply q_i|apply q_j|apply q_k|apply q_m|apply q_n|apply q_o|apply q_p|refine q_l ?_)|((with_reducible first|refine q_q ibv_ok fun K hK=>?_|refine q_r ibv_ok fun K hK=>?_);simp (maxSteps:=2000000) only [go_sem,↓reduceIte,reduceCtorEq,Nat.reduceLeDiff,Nat.reduceLT,Nat.reduceBEq,Nat.reduceAdd,List.take_length, hmm, f1, f2, f3, v1];(repeat1' with_reducible first|apply And.intro|(intro _;try exact q_v)|(refine hK _ ?_;clear hK K))<;>(try (clear hK K;exact q_u)))|(with_reducible refine q_s ?_;(first|apply q_J|apply q_K|apply q_L|apply q_M|apply q_N|apply q_O)<;>try (intro _;try exact q_v))|with_reducible refine q_t ?_)
        exact q_A rfl
      · obtain ⟨w1, w2, w3⟩ := v2 h6
        rw [if_neg h6] at f1 f2 f3
        have lm : (r.map (dv b)).length ≤ 140737488355328 := by rw [List.length_map]; omega
        repeat' (first|(with_reducible first|apply q_a|apply q_b|apply q_c|apply q_d|apply q_e|apply q_f|apply q_g|apply q_h|apply q_i|apply q_j|apply q_k|apply q_m|apply q_n|apply q_o|apply q_p|refine q_l ?_)|((with_reducible first|refine q_q ibv_ok fun K hK=>?_|refine q_r ibv_ok fun K hK=>?_);simp (maxSteps:=2000000) only [go_sem,↓reduceIte,reduceCtorEq,Nat.reduceLeDiff,Nat.reduceLT,Nat.reduceBEq,Nat.reduceAdd,List.take_length, hmm, f1, f2, f3];(repeat1' with_reducible first|apply And.intro|(intro _;try exact q_v)|(refine hK _ ?_;clear hK K))<;>(try (clear hK K;exact q_u)))|(with_reducible refine q_s ?_;(first|apply q_J|apply q_K|apply q_L|apply q_M|apply q_N|apply q_O)<;>try (intro _;try exact q_v))|with_reducible refine q_t ?_)
        exact q_B [nP] rfl (by simp only [norm, nz, nzL, resAV, w1, w2, w3, dg_zeroA]; rfl)
def parseO (b : Nat) (l : List Int) : AV := match pz b l with
 | none => .t [.inr [.b false, .ints .u32 []], .inr [.i .i64 1, .i .i64 (-1)]]
 | some z => .t [.inr (gI (cl 128 z)), .inr [.i .i64 (clC 128 z), .i .i64 (clI 128 z)]]
def iParseCT : CT := mkCT [] false fun l K => match l with
 | [.inl (.str s), .inl (.i .i64 b)] => ((b < 2 ∨ 36 < b) → K (.t [.inr [.b false, .ints .u32 []], .inr [.i .i64 4, .i .i64 (-2)]])) ∧
   (2 ≤ b ∧ b ≤ 36 → (4097 < (bytesOf s).length → K (.t [.inr [.b false, .ints .u32 []], .inr [.i .i64 3, .i .i64 (-1)]])) ∧
    ((bytesOf s).length ≤ 4097 → K (parseO b.toNat (bytesOf s))))
 | _ => False
def iu7 : Cfg := addT 103 iParseCT cf0
theorem iu7_ok : TblOk Tryz.prog iu7 := q_I cf0_ok Tryz.func103 fun l K h => by
 split at h
 ·rename_i s b
  obtain ⟨h1, h2⟩ := h
  rw [← str_size] at h2
  by_cases hb : b < 2 ∨ 36 < b
  ·exact ⟨_, iParse_base s b hb, h1 hb⟩
  ·have h2 := h2 (by omega)
   obtain ⟨n, rfl⟩ : ∃ n : Nat, b = n := ⟨b.toNat, by omega⟩
   by_cases hs : 4097 < s.size
   ·exact ⟨_, iParse_long s n (by omega) (by omega) hs, h2.1 hs⟩
   ·have h2 := h2.2 (by omega)
    rw [Int.toNat_natCast] at h2
    refine ⟨parseO n (bytesOf s), ?_, h2⟩
    unfold parseO pz
    by_cases hA : 0 < (bytesOf s).length ∧ (bytesOf s).getD 0 0 = 45
    ·rw [if_pos hA]
     exact iParse_true s n (by omega) (by omega) (by omega) hA _ rfl
    ·rw [if_neg hA]
     exact iParse_false s n (by omega) (by omega) (by omega) hA _ rfl
 ·exact h.elim
attribute [go_sem] iParseCT
end Go.Proofs.YtgkajjifbcmoeaaGreatDoor

namespace Go.Abs
set_option linter.unusedSimpArgs false
set_option linter.unusedVariables false
open Go.RowKit
variable {P : Program}

theorem ext_opQ {H : Hp} {nx : Nat} {f : FuncId} {fn : Func} {e : Array Value → Sem Value} (hf : P.funcs[f]? = some fn) (hname : (fn.name == "runtime.NumGoroutine") = false) (hb : fn.body.isNone = true) (hn : Extern.findNext fn = none) (he : Extern.find fn = some e)
  {o : Oper} {ev : Operand → AV} {args : Array Operand} {ts : Array TypeId} (ho : o.op = .call { callee := .value (.func f), args, argTypes := ts }) (hev : ev (.func f) = .c (.a (.func (.func f) #[] #[]))) {r : AV}
  (hrun : ∀ (F : Fr) (H : Hp) (m : Mp) (w : World) (ρ : Operand → Value), (∀ x ∈ args, RepA F H m w (ev x) (ρ x)) → ∃ v, (e (args.map ρ)).run P w = .ok v w ∧ RepA F H m w r v) (F : Fr) : OpQ P F H nx nx o ev r := by
 refine OpQ.of_ext fun H' m w ρ hsup hrep hops => ?_
 obtain ⟨cvs, hρf, hcs, _⟩ := fnA_rep (x := ev (.func f)) (f := f) (caps := []) (by rw [hev]; rfl) (hops (.func f) (by simp [ho, Op.operands, Call.operands]))
 have hc0 : cvs = #[] := Array.eq_empty_of_size_eq_zero hcs
 subst hc0
 obtain ⟨v, hv, hr⟩ := hrun F H' m w ρ (fun x hx => hops x (by simp only [ho, Op.operands, Call.operands]; simp [hx]))
 have hx : (execOp ρ o).run P w = .ok (.value v) w := by
  have h1 : (execOp ρ o).run P w = (callFunc f (args.map ρ)).run P w := by
   simp [execOp, ho, resolve, Deferred.ofValue, hρf, invoke, Sem.run]
  rw [h1, run_callFunc_extern hf hname hb hn he, hv]
  rfl
 unfold Exec
 rw [hx]
 exact ⟨Below.refl _ _, hr⟩
def RunX (P : Program) (cf : Cfg) : List Oper → St → (St → Prop) → Prop
 | [], st, K => K st
 | o :: os, st, K => o.guard = none ∧ ∃ r st', OpS P cf st st' o r ∧ RunX P cf os (st'.putO o.dst r) K
theorem runX_sound {cf : Cfg} {ops : Array Oper} {F : Fr} {K : St → Prop} : ∀ (os : List Oper) (k : Nat) (st : St) (m : Mp) (a : Act) (w : World) (Q : Exit → Act → World → Prop),
  (∀ i, i < os.length → ops[k + i]? = os[i]?) → (∀ st m a w, K st → StRep F st m a w → Q .normal a w) → StRep F st m a w → RunX P cf os st K → wpOps P ops Q (List.range' k os.length) a w
 | [], k, st, m, a, w, Q, _, hK, hs, h => hK st m a w h hs
 | o :: os, k, st, m, a, w, Q, hidx, hK, hs, h => by
  have h0 : ops[k]? = some o := by simpa using hidx 0 (by simp)
  have hrest : ∀ i, i < os.length → ops[k + 1 + i]? = os[i]? := fun i hi => by
   have := hidx (i + 1) (by simpa using hi)
   rw [show k + 1 + i = k + (i + 1) by omega]; simpa using this
  rw [List.length_cons, List.range'_succ, wpOps_cons]
  unfold wpOp
  simp only [h0]
  obtain ⟨hg, r, st', hop, hk⟩ := h
  have hw : Region.wanted o (yielded ops a.tmps) = true := by simp [Region.wanted, hg]
  rw [if_pos hw]
  exact .inl ((hop.exec hs).wp fun v w' ⟨m', h1, h2⟩ => runX_sound os (k + 1) _ m' _ w' Q hrest hK (h1.putO o.dst h2) hk)
theorem awp_regionX (cf : Cfg) {F : Fr} {Q : Exit → St → Prop} {st : St} {id : Nat} {ops : Array Oper} (h : RunX P cf ops.toList st (Q .normal)) : AWp P F (.region id ops false) Q st := fun m a w hs => by
 refine wp_region ?_
 have := runX_sound (ops := ops) (F := F) (K := Q .normal) ops.toList 0 st m a w (fun e a' w' => ∃ st' m', Q e st' ∧ StRep F st' m' a' w') (fun i hi => by simp) (fun st m a w hK hs => ⟨st, m, hK, hs⟩) hs h
 rw [List.range_eq_range']
 simpa using this
theorem ext_indexByte {H : Hp} {nx : Nat} {f : FuncId} {fn : Func} (hf : P.funcs[f]? = some fn) (hname : (fn.name == "runtime.NumGoroutine") = false) (hb : fn.body.isNone = true) (hn : Extern.findNext fn = none) (he : Extern.find fn = some Extern.BytealgIndexByte.indexByte)
  {o : Oper} {ev : Operand → AV} {x y : Operand} {ts : Array TypeId} (ho : o.op = .call { callee := .value (.func f), args := #[x, y], argTypes := ts }) (hev : ev (.func f) = .c (.a (.func (.func f) #[] #[])))
  {s : ByteArray} {c : Int} (hx : ev x = .c (.str s)) (hy : ev y = .c (.i .u8 c)) (F : Fr) : OpQ P F H nx nx o ev (.c (.i .i64 (firstIdx s c.toNat.toUInt8))) := by
 refine ext_opQ hf hname hb hn he ho hev (fun F H m w ρ hr => ?_) F
 have h1 := hr x (by simp)
 have h2 := hr y (by simp)
 rw [hx] at h1
 rw [hy] at h2
 have e1 : ρ x = .string s := rd_str h1
 have e2 : ρ y = .int .u8 c := rep_i h2
 refine ⟨_, ?_, rep_int F H m w .i64 _⟩
 have : (#[x, y].map ρ) = #[.string s, .int .u8 c] := by simp [e1, e2]
 rw [this]
 exact run_indexByte_string s c w
end Go.Abs
