import Derived.Test.YtgkajjifbcmoeaaGreatDoorH15
import Derived.Test.YtgkajjifbcmoeaaGreatDoorH17
import Derived.Test.YtgkajjifbcmoeaaGreatDoorH18
namespace Go.Proofs.NatL
set_option linter.unusedSimpArgs false
set_option linter.unusedVariables false
open Go.Abs
theorem so_data (l : List Int) : (strOf l).data.toList = l.map fun n => UInt8.ofNat n.toNat := by
 have key : ∀ (l : List Int) (r : ByteArray), (l.foldl (fun r n => r.push (UInt8.ofNat n.toNat)) r).data.toList = r.data.toList ++ l.map fun n => UInt8.ofNat n.toNat := by
  intro l
  induction l with
  | nil => intro r; simp
  | cons x l ih => intro r; rw [List.foldl_cons, ih]; simp [ByteArray.push]
 have := key l ByteArray.empty
 simpa [strOf] using this
theorem ba_ext {s t : ByteArray} (h : s.data.toList = t.data.toList) : s = t := by
 cases s; cases t; simp only [ByteArray.mk.injEq] at *; exact Array.ext' h
theorem so_app (l m : List Int) : strOf l ++ strOf m = strOf (l ++ m) := by
 refine ba_ext ?_
 rw [so_data, List.map_append, ← so_data, ← so_data]
 simp [ByteArray.data_append]
theorem so_size (l : List Int) : (strOf l).size = l.length := by
 have h := congrArg List.length (so_data l)
 simp only [Array.length_toList, List.length_map] at h
 exact h
theorem so_sub (l : List Int) (a b : Nat) : (strOf l).extract a b = strOf ((l.take b).drop a) := by
 refine ba_ext ?_
 rw [so_data, ByteArray.data_extract]
 simp only [Array.toList_extract, so_data, List.extract_eq_take_drop, List.map_drop, List.map_take]
 rw [← List.map_take, ← List.map_drop, ← List.map_drop, ← List.map_take]
 rw [List.drop_take]
theorem so_of (s : ByteArray) : s = strOf (bytesOf s) := by
 refine ba_ext ?_
 rw [so_data, bytesOf, List.map_map]
 symm
 refine List.map_id'' (fun x => ?_) _
 simp
theorem sub_so (s : ByteArray) (a b : Nat) : s.extract a b = strOf (((bytesOf s).take b).drop a) := by
 rw [← so_sub, ← so_of]
def chrAt (c : Int) (l : List Int) : Option Nat := l.findIdx? (fun x => decide (x = c))
theorem chr_some {c : Int} {l : List Int} {k : Nat} (h : chrAt c l = some k) : k < l.length ∧ l.getD k 0 = c ∧ ∀ j, j < k → l.getD j 0 ≠ c := by
 unfold chrAt at h
 rw [List.findIdx?_eq_some_iff_getElem] at h
 obtain ⟨h1, h2, h3⟩ := h
 refine ⟨h1, ?_, fun j hj => ?_⟩
 ·rw [getD_eq l k h1]; simpa using h2
 ·have := h3 j hj
  rw [getD_eq l j (by omega)]; simpa using this
theorem chr_none {c : Int} {l : List Int} (h : chrAt c l = none) : ∀ x ∈ l, x ≠ c := by
 unfold chrAt at h
 rw [List.findIdx?_eq_none_iff] at h
 intro x hx
 simpa using h x hx
def chrI (c : Int) (l : List Int) : Int := match chrAt c l with | some k => (k : Int) | none => -1
def cutL (c : Int) (l : List Int) : List Int := match chrAt c l with | some k => l.take k | none => l
def cutR (c : Int) (l : List Int) : List Int := match chrAt c l with | some k => l.drop (k + 1) | none => []
def cutF (c : Int) (l : List Int) : Bool := (chrAt c l).isSome
theorem cut_some {c : Int} {l : List Int} {k : Nat} (h : chrAt c l = some k) : cutL c l = l.take k ∧ cutR c l = l.drop (k + 1) ∧ cutF c l = true ∧ chrI c l = k := by
 unfold cutL cutR cutF chrI; rw [h]; exact ⟨rfl, rfl, rfl, rfl⟩
theorem cut_none {c : Int} {l : List Int} (h : chrAt c l = none) : cutL c l = l ∧ cutR c l = [] ∧ cutF c l = false ∧ chrI c l = -1 := by
 unfold cutL cutR cutF chrI; rw [h]; exact ⟨rfl, rfl, rfl, rfl⟩
def dropC (c : Int) (l : List Int) : List Int := l.dropWhile (fun x => decide (x = c))
theorem dropC_cons (c x : Int) (l : List Int) : dropC c (x :: l) = if x = c then dropC c l else x :: l := by
 unfold dropC; rw [List.dropWhile_cons]; by_cases h : x = c <;> simp [h]
theorem dropC_drop (c : Int) (l : List Int) (i : Nat) (h : i < l.length) : dropC c (l.drop i) = if l.getD i 0 = c then dropC c (l.drop (i + 1)) else l.drop i := by
 rw [List.drop_eq_getElem_cons h, dropC_cons, getD_eq l i h]
def dgs (l : List Int) : Bool := !l.isEmpty && l.all fun c => decide (48 ≤ c ∧ c ≤ 57)
end Go.Proofs.NatL
namespace Go.Abs
set_option linter.unusedSimpArgs false
set_option linter.unusedVariables false
variable {P : Program}
theorem opS_moveX {cf : Cfg} (hcf : TblOk P cf) {st : St} {o : Oper} {x : Operand} (ho : o.op = .move x) : OpS P cf st st o (st.ev x) := by
 obtain ⟨r, st', ⟨rfl, rfl⟩, h⟩ := opE_sound (st := st) (o := o) hcf (K := fun r st' => r = st.ev x ∧ st' = st) (by rw [ho]; exact ⟨rfl, rfl⟩)
 exact h
theorem opS_assignX {cf : Cfg} (hcf : TblOk P cf) {st : St} {o : Oper} {x : Operand} (ho : o.op = .assign x) : OpS P cf st st o (st.ev x) := by
 obtain ⟨r, st', ⟨rfl, rfl⟩, h⟩ := opE_sound (st := st) (o := o) hcf (K := fun r st' => r = st.ev x ∧ st' = st) (by rw [ho]; exact ⟨rfl, rfl⟩)
 exact h
end Go.Abs
namespace Go.Proofs.YtgkajjifbcmoeaaGreatDoor
set_option linter.unusedSimpArgs false
set_option linter.unusedVariables false
open Go.Abs Go.Proofs.NatL

theorem sIndexByte_ret (s : ByteArray) (c : Int) : Ret Tryz.prog 222 false [.inl (.str s), .inl (.i .u8 c)] (.c (.i .i64 (firstIdx s c.toNat.toUInt8))) := by
 (refine q_H Tryz.func222 (fun F => ?_); simp only [q_z,q_y,Tryz.ntmps222,Tryz.results222])
 repeat' (first|(with_reducible first|apply q_a|apply q_b|apply q_c|apply q_d|apply q_e|apply q_f|apply q_g|apply q_h|apply q_i|apply q_j|apply q_k|apply q_m|apply q_n|apply q_o|apply q_p|refine q_l ?_)|((with_reducible first|refine q_q cf0_ok fun K hK=>?_|refine q_r cf0_ok fun K hK=>?_);simp (maxSteps:=2000000) only [go_sem,↓reduceIte,reduceCtorEq,Nat.reduceLeDiff,Nat.reduceLT,Nat.reduceBEq,Nat.reduceAdd];(repeat1' with_reducible first|apply And.intro|intro _|(refine hK _ ?_;clear hK K))<;>(try (clear hK K;exact q_u)))|(with_reducible refine q_s ?_;(first|apply q_J|apply q_K|apply q_L|apply q_M|apply q_N|apply q_O)<;>try intro _)|with_reducible refine q_t ?_)
 refine awp_regionX cf0 ?_
 refine ⟨rfl, _, _, opS_moveX cf0_ok rfl, ?_⟩
 refine ⟨rfl, _, _, opS_moveX cf0_ok rfl, ?_⟩
 refine ⟨rfl, _, _, OpS.same (ext_indexByte (s := s) (c := c) Tryz.func239 (by kernel_rfl) (by kernel_rfl) (by kernel_rfl) (by kernel_rfl) rfl rfl rfl rfl), ?_⟩
 refine ⟨rfl, _, _, opS_assignX cf0_ok rfl, ?_⟩
 refine (q_h ?_ : AWp _ _ _ _ _)
 exact ⟨.inl rfl, [.inl (.i .i64 (firstIdx s c.toNat.toUInt8))], rfl, q_A rfl⟩
theorem firstIdx_chr (s : ByteArray) (c : Int) (h0 : 0 ≤ c) (h1 : c < 256) : firstIdx s c.toNat.toUInt8 = chrI c (bytesOf s) := by
 have hsz : s.size = (bytesOf s).length := str_size s
 have hat : ∀ i, i < s.size → (s[i]! == c.toNat.toUInt8) = decide ((bytesOf s).getD i 0 = c) := fun i hi => by
  have h1 := str_at s i
  have h2 : s[i]! = s.data.toList.getD i 0 := by
   have hi' : i < s.data.size := hi
   rw [getElem!_pos s i hi]
   have : s[i] = s.data[i] := rfl
   rw [this]
   simp only [List.getD_eq_getElem?_getD, Array.getElem?_toList]
   rw [Array.getElem?_eq_getElem hi']
   rfl
  rw [← h1, ← h2]
  generalize s[i]! = x
  have hc : c.toNat.toUInt8.toNat = c.toNat := by
   simp only [Nat.toUInt8, UInt8.toNat_ofNat']; omega
  by_cases hx : x = c.toNat.toUInt8
  ·rw [hx, hc, beq_self_eq_true]; symm; exact decide_eq_true (by omega)
  ·have h3 : (x == c.toNat.toUInt8) = false := by simpa using hx
   rw [h3]
   symm
   refine decide_eq_false fun h => hx ?_
   exact UInt8.toNat_inj.1 (by rw [hc]; omega)
 unfold firstIdx chrI
 cases hs : chrAt c (bytesOf s) with
 | some k =>
  obtain ⟨h1, h2, h3⟩ := chr_some hs
  have : (List.range s.size).find? (fun i => s[i]! == c.toNat.toUInt8) = some k := by
   rw [List.find?_range_eq_some]
   refine ⟨by rw [hat k (by omega)]; exact decide_eq_true h2, List.mem_range.2 (by omega), fun x hx => ?_⟩
   rw [hat x (by omega)]
   simpa using h3 x hx
  rw [this]
 | none =>
  have h1 := chr_none hs
  have : (List.range s.size).find? (fun i => s[i]! == c.toNat.toUInt8) = none := by
   rw [List.find?_eq_none]
   intro x hx
   have hx := List.mem_range.1 hx
   rw [hat x hx]
   have h2 : x < (bytesOf s).length := by omega
   have := h1 ((bytesOf s).getD x 0) (by rw [getD_eq _ _ h2]; exact List.getElem_mem h2)
   simpa using this
  rw [this]
def sIndexByteCT : CT := mkCT [] true fun l K => match l with
 | [.inl (.str s), .inl (.i .u8 c)] => (0 ≤ c ∧ c < 256) ∧ K (.c (.i .i64 (chrI c (bytesOf s))))
 | _ => False
def sd1 : Cfg := addT 222 sIndexByteCT cf0
theorem sd1_ok : TblOk Tryz.prog sd1 := q_I cf0_ok Tryz.func222 fun l K h => by
 split at h
 ·rename_i s c
  obtain ⟨⟨h1, h2⟩, h⟩ := h
  have := sIndexByte_ret s c
  rw [firstIdx_chr s c h1 h2] at this
  exact ⟨_, this.plain rfl, h⟩
 ·exact h.elim
attribute [go_sem] sIndexByteCT
def sdb1 : Cfg := listT [(222, sIndexByteCT)] [34]
theorem sdb1_ok : TblOk Tryz.prog sdb1 := listE_ok (by simp only [List.mem_singleton, forall_eq]; exact flt) ⟨⟨sd1, sd1_ok, rfl⟩, trivial⟩
attribute [go_sem] sdb1
theorem to_nat1 : (1 : Int).toNat = 1 := rfl
set_option maxHeartbeats 1600000 in
theorem sIndex_ret (s t : ByteArray) (c : Int) (hc : 0 ≤ c ∧ c < 256) (ht : bytesOf t = [c]) : Ret Tryz.prog 205 false [.inl (.str s), .inl (.str t)] (.c (.i .i64 (chrI c (bytesOf s)))) := by
 have hs := str_size t
 have h0 := str_at t 0
 rw [ht] at hs h0
 have hq := str_eq t s
 rw [ht] at hq
 obtain ⟨c0, c1⟩ := hc
 by_cases hst : bytesOf s = [c]
 ·have e : chrI c (bytesOf s) = 0 := by
   rw [hst]; simp [chrI, chrAt, List.findIdx?_cons]
  rw [decide_eq_true hst.symm] at hq
  rw [e]
  (refine q_H Tryz.func205 (fun F => ?_); simp only [q_z,q_y,Tryz.ntmps205,Tryz.results205])
  repeat' (first|(with_reducible first|apply q_a|apply q_b|apply q_c|apply q_d|apply q_e|apply q_f|apply q_g|apply q_h|apply q_i|apply q_j|apply q_k|apply q_m|apply q_n|apply q_o|apply q_p|refine q_l ?_)|((with_reducible first|refine q_q sdb1_ok fun K hK=>?_|refine q_r sdb1_ok fun K hK=>?_);simp (maxSteps:=2000000) only [go_sem,↓reduceIte,reduceCtorEq,Nat.reduceLeDiff,Nat.reduceLT,Nat.reduceBEq,Nat.reduceAdd,str_size, str_at, ht, to_nat1, hq];(repeat1' with_reducible first|apply And.intro|(intro _;try exact q_v)|(refine hK _ ?_;clear hK K))<;>(try (clear hK K;exact q_u)))|(with_reducible refine q_s ?_;(first|apply q_J|apply q_K|apply q_L|apply q_M|apply q_N|apply q_O)<;>try (intro _;try exact q_v))|with_reducible refine q_t ?_)
  all_goals first | omega | exact q_A rfl | skip
 ·rw [decide_eq_false (fun h => hst h.symm)] at hq
  have ec : ([c] : List Int).getD 0 0 = c := rfl
  (refine q_H Tryz.func205 (fun F => ?_); simp only [q_z,q_y,Tryz.ntmps205,Tryz.results205])
  repeat' (first|(with_reducible first|apply q_a|apply q_b|apply q_c|apply q_d|apply q_e|apply q_f|apply q_g|apply q_h|apply q_i|apply q_j|apply q_k|apply q_m|apply q_n|apply q_o|apply q_p|refine q_l ?_)|((with_reducible first|refine q_q sdb1_ok fun K hK=>?_|refine q_r sdb1_ok fun K hK=>?_);simp (maxSteps:=2000000) only [go_sem,↓reduceIte,reduceCtorEq,Nat.reduceLeDiff,Nat.reduceLT,Nat.reduceBEq,Nat.reduceAdd,str_size, str_at, ht, to_nat1, hq, ec];(repeat1' with_reducible first|apply And.intro|(intro _;try exact q_v)|(refine hK _ ?_;clear hK K))<;>(try (clear hK K;exact q_u)))|(with_reducible refine q_s ?_;(first|apply q_J|apply q_K|apply q_L|apply q_M|apply q_N|apply q_O)<;>try (intro _;try exact q_v))|with_reducible refine q_t ?_)
  all_goals first | omega | exact q_A rfl | skip
def sIndexCT : CT := mkCT [] true fun l K => match l with
 | [.inl (.str s), .inl (.str t)] => (bytesOf t).length = 1 ∧ K (.c (.i .i64 (chrI ((bytesOf t).getD 0 0) (bytesOf s))))
 | _ => False
def sd2 : Cfg := addT 205 sIndexCT cf0
theorem sd2_ok : TblOk Tryz.prog sd2 := q_I cf0_ok Tryz.func205 fun l K h => by
 split at h
 ·rename_i s t
  obtain ⟨h1, h⟩ := h
  obtain ⟨c, hc⟩ : ∃ c, bytesOf t = [c] := List.length_eq_one_iff.1 h1
  have hb := bytes_inB t c (by rw [hc]; exact List.mem_singleton.2 rfl)
  rw [hc] at h
  exact ⟨_, (sIndex_ret s t c ⟨hb.1, by have := hb.2; omega⟩ hc).plain rfl, h⟩
 ·exact h.elim
attribute [go_sem] sIndexCT
def sdb2 : Cfg := listT [(205, sIndexCT)] [34]
theorem sdb2_ok : TblOk Tryz.prog sdb2 := listE_ok (by simp only [List.mem_singleton, forall_eq]; exact flt) ⟨⟨sd2, sd2_ok, rfl⟩, trivial⟩
attribute [go_sem] sdb2
def sCutR (c : Int) (l : List Int) : AV := .t [.inl (.str (strOf (cutL c l))), .inl (.str (strOf (cutR c l))), .inl (.b (cutF c l))]
set_option maxHeartbeats 1600000 in
theorem sCut_ret (s t : ByteArray) (c : Int) (ht : bytesOf t = [c]) (hm : (bytesOf s).length ≤ 100000) : Ret Tryz.prog 169 false [.inl (.str s), .inl (.str t)] (sCutR c (bytesOf s)) := by
 have hs := str_size t
 rw [ht] at hs
 have hs : t.size = 1 := hs
 have hl := str_size s
 have ec : ([c] : List Int).getD 0 0 = c := rfl
 have so := so_of s
 unfold sCutR
 cases hk : chrAt c (bytesOf s) with
 | some k =>
  obtain ⟨e1, e2, e3, e4⟩ := cut_some hk
  obtain ⟨k1, _, _⟩ := chr_some hk
  rw [e1, e2, e3]
  have x1 : s.extract 0 k = strOf ((bytesOf s).take k) := by rw [sub_so, List.drop_zero]
  have x2 : s.extract (k + 1) s.size = strOf ((bytesOf s).drop (k + 1)) := by rw [sub_so, hl, List.take_length]
  have ek : ((k : Int) + 1).toNat = k + 1 := by omega
  rw [← x1, ← x2]
  (refine q_H Tryz.func169 (fun F => ?_); simp only [q_z,q_y,Tryz.ntmps169,Tryz.results169])
  repeat' (first|(with_reducible first|apply q_a|apply q_b|apply q_c|apply q_d|apply q_e|apply q_f|apply q_g|apply q_h|apply q_i|apply q_j|apply q_k|apply q_m|apply q_n|apply q_o|apply q_p|refine q_l ?_)|((with_reducible first|refine q_q sdb2_ok fun K hK=>?_|refine q_r sdb2_ok fun K hK=>?_);simp (maxSteps:=2000000) only [go_sem,↓reduceIte,reduceCtorEq,Nat.reduceLeDiff,Nat.reduceLT,Nat.reduceBEq,Nat.reduceAdd,ht, hs, ec, e4, ek];(repeat1' with_reducible first|apply And.intro|(intro _;try exact q_v)|(refine hK _ ?_;clear hK K))<;>(try (clear hK K;exact q_u)))|(with_reducible refine q_s ?_;(first|apply q_J|apply q_K|apply q_L|apply q_M|apply q_N|apply q_O)<;>try (intro _;try exact q_v))|with_reducible refine q_t ?_)
  all_goals first | omega | exact q_A rfl | skip
 | none =>
  obtain ⟨e1, e2, e3, e4⟩ := cut_none hk
  rw [e1, e2, e3, ← so]
  (refine q_H Tryz.func169 (fun F => ?_); simp only [q_z,q_y,Tryz.ntmps169,Tryz.results169])
  repeat' (first|(with_reducible first|apply q_a|apply q_b|apply q_c|apply q_d|apply q_e|apply q_f|apply q_g|apply q_h|apply q_i|apply q_j|apply q_k|apply q_m|apply q_n|apply q_o|apply q_p|refine q_l ?_)|((with_reducible first|refine q_q sdb2_ok fun K hK=>?_|refine q_r sdb2_ok fun K hK=>?_);simp (maxSteps:=2000000) only [go_sem,↓reduceIte,reduceCtorEq,Nat.reduceLeDiff,Nat.reduceLT,Nat.reduceBEq,Nat.reduceAdd,ht, hs, ec, e4];(repeat1' with_reducible first|apply And.intro|(intro _;try exact q_v)|(refine hK _ ?_;clear hK K))<;>(try (clear hK K;exact q_u)))|(with_reducible refine q_s ?_;(first|apply q_J|apply q_K|apply q_L|apply q_M|apply q_N|apply q_O)<;>try (intro _;try exact q_v))|with_reducible refine q_t ?_)
  all_goals first | omega | exact q_A rfl | skip
def sCutCT : CT := mkCT [] true fun l K => match l with
 | [.inl (.str s), .inl (.str t)] => ((bytesOf t).length = 1 ∧ (bytesOf s).length ≤ 100000) ∧ K (sCutR ((bytesOf t).getD 0 0) (bytesOf s))
 | _ => False
def sd3 : Cfg := addT 169 sCutCT cf0
theorem sd3_ok : TblOk Tryz.prog sd3 := q_I cf0_ok Tryz.func169 fun l K h => by
 split at h
 ·rename_i s t
  obtain ⟨⟨h1, h2⟩, h⟩ := h
  obtain ⟨c, hc⟩ : ∃ c, bytesOf t = [c] := List.length_eq_one_iff.1 h1
  rw [hc] at h
  exact ⟨_, (sCut_ret s t c hc h2).plain rfl, h⟩
 ·exact h.elim
attribute [go_sem] sCutCT sCutR
def sdb3 : Cfg := listT [(169, sCutCT)] [34]
theorem sdb3_ok : TblOk Tryz.prog sdb3 := listE_ok (by simp only [List.mem_singleton, forall_eq]; exact flt) ⟨⟨sd3, sd3_ok, rfl⟩, trivial⟩
attribute [go_sem] sdb3
def sd4 : Cfg := addT 99 sCutCT cf0
theorem sd4_ok : TblOk Tryz.prog sd4 := q_I cf0_ok Tryz.func99 fun l K h => by
 split at h
 ·rename_i s t
  obtain ⟨⟨h1, h2⟩, h⟩ := h
  refine ⟨_, Ret.plain (r := sCutR ((bytesOf t).getD 0 0) (bytesOf s)) ?_ rfl, h⟩
  (refine q_H Tryz.func99 (fun F => ?_); simp only [q_z,q_y,Tryz.ntmps99,Tryz.results99])
  repeat' (first|(with_reducible first|apply q_a|apply q_b|apply q_c|apply q_d|apply q_e|apply q_f|apply q_g|apply q_h|apply q_i|apply q_j|apply q_k|apply q_m|apply q_n|apply q_o|apply q_p|refine q_l ?_)|((with_reducible first|refine q_q sdb3_ok fun K hK=>?_|refine q_r sdb3_ok fun K hK=>?_);simp (maxSteps:=2000000) only [go_sem,↓reduceIte,reduceCtorEq,Nat.reduceLeDiff,Nat.reduceLT,Nat.reduceBEq,Nat.reduceAdd,h1];(repeat1' with_reducible first|apply And.intro|(intro _;try exact q_v)|(refine hK _ ?_;clear hK K))<;>(try (clear hK K;exact q_u)))|(with_reducible refine q_s ?_;(first|apply q_J|apply q_K|apply q_L|apply q_M|apply q_N|apply q_O)<;>try (intro _;try exact q_v))|with_reducible refine q_t ?_)
  all_goals first | omega | exact q_A rfl | skip
 ·exact h.elim

def hasP (l m : List Int) : Bool := decide (m.length ≤ l.length ∧ l.take m.length = m)
set_option maxHeartbeats 1600000 in
theorem sHasPrefix_ret (s t : ByteArray) : Ret Tryz.prog 199 false [.inl (.str s), .inl (.str t)] (.c (.b (hasP (bytesOf s) (bytesOf t)))) := by
 have hs := str_size s
 have ht := str_size t
 have he : ((s.extract 0 t.size).toList == t.toList) = decide ((bytesOf s).take (bytesOf t).length = bytesOf t) := by
  rw [str_eq, str_sub, List.drop_zero, ht]
 by_cases h : (bytesOf t).length ≤ (bytesOf s).length
 ·have e1 : hasP (bytesOf s) (bytesOf t) = decide ((bytesOf s).take (bytesOf t).length = bytesOf t) := by
   unfold hasP; congr 1; exact propext ⟨fun x => x.2, fun x => ⟨h, x⟩⟩
  rw [e1]
  (refine q_H Tryz.func199 (fun F => ?_); simp only [q_z,q_y,Tryz.ntmps199,Tryz.results199])
  repeat' (first|(with_reducible first|apply q_a|apply q_b|apply q_c|apply q_d|apply q_e|apply q_f|apply q_g|apply q_h|apply q_i|apply q_j|apply q_k|apply q_m|apply q_n|apply q_o|apply q_p|refine q_l ?_)|((with_reducible first|refine q_q sdb3_ok fun K hK=>?_|refine q_r sdb3_ok fun K hK=>?_);simp (maxSteps:=2000000) only [go_sem,↓reduceIte,reduceCtorEq,Nat.reduceLeDiff,Nat.reduceLT,Nat.reduceBEq,Nat.reduceAdd,he];(repeat1' with_reducible first|apply And.intro|(intro _;try exact q_v)|(refine hK _ ?_;clear hK K))<;>(try (clear hK K;exact q_u)))|(with_reducible refine q_s ?_;(first|apply q_J|apply q_K|apply q_L|apply q_M|apply q_N|apply q_O)<;>try (intro _;try exact q_v))|with_reducible refine q_t ?_)
  all_goals first | omega | exact q_A rfl | skip
 ·have e1 : hasP (bytesOf s) (bytesOf t) = false := decide_eq_false (fun x => h x.1)
  rw [e1]
  (refine q_H Tryz.func199 (fun F => ?_); simp only [q_z,q_y,Tryz.ntmps199,Tryz.results199])
  repeat' (first|(with_reducible first|apply q_a|apply q_b|apply q_c|apply q_d|apply q_e|apply q_f|apply q_g|apply q_h|apply q_i|apply q_j|apply q_k|apply q_m|apply q_n|apply q_o|apply q_p|refine q_l ?_)|((with_reducible first|refine q_q sdb3_ok fun K hK=>?_|refine q_r sdb3_ok fun K hK=>?_);simp (maxSteps:=2000000) only [go_sem,↓reduceIte,reduceCtorEq,Nat.reduceLeDiff,Nat.reduceLT,Nat.reduceBEq,Nat.reduceAdd,he];(repeat1' with_reducible first|apply And.intro|(intro _;try exact q_v)|(refine hK _ ?_;clear hK K))<;>(try (clear hK K;exact q_u)))|(with_reducible refine q_s ?_;(first|apply q_J|apply q_K|apply q_L|apply q_M|apply q_N|apply q_O)<;>try (intro _;try exact q_v))|with_reducible refine q_t ?_)
  all_goals first | omega | exact q_A rfl | skip
def sHasPCT : CT := mkCT [] true fun l K => match l with
 | [.inl (.str s), .inl (.str t)] => K (.c (.b (hasP (bytesOf s) (bytesOf t))))
 | _ => False
def sd5 : Cfg := addT 199 sHasPCT cf0
theorem sd5_ok : TblOk Tryz.prog sd5 := q_I cf0_ok Tryz.func199 fun l K h => by
 split at h
 ·exact ⟨_, (sHasPrefix_ret _ _).plain rfl, h⟩
 ·exact h.elim
attribute [go_sem] sHasPCT
def sdb4 : Cfg := listT [(199, sHasPCT)] [34]
theorem sdb4_ok : TblOk Tryz.prog sdb4 := listE_ok (by simp only [List.mem_singleton, forall_eq]; exact flt) ⟨⟨sd5, sd5_ok, rfl⟩, trivial⟩
attribute [go_sem] sdb4
def cutPR (l m : List Int) : AV := .t [.inl (.str (strOf (if hasP l m then l.drop m.length else l))), .inl (.b (hasP l m))]
set_option maxHeartbeats 1600000 in
theorem sCutPrefix_ret (s t : ByteArray) : Ret Tryz.prog 168 false [.inl (.str s), .inl (.str t)] (cutPR (bytesOf s) (bytesOf t)) := by
 have hs := str_size s
 have ht := str_size t
 have so := so_of s
 unfold cutPR
 cases h : hasP (bytesOf s) (bytesOf t)
 ·simp only [Bool.false_eq_true, if_false]
  rw [← so]
  (refine q_H Tryz.func168 (fun F => ?_); simp only [q_z,q_y,Tryz.ntmps168,Tryz.results168])
  repeat' (first|(with_reducible first|apply q_a|apply q_b|apply q_c|apply q_d|apply q_e|apply q_f|apply q_g|apply q_h|apply q_i|apply q_j|apply q_k|apply q_m|apply q_n|apply q_o|apply q_p|refine q_l ?_)|((with_reducible first|refine q_q sdb4_ok fun K hK=>?_|refine q_r sdb4_ok fun K hK=>?_);simp (maxSteps:=2000000) only [go_sem,↓reduceIte,reduceCtorEq,Nat.reduceLeDiff,Nat.reduceLT,Nat.reduceBEq,Nat.reduceAdd,h];(repeat1' with_reducible first|apply And.intro|(intro _;try exact q_v)|(refine hK _ ?_;clear hK K))<;>(try (clear hK K;exact q_u)))|(with_reducible refine q_s ?_;(first|apply q_J|apply q_K|apply q_L|apply q_M|apply q_N|apply q_O)<;>try (intro _;try exact q_v))|with_reducible refine q_t ?_)
  all_goals first | omega | exact q_A rfl | skip
 ·simp only [if_true]
  have h2 := (of_decide_eq_true h).1
  have x2 : s.extract t.size s.size = strOf ((bytesOf s).drop (bytesOf t).length) := by rw [sub_so, hs, List.take_length, ht]
  rw [← x2]
  (refine q_H Tryz.func168 (fun F => ?_); simp only [q_z,q_y,Tryz.ntmps168,Tryz.results168])
  repeat' (first|(with_reducible first|apply q_a|apply q_b|apply q_c|apply q_d|apply q_e|apply q_f|apply q_g|apply q_h|apply q_i|apply q_j|apply q_k|apply q_m|apply q_n|apply q_o|apply q_p|refine q_l ?_)|((with_reducible first|refine q_q sdb4_ok fun K hK=>?_|refine q_r sdb4_ok fun K hK=>?_);simp (maxSteps:=2000000) only [go_sem,↓reduceIte,reduceCtorEq,Nat.reduceLeDiff,Nat.reduceLT,Nat.reduceBEq,Nat.reduceAdd,h, Int.toNat_natCast];(repeat1' with_reducible first|apply And.intro|(intro _;try exact q_v)|(refine hK _ ?_;clear hK K))<;>(try (clear hK K;exact q_u)))|(with_reducible refine q_s ?_;(first|apply q_J|apply q_K|apply q_L|apply q_M|apply q_N|apply q_O)<;>try (intro _;try exact q_v))|with_reducible refine q_t ?_)
  all_goals first | omega | exact q_A rfl | skip
def sCutPCT : CT := mkCT [] true fun l K => match l with
 | [.inl (.str s), .inl (.str t)] => K (cutPR (bytesOf s) (bytesOf t))
 | _ => False
def sd7 : Cfg := addT 168 sCutPCT cf0
theorem sd7_ok : TblOk Tryz.prog sd7 := q_I cf0_ok Tryz.func168 fun l K h => by
 split at h
 ·exact ⟨_, (sCutPrefix_ret _ _).plain rfl, h⟩
 ·exact h.elim
attribute [go_sem] sCutPCT cutPR
def sdb5 : Cfg := listT [(168, sCutPCT)] [34]
theorem sdb5_ok : TblOk Tryz.prog sdb5 := listE_ok (by simp only [List.mem_singleton, forall_eq]; exact flt) ⟨⟨sd7, sd7_ok, rfl⟩, trivial⟩
attribute [go_sem] sdb5
def sd8 : Cfg := addT 98 sCutPCT cf0
theorem sd8_ok : TblOk Tryz.prog sd8 := q_I cf0_ok Tryz.func98 fun l K h => by
 split at h
 ·rename_i s t
  refine ⟨_, Ret.plain (r := cutPR (bytesOf s) (bytesOf t)) ?_ rfl, h⟩
  (refine q_H Tryz.func98 (fun F => ?_); simp only [q_z,q_y,Tryz.ntmps98,Tryz.results98])
  repeat' (first|(with_reducible first|apply q_a|apply q_b|apply q_c|apply q_d|apply q_e|apply q_f|apply q_g|apply q_h|apply q_i|apply q_j|apply q_k|apply q_m|apply q_n|apply q_o|apply q_p|refine q_l ?_)|((with_reducible first|refine q_q sdb5_ok fun K hK=>?_|refine q_r sdb5_ok fun K hK=>?_);simp (maxSteps:=2000000) only [go_sem,↓reduceIte,reduceCtorEq,Nat.reduceLeDiff,Nat.reduceLT,Nat.reduceBEq,Nat.reduceAdd];(repeat1' with_reducible first|apply And.intro|(intro _;try exact q_v)|(refine hK _ ?_;clear hK K))<;>(try (clear hK K;exact q_u)))|(with_reducible refine q_s ?_;(first|apply q_J|apply q_K|apply q_L|apply q_M|apply q_N|apply q_O)<;>try (intro _;try exact q_v))|with_reducible refine q_t ?_)
  all_goals first | omega | exact q_A rfl | skip
 ·exact h.elim

set_option maxHeartbeats 1600000 in
theorem trimLeftByte_ret (s : ByteArray) (c : Int) : Ret Tryz.prog 171 false [.inl (.str s), .inl (.i .u8 c)] (.c (.str (strOf (dropC c (bytesOf s))))) := by
 have e0 : s = strOf ((bytesOf s).drop 0) := by rw [List.drop_zero]; exact so_of s
 have hb := bytes_inB s
 generalize bytesOf s = l at *
 subst e0
 (refine q_H Tryz.func171 (fun F => ?_); simp only [q_z,q_y,Tryz.ntmps171,Tryz.results171])
 repeat' (first|(with_reducible first|apply q_a|apply q_b|apply q_c|apply q_d|apply q_e|apply q_f|apply q_g|apply q_h|apply q_i|apply q_j|apply q_k|apply q_m|apply q_n|apply q_o|apply q_p|refine q_l ?_)|((with_reducible first|refine q_q sdb5_ok fun K hK=>?_|refine q_r sdb5_ok fun K hK=>?_);simp (maxSteps:=2000000) only [go_sem,↓reduceIte,reduceCtorEq,Nat.reduceLeDiff,Nat.reduceLT,Nat.reduceBEq,Nat.reduceAdd];(repeat1' with_reducible first|apply And.intro|(intro _;try exact q_v)|(refine hK _ ?_;clear hK K))<;>(try (clear hK K;exact q_u)))|(with_reducible refine q_s ?_;(first|apply q_J|apply q_K|apply q_L|apply q_M|apply q_N|apply q_O)<;>try (intro _;try exact q_v))|with_reducible refine q_t ?_)
 all_goals first | omega | skip
 generalize hT : dropC c l = T
 refine q_G (ι := { i : Nat // i ≤ l.length ∧ dropC c (l.drop i) = T }) (fun i => ⟨17, [(0, .c (.str (strOf (l.drop i.1)))), (1, .c (.i .u8 c))], ⟨[], [], []⟩, 0⟩) (fun i => l.length - i.1) ⟨0, by omega, by rw [List.drop_zero]; exact hT⟩ ?_ ?_
 ·exact q_D
 rintro ⟨i, g1, g2⟩
 simp only at g1 g2 ⊢
 have hz := so_size (l.drop i)
 rw [List.length_drop] at hz
 have hbb : bytesOf (strOf (l.drop i)) = l.drop i := bytesOf_strOf _ (InB_drop hb i)
 have hat := str_at (strOf (l.drop i)) 0
 rw [hbb] at hat
 have hx : (strOf (l.drop i)).extract 1 (strOf (l.drop i)).size = strOf (l.drop (i + 1)) := by
  rw [so_sub, so_size, List.take_length, List.drop_drop]
 rcases Nat.lt_or_ge i l.length with hi | hi
 ·have hd := dropC_drop c l i hi
  have hg : (l.drop i).getD 0 0 = l.getD i 0 := by simp [List.getD_eq_getElem?_getD]
  rw [hg] at hat
  rw [hz] at hx
  by_cases hc : l.getD i 0 = c
  ·rw [if_pos hc] at hd
   repeat' (first|(with_reducible first|apply q_a|apply q_b|apply q_c|apply q_d|apply q_e|apply q_f|apply q_g|apply q_h|apply q_i|apply q_j|apply q_k|apply q_m|apply q_n|apply q_o|apply q_p|refine q_l ?_)|((with_reducible first|refine q_q sdb5_ok fun K hK=>?_|refine q_r sdb5_ok fun K hK=>?_);simp (maxSteps:=2000000) only [go_sem,↓reduceIte,reduceCtorEq,Nat.reduceLeDiff,Nat.reduceLT,Nat.reduceBEq,Nat.reduceAdd,hz, hat, hx, to_nat1];(repeat1' with_reducible first|apply And.intro|(intro _;try exact q_v)|(refine hK _ ?_;clear hK K))<;>(try (clear hK K;exact q_u)))|(with_reducible refine q_s ?_;(first|apply q_J|apply q_K|apply q_L|apply q_M|apply q_N|apply q_O)<;>try (intro _;try exact q_v))|with_reducible refine q_t ?_)
   all_goals first | omega | skip
   refine q_F ⟨i + 1, hi, by rw [← hd]; exact g2⟩ ?_ (by simp only; omega)
   ((simp only [go_sem,↓reduceIte,reduceCtorEq,Nat.reduceLeDiff,Nat.reduceLT,Nat.reduceBEq,Nat.reduceAdd])<;>(try (simp;done))<;>(try ((simp only [C.i.injEq,C.b.injEq,C.ints.injEq,C.bools.injEq,List.append_cancel_left_eq,List.cons.injEq,true_and,and_true]);(repeat' with_reducible apply And.intro)<;>(first|rfl|assumption|omega|(simp;omega)|(congr 1;omega)|(congr 2;omega)))))
  ·rw [if_neg hc, g2] at hd
   subst hd
   repeat' (first|(with_reducible first|apply q_a|apply q_b|apply q_c|apply q_d|apply q_e|apply q_f|apply q_g|apply q_h|apply q_i|apply q_j|apply q_k|apply q_m|apply q_n|apply q_o|apply q_p|refine q_l ?_)|((with_reducible first|refine q_q sdb5_ok fun K hK=>?_|refine q_r sdb5_ok fun K hK=>?_);simp (maxSteps:=2000000) only [go_sem,↓reduceIte,reduceCtorEq,Nat.reduceLeDiff,Nat.reduceLT,Nat.reduceBEq,Nat.reduceAdd,hz, hat, to_nat1];(repeat1' with_reducible first|apply And.intro|(intro _;try exact q_v)|(refine hK _ ?_;clear hK K))<;>(try (clear hK K;exact q_u)))|(with_reducible refine q_s ?_;(first|apply q_J|apply q_K|apply q_L|apply q_M|apply q_N|apply q_O)<;>try (intro _;try exact q_v))|with_reducible refine q_t ?_)
   all_goals first | omega | exact q_A rfl | skip
 ·have hi' : i = l.length := by omega
  subst hi'
  have hn : l.drop l.length = [] := List.drop_length
  rw [hn] at hz g2
  have hT2 : ([] : List Int) = T := g2
  subst hT2
  repeat' (first|(with_reducible first|apply q_a|apply q_b|apply q_c|apply q_d|apply q_e|apply q_f|apply q_g|apply q_h|apply q_i|apply q_j|apply q_k|apply q_m|apply q_n|apply q_o|apply q_p|refine q_l ?_)|((with_reducible first|refine q_q sdb5_ok fun K hK=>?_|refine q_r sdb5_ok fun K hK=>?_);simp (maxSteps:=2000000) only [go_sem,↓reduceIte,reduceCtorEq,Nat.reduceLeDiff,Nat.reduceLT,Nat.reduceBEq,Nat.reduceAdd,hz, hn];(repeat1' with_reducible first|apply And.intro|(intro _;try exact q_v)|(refine hK _ ?_;clear hK K))<;>(try (clear hK K;exact q_u)))|(with_reducible refine q_s ?_;(first|apply q_J|apply q_K|apply q_L|apply q_M|apply q_N|apply q_O)<;>try (intro _;try exact q_v))|with_reducible refine q_t ?_)
  all_goals first | omega | exact q_A rfl | skip
def trimLBCT : CT := mkCT [] true fun l K => match l with
 | [.inl (.str s), .inl (.i .u8 c)] => K (.c (.str (strOf (dropC c (bytesOf s)))))
 | _ => False
def sd9 : Cfg := addT 171 trimLBCT cf0
theorem sd9_ok : TblOk Tryz.prog sd9 := q_I cf0_ok Tryz.func171 fun l K h => by
 split at h
 ·exact ⟨_, (trimLeftByte_ret _ _).plain rfl, h⟩
 ·exact h.elim
attribute [go_sem] trimLBCT
def sdb6 : Cfg := listT [(171, trimLBCT)] [34]
theorem sdb6_ok : TblOk Tryz.prog sdb6 := listE_ok (by simp only [List.mem_singleton, forall_eq]; exact flt) ⟨⟨sd9, sd9_ok, rfl⟩, trivial⟩
attribute [go_sem] sdb6
set_option maxHeartbeats 1600000 in
theorem trimLeft_ret (s t : ByteArray) (c : Int) (ht : bytesOf t = [c]) (hc : c < 128) : Ret Tryz.prog 102 false [.inl (.str s), .inl (.str t)] (.c (.str (strOf (dropC c (bytesOf s))))) := by
 have hs := str_size t
 rw [ht] at hs
 have h0 := str_at t 0
 rw [ht] at h0
 have ec : ([c] : List Int).getD 0 0 = c := rfl
 have q1 : (t.toList == (ByteArray.mk #[]).toList) = false := by rw [str_eq, ht]; rfl
 have q2 : (s.toList == (ByteArray.mk #[]).toList) = decide (bytesOf s = []) := by rw [str_eq]; rfl
 have so := so_of s
 by_cases hn : bytesOf s = []
 ·have e1 : strOf (dropC c (bytesOf s)) = s := by rw [hn, so, hn]; rfl
  rw [decide_eq_true hn] at q2
  rw [e1]
  (refine q_H Tryz.func102 (fun F => ?_); simp only [q_z,q_y,Tryz.ntmps102,Tryz.results102])
  repeat' (first|(with_reducible first|apply q_a|apply q_b|apply q_c|apply q_d|apply q_e|apply q_f|apply q_g|apply q_h|apply q_i|apply q_j|apply q_k|apply q_m|apply q_n|apply q_o|apply q_p|refine q_l ?_)|((with_reducible first|refine q_q sdb6_ok fun K hK=>?_|refine q_r sdb6_ok fun K hK=>?_);simp (maxSteps:=2000000) only [go_sem,↓reduceIte,reduceCtorEq,Nat.reduceLeDiff,Nat.reduceLT,Nat.reduceBEq,Nat.reduceAdd,q1, q2];(repeat1' with_reducible first|apply And.intro|(intro _;try exact q_v)|(refine hK _ ?_;clear hK K))<;>(try (clear hK K;exact q_u)))|(with_reducible refine q_s ?_;(first|apply q_J|apply q_K|apply q_L|apply q_M|apply q_N|apply q_O)<;>try (intro _;try exact q_v))|with_reducible refine q_t ?_)
  all_goals first | omega | exact q_A rfl | skip
 ·rw [decide_eq_false hn] at q2
  (refine q_H Tryz.func102 (fun F => ?_); simp only [q_z,q_y,Tryz.ntmps102,Tryz.results102])
  repeat' (first|(with_reducible first|apply q_a|apply q_b|apply q_c|apply q_d|apply q_e|apply q_f|apply q_g|apply q_h|apply q_i|apply q_j|apply q_k|apply q_m|apply q_n|apply q_o|apply q_p|refine q_l ?_)|((with_reducible first|refine q_q sdb6_ok fun K hK=>?_|refine q_r sdb6_ok fun K hK=>?_);simp (maxSteps:=2000000) only [go_sem,↓reduceIte,reduceCtorEq,Nat.reduceLeDiff,Nat.reduceLT,Nat.reduceBEq,Nat.reduceAdd,q1, q2, hs, h0, ec];(repeat1' with_reducible first|apply And.intro|(intro _;try exact q_v)|(refine hK _ ?_;clear hK K))<;>(try (clear hK K;exact q_u)))|(with_reducible refine q_s ?_;(first|apply q_J|apply q_K|apply q_L|apply q_M|apply q_N|apply q_O)<;>try (intro _;try exact q_v))|with_reducible refine q_t ?_)
  all_goals first | omega | exact q_A rfl | skip
def trimLCT : CT := mkCT [] true fun l K => match l with
 | [.inl (.str s), .inl (.str t)] => ((bytesOf t).length = 1 ∧ (bytesOf t).getD 0 0 < 128) ∧ K (.c (.str (strOf (dropC ((bytesOf t).getD 0 0) (bytesOf s)))))
 | _ => False
def sd10 : Cfg := addT 102 trimLCT cf0
theorem sd10_ok : TblOk Tryz.prog sd10 := q_I cf0_ok Tryz.func102 fun l K h => by
 split at h
 ·rename_i s t
  obtain ⟨⟨h1, h2⟩, h⟩ := h
  obtain ⟨c, hc⟩ : ∃ c, bytesOf t = [c] := List.length_eq_one_iff.1 h1
  rw [hc] at h h2
  exact ⟨_, (trimLeft_ret s t c hc h2).plain rfl, h⟩
 ·exact h.elim
attribute [go_sem] trimLCT
end Go.Proofs.YtgkajjifbcmoeaaGreatDoor

namespace Go.Proofs.NatL
set_option linter.unusedSimpArgs false
set_option linter.unusedVariables false
theorem dgs_bad {l : List Int} {i : Nat} (hi : i < l.length) (h : l.getD i 0 < 48 ∨ 57 < l.getD i 0) : dgs l = false := by
 unfold dgs
 have : l.all (fun c => decide (48 ≤ c ∧ c ≤ 57)) = false := by
  rw [List.all_eq_false]
  refine ⟨l[i], List.getElem_mem hi, ?_⟩
  rw [getD_eq l i hi] at h
  simp; omega
 rw [this, Bool.and_false]
theorem dgs_good {l : List Int} (h : ∀ i, i < l.length → 48 ≤ l.getD i 0 ∧ l.getD i 0 ≤ 57) : dgs l = decide (l ≠ []) := by
 unfold dgs
 have : l.all (fun c => decide (48 ≤ c ∧ c ≤ 57)) = true := by
  rw [List.all_eq_true]
  intro x hx
  obtain ⟨i, hi, rfl⟩ := List.getElem_of_mem hx
  have := h i hi
  rw [getD_eq l i hi] at this
  exact decide_eq_true this
 rw [this, Bool.and_true]
 cases l <;> rfl
end Go.Proofs.NatL
namespace Go.Proofs.YtgkajjifbcmoeaaGreatDoor
set_option linter.unusedSimpArgs false
set_option linter.unusedVariables false
open Go.Abs Go.Proofs.NatL

def dt1 : Cfg := listT [(99, sCutCT)] [34]
theorem dt1_ok : TblOk Tryz.prog dt1 := listE_ok (by simp only [List.mem_singleton, forall_eq]; exact flt) ⟨⟨sd4, sd4_ok, rfl⟩, trivial⟩
attribute [go_sem] dt1
set_option maxHeartbeats 1600000 in
theorem allDigits_ret (s : ByteArray) (hm : (bytesOf s).length ≤ 100000) : Ret Tryz.prog 101 false [.inl (.str s)] (.c (.b (dgs (bytesOf s)))) := by
 have hs := str_size s
 have hq : (!(s.toList == (ByteArray.mk #[]).toList)) = decide (bytesOf s ≠ []) := by rw [str_eq]; simp; rfl
 have bad := fun {i : Nat} => dgs_bad (l := bytesOf s) (i := i)
 have good := dgs_good (l := bytesOf s)
 (refine q_H Tryz.func101 (fun F => ?_); simp only [q_z,q_y,Tryz.ntmps101,Tryz.results101])
 repeat' (first|(with_reducible first|apply q_a|apply q_b|apply q_c|apply q_d|apply q_e|apply q_f|apply q_g|apply q_h|apply q_i|apply q_j|apply q_k|apply q_m|apply q_n|apply q_o|apply q_p|refine q_l ?_)|((with_reducible first|refine q_q dt1_ok fun K hK=>?_|refine q_r dt1_ok fun K hK=>?_);simp (maxSteps:=2000000) only [go_sem,↓reduceIte,reduceCtorEq,Nat.reduceLeDiff,Nat.reduceLT,Nat.reduceBEq,Nat.reduceAdd,hs];(repeat1' with_reducible first|apply And.intro|(intro _;try exact q_v)|(refine hK _ ?_;clear hK K))<;>(try (clear hK K;exact q_u)))|(with_reducible refine q_s ?_;(first|apply q_J|apply q_K|apply q_L|apply q_M|apply q_N|apply q_O)<;>try (intro _;try exact q_v))|with_reducible refine q_t ?_)
 all_goals first | omega | skip
 refine q_G (ι := { i : Nat // i ≤ (bytesOf s).length ∧ ∀ j, j < i → 48 ≤ (bytesOf s).getD j 0 ∧ (bytesOf s).getD j 0 ≤ 57 }) (fun i => ⟨22, [(0, .c (.str s)), (5, .c (.i .i64 (bytesOf s).length)), (6, .c (.i .i64 (i.1 : Nat)))], ⟨[], [], []⟩, 0⟩) (fun i => (bytesOf s).length - i.1) ⟨0, by omega, fun j h => by omega⟩ ?_ ?_
 ·exact q_D
 rintro ⟨i, g1, g2⟩
 simp only at g1 g2 ⊢
 have hat := str_at s i
 rcases Nat.lt_or_ge i (bytesOf s).length with hi | hi
 ·by_cases hc : 48 ≤ (bytesOf s).getD i 0 ∧ (bytesOf s).getD i 0 ≤ 57
  ·clear bad good
   obtain ⟨hc1, hc2⟩ := hc
   repeat' (first|(with_reducible first|apply q_a|apply q_b|apply q_c|apply q_d|apply q_e|apply q_f|apply q_g|apply q_h|apply q_i|apply q_j|apply q_k|apply q_m|apply q_n|apply q_o|apply q_p|refine q_l ?_)|((with_reducible first|refine q_q dt1_ok fun K hK=>?_|refine q_r dt1_ok fun K hK=>?_);simp (maxSteps:=2000000) only [go_sem,↓reduceIte,reduceCtorEq,Nat.reduceLeDiff,Nat.reduceLT,Nat.reduceBEq,Nat.reduceAdd,hs, hat];(repeat1' with_reducible first|apply And.intro|(intro _;try exact q_v)|(refine hK _ ?_;clear hK K))<;>(try (clear hK K;exact q_u)))|(with_reducible refine q_s ?_;(first|apply q_J|apply q_K|apply q_L|apply q_M|apply q_N|apply q_O)<;>try (intro _;try exact q_v))|with_reducible refine q_t ?_)
   all_goals first | omega | skip
   refine q_F ⟨i + 1, hi, fun j hj => ?_⟩ ?_ (by simp only; omega)
   ·rcases Nat.lt_or_ge j i with h | h
    ·exact g2 j h
    ·have : j = i := by omega
     subst this; exact ⟨hc1, hc2⟩
   ·exact q_D
  ·have hb := bad hi (by omega)
   rw [hb]
   clear bad good
   by_cases hc1 : (bytesOf s).getD i 0 < 48
   ·repeat' (first|(with_reducible first|apply q_a|apply q_b|apply q_c|apply q_d|apply q_e|apply q_f|apply q_g|apply q_h|apply q_i|apply q_j|apply q_k|apply q_m|apply q_n|apply q_o|apply q_p|refine q_l ?_)|((with_reducible first|refine q_q dt1_ok fun K hK=>?_|refine q_r dt1_ok fun K hK=>?_);simp (maxSteps:=2000000) only [go_sem,↓reduceIte,reduceCtorEq,Nat.reduceLeDiff,Nat.reduceLT,Nat.reduceBEq,Nat.reduceAdd,hs, hat];(repeat1' with_reducible first|apply And.intro|(intro _;try exact q_v)|(refine hK _ ?_;clear hK K))<;>(try (clear hK K;exact q_u)))|(with_reducible refine q_s ?_;(first|apply q_J|apply q_K|apply q_L|apply q_M|apply q_N|apply q_O)<;>try (intro _;try exact q_v))|with_reducible refine q_t ?_)
    all_goals first | omega | exact q_A rfl | skip
   ·repeat' (first|(with_reducible first|apply q_a|apply q_b|apply q_c|apply q_d|apply q_e|apply q_f|apply q_g|apply q_h|apply q_i|apply q_j|apply q_k|apply q_m|apply q_n|apply q_o|apply q_p|refine q_l ?_)|((with_reducible first|refine q_q dt1_ok fun K hK=>?_|refine q_r dt1_ok fun K hK=>?_);simp (maxSteps:=2000000) only [go_sem,↓reduceIte,reduceCtorEq,Nat.reduceLeDiff,Nat.reduceLT,Nat.reduceBEq,Nat.reduceAdd,hs, hat];(repeat1' with_reducible first|apply And.intro|(intro _;try exact q_v)|(refine hK _ ?_;clear hK K))<;>(try (clear hK K;exact q_u)))|(with_reducible refine q_s ?_;(first|apply q_J|apply q_K|apply q_L|apply q_M|apply q_N|apply q_O)<;>try (intro _;try exact q_v))|with_reducible refine q_t ?_)
    all_goals first | omega | exact q_A rfl | skip
 ·have hi' : i = (bytesOf s).length := by omega
  subst hi'
  have hg := good g2
  rw [hg]
  clear bad good
  repeat' (first|(with_reducible first|apply q_a|apply q_b|apply q_c|apply q_d|apply q_e|apply q_f|apply q_g|apply q_h|apply q_i|apply q_j|apply q_k|apply q_m|apply q_n|apply q_o|apply q_p|refine q_l ?_)|((with_reducible first|refine q_q dt1_ok fun K hK=>?_|refine q_r dt1_ok fun K hK=>?_);simp (maxSteps:=2000000) only [go_sem,↓reduceIte,reduceCtorEq,Nat.reduceLeDiff,Nat.reduceLT,Nat.reduceBEq,Nat.reduceAdd,hs, hq];(repeat1' with_reducible first|apply And.intro|(intro _;try exact q_v)|(refine hK _ ?_;clear hK K))<;>(try (clear hK K;exact q_u)))|(with_reducible refine q_s ?_;(first|apply q_J|apply q_K|apply q_L|apply q_M|apply q_N|apply q_O)<;>try (intro _;try exact q_v))|with_reducible refine q_t ?_)
  all_goals first | omega | exact q_A rfl | skip
def allDigitsCT : CT := mkCT [] true fun l K => match l with
 | [.inl (.str s)] => (bytesOf s).length ≤ 100000 ∧ K (.c (.b (dgs (bytesOf s))))
 | _ => False
def dh1 : Cfg := addT 101 allDigitsCT cf0
theorem dh1_ok : TblOk Tryz.prog dh1 := q_I cf0_ok Tryz.func101 fun l K h => by
 split at h
 ·exact ⟨_, (allDigits_ret _ h.1).plain rfl, h.2⟩
 ·exact h.elim
attribute [go_sem] allDigitsCT
def iReadDCT : CT := mkCT [] false fun l K => match l with
 | [.inl (.str s), .inl (.i .i64 b)] => (b = 10 ∧ (bytesOf s).length ≤ 4097) ∧ K (parseO 10 (bytesOf s))
 | _ => False
def dh2 : Cfg := addT 103 iReadDCT cf0
theorem dh2_ok : TblOk Tryz.prog dh2 := q_I cf0_ok Tryz.func103 fun l K h => by
 split at h
 ·rename_i s b
  obtain ⟨⟨rfl, h1⟩, h2⟩ := h
  obtain ⟨_, _, hr, _⟩ := iu7_ok.2 103 iParseCT rfl
  exact hr rfl rfl [.inl (.str s), .inl (.i .i64 10)] K ⟨fun h => by omega, fun _ => ⟨fun h => by omega, fun _ => h2⟩⟩
 ·exact h.elim
attribute [go_sem] iReadDCT
end Go.Proofs.YtgkajjifbcmoeaaGreatDoor

namespace Go.Proofs.YtgkajjifbcmoeaaGreatDoor
set_option linter.unusedSimpArgs false
set_option linter.unusedVariables false
open Go.Abs Go.Proofs.NatL

def ebd : Cfg := listT [(179, sameCT)] [34]
theorem ebd_ok : TblOk Tryz.prog ebd := listE_ok (by simp only [List.mem_singleton, forall_eq]; exact flt) ⟨⟨ch2, ch2_ok, rfl⟩, trivial⟩
attribute [go_sem] ebd
set_option maxHeartbeats 800000 in
theorem sameIntsA_ret (s t : Bool) (xs ys : List Int) (hx : xs.length ≤ 16777216) (hy : ys.length ≤ 16777216) : Ret Tryz.prog 109 false [.inr [.b s, .ints .u32 xs], .inr [.b t, .ints .u32 ys]] (.c (.b (decide (s = t ∧ xs = ys)))) := by
 cases s <;> cases t
 all_goals
  (refine q_H Tryz.func109 (fun F => ?_); simp only [q_z,q_y,Tryz.ntmps109,Tryz.results109])
  repeat' (first|(with_reducible first|apply q_a|apply q_b|apply q_c|apply q_d|apply q_e|apply q_f|apply q_g|apply q_h|apply q_i|apply q_j|apply q_k|apply q_m|apply q_n|apply q_o|apply q_p|refine q_l ?_)|((with_reducible first|refine q_q ebd_ok fun K hK=>?_|refine q_r ebd_ok fun K hK=>?_);simp (maxSteps:=2000000) only [go_sem,↓reduceIte,reduceCtorEq,Nat.reduceLeDiff,Nat.reduceLT,Nat.reduceBEq,Nat.reduceAdd];(repeat1' with_reducible first|apply And.intro|(intro _;try exact q_v)|(refine hK _ ?_;clear hK K))<;>(try (clear hK K;exact q_u)))|(with_reducible refine q_s ?_;(first|apply q_J|apply q_K|apply q_L|apply q_M|apply q_N|apply q_O)<;>try (intro _;try exact q_v))|with_reducible refine q_t ?_)
  all_goals first | omega | (refine q_A ?_; simp [resAV, q_y]; done) | skip
def sameIntsACT : CT := mkCT [nP, nP] true fun l K => match l with
 | [.inr [.b s, .ints .u32 xs], .inr [.b t, .ints .u32 ys]] => (xs.length ≤ 16777216 ∧ ys.length ≤ 16777216) ∧ K (.c (.b (decide (s = t ∧ xs = ys))))
 | _ => False
def eu1 : Cfg := addT 109 sameIntsACT cf0
theorem eu1_ok : TblOk Tryz.prog eu1 := q_I cf0_ok Tryz.func109 fun l K h => by
 split at h
 ·exact ⟨_, (sameIntsA_ret _ _ _ _ h.1.1 h.1.2).plain rfl, h.2⟩
 ·exact h.elim
attribute [go_sem] sameIntsACT
def ebe : Cfg := listT [(109, sameIntsACT)] [34]
theorem ebe_ok : TblOk Tryz.prog ebe := listE_ok (by simp only [List.mem_singleton, forall_eq]; exact flt) ⟨⟨eu1, eu1_ok, rfl⟩, trivial⟩
attribute [go_sem] ebe
set_option maxHeartbeats 1600000 in
theorem sameDec_ret (k l : Int) (s t a b : Bool) (xs ys : List Int) (e f : Int) (hx : xs.length ≤ 16777216) (hy : ys.length ≤ 16777216) :
  Ret Tryz.prog 35 false [.inr [.i .i64 k, .b s, .b a, .ints .u32 xs, .i .i64 e], .inr [.i .i64 l, .b t, .b b, .ints .u32 ys, .i .i64 f]] (.c (.b (decide (k = l ∧ s = t ∧ (a = b ∧ xs = ys) ∧ e = f)))) := by
 by_cases h1 : k = l
 ·by_cases h2 : a = b ∧ xs = ys
  ·have d2 := decide_eq_true h2
   cases s <;> cases t
   all_goals
    (refine q_H Tryz.func35 (fun F => ?_); simp only [q_z,q_y,Tryz.ntmps35,Tryz.results35])
    repeat' (first|(with_reducible first|apply q_a|apply q_b|apply q_c|apply q_d|apply q_e|apply q_f|apply q_g|apply q_h|apply q_i|apply q_j|apply q_k|apply q_m|apply q_n|apply q_o|apply q_p|refine q_l ?_)|((with_reducible first|refine q_q ebe_ok fun K hK=>?_|refine q_r ebe_ok fun K hK=>?_);simp (maxSteps:=2000000) only [go_sem,↓reduceIte,reduceCtorEq,Nat.reduceLeDiff,Nat.reduceLT,Nat.reduceBEq,Nat.reduceAdd,d2];(repeat1' with_reducible first|apply And.intro|(intro _;try exact q_v)|(refine hK _ ?_;clear hK K))<;>(try (clear hK K;exact q_u)))|(with_reducible refine q_s ?_;(first|apply q_J|apply q_K|apply q_L|apply q_M|apply q_N|apply q_O)<;>try (intro _;try exact q_v))|with_reducible refine q_t ?_)
    all_goals first | omega | (refine q_A ?_; simp [resAV, q_y, h1, h2]; done) | skip
  ·have d2 := decide_eq_false h2
   cases s <;> cases t
   all_goals
    (refine q_H Tryz.func35 (fun F => ?_); simp only [q_z,q_y,Tryz.ntmps35,Tryz.results35])
    repeat' (first|(with_reducible first|apply q_a|apply q_b|apply q_c|apply q_d|apply q_e|apply q_f|apply q_g|apply q_h|apply q_i|apply q_j|apply q_k|apply q_m|apply q_n|apply q_o|apply q_p|refine q_l ?_)|((with_reducible first|refine q_q ebe_ok fun K hK=>?_|refine q_r ebe_ok fun K hK=>?_);simp (maxSteps:=2000000) only [go_sem,↓reduceIte,reduceCtorEq,Nat.reduceLeDiff,Nat.reduceLT,Nat.reduceBEq,Nat.reduceAdd,d2];(repeat1' with_reducible first|apply And.intro|(intro _;try exact q_v)|(refine hK _ ?_;clear hK K))<;>(try (clear hK K;exact q_u)))|(with_reducible refine q_s ?_;(first|apply q_J|apply q_K|apply q_L|apply q_M|apply q_N|apply q_O)<;>try (intro _;try exact q_v))|with_reducible refine q_t ?_)
    all_goals first | omega | (refine q_A ?_; simp only [resAV, q_y]; congr 2; symm; exact decide_eq_false (fun h => h2 h.2.2.1)) | (refine q_A ?_; simp [resAV, q_y]; done) | skip
 ·(refine q_H Tryz.func35 (fun F => ?_); simp only [q_z,q_y,Tryz.ntmps35,Tryz.results35])
  repeat' (first|(with_reducible first|apply q_a|apply q_b|apply q_c|apply q_d|apply q_e|apply q_f|apply q_g|apply q_h|apply q_i|apply q_j|apply q_k|apply q_m|apply q_n|apply q_o|apply q_p|refine q_l ?_)|((with_reducible first|refine q_q ebe_ok fun K hK=>?_|refine q_r ebe_ok fun K hK=>?_);simp (maxSteps:=2000000) only [go_sem,↓reduceIte,reduceCtorEq,Nat.reduceLeDiff,Nat.reduceLT,Nat.reduceBEq,Nat.reduceAdd];(repeat1' with_reducible first|apply And.intro|(intro _;try exact q_v)|(refine hK _ ?_;clear hK K))<;>(try (clear hK K;exact q_u)))|(with_reducible refine q_s ?_;(first|apply q_J|apply q_K|apply q_L|apply q_M|apply q_N|apply q_O)<;>try (intro _;try exact q_v))|with_reducible refine q_t ?_)
  all_goals first | omega | (refine q_A ?_; simp [resAV, q_y, h1]; done) | skip
def sameDecCT : CT := mkCT [nDc, nDc] true fun l K => match l with
 | [.inr [.i .i64 k, .b s, .b a, .ints .u32 xs, .i .i64 e], .inr [.i .i64 l, .b t, .b b, .ints .u32 ys, .i .i64 f]] => (xs.length ≤ 16777216 ∧ ys.length ≤ 16777216) ∧ K (.c (.b (decide (k = l ∧ s = t ∧ (a = b ∧ xs = ys) ∧ e = f))))
 | _ => False
def eu2 : Cfg := addT 35 sameDecCT cf0
theorem eu2_ok : TblOk Tryz.prog eu2 := q_I cf0_ok Tryz.func35 fun l K h => by
 split at h
 ·exact ⟨_, (sameDec_ret _ _ _ _ _ _ _ _ _ _ h.1.1 h.1.2).plain rfl, h.2⟩
 ·exact h.elim
attribute [go_sem] sameDecCT
def ebf : Cfg := listT [(35, sameDecCT)] [34]
theorem ebf_ok : TblOk Tryz.prog ebf := listE_ok (by simp only [List.mem_singleton, forall_eq]; exact flt) ⟨⟨eu2, eu2_ok, rfl⟩, trivial⟩
attribute [go_sem] ebf
set_option maxHeartbeats 1600000 in
theorem comes_ok (k : Int) (s a : Bool) (xs : List Int) (e n i : Int) (hx : xs.length ≤ 16777216) :
  Ret Tryz.prog 40 false [.inr [.i .i64 k, .b s, .b a, .ints .u32 xs, .i .i64 e], .inl (.i .i64 n), fltQ 0 i, .inr [.i .i64 k, .b s, .b a, .ints .u32 xs, .i .i64 e], .inl (.i .i64 n), fltQ 0 i] (.c (.b true)) := by
 (refine q_H Tryz.func40 (fun F => ?_); simp only [q_z,q_y,Tryz.ntmps40,Tryz.results40])
 repeat' (first|(with_reducible first|apply q_a|apply q_b|apply q_c|apply q_d|apply q_e|apply q_f|apply q_g|apply q_h|apply q_i|apply q_j|apply q_k|apply q_m|apply q_n|apply q_o|apply q_p|refine q_l ?_)|((with_reducible first|refine q_q ebf_ok fun K hK=>?_|refine q_r ebf_ok fun K hK=>?_);simp (maxSteps:=2000000) only [go_sem,↓reduceIte,reduceCtorEq,Nat.reduceLeDiff,Nat.reduceLT,Nat.reduceBEq,Nat.reduceAdd];(repeat1' with_reducible first|apply And.intro|(intro _;try exact q_v)|(refine hK _ ?_;clear hK K))<;>(try (clear hK K;exact q_u)))|(with_reducible refine q_s ?_;(first|apply q_J|apply q_K|apply q_L|apply q_M|apply q_N|apply q_O)<;>try (intro _;try exact q_v))|with_reducible refine q_t ?_)
 all_goals first | omega | (refine q_A ?_; simp [resAV, q_y]; done) | skip
set_option maxHeartbeats 1600000 in
theorem comes_bad (k : Int) (s a : Bool) (xs : List Int) (e m c i : Int) (hc : c ≠ 0) (hx : xs.length ≤ 16777216) :
  Ret Tryz.prog 40 false [zD, .inl (.i .i64 0), fltQ c i, .inr [.i .i64 k, .b s, .b a, .ints .u32 xs, .i .i64 e], .inl (.i .i64 m), fltQ c i] (.c (.b true)) := by
 (refine q_H Tryz.func40 (fun F => ?_); simp only [q_z,q_y,Tryz.ntmps40,Tryz.results40])
 repeat' (first|(with_reducible first|apply q_a|apply q_b|apply q_c|apply q_d|apply q_e|apply q_f|apply q_g|apply q_h|apply q_i|apply q_j|apply q_k|apply q_m|apply q_n|apply q_o|apply q_p|refine q_l ?_)|((with_reducible first|refine q_q ebf_ok fun K hK=>?_|refine q_r ebf_ok fun K hK=>?_);simp (maxSteps:=2000000) only [go_sem,↓reduceIte,reduceCtorEq,Nat.reduceLeDiff,Nat.reduceLT,Nat.reduceBEq,Nat.reduceAdd];(repeat1' with_reducible first|apply And.intro|(intro _;try exact q_v)|(refine hK _ ?_;clear hK K))<;>(try (clear hK K;exact q_u)))|(with_reducible refine q_s ?_;(first|apply q_J|apply q_K|apply q_L|apply q_M|apply q_N|apply q_O)<;>try (intro _;try exact q_v))|with_reducible refine q_t ?_)
 all_goals first | omega | (refine q_A ?_; simp [resAV, q_y]; done) | skip
def comesCT : CT := mkCT [nDc, .inl none, .inr [none, none], nDc, .inl none, .inr [none, none]] true fun l K => match l with
 | [.inr [.i .i64 k, .b s, .b a, .ints .u32 xs, .i .i64 e], .inl (.i .i64 n), .inr [.i .i64 c, .i .i64 i], .inr [.i .i64 l, .b t, .b b, .ints .u32 ys, .i .i64 f], .inl (.i .i64 m), .inr [.i .i64 d, .i .i64 j]] =>
   (ys.length ≤ 16777216 ∧ c = d ∧ i = j ∧ (d = 0 → k = l ∧ s = t ∧ a = b ∧ xs = ys ∧ e = f ∧ n = m) ∧ (d ≠ 0 → k = 0 ∧ s = false ∧ a = false ∧ xs = [] ∧ e = 0 ∧ n = 0)) ∧ K (.c (.b true))
 | _ => False
def eu3 : Cfg := addT 40 comesCT cf0
theorem eu3_ok : TblOk Tryz.prog eu3 := q_I cf0_ok Tryz.func40 fun l K h => by
 split at h
 ·rename_i k s a xs e n c i l t b ys f m d j
  obtain ⟨⟨hl, rfl, rfl, h1, h2⟩, h⟩ := h
  by_cases hd : c = 0
  ·obtain ⟨rfl, rfl, rfl, rfl, rfl, rfl⟩ := h1 hd
   subst hd
   exact ⟨_, (comes_ok _ _ _ _ _ _ _ hl).plain rfl, h⟩
  ·obtain ⟨rfl, rfl, rfl, rfl, rfl, rfl⟩ := h2 hd
   exact ⟨_, (comes_bad _ _ _ _ _ _ _ _ hd hl).plain rfl, h⟩
 ·exact h.elim
attribute [go_sem] comesCT
end Go.Proofs.YtgkajjifbcmoeaaGreatDoor
