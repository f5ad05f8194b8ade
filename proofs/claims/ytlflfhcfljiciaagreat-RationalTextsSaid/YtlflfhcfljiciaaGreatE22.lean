import Derived.Test.YtlflfhcfljiciaaGreatE20
import Derived.Test.YtlflfhcfljiciaaGreatE21
namespace Go.Proofs.NatL
set_option linter.unusedSimpArgs false
set_option linter.unusedVariables false
def strokeAt (l : List Int) : Option Nat := l.findIdx? (fun x => decide (x = 47))
theorem stroke_some {l : List Int} {k : Nat} (h : strokeAt l = some k) : k < l.length ∧ l.getD k 0 = 47 ∧ ∀ j, j < k → l.getD j 0 ≠ 47 := by
  unfold strokeAt at h
  rw [List.findIdx?_eq_some_iff_getElem] at h
  obtain ⟨h1, h2, h3⟩ := h
  refine ⟨h1, ?_, fun j hj => ?_⟩
  · rw [getD_eq l k h1]; simpa using h2
  · have := h3 j hj
    rw [getD_eq l j (by omega)]; simpa using this
theorem stroke_none {l : List Int} (h : strokeAt l = none) : ∀ x ∈ l, x ≠ 47 := by
  unfold strokeAt at h
  rw [List.findIdx?_eq_none_iff] at h
  intro x hx
  simpa using h x hx
end Go.Proofs.NatL
namespace Go.Abs
set_option linter.unusedSimpArgs false
set_option linter.unusedVariables false
variable {P : Program}
theorem opS_move {cf : Cfg} (hcf : TblOk P cf) {st : St} {o : Oper} {x : Operand} (ho : o.op = .move x) : OpS P cf st st o (st.ev x) := by
  obtain ⟨r, st', ⟨rfl, rfl⟩, h⟩ := opE_sound (st := st) (o := o) hcf (K := fun r st' => r = st.ev x ∧ st' = st) (by rw [ho]; exact ⟨rfl, rfl⟩)
  exact h
theorem opS_assign {cf : Cfg} (hcf : TblOk P cf) {st : St} {o : Oper} {x : Operand} (ho : o.op = .assign x) : OpS P cf st st o (st.ev x) := by
  obtain ⟨r, st', ⟨rfl, rfl⟩, h⟩ := opE_sound (st := st) (o := o) hcf (K := fun r st' => r = st.ev x ∧ st' = st) (by rw [ho]; exact ⟨rfl, rfl⟩)
  exact h
end Go.Abs
namespace Go.Proofs.YtlflfhcfljiciaaGreat
set_option linter.unusedSimpArgs false
set_option linter.unusedVariables false
open Go.Abs Go.Proofs.NatL

theorem indexByte_ret (s : ByteArray) (c : Int) : Ret Tryz.prog 82 false [.inl (.str s), .inl (.i .u8 c)] (.c (.i .i64 (firstIdx s c.toNat.toUInt8))) := by
  (refine q_H Tryz.func82 (fun F => ?_); simp only [q_z,q_y,Tryz.ntmps82,Tryz.results82])
  repeat' (first|(with_reducible first|apply q_a|apply q_b|apply q_c|apply q_d|apply q_e|apply q_f|apply q_g|apply q_h|apply q_i|apply q_j|apply q_k|apply q_m|apply q_n|apply q_o|apply q_p|refine q_l ?_)|((with_reducible first|refine q_q it5_ok fun K hK=>?_|refine q_r it5_ok fun K hK=>?_);simp (maxSteps:=2000000) only [go_sem,↓reduceIte,reduceCtorEq,Nat.reduceLeDiff,Nat.reduceLT,Nat.reduceBEq,Nat.reduceAdd];(repeat1' with_reducible first|apply And.intro|intro _|(refine hK _ ?_;clear hK K))<;>(try (clear hK K;exact q_u)))|(with_reducible refine q_s ?_;(first|apply q_J|apply q_K|apply q_L|apply q_M|apply q_N|apply q_O)<;>try intro _)|with_reducible refine q_t ?_)
  refine awp_regionX it5 ?_
  refine ⟨rfl, _, _, opS_move it5_ok rfl, ?_⟩
  refine ⟨rfl, _, _, opS_move it5_ok rfl, ?_⟩
  refine ⟨rfl, _, _, OpS.same (ext_indexByte (s := s) (c := c) Tryz.func94 (by kernel_rfl) (by kernel_rfl) (by kernel_rfl) (by kernel_rfl) rfl rfl rfl rfl), ?_⟩
  refine ⟨rfl, _, _, opS_assign it5_ok rfl, ?_⟩
  refine (q_h ?_ : AWp _ _ _ _ _)
  exact ⟨.inl rfl, [.inl (.i .i64 (firstIdx s c.toNat.toUInt8))], rfl, q_A rfl⟩
theorem firstIdx_stroke (s : ByteArray) : firstIdx s (47 : Int).toNat.toUInt8 = match strokeAt (bytesOf s) with | some k => (k : Int) | none => -1 := by
  have hsz : s.size = (bytesOf s).length := str_size s
  have hat : ∀ i, i < s.size → (s[i]! == (47 : Int).toNat.toUInt8) = decide ((bytesOf s).getD i 0 = 47) := fun i hi => by
    have h1 := str_at s i
    have h2 : s[i]! = s.data.toList.getD i 0 := by
      have hi' : i < s.data.size := hi
      rw [getElem!_pos s i hi]
      have : s[i] = s.data[i] := rfl
      rw [this]
      simp only [List.getD_eq_getElem?_getD, Array.getElem?_toList]
      rw [Array.getElem?_eq_getElem hi']
      rfl
    rw [← h1, ← h2]
    generalize s[i]! = x
    by_cases hx : x = 47
    · subst hx; decide
    · have h3 : (x == (47 : Int).toNat.toUInt8) = false := by
        have : (47 : Int).toNat.toUInt8 = 47 := rfl
        rw [this]; simpa using hx
      rw [h3]
      symm
      refine decide_eq_false fun h => hx ?_
      have : x.toNat = 47 := by omega
      exact UInt8.toNat_inj.1 (by rw [this]; rfl)
  unfold firstIdx
  cases hs : strokeAt (bytesOf s) with
  | some k =>
    obtain ⟨h1, h2, h3⟩ := stroke_some hs
    have : (List.range s.size).find? (fun i => s[i]! == (47 : Int).toNat.toUInt8) = some k := by
      rw [List.find?_range_eq_some]
      refine ⟨by rw [hat k (by omega)]; exact decide_eq_true h2, List.mem_range.2 (by omega), fun x hx => ?_⟩
      rw [hat x (by omega)]
      simpa using h3 x hx
    rw [this]
  | none =>
    have h1 := stroke_none hs
    have : (List.range s.size).find? (fun i => s[i]! == (47 : Int).toNat.toUInt8) = none := by
      rw [List.find?_eq_none]
      intro x hx
      have hx := List.mem_range.1 hx
      rw [hat x hx]
      have h2 : x < (bytesOf s).length := by omega
      have := h1 ((bytesOf s).getD x 0) (by rw [getD_eq _ _ h2]; exact List.getElem_mem h2)
      simpa using this
    rw [this]
def indexByteCT : CT := mkCT [] true fun l K => match l with
  | [.inl (.str s), .inl (.i .u8 c)] => c = 47 ∧ K (.c (.i .i64 (match strokeAt (bytesOf s) with | some k => (k : Int) | none => -1)))
  | _ => False
def sc1 : Cfg := addT 82 indexByteCT it5
theorem sc1_ok : TblOk Tryz.prog sc1 := q_I it5_ok Tryz.func82 fun l K h => by
  split at h
  · rename_i s c
    obtain ⟨rfl, h⟩ := h
    have := indexByte_ret s 47
    rw [firstIdx_stroke] at this
    exact ⟨_, this.plain rfl, h⟩
  · exact h.elim
attribute [go_sem] indexByteCT
def scb1 : Cfg := listT [(82, indexByteCT)] [28]
theorem scb1_ok : TblOk Tryz.prog scb1 := listT_ok (big := sc1) sc1_ok ⟨rfl, trivial⟩
attribute [go_sem] scb1
theorem lit_stroke : bytesOf { data := #[47] } = [47] := rfl
set_option maxHeartbeats 1600000 in
theorem sindex_ret (s t : ByteArray) (ht : bytesOf t = [47]) : Ret Tryz.prog 65 false [.inl (.str s), .inl (.str t)] (.c (.i .i64 (match strokeAt (bytesOf s) with | some k => (k : Int) | none => -1))) := by
  have hs := str_size t
  have h0 := str_at t 0
  rw [ht] at hs h0
  have hq := str_eq t s
  rw [ht] at hq
  by_cases hst : bytesOf s = [47]
  · have e : strokeAt (bytesOf s) = some 0 := by rw [hst]; rfl
    rw [decide_eq_true hst.symm] at hq
    rw [e]
    (refine q_H Tryz.func65 (fun F => ?_); simp only [q_z,q_y,Tryz.ntmps65,Tryz.results65])
    repeat' (first|(with_reducible first|apply q_a|apply q_b|apply q_c|apply q_d|apply q_e|apply q_f|apply q_g|apply q_h|apply q_i|apply q_j|apply q_k|apply q_m|apply q_n|apply q_o|apply q_p|refine q_l ?_)|((with_reducible first|refine q_q scb1_ok fun K hK=>?_|refine q_r scb1_ok fun K hK=>?_);simp (maxSteps:=2000000) only [go_sem,↓reduceIte,reduceCtorEq,Nat.reduceLeDiff,Nat.reduceLT,Nat.reduceBEq,Nat.reduceAdd,str_size, str_at, ht, toNat_one, hq];(repeat1' with_reducible first|apply And.intro|(intro _;try exact q_v)|(refine hK _ ?_;clear hK K))<;>(try (clear hK K;exact q_u)))|(with_reducible refine q_s ?_;(first|apply q_J|apply q_K|apply q_L|apply q_M|apply q_N|apply q_O)<;>try (intro _;try exact q_v))|with_reducible refine q_t ?_)
    all_goals first | omega | exact q_A rfl | skip
  · rw [decide_eq_false (fun h => hst h.symm)] at hq
    have e47 : ([47] : List Int).getD 0 0 = 47 := rfl
    (refine q_H Tryz.func65 (fun F => ?_); simp only [q_z,q_y,Tryz.ntmps65,Tryz.results65])
    repeat' (first|(with_reducible first|apply q_a|apply q_b|apply q_c|apply q_d|apply q_e|apply q_f|apply q_g|apply q_h|apply q_i|apply q_j|apply q_k|apply q_m|apply q_n|apply q_o|apply q_p|refine q_l ?_)|((with_reducible first|refine q_q scb1_ok fun K hK=>?_|refine q_r scb1_ok fun K hK=>?_);simp (maxSteps:=2000000) only [go_sem,↓reduceIte,reduceCtorEq,Nat.reduceLeDiff,Nat.reduceLT,Nat.reduceBEq,Nat.reduceAdd,str_size, str_at, ht, toNat_one, hq, e47];(repeat1' with_reducible first|apply And.intro|(intro _;try exact q_v)|(refine hK _ ?_;clear hK K))<;>(try (clear hK K;exact q_u)))|(with_reducible refine q_s ?_;(first|apply q_J|apply q_K|apply q_L|apply q_M|apply q_N|apply q_O)<;>try (intro _;try exact q_v))|with_reducible refine q_t ?_)
    all_goals first | omega | exact q_A rfl | skip
end Go.Proofs.YtlflfhcfljiciaaGreat
