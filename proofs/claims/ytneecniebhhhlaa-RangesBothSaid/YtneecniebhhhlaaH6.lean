import Derived.Test.YtneecniebhhhlaaH4
import Derived.Test.YtneecniebhhhlaaH5
namespace Go.Proofs.Ytneecniebhhhlaa
set_option linter.unusedSimpArgs false
set_option linter.unusedVariables false
open Go.Abs Go.Proofs.NatL

theorem mixed : Try.prog.follows .mixedOrders = true := by kernel_rfl
theorem flt : FltOk Try.prog 28 := flt_of (e := 3) ⟨⟨_, _, Try.underlying28, rfl, rfl, rfl, rfl, rfl, rfl⟩, Try.underlying3, by kernel_rfl, by kernel_rfl⟩
def cf0 : Cfg := ⟨fun _ => none, [28], false⟩
theorem cf0_ok : TblOk Try.prog cf0 := ⟨by simp only [cf0, List.mem_singleton, forall_eq]; exact flt, by simp [cf0]⟩
attribute [go_sem] cf0 addT mkCT mkCTO norm nz nzL List.mem_singleton List.mem_cons true_or or_true

instance (xs : List Int) : Decidable (Trd xs) := inferInstanceAs (Decidable (_ ∨ _))

theorem at_ret (c i : Int) : Ret Try.prog 158 false [.inl (.i .i64 c), .inl (.i .i64 i)] (.g [.i .i64 c, .i .i64 i]) := by
  (refine q_H Try.func158 (fun F => ?_); simp only [q_z,q_y,Try.ntmps158,Try.results158])
  repeat' (first|(with_reducible first|apply q_a|apply q_b|apply q_c|apply q_d|apply q_e|apply q_f|apply q_g|apply q_h|apply q_i|apply q_j|apply q_k|apply q_m|apply q_n|apply q_o|apply q_p|refine q_l ?_)|((with_reducible first|refine q_q cf0_ok fun K hK=>?_|refine q_r cf0_ok fun K hK=>?_);simp (maxSteps:=2000000) only [go_sem,↓reduceIte,reduceCtorEq,Nat.reduceLeDiff,Nat.reduceLT,Nat.reduceBEq,Nat.reduceAdd];(repeat1' with_reducible first|apply And.intro|intro _|(refine hK _ ?_;clear hK K))<;>(try (clear hK K;exact q_u)))|(with_reducible refine q_s ?_;(first|apply q_J|apply q_K|apply q_L|apply q_M|apply q_N|apply q_O)<;>try intro _)|with_reducible refine q_t ?_)
  exact q_A rfl
theorem At_ret (c i : Int) : Ret Try.prog 23 false [.inl (.i .i64 c), .inl (.i .i64 i)] (.g [.i .i64 c, .i .i64 i]) := by
  (refine q_H Try.func23 (fun F => ?_); simp only [q_z,q_y,Try.ntmps23,Try.results23])
  repeat' (first|(with_reducible first|apply q_a|apply q_b|apply q_c|apply q_d|apply q_e|apply q_f|apply q_g|apply q_h|apply q_i|apply q_j|apply q_k|apply q_m|apply q_n|apply q_o|apply q_p|refine q_l ?_)|((with_reducible first|refine q_q cf0_ok fun K hK=>?_|refine q_r cf0_ok fun K hK=>?_);simp (maxSteps:=2000000) only [go_sem,↓reduceIte,reduceCtorEq,Nat.reduceLeDiff,Nat.reduceLT,Nat.reduceBEq,Nat.reduceAdd];(repeat1' with_reducible first|apply And.intro|intro _|(refine hK _ ?_;clear hK K))<;>(try (clear hK K;exact q_u)))|(with_reducible refine q_s ?_;(first|apply q_J|apply q_K|apply q_L|apply q_M|apply q_N|apply q_O)<;>try intro _)|with_reducible refine q_t ?_)
  exact q_A rfl

def atCT : CT := mkCT [] true fun l K => match l with
  | [.inl (.i .i64 c), .inl (.i .i64 i)] => K (.g [.i .i64 c, .i .i64 i])
  | _ => False
def cf1 : Cfg := addT 158 atCT cf0
theorem cf1_ok : TblOk Try.prog cf1 := q_I cf0_ok Try.func158 fun l K h => by
  split at h
  · exact ⟨_, (at_ret _ _).plain rfl, h⟩
  · exact h.elim
def cf2 : Cfg := addT 23 atCT cf1
theorem cf2_ok : TblOk Try.prog cf2 := q_I cf1_ok Try.func23 fun l K h => by
  split at h
  · exact ⟨_, (At_ret _ _).plain rfl, h⟩
  · exact h.elim
attribute [go_sem] cf1 cf2 atCT

set_option maxHeartbeats 400000 in
theorem trim_ret (xs : List Int) (hx : xs.length ≤ 140737488355328) : Ret Try.prog 171 false [.inl (.ints .u32 xs)] (.c (.ints .u32 (trimL xs))) := by
  (refine q_H Try.func171 (fun F => ?_); simp only [q_z,q_y,Try.ntmps171,Try.results171])
  repeat' (first|(with_reducible first|apply q_a|apply q_b|apply q_c|apply q_d|apply q_e|apply q_f|apply q_g|apply q_h|apply q_i|apply q_j|apply q_k|apply q_m|apply q_n|apply q_o|apply q_p|refine q_l ?_)|((with_reducible first|refine q_q cf0_ok fun K hK=>?_|refine q_r cf0_ok fun K hK=>?_);simp (maxSteps:=2000000) only [go_sem,↓reduceIte,reduceCtorEq,Nat.reduceLeDiff,Nat.reduceLT,Nat.reduceBEq,Nat.reduceAdd];(repeat1' with_reducible first|apply And.intro|intro _|(refine hK _ ?_;clear hK K))<;>(try (clear hK K;exact q_u)))|(with_reducible refine q_s ?_;(first|apply q_J|apply q_K|apply q_L|apply q_M|apply q_N|apply q_O)<;>try intro _)|with_reducible refine q_t ?_)
  refine q_G (ι := { ys : List Int // trimL ys = trimL xs ∧ ys.length ≤ 140737488355328 }) (fun ys => ⟨21, [(0, .c (.ints .u32 ys.1))], ⟨[], [], []⟩, 0⟩) (fun ys => ys.1.length) ⟨xs, rfl, hx⟩ ?_ ?_
  · exact q_D
  rintro ⟨ys, h1, h2⟩
  have e : 0 < (ys.length : Int) → ((ys.length : Int) - 1).toNat = ys.length - 1 := fun _ => by omega
  repeat' (first|(with_reducible first|apply q_a|apply q_b|apply q_c|apply q_d|apply q_e|apply q_f|apply q_g|apply q_h|apply q_i|apply q_j|apply q_k|apply q_m|apply q_n|apply q_o|apply q_p|refine q_l ?_)|((with_reducible first|refine q_q cf0_ok fun K hK=>?_|refine q_r cf0_ok fun K hK=>?_);simp (maxSteps:=2000000) only [go_sem,↓reduceIte,reduceCtorEq,Nat.reduceLeDiff,Nat.reduceLT,Nat.reduceBEq,Nat.reduceAdd];(repeat1' with_reducible first|apply And.intro|intro _|(refine hK _ ?_;clear hK K))<;>(try (clear hK K;exact q_u)))|(with_reducible refine q_s ?_;(first|apply q_J|apply q_K|apply q_L|apply q_M|apply q_N|apply q_O)<;>try intro _)|with_reducible refine q_t ?_)
  · rename_i hp h0
    rw [e hp] at h0 ⊢
    refine q_F ⟨ys.take (ys.length - 1), by rw [trimL_drop ys (by omega) h0, h1], by simp; omega⟩ ?_ ?_
    · exact q_D
    · show (ys.take (ys.length - 1)).length < ys.length
      simp; omega
  · rename_i hp h0
    rw [e hp] at h0
    exact q_A (by rw [← h1, trimL_stop ys (.inr h0)]; rfl)
  · exact q_A (by rw [← h1, trimL_stop ys (.inl (by omega))]; rfl)

set_option maxHeartbeats 400000 in
theorem trim_cut (xs : List Int) (hx : xs.length ≤ 140737488355328) : RetC Try.prog 171 91 (.ints .u32 xs) (.ints .u32 (trimL xs)) := by
  refine ret_cut (k := (trimL xs).length) Try.func171 rfl (Nat.le_of_ble_eq_true rfl) rfl (fun rs hr => ?_) (fun F => ?_)
  · simp only [C.rows, C.z, Option.some.injEq, Prod.mk.injEq, true_and] at hr ⊢
    rw [← hr, ← List.map_take, ← trimL_take]
  simp only [Try.ntmps171, Try.results171]
  repeat' (first|(with_reducible first|apply q_a|apply q_b|apply q_c|apply q_d|apply q_e|apply q_f|apply q_g|apply q_h|apply q_i|apply q_j|apply q_k|apply q_m|apply q_n|apply q_o|apply q_p|refine q_l ?_)|((with_reducible first|refine q_q cf0_ok fun K hK=>?_|refine q_r cf0_ok fun K hK=>?_);simp (maxSteps:=2000000) only [go_sem,↓reduceIte,reduceCtorEq,Nat.reduceLeDiff,Nat.reduceLT,Nat.reduceBEq,Nat.reduceAdd];(repeat1' with_reducible first|apply And.intro|intro _|(refine hK _ ?_;clear hK K))<;>(try (clear hK K;exact q_u)))|(with_reducible refine q_s ?_;(first|apply q_J|apply q_K|apply q_L|apply q_M|apply q_N|apply q_O)<;>try intro _)|with_reducible refine endsC_ret rfl (by ((simp (maxSteps:=2000000) only [go_sem,↓reduceIte,reduceCtorEq,Nat.reduceLeDiff,Nat.reduceLT,Nat.reduceBEq,Nat.reduceAdd]); rfl)) (by first|((simp (maxSteps:=2000000) only [go_sem,↓reduceIte,reduceCtorEq,Nat.reduceLeDiff,Nat.reduceLT,Nat.reduceBEq,Nat.reduceAdd]);done)|((simp (maxSteps:=2000000) only [go_sem,↓reduceIte,reduceCtorEq,Nat.reduceLeDiff,Nat.reduceLT,Nat.reduceBEq,Nat.reduceAdd]);rfl)) rfl rfl rfl ?_)
  refine q_G (ι := { k : Nat // k ≤ xs.length ∧ trimL (xs.take k) = trimL xs }) (fun k => ⟨21, [(0, .bw 0 0 k.1)], ⟨[], [], [(0, ⟨91, .ints .u32 xs⟩)]⟩, 0⟩) (fun k => k.1) ⟨xs.length, Nat.le_refl _, by rw [List.take_length]⟩ ?_ ?_
  · exact q_D
  rintro ⟨k, h1, h2⟩
  have e : 0 < (k : Int) → ((k : Int) - 1).toNat = k - 1 := fun _ => by omega
  have e2 : 0 < k → (xs.take k).getD ((xs.take k).length - 1) 0 = xs.getD (k - 1) 0 := fun h => by
    simp only [List.length_take, Nat.min_eq_left h1, List.getD_eq_getElem?_getD, List.getElem?_take]
    rw [if_pos (by omega)]
  have e3 : (xs.take k).length = k := by simp; omega
  repeat' (first|(with_reducible first|apply q_a|apply q_b|apply q_c|apply q_d|apply q_e|apply q_f|apply q_g|apply q_h|apply q_i|apply q_j|apply q_k|apply q_m|apply q_n|apply q_o|apply q_p|refine q_l ?_)|((with_reducible first|refine q_q cf0_ok fun K hK=>?_|refine q_r cf0_ok fun K hK=>?_);simp (maxSteps:=2000000) only [go_sem,↓reduceIte,reduceCtorEq,Nat.reduceLeDiff,Nat.reduceLT,Nat.reduceBEq,Nat.reduceAdd];(repeat1' with_reducible first|apply And.intro|intro _|(refine hK _ ?_;clear hK K))<;>(try (clear hK K;exact q_u)))|(with_reducible refine q_s ?_;(first|apply q_J|apply q_K|apply q_L|apply q_M|apply q_N|apply q_O)<;>try intro _)|with_reducible refine endsC_ret rfl (by ((simp (maxSteps:=2000000) only [go_sem,↓reduceIte,reduceCtorEq,Nat.reduceLeDiff,Nat.reduceLT,Nat.reduceBEq,Nat.reduceAdd]); rfl)) (by first|((simp (maxSteps:=2000000) only [go_sem,↓reduceIte,reduceCtorEq,Nat.reduceLeDiff,Nat.reduceLT,Nat.reduceBEq,Nat.reduceAdd]);done)|((simp (maxSteps:=2000000) only [go_sem,↓reduceIte,reduceCtorEq,Nat.reduceLeDiff,Nat.reduceLT,Nat.reduceBEq,Nat.reduceAdd]);rfl)) rfl rfl rfl ?_)
  · rename_i hp h0
    rw [e hp] at h0 ⊢
    refine q_F ⟨k - 1, by omega, ?_⟩ ?_ ?_
    · have := trimL_drop (xs.take k) (by omega) (by rw [e2 (by omega)]; exact h0)
      rw [e3, List.take_take, Nat.min_eq_left (by omega)] at this
      rw [this, h2]
    · exact q_D
    · show k - 1 < k
      omega
  · rename_i hp h0
    rw [e hp] at h0
    rw [← h2, trimL_stop (xs.take k) (.inr (by rw [e2 (by omega)]; exact h0)), e3]
  · rw [← h2, trimL_stop (xs.take k) (.inl (by omega)), e3]

def trimCT : CT := mkCTC [.inl (some (.ints .u32 []))] false 91 (fun c K => match c with
  | .ints .u32 xs => xs.length ≤ 140737488355328 ∧ K (.ints .u32 (trimL xs))
  | _ => False) fun l K => match l with
  | [.inl (.ints .u32 xs)] => xs.length ≤ 140737488355328 ∧ K (.c (.ints .u32 (trimL xs)))
  | _ => False
def cf3 : Cfg := addT 171 trimCT cf2
theorem cf3_ok : TblOk Try.prog cf3 := mkCTC_ok cf2_ok (q_C Try.func171 (by kernel_rfl) (by kernel_rfl)) rfl (fun c K h => by
  split at h
  · exact ⟨_, trim_cut _ h.1, h.2⟩
  · exact h.elim) fun l K h => by
  split at h
  · exact ⟨_, trim_ret _ h.1, h.2⟩
  · exact h.elim
attribute [go_sem] cf3 trimCT

def okN (xs : List Int) : Bool := decide (xs.length ≤ 600 ∧ Trd xs)

theorem okN_iff (xs : List Int) (b : Bool) (h : b = true ↔ ((xs.length : Int) ≤ 600 ∧ ((xs.length : Int) = 0 ∨ xs.getD ((xs.length : Int) - 1).toNat 0 ≠ 0))) : b = okN xs := by
  have e : ((xs.length : Int) - 1).toNat = xs.length - 1 := by omega
  have h2 : okN xs = true ↔ (xs.length ≤ 600 ∧ Trd xs) := by simp [okN]
  rw [Bool.eq_iff_iff, h, e, h2]
  unfold Trd
  exact and_congr (by omega) (or_congr (by omega) Iff.rfl)

set_option maxHeartbeats 400000 in
theorem valid_ret (xs : List Int) (hx : xs.length ≤ 140737488355328) : Ret Try.prog 166 false [.inl (.ints .u32 xs)] (.c (.b (okN xs))) := by
  (refine q_H Try.func166 (fun F => ?_); simp only [q_z,q_y,Try.ntmps166,Try.results166])
  repeat' (first|(with_reducible first|apply q_a|apply q_b|apply q_c|apply q_d|apply q_e|apply q_f|apply q_g|apply q_h|apply q_i|apply q_j|apply q_k|apply q_m|apply q_n|apply q_o|apply q_p|refine q_l ?_)|((with_reducible first|refine q_q cf0_ok fun K hK=>?_|refine q_r cf0_ok fun K hK=>?_);simp (maxSteps:=2000000) only [go_sem,↓reduceIte,reduceCtorEq,Nat.reduceLeDiff,Nat.reduceLT,Nat.reduceBEq,Nat.reduceAdd];(repeat1' with_reducible first|apply And.intro|intro _|(refine hK _ ?_;clear hK K))<;>(try (clear hK K;exact q_u)))|(with_reducible refine q_s ?_;(first|apply q_J|apply q_K|apply q_L|apply q_M|apply q_N|apply q_O)<;>try intro _)|with_reducible refine q_t ?_)
  all_goals refine q_A ?_
  all_goals simp only [resAV, q_y, AV.c.injEq, C.b.injEq]
  all_goals refine okN_iff xs _ ?_
  all_goals first | (simp_all; done) | (simp_all; intro _; omega)

def okCT : CT := mkCT [.inl (some (.ints .u32 []))] true fun l K => match l with
  | [.inl (.ints .u32 xs)] => xs.length ≤ 140737488355328 ∧ K (.c (.b (okN xs)))
  | _ => False
def cf4 : Cfg := addT 166 okCT cf3
theorem cf4_ok : TblOk Try.prog cf4 := q_I cf3_ok Try.func166 fun l K h => by
  split at h
  · exact ⟨_, (valid_ret _ h.1).plain rfl, h.2⟩
  · exact h.elim
def cf5 : Cfg := cf4
theorem cf5_ok : TblOk Try.prog cf5 := cf4_ok
attribute [go_sem] cf4 cf5 okCT

def chkC (xs ys : List Int) : Int := if okN xs && okN ys then 0 else 6
def chkI (xs ys : List Int) : Int := if okN xs then (if okN ys then 0 else -2) else -1

set_option maxHeartbeats 400000 in
theorem check_ret (xs ys : List Int) (hx : xs.length ≤ 140737488355328) (hy : ys.length ≤ 140737488355328) : Ret Try.prog 157 false [.inl (.ints .u32 xs), .inl (.ints .u32 ys)] (.g [.i .i64 (chkC xs ys), .i .i64 (chkI xs ys)]) := by
  (refine q_H Try.func157 (fun F => ?_); simp only [q_z,q_y,Try.ntmps157,Try.results157])
  repeat' (first|(with_reducible first|apply q_a|apply q_b|apply q_c|apply q_d|apply q_e|apply q_f|apply q_g|apply q_h|apply q_i|apply q_j|apply q_k|apply q_m|apply q_n|apply q_o|apply q_p|refine q_l ?_)|((with_reducible first|refine q_q cf5_ok fun K hK=>?_|refine q_r cf5_ok fun K hK=>?_);simp (maxSteps:=2000000) only [go_sem,↓reduceIte,reduceCtorEq,Nat.reduceLeDiff,Nat.reduceLT,Nat.reduceBEq,Nat.reduceAdd];(repeat1' with_reducible first|apply And.intro|intro _|(refine hK _ ?_;clear hK K))<;>(try (clear hK K;exact q_u)))|(with_reducible refine q_s ?_;(first|apply q_J|apply q_K|apply q_L|apply q_M|apply q_N|apply q_O)<;>try intro _)|with_reducible refine q_t ?_)
  all_goals refine q_A ?_
  all_goals simp_all [resAV, q_y, chkC, chkI]
def checkCT : CT := mkCT [.inl (some (.ints .u32 [])), .inl (some (.ints .u32 []))] true fun l K => match l with
  | [.inl (.ints .u32 xs), .inl (.ints .u32 ys)] => (xs.length ≤ 140737488355328 ∧ ys.length ≤ 140737488355328) ∧ K (.g [.i .i64 (chkC xs ys), .i .i64 (chkI xs ys)])
  | _ => False
def cf6 : Cfg := addT 157 checkCT cf5
theorem cf6_ok : TblOk Try.prog cf6 := q_I cf5_ok Try.func157 fun l K h => by
  split at h
  · exact ⟨_, (check_ret _ _ h.1.1 h.1.2).plain rfl, h.2⟩
  · exact h.elim
attribute [go_sem] cf6 checkCT

def fitN (xs : List Int) : List Int := if (trimL xs).length ≤ 600 then trimL xs else []
def fitC (xs : List Int) : Int := if (trimL xs).length ≤ 600 then 0 else 14
def fitI (xs : List Int) : Int := if (trimL xs).length ≤ 600 then 0 else -1

set_option maxHeartbeats 400000 in
theorem fit_ret (xs : List Int) (hx : xs.length ≤ 140737488355328) : Ret Try.prog 160 false [.inl (.ints .u32 xs)] (.t [.inl (.ints .u32 (fitN xs)), .inr [.i .i64 (fitC xs), .i .i64 (fitI xs)]]) := by
  (refine q_H Try.func160 (fun F => ?_); simp only [q_z,q_y,Try.ntmps160,Try.results160])
  repeat' (first|(with_reducible first|apply q_a|apply q_b|apply q_c|apply q_d|apply q_e|apply q_f|apply q_g|apply q_h|apply q_i|apply q_j|apply q_k|apply q_m|apply q_n|apply q_o|apply q_p|refine q_l ?_)|((with_reducible first|refine q_q cf6_ok fun K hK=>?_|refine q_r cf6_ok fun K hK=>?_);simp (maxSteps:=2000000) only [go_sem,↓reduceIte,reduceCtorEq,Nat.reduceLeDiff,Nat.reduceLT,Nat.reduceBEq,Nat.reduceAdd];(repeat1' with_reducible first|apply And.intro|intro _|(refine hK _ ?_;clear hK K))<;>(try (clear hK K;exact q_u)))|(with_reducible refine q_s ?_;(first|apply q_J|apply q_K|apply q_L|apply q_M|apply q_N|apply q_O)<;>try intro _)|with_reducible refine q_t ?_)
  · exact q_B [.inl (some (.ints .u32 []))] rfl (by simp [resAV, norm, nz, fitN, fitC, fitI]; omega)
  · exact q_A (by simp [resAV, fitN, fitC, fitI]; omega)

def fitCT : CT := mkCT [.inl (some (.ints .u32 []))] false fun l K => match l with
  | [.inl (.ints .u32 xs)] => xs.length ≤ 140737488355328 ∧ K (.t [.inl (.ints .u32 (fitN xs)), .inr [.i .i64 (fitC xs), .i .i64 (fitI xs)]])
  | _ => False
def cf8 : Cfg := addT 160 fitCT cf6
theorem cf8_ok : TblOk Try.prog cf8 := q_I cf6_ok Try.func160 fun l K h => by
  split at h
  · exact ⟨_, fit_ret _ h.1, h.2⟩
  · exact h.elim
attribute [go_sem] cf8 fitCT

end Go.Proofs.Ytneecniebhhhlaa
