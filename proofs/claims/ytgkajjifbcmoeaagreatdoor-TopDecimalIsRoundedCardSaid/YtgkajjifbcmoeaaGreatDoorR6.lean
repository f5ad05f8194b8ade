import Derived.Test.YtgkajjifbcmoeaaGreatDoorR4
import Derived.Test.YtgkajjifbcmoeaaGreatDoorR5
namespace Go.Proofs.YtgkajjifbcmoeaaGreatDoor
set_option linter.unusedSimpArgs false
set_option linter.unusedVariables false
open Go.Abs Go.Proofs.NatL

theorem mixed : Tryz.prog.follows .mixedOrders = true:=by kernel_rfl
theorem flt : FltOk Tryz.prog 34:=flt_of (e:=3) ⟨⟨_,_,Tryz.underlying34,rfl,rfl,rfl,rfl,rfl,rfl⟩,Tryz.underlying3,by kernel_rfl,by kernel_rfl⟩
def cf0 : Cfg:=⟨fun _=>none,[34],false⟩
theorem cf0_ok : TblOk Tryz.prog cf0:=⟨by simp only [cf0,List.mem_singleton,forall_eq]; exact flt,by simp [cf0]⟩
attribute [go_sem] cf0 addT mkCT mkCTO norm nz nzL List.mem_singleton List.mem_cons true_or or_true
instance (xs : List Int) : Decidable (Trd xs):=inferInstanceAs (Decidable (_ ∨ _))

theorem at_ret (c i : Int) : Ret Tryz.prog 163 false [.inl (.i .i64 c),.inl (.i .i64 i)] (.g [.i .i64 c,.i .i64 i]):=by
 (refine q_H Tryz.func163 (fun F=>?_); simp only [q_z,q_y,Tryz.ntmps163,Tryz.results163])
 repeat' (first|with_reducible refine q_0 ?_|((with_reducible first|refine q_q cf0_ok fun K hK=>?_|refine q_r cf0_ok fun K hK=>?_);simp (maxSteps:=2000000) only [go_sem,↓reduceIte,reduceCtorEq,Nat.reduceLeDiff,Nat.reduceLT,Nat.reduceBEq,Nat.reduceAdd];(repeat1' with_reducible first|apply And.intro|intro _|(refine hK _ ?_;clear hK K))<;>(try (clear hK K;exact q_u)))|(with_reducible refine q_s ?_;(first|apply q_J|apply q_K|apply q_L|apply q_M|apply q_N|apply q_O)<;>try intro _))
 exact q_A rfl
theorem At_ret (c i : Int) : Ret Tryz.prog 33 false [.inl (.i .i64 c),.inl (.i .i64 i)] (.g [.i .i64 c,.i .i64 i]):=by
 (refine q_H Tryz.func33 (fun F=>?_); simp only [q_z,q_y,Tryz.ntmps33,Tryz.results33])
 repeat' (first|with_reducible refine q_0 ?_|((with_reducible first|refine q_q cf0_ok fun K hK=>?_|refine q_r cf0_ok fun K hK=>?_);simp (maxSteps:=2000000) only [go_sem,↓reduceIte,reduceCtorEq,Nat.reduceLeDiff,Nat.reduceLT,Nat.reduceBEq,Nat.reduceAdd];(repeat1' with_reducible first|apply And.intro|intro _|(refine hK _ ?_;clear hK K))<;>(try (clear hK K;exact q_u)))|(with_reducible refine q_s ?_;(first|apply q_J|apply q_K|apply q_L|apply q_M|apply q_N|apply q_O)<;>try intro _))
 exact q_A rfl

def atCT : CT:=mkCT [] true fun l K=>match l with
 | [.inl (.i .i64 c),.inl (.i .i64 i)]=>K (.g [.i .i64 c,.i .i64 i])
 | _=>False
def cf1 : Cfg:=addT 163 atCT cf0
theorem cf1_ok : TblOk Tryz.prog cf1:=q_I cf0_ok Tryz.func163 fun l K h=>by
 split at h
 ·exact ⟨_,(at_ret _ _).plain rfl,h⟩
 ·exact h.elim
def cf2 : Cfg:=addT 33 atCT cf1
theorem cf2_ok : TblOk Tryz.prog cf2:=q_I cf1_ok Tryz.func33 fun l K h=>by
 split at h
 ·exact ⟨_,(At_ret _ _).plain rfl,h⟩
 ·exact h.elim
attribute [go_sem] cf1 cf2 atCT
set_option maxHeartbeats 400000 in
theorem trim_ret (xs : List Int) (hx : xs.length ≤ 140737488355328) : Ret Tryz.prog 202 false [.inl (.ints .u32 xs)] (.c (.ints .u32 (trimL xs))):=by
 (refine q_H Tryz.func202 (fun F=>?_); simp only [q_z,q_y,Tryz.ntmps202,Tryz.results202])
 repeat' (first|with_reducible refine q_0 ?_|((with_reducible first|refine q_q cf0_ok fun K hK=>?_|refine q_r cf0_ok fun K hK=>?_);simp (maxSteps:=2000000) only [go_sem,↓reduceIte,reduceCtorEq,Nat.reduceLeDiff,Nat.reduceLT,Nat.reduceBEq,Nat.reduceAdd];(repeat1' with_reducible first|apply And.intro|intro _|(refine hK _ ?_;clear hK K))<;>(try (clear hK K;exact q_u)))|(with_reducible refine q_s ?_;(first|apply q_J|apply q_K|apply q_L|apply q_M|apply q_N|apply q_O)<;>try intro _))
 refine q_G (ι:={ ys : List Int // trimL ys = trimL xs ∧ ys.length ≤ 140737488355328 }) (fun ys=>⟨21,[(0,.c (.ints .u32 ys.1))],⟨[],[],[]⟩,0⟩) (fun ys=>ys.1.length) ⟨xs,rfl,hx⟩ ?_ ?_
 ·exact q_D
 rintro ⟨ys,h1,h2⟩
 have e : 0 < (ys.length : Int) → ((ys.length : Int) - 1).toNat = ys.length - 1:=fun _=>by omega
 repeat' (first|with_reducible refine q_0 ?_|((with_reducible first|refine q_q cf0_ok fun K hK=>?_|refine q_r cf0_ok fun K hK=>?_);simp (maxSteps:=2000000) only [go_sem,↓reduceIte,reduceCtorEq,Nat.reduceLeDiff,Nat.reduceLT,Nat.reduceBEq,Nat.reduceAdd];(repeat1' with_reducible first|apply And.intro|intro _|(refine hK _ ?_;clear hK K))<;>(try (clear hK K;exact q_u)))|(with_reducible refine q_s ?_;(first|apply q_J|apply q_K|apply q_L|apply q_M|apply q_N|apply q_O)<;>try intro _))
 ·rename_i hp h0
  rw [e hp] at h0 ⊢
  refine q_F ⟨ys.take (ys.length - 1),by rw [trimL_drop ys (by omega) h0,h1],by simp; omega⟩ ?_ ?_
  ·exact q_D
  ·show (ys.take (ys.length - 1)).length < ys.length
   simp; omega
 ·rename_i hp h0
  rw [e hp] at h0
  exact q_A (by rw [← h1,trimL_stop ys (.inr h0)]; rfl)
 ·exact q_A (by rw [← h1,trimL_stop ys (.inl (by omega))]; rfl)

set_option maxHeartbeats 400000 in
theorem trim_cut (xs : List Int) (hx : xs.length ≤ 140737488355328) : RetC Tryz.prog 202 105 (.ints .u32 xs) (.ints .u32 (trimL xs)):=by
 refine ret_cut (k:=(trimL xs).length) Tryz.func202 rfl (Nat.le_of_ble_eq_true rfl) rfl (fun rs hr=>?_) (fun F=>?_)
 ·simp only [C.rows,C.z,Option.some.injEq,Prod.mk.injEq,true_and] at hr ⊢
  rw [← hr,← List.map_take,← trimL_take]
 simp only [Tryz.ntmps202,Tryz.results202]
 repeat' (first|with_reducible refine q_0 ?_|((with_reducible first|refine q_q cf0_ok fun K hK=>?_|refine q_r cf0_ok fun K hK=>?_);simp (maxSteps:=2000000) only [go_sem,↓reduceIte,reduceCtorEq,Nat.reduceLeDiff,Nat.reduceLT,Nat.reduceBEq,Nat.reduceAdd];(repeat1' with_reducible first|apply And.intro|intro _|(refine hK _ ?_;clear hK K))<;>(try (clear hK K;exact q_u)))|(with_reducible refine q_s ?_;(first|apply q_J|apply q_K|apply q_L|apply q_M|apply q_N|apply q_O)<;>try intro _)|with_reducible refine endsC_ret rfl (by ((simp (maxSteps:=2000000) only [go_sem,↓reduceIte,reduceCtorEq,Nat.reduceLeDiff,Nat.reduceLT,Nat.reduceBEq,Nat.reduceAdd]); rfl)) (by first|((simp (maxSteps:=2000000) only [go_sem,↓reduceIte,reduceCtorEq,Nat.reduceLeDiff,Nat.reduceLT,Nat.reduceBEq,Nat.reduceAdd]);done)|((simp (maxSteps:=2000000) only [go_sem,↓reduceIte,reduceCtorEq,Nat.reduceLeDiff,Nat.reduceLT,Nat.reduceBEq,Nat.reduceAdd]);rfl)) rfl rfl rfl ?_)
 refine q_G (ι:={ k : Nat // k ≤ xs.length ∧ trimL (xs.take k) = trimL xs }) (fun k=>⟨21,[(0,.bw 0 0 k.1)],⟨[],[],[(0,⟨105,.ints .u32 xs⟩)]⟩,0⟩) (fun k=>k.1) ⟨xs.length,Nat.le_refl _,by rw [List.take_length]⟩ ?_ ?_
 ·exact q_D
 rintro ⟨k,h1,h2⟩
 have e : 0 < (k : Int) → ((k : Int) - 1).toNat = k - 1:=fun _=>by omega
 have e2 : 0 < k → (xs.take k).getD ((xs.take k).length - 1) 0 = xs.getD (k - 1) 0:=fun h=>by
  simp only [List.length_take,Nat.min_eq_left h1,List.getD_eq_getElem?_getD,List.getElem?_take]
  rw [if_pos (by omega)]
 have e3 : (xs.take k).length = k:=by simp; omega
 repeat' (first|with_reducible refine q_0 ?_|((with_reducible first|refine q_q cf0_ok fun K hK=>?_|refine q_r cf0_ok fun K hK=>?_);simp (maxSteps:=2000000) only [go_sem,↓reduceIte,reduceCtorEq,Nat.reduceLeDiff,Nat.reduceLT,Nat.reduceBEq,Nat.reduceAdd];(repeat1' with_reducible first|apply And.intro|intro _|(refine hK _ ?_;clear hK K))<;>(try (clear hK K;exact q_u)))|(with_reducible refine q_s ?_;(first|apply q_J|apply q_K|apply q_L|apply q_M|apply q_N|apply q_O)<;>try intro _)|with_reducible refine endsC_ret rfl (by ((simp (maxSteps:=2000000) only [go_sem,↓reduceIte,reduceCtorEq,Nat.reduceLeDiff,Nat.reduceLT,Nat.reduceBEq,Nat.reduceAdd]); rfl)) (by first|((simp (maxSteps:=2000000) only [go_sem,↓reduceIte,reduceCtorEq,Nat.reduceLeDiff,Nat.reduceLT,Nat.reduceBEq,Nat.reduceAdd]);done)|((simp (maxSteps:=2000000) only [go_sem,↓reduceIte,reduceCtorEq,Nat.reduceLeDiff,Nat.reduceLT,Nat.reduceBEq,Nat.reduceAdd]);rfl)) rfl rfl rfl ?_)
 ·rename_i hp h0
  rw [e hp] at h0 ⊢
  refine q_F ⟨k - 1,by omega,?_⟩ ?_ ?_
  ·have:=trimL_drop (xs.take k) (by omega) (by rw [e2 (by omega)]; exact h0)
   rw [e3,List.take_take,Nat.min_eq_left (by omega)] at this
   rw [this,h2]
  ·exact q_D
  ·show k - 1 < k
   omega
 ·rename_i hp h0
  rw [e hp] at h0
  rw [← h2,trimL_stop (xs.take k) (.inr (by rw [e2 (by omega)]; exact h0)),e3]
 ·rw [← h2,trimL_stop (xs.take k) (.inl (by omega)),e3]

def trimCT : CT:=mkCTC [.inl (some (.ints .u32 []))] false 105 (fun c K=>match c with
 | .ints .u32 xs=>xs.length ≤ 140737488355328 ∧ K (.ints .u32 (trimL xs))
 | _=>False) fun l K=>match l with
 | [.inl (.ints .u32 xs)]=>xs.length ≤ 140737488355328 ∧ K (.c (.ints .u32 (trimL xs)))
 | _=>False
def cf3 : Cfg:=addT 202 trimCT cf2
theorem cf3_ok : TblOk Tryz.prog cf3:=mkCTC_ok cf2_ok (q_C Tryz.func202 (by kernel_rfl) (by kernel_rfl)) rfl (fun c K h=>by
 split at h
 ·exact ⟨_,trim_cut _ h.1,h.2⟩
 ·exact h.elim) fun l K h=>by
 split at h
 ·exact ⟨_,trim_ret _ h.1,h.2⟩
 ·exact h.elim
attribute [go_sem] cf3 trimCT
def okN (xs : List Int) : Bool:=decide (xs.length ≤ 600 ∧ Trd xs)

theorem okN_iff (xs : List Int) (b : Bool) (h : b = true ↔ ((xs.length : Int) ≤ 600 ∧ ((xs.length : Int) = 0 ∨ xs.getD ((xs.length : Int) - 1).toNat 0 ≠ 0))) : b = okN xs:=by
 have e : ((xs.length : Int) - 1).toNat = xs.length - 1:=by omega
 have h2 : okN xs = true ↔ (xs.length ≤ 600 ∧ Trd xs):=by simp [okN]
 rw [Bool.eq_iff_iff,h,e,h2]
 unfold Trd
 exact and_congr (by omega) (or_congr (by omega) Iff.rfl)

set_option maxHeartbeats 400000 in
theorem valid_ret (xs : List Int) (hx : xs.length ≤ 140737488355328) : Ret Tryz.prog 192 false [.inl (.ints .u32 xs)] (.c (.b (okN xs))):=by
 (refine q_H Tryz.func192 (fun F=>?_); simp only [q_z,q_y,Tryz.ntmps192,Tryz.results192])
 repeat' (first|with_reducible refine q_0 ?_|((with_reducible first|refine q_q cf0_ok fun K hK=>?_|refine q_r cf0_ok fun K hK=>?_);simp (maxSteps:=2000000) only [go_sem,↓reduceIte,reduceCtorEq,Nat.reduceLeDiff,Nat.reduceLT,Nat.reduceBEq,Nat.reduceAdd];(repeat1' with_reducible first|apply And.intro|intro _|(refine hK _ ?_;clear hK K))<;>(try (clear hK K;exact q_u)))|(with_reducible refine q_s ?_;(first|apply q_J|apply q_K|apply q_L|apply q_M|apply q_N|apply q_O)<;>try intro _))
 all_goals refine q_A ?_
 all_goals simp only [resAV,q_y,AV.c.injEq,C.b.injEq]
 all_goals refine okN_iff xs _ ?_
 all_goals first | (simp_all; done) | (simp_all; intro _; omega)

def okCT : CT:=mkCT [.inl (some (.ints .u32 []))] true fun l K=>match l with
 | [.inl (.ints .u32 xs)]=>xs.length ≤ 140737488355328 ∧ K (.c (.b (okN xs)))
 | _=>False
def cf4 : Cfg:=addT 192 okCT cf3
theorem cf4_ok : TblOk Tryz.prog cf4:=q_I cf3_ok Tryz.func192 fun l K h=>by
 split at h
 ·exact ⟨_,(valid_ret _ h.1).plain rfl,h.2⟩
 ·exact h.elim
def cf5 : Cfg:=cf4
theorem cf5_ok : TblOk Tryz.prog cf5:=cf4_ok
attribute [go_sem] cf4 cf5 okCT
def chkC (xs ys : List Int) : Int:=if okN xs && okN ys then 0 else 6
def chkI (xs ys : List Int) : Int:=if okN xs then (if okN ys then 0 else -2) else -1

set_option maxHeartbeats 400000 in
theorem check_ret (xs ys : List Int) (hx : xs.length ≤ 140737488355328) (hy : ys.length ≤ 140737488355328) : Ret Tryz.prog 160 false [.inl (.ints .u32 xs),.inl (.ints .u32 ys)] (.g [.i .i64 (chkC xs ys),.i .i64 (chkI xs ys)]):=by
 (refine q_H Tryz.func160 (fun F=>?_); simp only [q_z,q_y,Tryz.ntmps160,Tryz.results160])
 repeat' (first|with_reducible refine q_0 ?_|((with_reducible first|refine q_q cf5_ok fun K hK=>?_|refine q_r cf5_ok fun K hK=>?_);simp (maxSteps:=2000000) only [go_sem,↓reduceIte,reduceCtorEq,Nat.reduceLeDiff,Nat.reduceLT,Nat.reduceBEq,Nat.reduceAdd];(repeat1' with_reducible first|apply And.intro|intro _|(refine hK _ ?_;clear hK K))<;>(try (clear hK K;exact q_u)))|(with_reducible refine q_s ?_;(first|apply q_J|apply q_K|apply q_L|apply q_M|apply q_N|apply q_O)<;>try intro _))
 all_goals refine q_A ?_
 all_goals simp_all [resAV,q_y,chkC,chkI]
def checkCT : CT:=mkCT [.inl (some (.ints .u32 [])),.inl (some (.ints .u32 []))] true fun l K=>match l with
 | [.inl (.ints .u32 xs),.inl (.ints .u32 ys)]=>(xs.length ≤ 140737488355328 ∧ ys.length ≤ 140737488355328) ∧ K (.g [.i .i64 (chkC xs ys),.i .i64 (chkI xs ys)])
 | _=>False
def cf6 : Cfg:=addT 160 checkCT cf5
theorem cf6_ok : TblOk Tryz.prog cf6:=q_I cf5_ok Tryz.func160 fun l K h=>by
 split at h
 ·exact ⟨_,(check_ret _ _ h.1.1 h.1.2).plain rfl,h.2⟩
 ·exact h.elim
attribute [go_sem] cf6 checkCT
def fitN (xs : List Int) : List Int:=if (trimL xs).length ≤ 600 then trimL xs else []
def fitC (xs : List Int) : Int:=if (trimL xs).length ≤ 600 then 0 else 14
def fitI (xs : List Int) : Int:=if (trimL xs).length ≤ 600 then 0 else -1

set_option maxHeartbeats 400000 in
theorem fit_ret (xs : List Int) (hx : xs.length ≤ 140737488355328) : Ret Tryz.prog 166 false [.inl (.ints .u32 xs)] (.t [.inl (.ints .u32 (fitN xs)),.inr [.i .i64 (fitC xs),.i .i64 (fitI xs)]]):=by
 (refine q_H Tryz.func166 (fun F=>?_); simp only [q_z,q_y,Tryz.ntmps166,Tryz.results166])
 repeat' (first|with_reducible refine q_0 ?_|((with_reducible first|refine q_q cf6_ok fun K hK=>?_|refine q_r cf6_ok fun K hK=>?_);simp (maxSteps:=2000000) only [go_sem,↓reduceIte,reduceCtorEq,Nat.reduceLeDiff,Nat.reduceLT,Nat.reduceBEq,Nat.reduceAdd];(repeat1' with_reducible first|apply And.intro|intro _|(refine hK _ ?_;clear hK K))<;>(try (clear hK K;exact q_u)))|(with_reducible refine q_s ?_;(first|apply q_J|apply q_K|apply q_L|apply q_M|apply q_N|apply q_O)<;>try intro _))
 ·exact q_B [.inl (some (.ints .u32 []))] rfl (by simp [resAV,norm,nz,fitN,fitC,fitI]; omega)
 ·exact q_A (by simp [resAV,fitN,fitC,fitI]; omega)

def fitCT : CT:=mkCT [.inl (some (.ints .u32 []))] false fun l K=>match l with
 | [.inl (.ints .u32 xs)]=>xs.length ≤ 140737488355328 ∧ K (.t [.inl (.ints .u32 (fitN xs)),.inr [.i .i64 (fitC xs),.i .i64 (fitI xs)]])
 | _=>False
def cf8 : Cfg:=addT 166 fitCT cf6
theorem cf8_ok : TblOk Tryz.prog cf8:=q_I cf6_ok Tryz.func166 fun l K h=>by
 split at h
 ·exact ⟨_,fit_ret _ h.1,h.2⟩
 ·exact h.elim
attribute [go_sem] cf8 fitCT
end Go.Proofs.YtgkajjifbcmoeaaGreatDoor

namespace Go.Proofs.YtgkajjifbcmoeaaGreatDoor
set_option linter.unusedSimpArgs false
set_option linter.unusedVariables false
open Go.Abs Go.Proofs.NatL
attribute [go_sem] cf0 addT mkCT mkCTO norm nz nzL List.mem_singleton List.mem_cons true_or or_true cf1 cf2 atCT cf3 trimCT cf4 cf5 okCT cf6 checkCT cf8 fitCT
def cmpL (xs ys : List Int) : Int:=if xs.length ≠ ys.length then (xs.length : Int) - ys.length else cmp3 (V 4294967296 xs) (V 4294967296 ys)

set_option maxHeartbeats 800000 in
theorem compare_ret (xs ys : List Int) (hx : xs.length ≤ 140737488355328) (hy : ys.length ≤ 140737488355328) (bx : InB 4294967296 xs) (by' : InB 4294967296 ys) : Ret Tryz.prog 188 false [.inl (.ints .u32 xs),.inl (.ints .u32 ys)] (.c (.i .i64 (cmpL xs ys))):=by
 (refine q_H Tryz.func188 (fun F=>?_); simp only [q_z,q_y,Tryz.ntmps188,Tryz.results188])
 repeat' (first|with_reducible refine q_0 ?_|((with_reducible first|refine q_q cf0_ok fun K hK=>?_|refine q_r cf0_ok fun K hK=>?_);simp (maxSteps:=2000000) only [go_sem,↓reduceIte,reduceCtorEq,Nat.reduceLeDiff,Nat.reduceLT,Nat.reduceBEq,Nat.reduceAdd];(repeat1' with_reducible first|apply And.intro|intro _|(refine hK _ ?_;clear hK K))<;>(try (clear hK K;exact q_u)))|(with_reducible refine q_s ?_;(first|apply q_J|apply q_K|apply q_L|apply q_M|apply q_N|apply q_O)<;>try intro _))
 ·exact q_A (by simp only [resAV,q_y,cmpL]; rw [if_pos (by omega)])
 rename_i hl
 have hl : xs.length = ys.length:=by omega
 refine q_G (ι:={ i : Int // -1 ≤ i ∧ i < xs.length ∧ xs.drop (i + 1).toNat = ys.drop (i + 1).toNat }) (fun i=>⟨41,[(0,.c (.ints .u32 xs)),(1,.c (.ints .u32 ys)),(5,.c (.i .i64 i.1))],⟨[],[],[]⟩,0⟩) (fun i=>(i.1 + 1).toNat) ⟨(xs.length : Int) - 1,by omega,by omega,by rw [List.drop_eq_nil_of_le (by omega),List.drop_eq_nil_of_le (by omega)]⟩ ?_ ?_
 ·exact q_D
 rintro ⟨i,h1,h2,h3⟩
 simp only
 have e1 : 0 ≤ i → (i + 1).toNat = i.toNat + 1:=fun _=>by omega
 repeat' (first|with_reducible refine q_0 ?_|((with_reducible first|refine q_q cf0_ok fun K hK=>?_|refine q_r cf0_ok fun K hK=>?_);simp (maxSteps:=2000000) only [go_sem,↓reduceIte,reduceCtorEq,Nat.reduceLeDiff,Nat.reduceLT,Nat.reduceBEq,Nat.reduceAdd];(repeat1' with_reducible first|apply And.intro|intro _|(refine hK _ ?_;clear hK K))<;>(try (clear hK K;exact q_u)))|(with_reducible refine q_s ?_;(first|apply q_J|apply q_K|apply q_L|apply q_M|apply q_N|apply q_O)<;>try intro _))
 ·rename_i h0 _ hlt
  rw [e1 h0] at h3
  have:=cmp_at (by omega) bx by' hl i.toNat (by omega) h3 hlt
  exact q_A (by simp only [resAV,q_y,cmpL,cmp3]; rw [if_neg (by omega),if_pos this])
 ·rename_i h0 hne hlt
  rw [e1 h0] at h3
  have:=cmp_at (by omega) by' bx hl.symm i.toNat (by omega) h3.symm (by omega)
  exact q_A (by simp only [resAV,q_y,cmpL,cmp3]; rw [if_neg (by omega),if_neg (by omega),if_neg (by omega)])
 ·rename_i h0 he
  rw [e1 h0] at h3
  refine q_F ⟨i - 1,by omega,by omega,?_⟩ ?_ ?_
  ·rw [show (i - 1 + 1).toNat = i.toNat by omega]
   exact drop_step hl i.toNat (by omega) h3 (by omega)
  ·exact q_D
  ·show (i - 1 + 1).toNat < (i + 1).toNat
   omega
 ·rename_i h0
  rw [show (i + 1).toNat = 0 by omega] at h3
  simp only [List.drop_zero] at h3
  exact q_A (by simp only [resAV,q_y,cmpL,cmp3,h3]; simp)

def compareCT : CT:=mkCT [.inl (some (.ints .u32 [])),.inl (some (.ints .u32 []))] true fun l K=>match l with
 | [.inl (.ints .u32 xs),.inl (.ints .u32 ys)]=>(xs.length ≤ 140737488355328 ∧ ys.length ≤ 140737488355328 ∧ InB 4294967296 xs ∧ InB 4294967296 ys) ∧ K (.c (.i .i64 (cmpL xs ys)))
 | _=>False
def cf9 : Cfg:=addT 188 compareCT cf8
theorem cf9_ok : TblOk Tryz.prog cf9:=q_I cf8_ok Tryz.func188 fun l K h=>by
 split at h
 ·exact ⟨_,(compare_ret _ _ h.1.1 h.1.2.1 h.1.2.2.1 h.1.2.2.2).plain rfl,h.2⟩
 ·exact h.elim
attribute [go_sem] cf9 compareCT
set_option maxHeartbeats 800000 in
theorem clone_ret (xs : List Int) (hx : xs.length ≤ 16777216) : RetO Tryz.prog 161 [.inl (.ints .u32 xs)] 105 1 (.ints .u32 xs):=by
 by_cases h0 : xs = []
 ·subst h0
  refine retO_split rfl ?_ ?_
  ·(refine q_x Tryz.func161 rfl (Nat.le_of_ble_eq_true rfl) (fun F=>?_); simp only [q_z,q_y,Tryz.ntmps161,Tryz.results161])
   repeat' (first|with_reducible refine q_0 ?_|((with_reducible first|refine q_q cf0_ok fun K hK=>?_|refine q_r cf0_ok fun K hK=>?_);simp (maxSteps:=2000000) only [go_sem,↓reduceIte,reduceCtorEq,Nat.reduceLeDiff,Nat.reduceLT,Nat.reduceBEq,Nat.reduceAdd];(repeat1' with_reducible first|apply And.intro|intro _|(refine hK _ ?_;clear hK K))<;>(try (clear hK K;exact q_u)))|(with_reducible refine q_s ?_;(first|apply q_J|apply q_K|apply q_L|apply q_M|apply q_N|apply q_O)<;>try intro _))
   exact endsO_nil rfl rfl rfl (by omega) rfl
  ·(refine q_x Tryz.func161 rfl (Nat.le_of_ble_eq_true rfl) (fun F=>?_); simp only [q_z,q_y,Tryz.ntmps161,Tryz.results161])
   repeat' (first|with_reducible refine q_0 ?_|((with_reducible first|refine q_q cf0_ok fun K hK=>?_|refine q_r cf0_ok fun K hK=>?_);simp (maxSteps:=2000000) only [go_sem,↓reduceIte,reduceCtorEq,Nat.reduceLeDiff,Nat.reduceLT,Nat.reduceBEq,Nat.reduceAdd];(repeat1' with_reducible first|apply And.intro|intro _|(refine hK _ ?_;clear hK K))<;>(try (clear hK K;exact q_u)))|(with_reducible refine q_s ?_;(first|apply q_J|apply q_K|apply q_L|apply q_M|apply q_N|apply q_O)<;>try intro _))
   exact endsO_own rfl rfl rfl rfl rfl rfl rfl
 ·(refine q_x Tryz.func161 rfl (Nat.le_of_ble_eq_true rfl) (fun F=>?_); simp only [q_z,q_y,Tryz.ntmps161,Tryz.results161])
  repeat' (first|with_reducible refine q_0 ?_|((with_reducible first|refine q_q cf0_ok fun K hK=>?_|refine q_r cf0_ok fun K hK=>?_);simp (maxSteps:=2000000) only [go_sem,↓reduceIte,reduceCtorEq,Nat.reduceLeDiff,Nat.reduceLT,Nat.reduceBEq,Nat.reduceAdd];(repeat1' with_reducible first|apply And.intro|intro _|(refine hK _ ?_;clear hK K))<;>(try (clear hK K;exact q_u)))|(with_reducible refine q_s ?_;(first|apply q_J|apply q_K|apply q_L|apply q_M|apply q_N|apply q_O)<;>try intro _))
  exact endsO_own rfl rfl rfl rfl rfl rfl rfl

def cloneCT : CT:=mkCTO [.inl (some (.ints .u32 []))] 105 1 fun l K=>match l with
 | [.inl (.ints .u32 xs)]=>xs.length ≤ 16777216 ∧ K (.c (.ints .u32 xs))
 | _=>False
def cf10 : Cfg:=addT 161 cloneCT cf9
theorem cf10_ok : TblOk Tryz.prog cf10:=mkCTO_ok cf9_ok (q_C Tryz.func161 (by kernel_rfl) (by kernel_rfl)) rfl fun l K h=>by
 split at h
 ·exact ⟨_,clone_ret _ h.1,h.2⟩
 ·exact h.elim
attribute [go_sem] cf10 cloneCT
theorem sub32_ret (x y b : Int) (hx : 0 ≤ x ∧ x < 4294967296) (hy : 0 ≤ y ∧ y < 4294967296) (hb : 0 ≤ b ∧ b ≤ 1) : Ret Tryz.prog 221 false [.inl (.i .u32 x),.inl (.i .u32 y),.inl (.i .u32 b)] (.t [.inl (.i .u32 ((x - y - b) % 4294967296)),.inl (.i .u32 (if x < y + b then 1 else 0))]):=by
 (refine q_H Tryz.func221 (fun F=>?_); simp only [q_z,q_y,Tryz.ntmps221,Tryz.results221])
 repeat' (first|with_reducible refine q_0 ?_|((with_reducible first|refine q_q cf0_ok fun K hK=>?_|refine q_r cf0_ok fun K hK=>?_);simp (maxSteps:=2000000) only [go_sem,↓reduceIte,reduceCtorEq,Nat.reduceLeDiff,Nat.reduceLT,Nat.reduceBEq,Nat.reduceAdd];(repeat1' with_reducible first|apply And.intro|intro _|(refine hK _ ?_;clear hK K))<;>(try (clear hK K;exact q_u)))|(with_reducible refine q_s ?_;(first|apply q_J|apply q_K|apply q_L|apply q_M|apply q_N|apply q_O)<;>try intro _))
 have e1 : ((x - y) % 4294967296 - b) % 4294967296 = (x - y - b) % 4294967296:=by omega
 have e2 : IntKind.u32.max = 4294967295:=by decide
 exact q_A (by rw [e1,e2,borrow32 x y _ b hx.1 hx.2 hy.1 hy.2 hb.1 hb.2 rfl]; rfl)

def sub32CT : CT:=mkCT [] true fun l K=>match l with
 | [.inl (.i .u32 x),.inl (.i .u32 y),.inl (.i .u32 b)]=>((0 ≤ x ∧ x < 4294967296) ∧ (0 ≤ y ∧ y < 4294967296) ∧ 0 ≤ b ∧ b ≤ 1) ∧ K (.t [.inl (.i .u32 ((x - y - b) % 4294967296)),.inl (.i .u32 (if x < y + b then 1 else 0))])
 | _=>False
def cf11 : Cfg:=addT 221 sub32CT cf10
theorem cf11_ok : TblOk Tryz.prog cf11:=q_I cf10_ok Tryz.func221 fun l K h=>by
 split at h
 ·exact ⟨_,(sub32_ret _ _ _ h.1.1 h.1.2.1 h.1.2.2).plain rfl,h.2⟩
 ·exact h.elim
attribute [go_sem] cf11 sub32CT shr32
set_option maxHeartbeats 800000 in
theorem add_ret (xs ys : List Int) (hx : xs.length ≤ 16777216) (hy : ys.length ≤ 16777216) (bx : InB 4294967296 xs) (by' : InB 4294967296 ys) : Ret Tryz.prog 187 false [.inl (.ints .u32 xs),.inl (.ints .u32 ys)] (.c (.ints .u32 (dg 4294967296 (V 4294967296 xs + V 4294967296 ys)))):=by
 (refine q_H Tryz.func187 (fun F=>?_); simp only [q_z,q_y,Tryz.ntmps187,Tryz.results187])
 refine q_a ?_
 ((first | with_reducible refine q_q cf0_ok (fun K hK=>?_) | with_reducible refine awp_region_draw cf0_ok mixed (by kernel_rfl) (fun K hK=>?_)); (simp (maxSteps:=2000000) only [go_sem,↓reduceIte,reduceCtorEq,Nat.reduceLeDiff,Nat.reduceLT,Nat.reduceBEq,Nat.reduceAdd]); (first | with_reducible apply And.intro | with_reducible intro _ | (with_reducible refine hK _ ?_; clear hK K)) <;> (repeat' (first | with_reducible apply And.intro | with_reducible intro _ | (with_reducible refine hK _ ?_; clear hK K))) <;> (try (clear hK K; first | omega | assumption | ((simp (disch:=omega) only [Int.tdiv_eq_ediv_of_nonneg,Int.tmod_eq_emod_of_nonneg]); omega))))
 refine q_b ?_
 refine seq_join (ι:={ p : List Int × List Int // p.2.length ≤ p.1.length ∧ p.1.length ≤ 16777216 ∧ InB 4294967296 p.1 ∧ InB 4294967296 p.2 ∧ V 4294967296 p.1 + V 4294967296 p.2 = V 4294967296 xs + V 4294967296 ys }) (fun p=>⟨56,[(0,.c (.ints .u32 p.1.1)),(1,.c (.ints .u32 p.1.2))],⟨[],[],[]⟩,0⟩) ?_ ?_
 ·repeat' (first|with_reducible refine q_0 ?_|((with_reducible first|refine q_q cf0_ok fun K hK=>?_|refine q_r cf0_ok fun K hK=>?_);simp (maxSteps:=2000000) only [go_sem,↓reduceIte,reduceCtorEq,Nat.reduceLeDiff,Nat.reduceLT,Nat.reduceBEq,Nat.reduceAdd];(repeat1' with_reducible first|apply And.intro|intro _|(refine hK _ ?_;clear hK K))<;>(try (clear hK K;exact q_u)))|(with_reducible refine q_s ?_;(first|apply q_J|apply q_K|apply q_L|apply q_M|apply q_N|apply q_O)<;>try intro _))
  ·rename_i h
   refine join_n ⟨(ys,xs),by simp only; omega,hy,by',bx,Nat.add_comm _ _⟩ ?_
   exact q_D
  ·rename_i h
   refine join_n ⟨(xs,ys),by simp only; omega,hx,bx,by',rfl⟩ ?_
   exact q_D
 rintro ⟨⟨us,vs⟩,h1,h2,h3,h4,h5⟩
 simp only at h1 h2 h3 h4 h5 ⊢
 rw [← h5]
 repeat' (first|with_reducible refine q_0 ?_|((with_reducible first|refine q_q cf0_ok fun K hK=>?_|refine q_r cf0_ok fun K hK=>?_);simp (maxSteps:=2000000) only [go_sem,↓reduceIte,reduceCtorEq,Nat.reduceLeDiff,Nat.reduceLT,Nat.reduceBEq,Nat.reduceAdd];(repeat1' with_reducible first|apply And.intro|intro _|(refine hK _ ?_;clear hK K))<;>(try (clear hK K;exact q_u)))|(with_reducible refine q_s ?_;(first|apply q_J|apply q_K|apply q_L|apply q_M|apply q_N|apply q_O)<;>try intro _))
 refine q_G (ι:={ p : Nat × List Int × Int // p.1 ≤ us.length ∧ p.2.1.length = p.1 ∧ InB 4294967296 p.2.1 ∧ 0 ≤ p.2.2 ∧ p.2.2 ≤ 1 ∧ V 4294967296 p.2.1 + 4294967296 ^ p.1 * p.2.2.toNat = V 4294967296 (us.take p.1) + V 4294967296 (vs.take p.1) }) (fun p=>⟨56,[(0,.c (.ints .u32 us)),(1,.c (.ints .u32 vs)),(5,.own 0 0),(6,.c (.i .u64 p.1.2.2)),(20,.c (.ints .u32 us)),(21,.c (.i .i64 us.length)),(22,.c (.i .i64 p.1.1))],⟨[],[(0,⟨0,105,1,.ints .u32 p.1.2.1⟩)],[]⟩,1⟩) (fun p=>us.length - p.1.1) ⟨(0,[],0),by simp,rfl,InB_nil _,by simp,by simp,by simp [V]⟩ ?_ ?_
 ·exact q_D
 rintro ⟨⟨i,o,c⟩,g1,g2,g3,g4,g5,g6⟩
 simp only at g1 g2 g3 g4 g5 g6 ⊢
 have b1:=InB_getD (by omega) h3 i
 have b2:=InB_getD (by omega) h4 i
 repeat' (first|with_reducible refine q_0 ?_|((with_reducible first|refine q_q cf3_ok fun K hK=>?_|refine q_r cf3_ok fun K hK=>?_);simp (maxSteps:=2000000) only [go_sem,↓reduceIte,reduceCtorEq,Nat.reduceLeDiff,Nat.reduceLT,Nat.reduceBEq,Nat.reduceAdd];(repeat1' with_reducible first|apply And.intro|intro _|(refine hK _ ?_;clear hK K))<;>(try (clear hK K;exact q_u)))|(with_reducible refine q_s ?_;(first|apply q_J|apply q_K|apply q_L|apply q_M|apply q_N|apply q_O)<;>try intro _))
 ·rename_i ha hb
  refine q_F ⟨(i + 1,o ++ [(c + us.getD i 0 + vs.getD i 0) % 4294967296],(c + us.getD i 0 + vs.getD i 0) / 4294967296),by simp only; omega,by simp [g2],InB_snoc g3 (by omega) (by omega),by simp only; omega,by simp only; omega,by simp only; exact add_step _ _ _ us vs c _ _ _ _ g6 g2 rfl rfl (by omega)⟩ ?_ ?_
  ·exact q_D
  ·show us.length - (i + 1) < us.length - i
   omega
 ·rename_i ha hb
  have e:=getD_ge vs i (by omega)
  refine q_F ⟨(i + 1,o ++ [(c + us.getD i 0) % 4294967296],(c + us.getD i 0) / 4294967296),by simp only; omega,by simp [g2],InB_snoc g3 (by omega) (by omega),by simp only; omega,by simp only; omega,by simp only; exact add_step _ _ _ us vs c _ _ _ _ g6 g2 rfl e.symm (by omega)⟩ ?_ ?_
  ·exact q_D
  ·show us.length - (i + 1) < us.length - i
   omega
 ·rename_i ha
  have hi : i = us.length:=by omega
  have hc : c % 4294967296 = c:=by omega
  refine q_A ?_
  simp only [resAV,q_y,hc]
  rw [trimL_eq 4294967296 (by omega) _ (InB_snoc g3 g4 (by omega)),V_snoc,g2,g6,hi,List.take_length,List.take_of_length_le h1]

def numCT (p : List Int → List Int → Prop) (f : List Int → List Int → List Int) : CT:=mkCT [.inl (some (.ints .u32 [])),.inl (some (.ints .u32 []))] false fun l K=>match l with
 | [.inl (.ints .u32 xs),.inl (.ints .u32 ys)]=>((xs.length ≤ 16777216 ∧ ys.length ≤ 16777216 ∧ InB 4294967296 xs ∧ InB 4294967296 ys) ∧ p xs ys) ∧ K (.c (.ints .u32 (f xs ys)))
 | _=>False
def addN (xs ys : List Int) : List Int:=dg 4294967296 (V 4294967296 xs + V 4294967296 ys)
def cf12 : Cfg:=addT 187 (numCT (fun _ _=>True) addN) cf11
theorem cf12_ok : TblOk Tryz.prog cf12:=q_I cf11_ok Tryz.func187 fun l K h=>by
 split at h
 ·exact ⟨_,add_ret _ _ h.1.1.1 h.1.1.2.1 h.1.1.2.2.1 h.1.1.2.2.2,h.2⟩
 ·exact h.elim
attribute [go_sem] cf12 numCT
set_option maxHeartbeats 800000 in
theorem sub_ret (xs ys : List Int) (hx : xs.length ≤ 16777216) (hy : ys.length ≤ xs.length) (bx : InB 4294967296 xs) (by' : InB 4294967296 ys) (hv : V 4294967296 ys ≤ V 4294967296 xs) : Ret Tryz.prog 204 false [.inl (.ints .u32 xs),.inl (.ints .u32 ys)] (.c (.ints .u32 (dg 4294967296 (V 4294967296 xs - V 4294967296 ys)))):=by
 (refine q_H Tryz.func204 (fun F=>?_); simp only [q_z,q_y,Tryz.ntmps204,Tryz.results204])
 repeat' (first|with_reducible refine q_0 ?_|((with_reducible first|refine q_q cf11_ok fun K hK=>?_|refine q_r cf11_ok fun K hK=>?_);simp (maxSteps:=2000000) only [go_sem,↓reduceIte,reduceCtorEq,Nat.reduceLeDiff,Nat.reduceLT,Nat.reduceBEq,Nat.reduceAdd];(repeat1' with_reducible first|apply And.intro|intro _|(refine hK _ ?_;clear hK K))<;>(try (clear hK K;exact q_u)))|(with_reducible refine q_s ?_;(first|apply q_J|apply q_K|apply q_L|apply q_M|apply q_N|apply q_O)<;>try intro _))
 refine q_G (ι:={ p : List Int × Int // p.1.length ≤ xs.length ∧ InB 4294967296 p.1 ∧ 0 ≤ p.2 ∧ p.2 ≤ 1 ∧ V 4294967296 p.1 + V 4294967296 (ys.take p.1.length) = V 4294967296 (xs.take p.1.length) + 4294967296 ^ p.1.length * p.2.toNat }) (fun p=>⟨40,[(0,.c (.ints .u32 xs)),(1,.c (.ints .u32 ys)),(5,.own 0 0),(6,.c (.i .u32 p.1.2)),(11,.own 0 0),(12,.c (.i .i64 xs.length)),(13,.c (.i .i64 p.1.1.length))],⟨[],[(0,⟨0,105,1,.ints .u32 (p.1.1 ++ xs.drop p.1.1.length)⟩)],[]⟩,1⟩) (fun p=>xs.length - p.1.1.length) ⟨([],0),by simp,InB_nil _,by simp,by simp,by simp [V]⟩ ?_ ?_
 ·exact q_D
 rintro ⟨⟨o,c⟩,g1,g2,g3,g4,g5⟩
 simp only at g1 g2 g3 g4 g5 ⊢
 have b1:=InB_getD (by omega) bx o.length
 have b2:=InB_getD (by omega) by' o.length
 have e1:=getD_mid o xs g1
 repeat' (first|with_reducible refine q_0 ?_|((with_reducible first|refine q_q cf11_ok fun K hK=>?_|refine q_r cf11_ok fun K hK=>?_);simp (maxSteps:=2000000) only [go_sem,↓reduceIte,reduceCtorEq,Nat.reduceLeDiff,Nat.reduceLT,Nat.reduceBEq,Nat.reduceAdd];(repeat1' with_reducible first|apply And.intro|intro _|(refine hK _ ?_;clear hK K))<;>(try (clear hK K;exact q_u)))|(with_reducible refine q_s ?_;(first|apply q_J|apply q_K|apply q_L|apply q_M|apply q_N|apply q_O)<;>try intro _))
 ·rename_i ha hb
  rw [e1]
  rw [set_mid o xs _ (by omega)]
  refine q_F ⟨(o ++ [(xs.getD o.length 0 - ys.getD o.length 0 - c) % 4294967296],if xs.getD o.length 0 < ys.getD o.length 0 + c then 1 else 0),by simp; omega,InB_snoc g2 (by omega) (by omega),by simp only; split <;> omega,by simp only; split <;> omega,?_⟩ ?_ ?_
  ·simp only [List.length_append,List.length_cons,List.length_nil,Nat.zero_add]
   exact sub_step _ _ _ xs ys c _ _ _ _ g5 rfl rfl rfl (by split <;> omega)
  ·exact q_D
  ·simp; omega
 ·rename_i ha hb
  have e:=getD_ge ys o.length (by omega)
  rw [e1]
  rw [set_mid o xs _ (by omega)]
  refine q_F ⟨(o ++ [(xs.getD o.length 0 - 0 - c) % 4294967296],if xs.getD o.length 0 < 0 + c then 1 else 0),by simp; omega,InB_snoc g2 (by omega) (by omega),by simp only; split <;> omega,by simp only; split <;> omega,?_⟩ ?_ ?_
  ·simp only [List.length_append,List.length_cons,List.length_nil,Nat.zero_add]
   exact sub_step _ _ _ xs ys c _ _ _ _ g5 rfl rfl e.symm (by split <;> omega)
  ·exact q_D
  ·simp; omega
 ·rename_i ha
  have hl : o.length = xs.length:=by omega
  refine q_A ?_
  simp only [resAV,q_y]
  rw [hl,List.drop_length,List.append_nil,trimL_eq 4294967296 (by omega) _ g2,sub_end 4294967296 (by omega) o xs ys c g2 hl hy hv g4 g5]

def subN (xs ys : List Int) : List Int:=dg 4294967296 (V 4294967296 xs - V 4294967296 ys)
def cf13 : Cfg:=addT 204 (numCT (fun xs ys=>ys.length ≤ xs.length ∧ V 4294967296 ys ≤ V 4294967296 xs) subN) cf12
theorem cf13_ok : TblOk Tryz.prog cf13:=q_I cf12_ok Tryz.func204 fun l K h=>by
 split at h
 ·exact ⟨_,sub_ret _ _ h.1.1.1 h.1.2.1 h.1.1.2.2.1 h.1.1.2.2.2 h.1.2.2,h.2⟩
 ·exact h.elim

end Go.Proofs.YtgkajjifbcmoeaaGreatDoor

namespace Go.Proofs.YtgkajjifbcmoeaaGreatDoor
set_option linter.unusedSimpArgs false
set_option linter.unusedVariables false
open Go.Abs Go.Proofs.NatL
attribute [go_sem] cf0 addT mkCT mkCTO norm nz nzL List.mem_singleton List.mem_cons true_or or_true cf1 cf2 atCT cf3 trimCT cf4 cf5 okCT cf6 checkCT cf8 fitCT cf9 compareCT cf10 cloneCT cf11 sub32CT shr32 cf12 cf13 numCT
theorem mulB (x y : Int) (hx : 0 ≤ x ∧ x < 4294967296) (hy : 0 ≤ y ∧ y < 4294967296) : 0 ≤ x * y ∧ x * y ≤ 18446744065119617025:=by
 constructor
 ·exact Int.mul_nonneg hx.1 hy.1
 ·have h1 : x * y ≤ 4294967295 * y:=Int.mul_le_mul_of_nonneg_right (by omega) hy.1
  omega

set_option maxHeartbeats 1600000 in
theorem mul_ret (xs ys : List Int) (hx : xs.length ≤ 16777216) (hy : ys.length ≤ 16777216) (bx : InB 4294967296 xs) (by' : InB 4294967296 ys) : Ret Tryz.prog 167 false [.inl (.ints .u32 xs),.inl (.ints .u32 ys)] (.c (.ints .u32 (dg 4294967296 (V 4294967296 xs * V 4294967296 ys)))):=by
 (refine q_H Tryz.func167 (fun F=>?_); simp only [q_z,q_y,Tryz.ntmps167,Tryz.results167])
 repeat' (first|with_reducible refine q_0 ?_|((with_reducible first|refine q_q cf13_ok fun K hK=>?_|refine q_r cf13_ok fun K hK=>?_);simp (maxSteps:=2000000) only [go_sem,↓reduceIte,reduceCtorEq,Nat.reduceLeDiff,Nat.reduceLT,Nat.reduceBEq,Nat.reduceAdd];(repeat1' with_reducible first|apply And.intro|intro _|(refine hK _ ?_;clear hK K))<;>(try (clear hK K;exact q_u)))|(with_reducible refine q_s ?_;(first|apply q_J|apply q_K|apply q_L|apply q_M|apply q_N|apply q_O)<;>try intro _))
 refine q_G (ι:={ p : Nat × List Int // p.1 ≤ xs.length ∧ p.2.length = xs.length + ys.length ∧ InB 4294967296 p.2 ∧ (∀ j,p.1 + ys.length ≤ j → p.2.getD j 0 = 0) ∧ V 4294967296 p.2 = V 4294967296 (xs.take p.1) * V 4294967296 ys }) (fun p=>⟨67,[(0,.c (.ints .u32 xs)),(1,.c (.ints .u32 ys)),(5,.own 0 0),(17,.c (.ints .u32 xs)),(18,.c (.i .i64 xs.length)),(19,.c (.i .i64 p.1.1))],⟨[],[(0,⟨0,105,1,.ints .u32 p.1.2⟩)],[]⟩,1⟩) (fun p=>xs.length - p.1.1) ⟨(0,List.replicate (xs.length + ys.length) 0),by simp,by simp,InB_replicate (by omega) _,fun j _=>getD_replicate _ j,by simp [V_replicate,V]⟩ ?_ ?_
 ·exact q_D
 rintro ⟨⟨i,o⟩,g1,g2,g3,g4,g5⟩
 simp only at g1 g2 g3 g4 g5 ⊢
 have b1:=InB_getD (by omega) bx i
 repeat' (first|with_reducible refine q_0 ?_|((with_reducible first|refine q_q cf13_ok fun K hK=>?_|refine q_r cf13_ok fun K hK=>?_);simp (maxSteps:=2000000) only [go_sem,↓reduceIte,reduceCtorEq,Nat.reduceLeDiff,Nat.reduceLT,Nat.reduceBEq,Nat.reduceAdd];(repeat1' with_reducible first|apply And.intro|intro _|(refine hK _ ?_;clear hK K))<;>(try (clear hK K;exact q_u)))|(with_reducible refine q_s ?_;(first|apply q_J|apply q_K|apply q_L|apply q_M|apply q_N|apply q_O)<;>try intro _))
 ·rename_i ha
  refine q_G (ι:={ p : Nat × List Int × Int // p.1 ≤ ys.length ∧ p.2.1.length = xs.length + ys.length ∧ InB 4294967296 p.2.1 ∧ (∀ j,i + ys.length ≤ j → p.2.1.getD j 0 = 0) ∧ (0 ≤ p.2.2 ∧ p.2.2 < 4294967296) ∧ V 4294967296 p.2.1 + 4294967296 ^ (i + p.1) * p.2.2.toNat = V 4294967296 o + 4294967296 ^ i * ((xs.getD i 0).toNat * V 4294967296 (ys.take p.1)) }) (fun p=>⟨67,[(0,.c (.ints .u32 xs)),(1,.c (.ints .u32 ys)),(5,.own 0 0),(17,.c (.ints .u32 xs)),(18,.c (.i .i64 xs.length)),(19,.c (.i .i64 i)),(6,.c (.i .i64 i)),(7,.c (.i .u32 (xs.getD i 0))),(8,.c (.i .u64 p.1.2.2)),(24,.c (.ints .u32 ys)),(25,.c (.i .i64 ys.length)),(26,.c (.i .i64 p.1.1))],⟨[],[(0,⟨0,105,1,.ints .u32 p.1.2.1⟩)],[]⟩,1⟩) (fun p=>ys.length - p.1.1) ⟨(0,o,0),by simp,by simp [g2],g3,g4,by simp,by simp [V]⟩ ?_ ?_
  ·exact q_D
  rintro ⟨⟨k,o',c⟩,k1,k2,k3,k4,k5,k6⟩
  simp only at k1 k2 k3 k4 k5 k6 ⊢
  have b2:=InB_getD (by omega) by' k
  have b3:=InB_getD (by omega) k3 (i + k)
  have b4:=mulB _ _ b1 b2
  have e1 : ((i : Int) + (k : Int)).toNat = i + k:=by omega
  have m1 : xs.getD i 0 % 18446744073709551616 = xs.getD i 0:=by omega
  have m2 : ys.getD k 0 % 18446744073709551616 = ys.getD k 0:=by omega
  have e2 : ((i : Int) + (ys.length : Int)).toNat = i + ys.length:=by omega
  repeat' (first|with_reducible refine q_0 ?_|((with_reducible first|refine q_q cf13_ok fun K hK=>?_|refine q_r cf13_ok fun K hK=>?_);simp (maxSteps:=2000000) only [go_sem,↓reduceIte,reduceCtorEq,Nat.reduceLeDiff,Nat.reduceLT,Nat.reduceBEq,Nat.reduceAdd];(repeat1' with_reducible first|apply And.intro|intro _|(refine hK _ ?_;clear hK K))<;>(try (clear hK K;exact q_u)))|(with_reducible refine q_s ?_;(first|apply q_J|apply q_K|apply q_L|apply q_M|apply q_N|apply q_O)<;>try intro _))
  ·rename_i hb
   simp only [e1,m1,m2]
   refine q_F ⟨(k + 1,o'.set (i + k) ((c + xs.getD i 0 * ys.getD k 0 + o'.getD (i + k) 0) % 4294967296),(c + xs.getD i 0 * ys.getD k 0 + o'.getD (i + k) 0) / 4294967296),by simp only; omega,by simp [k2],InB_set k3 _ (by omega) (by omega),?_,by simp only; omega,?_⟩ ?_ ?_
   ·intro j hj
    simp only
    rw [NatL.getD_set_ne _ _ _ _ (by omega)]
    exact k4 j hj
   ·simp only
    rw [V_take_getD]
    have hm : (xs.getD i 0 * ys.getD k 0).toNat = (xs.getD i 0).toNat * (ys.getD k 0).toNat:=Int.toNat_mul b1.1 b2.1
    exact mul_inner 4294967296 i k _ _ _ _ _ _ _ _ _ _ _ k6 (V_set 4294967296 o' (i + k) _ (by omega)) rfl (by omega)
   ·exact q_D
   ·show ys.length - (k + 1) < ys.length - k
    omega
  ·rename_i hb
   have hk : k = ys.length:=by omega
   subst hk
   try rw [e2]
   have hz:=k4 (i + ys.length) (Nat.le_refl _)
   have hset:=V_set 4294967296 o' (i + ys.length) (c % 4294967296) (by omega)
   have hc : c % 4294967296 = c:=by omega
   rw [hz,hc] at hset
   rw [hc]
   refine q_F ⟨(i + 1,o'.set (i + ys.length) c),by simp only; omega,by simp [k2],InB_set k3 _ k5.1 k5.2,?_,?_⟩ ?_ ?_
   ·intro j hj
    simp only at hj ⊢
    rw [NatL.getD_set_ne _ _ _ _ (by omega)]
    exact k4 j (by omega)
   ·simp only
    rw [V_take_getD,Nat.add_mul,← g5,Nat.mul_assoc]
    rw [List.take_length] at k6
    simp at hset
    omega
   ·exact q_D
   ·show xs.length - (i + 1) < xs.length - i
    omega
 ·rename_i ha
  have hi : i = xs.length:=by omega
  refine q_A ?_
  simp only [resAV,q_y]
  rw [trimL_eq 4294967296 (by omega) _ g3,g5,hi,List.take_length]

def mulN (xs ys : List Int) : List Int:=dg 4294967296 (V 4294967296 xs * V 4294967296 ys)
def cf14 : Cfg:=addT 167 (numCT (fun _ _=>True) mulN) cf13
theorem cf14_ok : TblOk Tryz.prog cf14:=q_I cf13_ok Tryz.func167 fun l K h=>by
 split at h
 ·exact ⟨_,mul_ret _ _ h.1.1.1 h.1.1.2.1 h.1.1.2.2.1 h.1.1.2.2.2,h.2⟩
 ·exact h.elim
attribute [go_sem] cf14 listT
def tb3 : Cfg:=listT [(163,atCT),(160,checkCT),(166,fitCT),(188,compareCT),(187,(numCT (fun _ _=>True) addN)),(204,(numCT (fun xs ys=>ys.length ≤ xs.length ∧ V 4294967296 ys ≤ V 4294967296 xs) subN)),(167,(numCT (fun _ _=>True) mulN))] [34]
theorem tb3_ok : TblOk Tryz.prog tb3:=listE_ok (by simp only [List.mem_singleton,forall_eq]; exact flt) ⟨⟨cf1,cf1_ok,rfl⟩,⟨cf6,cf6_ok,rfl⟩,⟨cf8,cf8_ok,rfl⟩,⟨cf9,cf9_ok,rfl⟩,⟨cf12,cf12_ok,rfl⟩,⟨cf13,cf13_ok,rfl⟩,⟨cf14,cf14_ok,rfl⟩,trivial⟩
attribute [go_sem] tb3
theorem chkC_ok {xs ys : List Int} (h : ¬ chkC xs ys ≠ 0) : (xs.length ≤ 600 ∧ Trd xs) ∧ (ys.length ≤ 600 ∧ Trd ys):=by
 unfold chkC at h
 split at h
 ·rename_i hh
  simpa [okN] using hh
 ·simp at h

def oneF (xs ys : List Int) (n : List Int) (c i : Int) : AV:=if chkC xs ys ≠ 0 then .t [.inl (.ints .u32 []),.inr [.i .i64 (chkC xs ys),.i .i64 (chkI xs ys)]] else .t [.inl (.ints .u32 n),.inr [.i .i64 c,.i .i64 i]]

theorem addN_len (xs ys : List Int) (bx : InB 4294967296 xs) (by' : InB 4294967296 ys) (n : Nat) (hx : xs.length ≤ n) (hy : ys.length ≤ n) : (addN xs ys).length ≤ n + 1:=by
 refine dg_len_le (by omega) _ _ ?_
 have h1:=V_lt 4294967296 (by omega) xs bx
 have h2:=V_lt 4294967296 (by omega) ys by'
 have h3 : 4294967296 ^ xs.length ≤ 4294967296 ^ n:=Nat.pow_le_pow_right (by omega) hx
 have h4 : 4294967296 ^ ys.length ≤ 4294967296 ^ n:=Nat.pow_le_pow_right (by omega) hy
 rw [Nat.pow_succ]
 omega
theorem mulN_len (xs ys : List Int) (bx : InB 4294967296 xs) (by' : InB 4294967296 ys) : (mulN xs ys).length ≤ xs.length + ys.length:=by
 refine dg_len_le (by omega) _ _ ?_
 have h1:=V_lt 4294967296 (by omega) xs bx
 have h2:=V_lt 4294967296 (by omega) ys by'
 rw [Nat.pow_add]
 exact Nat.mul_lt_mul'' h1 h2

set_option maxHeartbeats 1600000 in
theorem Add_ret (xs ys : List Int) (hx : xs.length ≤ 140737488355328) (hy : ys.length ≤ 140737488355328) (bx : InB 4294967296 xs) (by' : InB 4294967296 ys) : Ret Tryz.prog 125 false [.inl (.ints .u32 xs),.inl (.ints .u32 ys)] (oneF xs ys (fitN (addN xs ys)) (fitC (addN xs ys)) (fitI (addN xs ys))):=by
 by_cases hc : chkC xs ys = 0
 ·obtain ⟨⟨l1,t1⟩,l2,t2⟩:=chkC_ok (by simpa using hc)
  have l3:=addN_len xs ys bx by' 600 l1 l2
  (refine q_H Tryz.func125 (fun F=>?_); simp only [q_z,q_y,Tryz.ntmps125,Tryz.results125])
  repeat' (first|with_reducible refine q_0 ?_|((with_reducible first|refine q_q tb3_ok fun K hK=>?_|refine q_r tb3_ok fun K hK=>?_);simp (maxSteps:=2000000) only [go_sem,↓reduceIte,reduceCtorEq,Nat.reduceLeDiff,Nat.reduceLT,Nat.reduceBEq,Nat.reduceAdd];(repeat1' with_reducible first|apply And.intro|intro _|(refine hK _ ?_;clear hK K))<;>(try (clear hK K;exact q_u)))|(with_reducible refine q_s ?_;(first|apply q_J|apply q_K|apply q_L|apply q_M|apply q_N|apply q_O)<;>try intro _))
  ·contradiction
  ·exact q_A (by simp [resAV,q_y,oneF,hc])
 ·(refine q_H Tryz.func125 (fun F=>?_); simp only [q_z,q_y,Tryz.ntmps125,Tryz.results125])
  repeat' (first|with_reducible refine q_0 ?_|((with_reducible first|refine q_q tb3_ok fun K hK=>?_|refine q_r tb3_ok fun K hK=>?_);simp (maxSteps:=2000000) only [go_sem,↓reduceIte,reduceCtorEq,Nat.reduceLeDiff,Nat.reduceLT,Nat.reduceBEq,Nat.reduceAdd];(repeat1' with_reducible first|apply And.intro|intro _|(refine hK _ ?_;clear hK K))<;>(try (clear hK K;exact q_u)))|(with_reducible refine q_s ?_;(first|apply q_J|apply q_K|apply q_L|apply q_M|apply q_N|apply q_O)<;>try intro _))
  ·exact q_B [.inl (some (.ints .u32 []))] rfl (by simp [resAV,norm,nz,oneF,hc])
  all_goals contradiction
set_option maxHeartbeats 1600000 in
theorem Mul_ret (xs ys : List Int) (hx : xs.length ≤ 140737488355328) (hy : ys.length ≤ 140737488355328) (bx : InB 4294967296 xs) (by' : InB 4294967296 ys) : Ret Tryz.prog 88 false [.inl (.ints .u32 xs),.inl (.ints .u32 ys)] (oneF xs ys (fitN (mulN xs ys)) (fitC (mulN xs ys)) (fitI (mulN xs ys))):=by
 by_cases hc : chkC xs ys = 0
 ·obtain ⟨⟨l1,t1⟩,l2,t2⟩:=chkC_ok (by simpa using hc)
  have l3:=mulN_len xs ys bx by'
  (refine q_H Tryz.func88 (fun F=>?_); simp only [q_z,q_y,Tryz.ntmps88,Tryz.results88])
  repeat' (first|with_reducible refine q_0 ?_|((with_reducible first|refine q_q tb3_ok fun K hK=>?_|refine q_r tb3_ok fun K hK=>?_);simp (maxSteps:=2000000) only [go_sem,↓reduceIte,reduceCtorEq,Nat.reduceLeDiff,Nat.reduceLT,Nat.reduceBEq,Nat.reduceAdd];(repeat1' with_reducible first|apply And.intro|intro _|(refine hK _ ?_;clear hK K))<;>(try (clear hK K;exact q_u)))|(with_reducible refine q_s ?_;(first|apply q_J|apply q_K|apply q_L|apply q_M|apply q_N|apply q_O)<;>try intro _))
  ·contradiction
  ·exact q_A (by simp [resAV,q_y,oneF,hc])
 ·(refine q_H Tryz.func88 (fun F=>?_); simp only [q_z,q_y,Tryz.ntmps88,Tryz.results88])
  repeat' (first|with_reducible refine q_0 ?_|((with_reducible first|refine q_q tb3_ok fun K hK=>?_|refine q_r tb3_ok fun K hK=>?_);simp (maxSteps:=2000000) only [go_sem,↓reduceIte,reduceCtorEq,Nat.reduceLeDiff,Nat.reduceLT,Nat.reduceBEq,Nat.reduceAdd];(repeat1' with_reducible first|apply And.intro|intro _|(refine hK _ ?_;clear hK K))<;>(try (clear hK K;exact q_u)))|(with_reducible refine q_s ?_;(first|apply q_J|apply q_K|apply q_L|apply q_M|apply q_N|apply q_O)<;>try intro _))
  ·exact q_B [.inl (some (.ints .u32 []))] rfl (by simp [resAV,norm,nz,oneF,hc])
  all_goals contradiction

theorem cmpL_le {xs ys : List Int} (bx : InB 4294967296 xs) (by' : InB 4294967296 ys) (tx : Trd xs) (ty : Trd ys) : (cmpL xs ys < 0 ↔ V 4294967296 xs < V 4294967296 ys) ∧ (cmpL xs ys = 0 ↔ V 4294967296 xs = V 4294967296 ys) ∧ (¬ cmpL xs ys < 0 → ys.length ≤ xs.length):=by
 unfold cmpL
 rcases Nat.lt_trichotomy xs.length ys.length with h | h | h
 ·have:=len_lt (by omega) bx by' ty h
  rw [if_pos (by omega)]; omega
 ·rw [if_neg (by omega)]
  unfold cmp3
  split
  ·omega
  ·split <;> omega
 ·have:=len_lt (by omega) by' bx tx h
  rw [if_pos (by omega)]; omega

set_option maxHeartbeats 1600000 in
theorem Sub_ret (xs ys : List Int) (hx : xs.length ≤ 140737488355328) (hy : ys.length ≤ 140737488355328) (bx : InB 4294967296 xs) (by' : InB 4294967296 ys) : Ret Tryz.prog 165 false [.inl (.ints .u32 xs),.inl (.ints .u32 ys)] (oneF xs ys (if V 4294967296 xs < V 4294967296 ys then [] else subN xs ys) (if V 4294967296 xs < V 4294967296 ys then 4 else 0) (if V 4294967296 xs < V 4294967296 ys then -2 else 0)):=by
 by_cases hc : chkC xs ys = 0
 ·obtain ⟨⟨l1,t1⟩,l2,t2⟩:=chkC_ok (by simpa using hc)
  obtain ⟨c1,c2,c3⟩:=cmpL_le bx by' t1 t2
  (refine q_H Tryz.func165 (fun F=>?_); simp only [q_z,q_y,Tryz.ntmps165,Tryz.results165])
  repeat' (first|with_reducible refine q_0 ?_|((with_reducible first|refine q_q tb3_ok fun K hK=>?_|refine q_r tb3_ok fun K hK=>?_);simp (maxSteps:=2000000) only [go_sem,↓reduceIte,reduceCtorEq,Nat.reduceLeDiff,Nat.reduceLT,Nat.reduceBEq,Nat.reduceAdd];(repeat1' with_reducible first|apply And.intro|intro _|(refine hK _ ?_;clear hK K))<;>(try (clear hK K;exact q_u)))|(with_reducible refine q_s ?_;(first|apply q_J|apply q_K|apply q_L|apply q_M|apply q_N|apply q_O)<;>try intro _))
  ·contradiction
  ·rename_i hl
   exact q_B [.inl (some (.ints .u32 []))] rfl (by simp [resAV,norm,nz,oneF,hc,c1.1 hl])
  ·rename_i hl
   have hn : ¬ V 4294967296 xs < V 4294967296 ys:=fun h=>hl (c1.2 h)
   exact q_A (by simp only [resAV,q_y,oneF,hc,ne_eq,not_true_eq_false,if_false,if_neg hn])
 ·(refine q_H Tryz.func165 (fun F=>?_); simp only [q_z,q_y,Tryz.ntmps165,Tryz.results165])
  repeat' (first|with_reducible refine q_0 ?_|((with_reducible first|refine q_q tb3_ok fun K hK=>?_|refine q_r tb3_ok fun K hK=>?_);simp (maxSteps:=2000000) only [go_sem,↓reduceIte,reduceCtorEq,Nat.reduceLeDiff,Nat.reduceLT,Nat.reduceBEq,Nat.reduceAdd];(repeat1' with_reducible first|apply And.intro|intro _|(refine hK _ ?_;clear hK K))<;>(try (clear hK K;exact q_u)))|(with_reducible refine q_s ?_;(first|apply q_J|apply q_K|apply q_L|apply q_M|apply q_N|apply q_O)<;>try intro _))
  ·exact q_B [.inl (some (.ints .u32 []))] rfl (by simp [resAV,norm,nz,oneF,hc])
  all_goals contradiction
set_option maxHeartbeats 1600000 in
theorem Cmp_ret (xs ys : List Int) (hx : xs.length ≤ 140737488355328) (hy : ys.length ≤ 140737488355328) (bx : InB 4294967296 xs) (by' : InB 4294967296 ys) : Ret Tryz.prog 164 false [.inl (.ints .u32 xs),.inl (.ints .u32 ys)] (.t [.inl (.i .i64 (if chkC xs ys ≠ 0 then 0 else cmp3 (V 4294967296 xs) (V 4294967296 ys))),.inr [.i .i64 (chkC xs ys),.i .i64 (chkI xs ys)]]):=by
 by_cases hc : chkC xs ys = 0
 ·obtain ⟨⟨l1,t1⟩,l2,t2⟩:=chkC_ok (by simpa using hc)
  obtain ⟨c1,c2,c3⟩:=cmpL_le bx by' t1 t2
  have hi : chkI xs ys = 0:=by
   have : okN xs = true ∧ okN ys = true:=by simp [okN,l1,t1,l2,t2]
   simp [chkI,this.1,this.2]
  (refine q_H Tryz.func164 (fun F=>?_); simp only [q_z,q_y,Tryz.ntmps164,Tryz.results164])
  repeat' (first|with_reducible refine q_0 ?_|((with_reducible first|refine q_q tb3_ok fun K hK=>?_|refine q_r tb3_ok fun K hK=>?_);simp (maxSteps:=2000000) only [go_sem,↓reduceIte,reduceCtorEq,Nat.reduceLeDiff,Nat.reduceLT,Nat.reduceBEq,Nat.reduceAdd];(repeat1' with_reducible first|apply And.intro|intro _|(refine hK _ ?_;clear hK K))<;>(try (clear hK K;exact q_u)))|(with_reducible refine q_s ?_;(first|apply q_J|apply q_K|apply q_L|apply q_M|apply q_N|apply q_O)<;>try intro _))
  ·contradiction
  ·exact q_A (by simp only [resAV,hc,hi,ne_eq,not_true_eq_false,if_false,cmp3]; congr 4; split <;> (try split) <;> omega)
 ·(refine q_H Tryz.func164 (fun F=>?_); simp only [q_z,q_y,Tryz.ntmps164,Tryz.results164])
  repeat' (first|with_reducible refine q_0 ?_|((with_reducible first|refine q_q tb3_ok fun K hK=>?_|refine q_r tb3_ok fun K hK=>?_);simp (maxSteps:=2000000) only [go_sem,↓reduceIte,reduceCtorEq,Nat.reduceLeDiff,Nat.reduceLT,Nat.reduceBEq,Nat.reduceAdd];(repeat1' with_reducible first|apply And.intro|intro _|(refine hK _ ?_;clear hK K))<;>(try (clear hK K;exact q_u)))|(with_reducible refine q_s ?_;(first|apply q_J|apply q_K|apply q_L|apply q_M|apply q_N|apply q_O)<;>try intro _))
  ·exact q_A (by simp [resAV,hc])
  all_goals contradiction

end Go.Proofs.YtgkajjifbcmoeaaGreatDoor

namespace Go.Proofs.YtgkajjifbcmoeaaGreatDoor
set_option linter.unusedSimpArgs false
set_option linter.unusedVariables false
open Go.Abs Go.Proofs.NatL

theorem div32_ret (h l y : Int) (h0 : 0 ≤ h) (hy : h < y) (hy1 : y < 4294967296) (l0 : 0 ≤ l) (l1 : l < 4294967296) :
  Ret Tryz.prog 212 false [.inl (.i .u32 h),.inl (.i .u32 l),.inl (.i .u32 y)] (.t [.inl (.i .u32 ((h * 4294967296 + l) / y)),.inl (.i .u32 ((h * 4294967296 + l) % y))]):=by
 have e : bitI .or .u64 (shlI .u64 (h % 18446744073709551616) 32) (l % 18446744073709551616) = h * 4294967296 + l:=by
  rw [show h % 18446744073709551616 = h by omega,show l % 18446744073709551616 = l by omega,shl64_32 h (by omega) (by omega),or64_hi h l (by omega) (by omega) l0 l1]
 have ey : y % 18446744073709551616 = y:=by omega
 have q1 : (h * 4294967296 + l) / y < 4294967296:=Int.ediv_lt_of_lt_mul (by omega) (by omega)
 have q0 : 0 ≤ (h * 4294967296 + l) / y:=Int.ediv_nonneg (by omega) (by omega)
 have r0 : 0 ≤ (h * 4294967296 + l) % y:=Int.emod_nonneg _ (by omega)
 have r1 : (h * 4294967296 + l) % y < y:=Int.emod_lt_of_pos _ (by omega)
 (refine q_H Tryz.func212 (fun F=>?_); simp only [q_z,q_y,Tryz.ntmps212,Tryz.results212])
 repeat' (first|with_reducible refine q_0 ?_|((with_reducible first|refine q_q cf14_ok fun K hK=>?_|refine q_r cf14_ok fun K hK=>?_);simp (maxSteps:=2000000) only [go_sem,↓reduceIte,reduceCtorEq,Nat.reduceLeDiff,Nat.reduceLT,Nat.reduceBEq,Nat.reduceAdd];(repeat1' with_reducible first|apply And.intro|intro _|(refine hK _ ?_;clear hK K))<;>(try (clear hK K;exact q_u)))|(with_reducible refine q_s ?_;(first|apply q_J|apply q_K|apply q_L|apply q_M|apply q_N|apply q_O)<;>try intro _))
 all_goals try omega
 all_goals try rw [e]
 all_goals try rw [ey]
 all_goals try omega
 ·refine q_A ?_
  simp only [resAV]
  rw [show (h * 4294967296 + l) / y % 4294967296 = (h * 4294967296 + l) / y by omega,show (h * 4294967296 + l) % y % 4294967296 = (h * 4294967296 + l) % y by omega]

def div32CT : CT:=mkCT [] true fun l K=>match l with
 | [.inl (.i .u32 h),.inl (.i .u32 l),.inl (.i .u32 y)]=>(0 ≤ h ∧ h < y ∧ y < 4294967296 ∧ 0 ≤ l ∧ l < 4294967296) ∧ K (.t [.inl (.i .u32 ((h * 4294967296 + l) / y)),.inl (.i .u32 ((h * 4294967296 + l) % y))])
 | _=>False
def cf15 : Cfg:=addT 212 div32CT cf14
theorem cf15_ok : TblOk Tryz.prog cf15:=q_I cf14_ok Tryz.func212 fun l K h=>by
 split at h
 ·exact ⟨_,(div32_ret _ _ _ h.1.1 h.1.2.1 h.1.2.2.1 h.1.2.2.2.1 h.1.2.2.2.2).plain rfl,h.2⟩
 ·exact h.elim
attribute [go_sem] cf15 div32CT
theorem add32_ret (x y c : Int) (x0 : 0 ≤ x) (x1 : x < 4294967296) (y0 : 0 ≤ y) (y1 : y < 4294967296) (c0 : 0 ≤ c) (c1 : c ≤ 1) :
  Ret Tryz.prog 238 false [.inl (.i .u32 x),.inl (.i .u32 y),.inl (.i .u32 c)] (.t [.inl (.i .u32 ((x + y + c) % 4294967296)),.inl (.i .u32 ((x + y + c) / 4294967296))]):=by
 (refine q_H Tryz.func238 (fun F=>?_); simp only [q_z,q_y,Tryz.ntmps238,Tryz.results238])
 repeat' (first|with_reducible refine q_0 ?_|((with_reducible first|refine q_q cf14_ok fun K hK=>?_|refine q_r cf14_ok fun K hK=>?_);simp (maxSteps:=2000000) only [go_sem,↓reduceIte,reduceCtorEq,Nat.reduceLeDiff,Nat.reduceLT,Nat.reduceBEq,Nat.reduceAdd];(repeat1' with_reducible first|apply And.intro|intro _|(refine hK _ ?_;clear hK K))<;>(try (clear hK K;exact q_u)))|(with_reducible refine q_s ?_;(first|apply q_J|apply q_K|apply q_L|apply q_M|apply q_N|apply q_O)<;>try intro _))
 refine q_A ?_
 simp only [resAV,AV.t.injEq,List.cons.injEq,Sum.inl.injEq,C.i.injEq,true_and,and_true]
 omega
def add32CT : CT:=mkCT [] true fun l K=>match l with
 | [.inl (.i .u32 x),.inl (.i .u32 y),.inl (.i .u32 c)]=>(0 ≤ x ∧ x < 4294967296 ∧ 0 ≤ y ∧ y < 4294967296 ∧ 0 ≤ c ∧ c ≤ 1) ∧ K (.t [.inl (.i .u32 ((x + y + c) % 4294967296)),.inl (.i .u32 ((x + y + c) / 4294967296))])
 | _=>False
def cf16 : Cfg:=addT 238 add32CT cf15
theorem cf16_ok : TblOk Tryz.prog cf16:=q_I cf15_ok Tryz.func238 fun l K h=>by
 split at h
 ·exact ⟨_,(add32_ret _ _ _ h.1.1 h.1.2.1 h.1.2.2.1 h.1.2.2.2.1 h.1.2.2.2.2.1 h.1.2.2.2.2.2).plain rfl,h.2⟩
 ·exact h.elim
attribute [go_sem] cf16 add32CT
set_option maxHeartbeats 800000 in
theorem short_ret (xs : List Int) (d : Nat) (hx : xs.length ≤ 16777216) (bx : InB 4294967296 xs) (d0 : 0 < d) (d1 : d < 4294967296) :
  Ret Tryz.prog 194 false [.inl (.ints .u32 xs),.inl (.i .u32 d)] (.t [.inl (.ints .u32 (dg 4294967296 (V 4294967296 xs / d))),.inl (.i .u32 ((V 4294967296 xs % d : Nat) : Int))]):=by
 (refine q_H Tryz.func194 (fun F=>?_); simp only [q_z,q_y,Tryz.ntmps194,Tryz.results194])
 repeat' (first|with_reducible refine q_0 ?_|((with_reducible first|refine q_q cf16_ok fun K hK=>?_|refine q_r cf16_ok fun K hK=>?_);simp (maxSteps:=2000000) only [go_sem,↓reduceIte,reduceCtorEq,Nat.reduceLeDiff,Nat.reduceLT,Nat.reduceBEq,Nat.reduceAdd];(repeat1' with_reducible first|apply And.intro|intro _|(refine hK _ ?_;clear hK K))<;>(try (clear hK K;exact q_u)))|(with_reducible refine q_s ?_;(first|apply q_J|apply q_K|apply q_L|apply q_M|apply q_N|apply q_O)<;>try intro _))
 refine q_G (ι:={ p : Nat × List Int × Nat // p.1 ≤ xs.length ∧ p.2.1.length = xs.length ∧ InB 4294967296 p.2.1 ∧ p.2.2 < d ∧ V 4294967296 (p.2.1.drop p.1) * d + p.2.2 = V 4294967296 (xs.drop p.1) }) (fun p=>⟨35,[(0,.c (.ints .u32 xs)),(1,.c (.i .u32 d)),(6,.own 0 0),(7,.c (.i .u32 (p.1.2.2 : Nat))),(8,.c (.i .i64 ((p.1.1 : Int) - 1)))],⟨[],[(0,⟨0,105,1,.ints .u32 p.1.2.1⟩)],[]⟩,1⟩) (fun p=>p.1.1) ⟨(xs.length,List.replicate xs.length 0,0),by simp,by simp,InB_replicate (by omega) _,d0,by simp [V]⟩ ?_ ?_
 ·exact q_D
 rintro ⟨⟨k,o,r⟩,g1,g2,g3,g4,g5⟩
 simp only at g1 g2 g3 g4 g5 ⊢
 have b1:=InB_getD (by omega) bx ((k : Int) - 1).toNat
 have e : 0 < k → ((k : Int) - 1).toNat = k - 1:=fun _=>by omega
 repeat' (first|with_reducible refine q_0 ?_|((with_reducible first|refine q_q cf16_ok fun K hK=>?_|refine q_r cf16_ok fun K hK=>?_);simp (maxSteps:=2000000) only [go_sem,↓reduceIte,reduceCtorEq,Nat.reduceLeDiff,Nat.reduceLT,Nat.reduceBEq,Nat.reduceAdd];(repeat1' with_reducible first|apply And.intro|intro _|(refine hK _ ?_;clear hK K))<;>(try (clear hK K;exact q_u)))|(with_reducible refine q_s ?_;(first|apply q_J|apply q_K|apply q_L|apply q_M|apply q_N|apply q_O)<;>try intro _))
 ·rename_i ha
  obtain ⟨x,hxx⟩ : ∃ x : Nat,xs.getD ((k : Int) - 1).toNat 0 = x:=⟨(xs.getD ((k : Int) - 1).toNat 0).toNat,by omega⟩
  have hq : ((r : Int) * 4294967296 + xs.getD ((k : Int) - 1).toNat 0) / (d : Int) = (((r * 4294967296 + x) / d : Nat) : Int):=by rw [hxx]; simp
  have hr : ((r : Int) * 4294967296 + xs.getD ((k : Int) - 1).toNat 0) % (d : Int) = (((r * 4294967296 + x) % d : Nat) : Int):=by rw [hxx]; simp
  have hx2 : x < 4294967296:=by omega
  rw [hq,hr,e (by omega)]
  rw [e (by omega)] at hxx
  have hlt : (r * 4294967296 + x) / d < 4294967296:=by
   rw [Nat.div_lt_iff_lt_mul d0]
   have h1 : (r + 1) * 4294967296 ≤ d * 4294967296:=Nat.mul_le_mul_right _ g4
   omega
  refine q_F ⟨(k - 1,o.set (k - 1) (((r * 4294967296 + x) / d : Nat) : Int),(r * 4294967296 + x) % d),by simp only; omega,by simp [g2],InB_set g3 _ (Int.natCast_nonneg _) (by exact_mod_cast hlt),Nat.mod_lt _ d0,?_⟩ ?_ ?_
  ·simp only
   refine short_step 4294967296 (k - 1) d o xs r _ _ x (by omega) g2 (by rw [show k - 1 + 1 = k by omega]; exact g5) (by rw [hxx]; simp) ?_
   rw [Nat.mul_comm]; exact Nat.div_add_mod _ _
  ·exact q_D
  ·show k - 1 < k
   omega
 ·rename_i ha
  have hk : k = 0:=by omega
  subst hk
  simp only [List.drop_zero] at g5
  refine q_A ?_
  simp only [resAV]
  rw [trimL_eq 4294967296 (by omega) _ g3,← g5]
  have h1 : (V 4294967296 o * d + r) / d = V 4294967296 o:=by rw [Nat.mul_comm,Nat.mul_add_div d0,Nat.div_eq_of_lt g4]; simp
  have h2 : (V 4294967296 o * d + r) % d = r:=by rw [Nat.mul_comm,Nat.mul_add_mod]; exact Nat.mod_eq_of_lt g4
  rw [h1,h2]

def shortCT : CT:=mkCT [.inl (some (.ints .u32 []))] false fun l K=>match l with
 | [.inl (.ints .u32 xs),.inl (.i .u32 d)]=>(xs.length ≤ 16777216 ∧ InB 4294967296 xs ∧ 0 < d ∧ d < 4294967296) ∧ K (.t [.inl (.ints .u32 (dg 4294967296 (V 4294967296 xs / d.toNat))),.inl (.i .u32 ((V 4294967296 xs % d.toNat : Nat) : Int))])
 | _=>False
def cf17 : Cfg:=addT 194 shortCT cf16
theorem cf17_ok : TblOk Tryz.prog cf17:=q_I cf16_ok Tryz.func194 fun l K h=>by
 split at h
 ·rename_i xs d
  obtain ⟨d,rfl⟩ : ∃ n : Nat,d = n:=⟨d.toNat,by omega⟩
  exact ⟨_,short_ret _ d h.1.1 h.1.2.1 (by omega) (by omega),by simpa using h.2⟩
 ·exact h.elim
attribute [go_sem] cf17 shortCT
def bl (n : Nat) : Nat:=if n = 0 then 0 else n.log2 + 1
theorem bl_shr (n k : Nat) (h : 2 ^ k ≤ n) : bl n = k + bl (n / 2 ^ k):=by
 have h1 : 0 < 2 ^ k:=Nat.pow_pos (by omega)
 have h2 : n / 2 ^ k ≠ 0:=by
  have:=Nat.div_pos h h1; omega
 have h3 : n ≠ 0:=by omega
 unfold bl
 rw [if_neg h3,if_neg h2]
 have h4:=Nat.log2_self_le h2
 have h5:=@Nat.lt_log2_self (n / 2 ^ k)
 generalize (n / 2 ^ k).log2 = j at *
 have h6 : n.log2 = k + j:=by
  rw [Nat.log2_eq_iff h3,Nat.pow_add,Nat.add_assoc,Nat.pow_add]
  have h7:=Nat.div_add_mod n (2 ^ k)
  have h8:=Nat.mod_lt n h1
  constructor
  ·exact Nat.le_trans (Nat.mul_le_mul_left _ h4) (by omega)
  ·have : 2 ^ k * (n / 2 ^ k + 1) ≤ 2 ^ k * 2 ^ (j + 1):=Nat.mul_le_mul_left _ h5
   rw [Nat.mul_add] at this
   omega
 omega
theorem bl_lt (n k : Nat) (h : n < 2 ^ k) : bl n ≤ k:=by
 unfold bl
 split
 ·omega
 ·rename_i h0
  have:=(Nat.log2_lt h0).2 h
  omega
theorem bl_spec (n : Nat) (h : 0 < n) : 2 ^ (bl n - 1) ≤ n ∧ n < 2 ^ (bl n) ∧ 0 < bl n:=by
 have h0 : n ≠ 0:=by omega
 unfold bl
 rw [if_neg h0]
 exact ⟨by simpa using Nat.log2_self_le h0,Nat.lt_log2_self,by omega⟩

def tabOk (L : List UInt8) : Bool:=(List.range 256).all fun m=>(L.getD m 0).toNat == bl m
theorem tab_at (L : List UInt8) (h : tabOk L = true) (z : Nat) (hz : z < 256) : (L.getD z 0).toNat = bl z:=by
 have:=List.all_eq_true.1 h z (List.mem_range.2 hz)
 simpa using this
theorem tab_a (L : List UInt8) (m : Nat) : ((L.getD m 0).toNat : Int) ≤ 9223372036854775807:=by
 have:=(L.getD m 0).toNat_lt
 omega
theorem tab_b (L : List UInt8) (m k : Nat) (h : k ≤ 24) : (k : Int) + ((L.getD m 0).toNat : Int) ≤ 9223372036854775807:=by
 have:=(L.getD m 0).toNat_lt
 omega
theorem tab_len {T : List UInt8} {i : Int} (h : (T.length == 256) = true) (hi : i < 256) : i < (T.length : Int):=by
 have : T.length = 256:=by simpa using h
 omega
theorem tab_size {T : ByteArray} {i : Int} (h : (T.size == 256) = true) (hi : i < 256) : i < (T.size : Int):=by
 have : T.size = 256:=by simpa using h
 omega

set_option maxHeartbeats 800000 in
set_option maxRecDepth 100000 in
theorem len32_ret (x : Nat) (hx : x < 4294967296) : Ret Tryz.prog 211 false [.inl (.i .u32 x)] (.c (.i .i64 (bl x))):=by
 have s16 : shrI .u32 (x : Int) 16 = ((x / 65536 : Nat) : Int):=by rw [show (16 : Int) = ((16 : Nat) : Int) from rfl,shrI_lit .u32 x 16 (by decide)]; omega
 have s8 : ∀ y : Nat,shrI .u32 (y : Int) 8 = ((y / 256 : Nat) : Int):=fun y=>by rw [show (8 : Int) = ((8 : Nat) : Int) from rfl,shrI_lit .u32 y 8 (by decide)]; omega
 (refine q_H Tryz.func211 (fun F=>?_); simp only [q_z,q_y,Tryz.ntmps211,Tryz.results211])
 refine q_a ?_
 ((first | with_reducible refine q_q cf16_ok (fun K hK=>?_) | with_reducible refine awp_region_draw cf16_ok mixed (by kernel_rfl) (fun K hK=>?_)); (simp (maxSteps:=2000000) only [go_sem,↓reduceIte,reduceCtorEq,Nat.reduceLeDiff,Nat.reduceLT,Nat.reduceBEq,Nat.reduceAdd]); (first | with_reducible apply And.intro | with_reducible intro _ | (with_reducible refine hK _ ?_; clear hK K)) <;> (repeat' (first | with_reducible apply And.intro | with_reducible intro _ | (with_reducible refine hK _ ?_; clear hK K))) <;> (try (clear hK K; first | omega | assumption | ((simp (disch:=omega) only [Int.tdiv_eq_ediv_of_nonneg,Int.tmod_eq_emod_of_nonneg]); omega))))
 refine q_b ?_
 refine seq_join (ι:={ p : Nat × Nat // p.1 < 65536 ∧ bl x = p.2 + bl p.1 ∧ p.2 ≤ 16 }) (fun p=>⟨19,[(0,.c (.i .u32 (p.1.1 : Nat))),(2,.c (.i .i64 (p.1.2 : Nat)))],⟨[],[],[]⟩,0⟩) ?_ ?_
 ·repeat' (first|with_reducible refine q_0 ?_|((with_reducible first|refine q_q cf16_ok fun K hK=>?_|refine q_r cf16_ok fun K hK=>?_);simp (maxSteps:=2000000) only [go_sem,↓reduceIte,reduceCtorEq,Nat.reduceLeDiff,Nat.reduceLT,Nat.reduceBEq,Nat.reduceAdd];(repeat1' with_reducible first|apply And.intro|intro _|(refine hK _ ?_;clear hK K))<;>(try (clear hK K;exact q_u)))|(with_reducible refine q_s ?_;(first|apply q_J|apply q_K|apply q_L|apply q_M|apply q_N|apply q_O)<;>try intro _))
  ·rename_i h
   refine join_n ⟨(x / 65536,16),by simp only; omega,bl_shr x 16 (by simp; omega),by simp⟩ ?_
   rw [s16]
   exact q_D
  ·rename_i h
   refine join_n ⟨(x,0),by simp only; omega,by simp,by simp⟩ ?_
   exact q_D
 rintro ⟨⟨y,n⟩,g1,g2,g3⟩
 simp only at g1 g2 g3 ⊢
 refine seq_join (ι:={ p : Nat × Nat // p.1 < 256 ∧ bl x = p.2 + bl p.1 ∧ p.2 ≤ 24 }) (fun p=>⟨19,[(0,.c (.i .u32 (p.1.1 : Nat))),(2,.c (.i .i64 (p.1.2 : Nat)))],⟨[],[],[]⟩,0⟩) ?_ ?_
 ·repeat' (first|with_reducible refine q_0 ?_|((with_reducible first|refine q_q cf16_ok fun K hK=>?_|refine q_r cf16_ok fun K hK=>?_);simp (maxSteps:=2000000) only [go_sem,↓reduceIte,reduceCtorEq,Nat.reduceLeDiff,Nat.reduceLT,Nat.reduceBEq,Nat.reduceAdd];(repeat1' with_reducible first|apply And.intro|intro _|(refine hK _ ?_;clear hK K))<;>(try (clear hK K;exact q_u)))|(with_reducible refine q_s ?_;(first|apply q_J|apply q_K|apply q_L|apply q_M|apply q_N|apply q_O)<;>try intro _))
  ·rename_i h
   refine join_n ⟨(y / 256,n + 8),by simp only; omega,by have:=bl_shr y 8 (by simp; omega); simp only [show (2 : Nat) ^ 8 = 256 from rfl] at this ⊢; omega,by simp only; omega⟩ ?_
   rw [s8]
   exact q_D
  ·rename_i h
   refine join_n ⟨(y,n),by simp only; omega,g2,by simp only; omega⟩ ?_
   exact q_D
 rintro ⟨⟨z,k⟩,g4,g5,g6⟩
 simp only at g4 g5 g6 ⊢
 have hz : ((z : Int) % 256).toNat = z:=by omega
 have hb:=bl_lt z 8 (by simpa using g4)
 repeat' (first|with_reducible refine q_0 ?_|((with_reducible first|refine q_q cf16_ok fun K hK=>?_|refine q_r cf16_ok fun K hK=>?_);simp (maxSteps:=2000000) only [go_sem,↓reduceIte,reduceCtorEq,Nat.reduceLeDiff,Nat.reduceLT,Nat.reduceBEq,Nat.reduceAdd];(repeat1' with_reducible first|apply And.intro|intro _|(refine hK _ ?_;clear hK K))<;>(try (clear hK K;exact q_u)))|(with_reducible refine q_s ?_;(first|apply q_J|apply q_K|apply q_L|apply q_M|apply q_N|apply q_O)<;>try intro _))
 ·first | exact tab_len (by decide +kernel) (by omega) | exact tab_size (by decide +kernel) (by omega)
 ·exact tab_a _ _
 ·exact tab_b _ _ _ g6
 ·refine q_A ?_
  simp only [resAV,q_y]
  rw [hz,tab_at _ (by decide +kernel) z g4,g5]
  simp

def len32CT : CT:=mkCT [] true fun l K=>match l with
 | [.inl (.i .u32 x)]=>(0 ≤ x ∧ x < 4294967296) ∧ K (.c (.i .i64 (bl x.toNat)))
 | _=>False
def cf18 : Cfg:=addT 211 len32CT cf17
theorem cf18_ok : TblOk Tryz.prog cf18:=q_I cf17_ok Tryz.func211 fun l K h=>by
 split at h
 ·rename_i x
  obtain ⟨x,rfl⟩ : ∃ n : Nat,x = n:=⟨x.toNat,by omega⟩
  exact ⟨_,(len32_ret x (by omega)).plain rfl,by simpa using h.2⟩
 ·exact h.elim
attribute [go_sem] cf18 len32CT
theorem lz32_ret (x : Nat) (hx : x < 4294967296) : Ret Tryz.prog 219 false [.inl (.i .u32 x)] (.c (.i .i64 ((32 - bl x : Nat) : Int))):=by
 have hb:=bl_lt x 32 (by simpa using hx)
 (refine q_H Tryz.func219 (fun F=>?_); simp only [q_z,q_y,Tryz.ntmps219,Tryz.results219])
 repeat' (first|with_reducible refine q_0 ?_|((with_reducible first|refine q_q cf18_ok fun K hK=>?_|refine q_r cf18_ok fun K hK=>?_);simp (maxSteps:=2000000) only [go_sem,↓reduceIte,reduceCtorEq,Nat.reduceLeDiff,Nat.reduceLT,Nat.reduceBEq,Nat.reduceAdd];(repeat1' with_reducible first|apply And.intro|intro _|(refine hK _ ?_;clear hK K))<;>(try (clear hK K;exact q_u)))|(with_reducible refine q_s ?_;(first|apply q_J|apply q_K|apply q_L|apply q_M|apply q_N|apply q_O)<;>try intro _))
 refine q_A ?_
 simp only [resAV,q_y,AV.c.injEq,C.i.injEq,true_and]
 omega
def lz32CT : CT:=mkCT [] true fun l K=>match l with
 | [.inl (.i .u32 x)]=>(0 ≤ x ∧ x < 4294967296) ∧ K (.c (.i .i64 ((32 - bl x.toNat : Nat) : Int)))
 | _=>False
def cf19 : Cfg:=addT 219 lz32CT cf18
theorem cf19_ok : TblOk Tryz.prog cf19:=q_I cf18_ok Tryz.func219 fun l K h=>by
 split at h
 ·rename_i x
  obtain ⟨x,rfl⟩ : ∃ n : Nat,x = n:=⟨x.toNat,by omega⟩
  exact ⟨_,(lz32_ret x (by omega)).plain rfl,by simpa using h.2⟩
 ·exact h.elim
attribute [go_sem] cf19 lz32CT
end Go.Proofs.YtgkajjifbcmoeaaGreatDoor

namespace Go.Proofs.YtgkajjifbcmoeaaGreatDoor
set_option linter.unusedSimpArgs false
set_option linter.unusedVariables false
open Go.Abs Go.Proofs.NatL
attribute [go_sem] tmod32 tdiv32
set_option maxHeartbeats 1600000 in
theorem left_ret (xs : List Int) (n : Nat) (hx : xs.length ≤ 16777216) (hn : n ≤ 16777216) (bx : InB 4294967296 xs) :
  RetO Tryz.prog 185 [.inl (.ints .u32 xs),.inl (.i .i64 n)] 105 1 (.ints .u32 (dg 4294967296 (V 4294967296 xs * 2 ^ n))):=by
 have hs : n % 32 < 32:=Nat.mod_lt _ (by omega)
 have h2 : 2 ^ (n % 32) ≤ 2147483648:=by
  have : 2 ^ (n % 32) ≤ 2 ^ 31:=Nat.pow_le_pow_right (by omega) (by omega)
  simpa using this
 have h1 : 0 < 2 ^ (n % 32):=Nat.pow_pos (by omega)
 (refine q_x Tryz.func185 rfl (Nat.le_of_ble_eq_true rfl) (fun F=>?_); simp only [q_z,q_y,Tryz.ntmps185,Tryz.results185])
 repeat' (first|with_reducible refine q_0 ?_|((with_reducible first|refine q_q cf19_ok fun K hK=>?_|refine q_r cf19_ok fun K hK=>?_);simp (maxSteps:=2000000) only [go_sem,↓reduceIte,reduceCtorEq,Nat.reduceLeDiff,Nat.reduceLT,Nat.reduceBEq,Nat.reduceAdd];(repeat1' with_reducible first|apply And.intro|intro _|(refine hK _ ?_;clear hK K))<;>(try (clear hK K;exact q_u)))|(with_reducible refine q_s ?_;(first|apply q_J|apply q_K|apply q_L|apply q_M|apply q_N|apply q_O)<;>try intro _))
 refine q_G (ι:={ p : List Int × Nat // p.1.length ≤ xs.length ∧ InB 4294967296 p.1 ∧ p.2 < 2 ^ (n % 32) ∧ V 4294967296 p.1 + 4294967296 ^ p.1.length * p.2 = V 4294967296 (xs.take p.1.length) * 2 ^ (n % 32) }) (fun p=>⟨46,[(0,.c (.ints .u32 xs)),(1,.c (.i .i64 n)),(5,.own 0 0),(6,.c (.i .u32 (p.1.2 : Nat))),(19,.c (.ints .u32 xs)),(20,.c (.i .i64 xs.length)),(21,.c (.i .i64 p.1.1.length))],⟨[],[(0,⟨0,105,1,.ints .u32 (List.replicate (n / 32) 0 ++ p.1.1)⟩)],[]⟩,1⟩) (fun p=>xs.length - p.1.1.length) ⟨([],0),by simp,InB_nil _,h1,by simp [V]⟩ ?_ ?_
 ·exact q_D
 rintro ⟨⟨o,c⟩,g1,g2,g3,g4⟩
 simp only at g1 g2 g3 g4 ⊢
 have b1:=InB_getD (by omega) bx o.length
 obtain ⟨x,hxx⟩ : ∃ x : Nat,xs.getD o.length 0 = x:=⟨(xs.getD o.length 0).toNat,by omega⟩
 have e1 : shlI .u64 (xs.getD o.length 0 % 18446744073709551616) ((n % 32 : Nat) : Int) = ((x * 2 ^ (n % 32) : Nat) : Int):=by
  rw [hxx,show (x : Int) % 18446744073709551616 = x by omega,shl64 _ _ (by omega) (by omega) (by omega)]; simp
 have e2 : bitI .or .u32 (((x * 2 ^ (n % 32) : Nat) : Int) % 4294967296) (c : Int) = (((x * 2 ^ (n % 32)) % 4294967296 + c : Nat) : Int):=or32_lo x c _ (by omega) g3
 have e3 : ((x * 2 ^ (n % 32) : Nat) : Int) / 4294967296 % 4294967296 = ((x * 2 ^ (n % 32) / 4294967296 : Nat) : Int):=by
  have : x * 2 ^ (n % 32) ≤ 4294967295 * 2 ^ (n % 32):=Nat.mul_le_mul_right _ (by omega)
  omega
 have e4 : x * 2 ^ (n % 32) / 4294967296 < 2 ^ (n % 32):=by
  rw [Nat.div_lt_iff_lt_mul (by omega),Nat.mul_comm]
  exact Nat.mul_lt_mul_of_pos_left (by omega) h1
 have e5 : (x * 2 ^ (n % 32)) % 4294967296 + c < 4294967296:=by
  have d0 : 2 ^ 32 = 2 ^ (n % 32) * 2 ^ (32 - n % 32):=by rw [← Nat.pow_add]; congr 1; omega
  have d1 : x * 2 ^ (n % 32) % 4294967296 = (x % 2 ^ (32 - n % 32)) * 2 ^ (n % 32):=by
   rw [show (4294967296 : Nat) = 2 ^ 32 from rfl,d0,Nat.mul_comm x,Nat.mul_mod_mul_left,Nat.mul_comm]
  have d2 : x % 2 ^ (32 - n % 32) + 1 ≤ 2 ^ (32 - n % 32):=Nat.mod_lt _ (Nat.pow_pos (by omega))
  have d3:=Nat.mul_le_mul_right (2 ^ (n % 32)) d2
  rw [Nat.add_mul,Nat.mul_comm (2 ^ (32 - n % 32)),← d0] at d3
  rw [d1]
  omega
 repeat' (first|with_reducible refine q_0 ?_|((with_reducible first|refine q_q cf19_ok fun K hK=>?_|refine q_r cf19_ok fun K hK=>?_);simp (maxSteps:=2000000) only [go_sem,↓reduceIte,reduceCtorEq,Nat.reduceLeDiff,Nat.reduceLT,Nat.reduceBEq,Nat.reduceAdd];(repeat1' with_reducible first|apply And.intro|intro _|(refine hK _ ?_;clear hK K))<;>(try (clear hK K;exact q_u)))|(with_reducible refine q_s ?_;(first|apply q_J|apply q_K|apply q_L|apply q_M|apply q_N|apply q_O)<;>try intro _))
 ·rename_i ha
  rw [e1,e2,e3]
  refine q_F ⟨(o ++ [(((x * 2 ^ (n % 32)) % 4294967296 + c : Nat) : Int)],x * 2 ^ (n % 32) / 4294967296),by simp; omega,InB_snoc g2 (Int.natCast_nonneg _) (by exact_mod_cast e5),e4,?_⟩ ?_ ?_
  ·simp only [List.length_append,List.length_cons,List.length_nil,Nat.zero_add]
   refine left_step 4294967296 o.length (2 ^ (n % 32)) o xs c _ _ g4 rfl ?_
   rw [hxx,Int.toNat_natCast]
   have:=Nat.mod_add_div (x * 2 ^ (n % 32)) 4294967296
   omega
  ·exact q_D
  ·simp; omega
 ·rename_i ha
  have hl : o.length = xs.length:=by omega
  rw [hl,List.take_length] at g4
  refine endsO_own rfl rfl rfl rfl rfl ?_ rfl
  simp only [C.ints.injEq,true_and]
  rw [trimL_eq 4294967296 (by omega)]
  ·congr 1
   rw [List.append_assoc,V_zeros,V_snoc,hl,Int.toNat_natCast,g4]
   have : 2 ^ n = 4294967296 ^ (n / 32) * 2 ^ (n % 32):=by
    rw [show (4294967296 : Nat) = 2 ^ 32 from rfl,← Nat.pow_mul,← Nat.pow_add]; congr 1; omega
   rw [this,Nat.mul_left_comm]
  ·refine InB_snoc (InB_app (InB_replicate (by omega) _) g2) (by omega) ?_
   omega

def leftCT : CT:=mkCTO [.inl (some (.ints .u32 []))] 105 1 fun l K=>match l with
 | [.inl (.ints .u32 xs),.inl (.i .i64 n)]=>(xs.length ≤ 16777216 ∧ InB 4294967296 xs ∧ 0 ≤ n ∧ n ≤ 16777216) ∧ K (.c (.ints .u32 (dg 4294967296 (V 4294967296 xs * 2 ^ n.toNat))))
 | _=>False
def cf20 : Cfg:=addT 185 leftCT cf19
theorem cf20_ok : TblOk Tryz.prog cf20:=mkCTO_ok cf19_ok (q_C Tryz.func185 (by kernel_rfl) (by kernel_rfl)) rfl fun l K h=>by
 split at h
 ·rename_i xs n
  obtain ⟨n,rfl⟩ : ∃ m : Nat,n = m:=⟨n.toNat,by omega⟩
  exact ⟨_,left_ret _ n h.1.1 (by omega) h.1.2.1,by simpa using h.2⟩
 ·exact h.elim
attribute [go_sem] cf20 leftCT
set_option maxHeartbeats 1600000 in
theorem right_ret (xs : List Int) (n : Nat) (hx : xs.length ≤ 16777216) (hn : n ≤ 16777216) (bx : InB 4294967296 xs) :
  Ret Tryz.prog 186 false [.inl (.ints .u32 xs),.inl (.i .i64 n)] (.c (.ints .u32 (dg 4294967296 (V 4294967296 xs / 2 ^ n)))):=by
 have hs : n % 32 < 32:=Nat.mod_lt _ (by omega)
 have h1 : 0 < 2 ^ (n % 32):=Nat.pow_pos (by omega)
 have hdvd : 2 ^ (n % 32) ∣ 4294967296:=by
  have : 2 ^ (n % 32) ∣ 2 ^ 32:=Nat.pow_dvd_pow 2 (by omega)
  simpa using this
 have hR:=V_drop_div 4294967296 (by omega) xs bx (n / 32)
 generalize hRd : V 4294967296 (xs.drop (n / 32)) = R at hR
 have hfin : R / 2 ^ (n % 32) = V 4294967296 xs / 2 ^ n:=by
  rw [hR,Nat.div_div_eq_div_mul]
  congr 1
  rw [show (4294967296 : Nat) = 2 ^ 32 from rfl,← Nat.pow_mul,← Nat.pow_add]; congr 1; omega
 (refine q_H Tryz.func186 (fun F=>?_); simp only [q_z,q_y,Tryz.ntmps186,Tryz.results186])
 repeat' (first|with_reducible refine q_0 ?_|((with_reducible first|refine q_q cf20_ok fun K hK=>?_|refine q_r cf20_ok fun K hK=>?_);simp (maxSteps:=2000000) only [go_sem,↓reduceIte,reduceCtorEq,Nat.reduceLeDiff,Nat.reduceLT,Nat.reduceBEq,Nat.reduceAdd];(repeat1' with_reducible first|apply And.intro|intro _|(refine hK _ ?_;clear hK K))<;>(try (clear hK K;exact q_u)))|(with_reducible refine q_s ?_;(first|apply q_J|apply q_K|apply q_L|apply q_M|apply q_N|apply q_O)<;>try intro _))
 refine q_G (ι:={ p : List Int // InB 4294967296 p ∧ V 4294967296 p = (R / 2 ^ (n % 32)) % 4294967296 ^ p.length ∧ (p.length = 0 ∨ n / 32 + p.length ≤ xs.length) }) (fun p=>⟨45,[(0,.c (.ints .u32 xs)),(1,.c (.i .i64 n)),(5,.own 0 0),(6,.c (.i .i64 ((n / 32 + p.1.length : Nat) : Int)))],⟨[],[(0,⟨0,105,1,.ints .u32 p.1⟩)],[]⟩,1⟩) (fun p=>xs.length - (n / 32 + p.1.length)) ⟨[],InB_nil _,by simp [V,Nat.mod_one],.inl rfl⟩ ?_ ?_
 ·exact q_D
 rintro ⟨o,g2,g3,g4⟩
 simp only at g2 g3 g4 ⊢
 have b1:=InB_getD (by omega) bx (n / 32 + o.length)
 have b2:=InB_getD (by omega) bx (n / 32 + o.length + 1)
 obtain ⟨x,hxx⟩ : ∃ x : Nat,xs.getD (n / 32 + o.length) 0 = x:=⟨(xs.getD (n / 32 + o.length) 0).toNat,by omega⟩
 obtain ⟨y,hyy⟩ : ∃ y : Nat,xs.getD (n / 32 + o.length + 1) 0 = y:=⟨(xs.getD (n / 32 + o.length + 1) 0).toNat,by omega⟩
 have d1 : x = R / 4294967296 ^ o.length % 4294967296:=by
  have:=V_digit 4294967296 (by omega) xs bx (n / 32 + o.length)
  rw [hR,Nat.div_div_eq_div_mul,← Nat.pow_add,this,hxx]; simp
 have d2 : y = R / 4294967296 ^ (o.length + 1) % 4294967296:=by
  have:=V_digit 4294967296 (by omega) xs bx (n / 32 + o.length + 1)
  rw [hR,Nat.div_div_eq_div_mul,← Nat.pow_add,← Nat.add_assoc,this,hyy]; simp
 have d3:=right_digit R 4294967296 (2 ^ (n % 32)) o.length hdvd h1 (by omega)
 rw [← d1,← d2] at d3
 have d4 : ∀ z : Nat,V 4294967296 (o ++ [(((x + 4294967296 * y) / 2 ^ (n % 32) % 4294967296 : Nat) : Int)]) = (R / 2 ^ (n % 32)) % 4294967296 ^ (o.length + 1):=fun _=>by
  rw [V_snoc,g3,Int.toNat_natCast,d3,mod_pow_succ']
 have t1 : (((n / 32 + o.length : Nat) : Int) + 1).toNat = n / 32 + o.length + 1:=by omega
 have t2 : shlI .u64 ((y : Int) % 18446744073709551616) 32 = (y : Int) * 4294967296:=by rw [show (y : Int) % 18446744073709551616 = y by omega,shl64_32 _ (by omega) (by omega)]
 have t3 : bitI .or .u64 ((x : Int) % 18446744073709551616) ((y : Int) * 4294967296) = ((x + 4294967296 * y : Nat) : Int):=by
  rw [show (x : Int) % 18446744073709551616 = x by omega,or64_hi' _ _ (by omega) (by omega) (by omega) (by omega)]; omega
 have t4 : ∀ z : Nat,shrI .u64 (z : Int) ((n % 32 : Nat) : Int) % 4294967296 = ((z / 2 ^ (n % 32) % 4294967296 : Nat) : Int):=fun z=>by
  rw [shr64 _ _ (by omega)]; simp
 repeat' (first|with_reducible refine q_0 ?_|((with_reducible first|refine q_q cf20_ok fun K hK=>?_|refine q_r cf20_ok fun K hK=>?_);simp (maxSteps:=2000000) only [go_sem,↓reduceIte,reduceCtorEq,Nat.reduceLeDiff,Nat.reduceLT,Nat.reduceBEq,Nat.reduceAdd];(repeat1' with_reducible first|apply And.intro|intro _|(refine hK _ ?_;clear hK K))<;>(try (clear hK K;exact q_u)))|(with_reducible refine q_s ?_;(first|apply q_J|apply q_K|apply q_L|apply q_M|apply q_N|apply q_O)<;>try intro _))
 ·rename_i ha hb
  simp only [t1,hxx,hyy,t2,t3,t4]
  refine q_F ⟨o ++ [(((x + 4294967296 * y) / 2 ^ (n % 32) % 4294967296 : Nat) : Int)],InB_snoc g2 (Int.natCast_nonneg _) (by exact_mod_cast Nat.mod_lt _ (by omega)),by rw [d4 0]; simp,.inr (by simp; omega)⟩ ?_ ?_
  ·exact q_D
  ·simp; omega
 ·rename_i ha hb
  have hy0 : y = 0:=by
   have:=getD_ge xs (n / 32 + o.length + 1) (by omega)
   rw [this] at hyy; omega
  have t5 : (x : Int) % 18446744073709551616 = x:=by omega
  simp only [hxx,t5,t4]
  subst hy0
  simp only [Nat.mul_zero,Nat.add_zero] at d4
  refine q_F ⟨o ++ [((x / 2 ^ (n % 32) % 4294967296 : Nat) : Int)],InB_snoc g2 (Int.natCast_nonneg _) (by exact_mod_cast Nat.mod_lt _ (by omega)),by rw [d4 0]; simp,.inr (by simp; omega)⟩ ?_ ?_
  ·exact q_D
  ·simp; omega
 ·rename_i ha
  refine q_A ?_
  simp only [resAV,q_y]
  rw [trimL_eq 4294967296 (by omega) _ g2,g3,← hfin]
  congr 3
  refine Nat.mod_eq_of_lt (Nat.lt_of_le_of_lt (Nat.div_le_self _ _) ?_)
  rw [← hRd]
  have h3:=V_lt 4294967296 (by omega) _ (InB_drop bx (n / 32))
  have h4 : (xs.drop (n / 32)).length ≤ o.length:=by simp; omega
  exact Nat.lt_of_lt_of_le h3 (Nat.pow_le_pow_right (by omega) h4)

def rightCT : CT:=mkCT [.inl (some (.ints .u32 []))] false fun l K=>match l with
 | [.inl (.ints .u32 xs),.inl (.i .i64 n)]=>(xs.length ≤ 16777216 ∧ InB 4294967296 xs ∧ 0 ≤ n ∧ n ≤ 16777216) ∧ K (.c (.ints .u32 (dg 4294967296 (V 4294967296 xs / 2 ^ n.toNat))))
 | _=>False
def cf21 : Cfg:=addT 186 rightCT cf20
theorem cf21_ok : TblOk Tryz.prog cf21:=q_I cf20_ok Tryz.func186 fun l K h=>by
 split at h
 ·rename_i xs n
  obtain ⟨n,rfl⟩ : ∃ m : Nat,n = m:=⟨n.toNat,by omega⟩
  exact ⟨_,right_ret _ n h.1.1 (by omega) h.1.2.1,by simpa using h.2⟩
 ·exact h.elim
attribute [go_sem] cf21 rightCT
end Go.Proofs.YtgkajjifbcmoeaaGreatDoor
