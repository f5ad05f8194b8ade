import Derived.Test.YtgkajjifbcmoeaaGreatDoorM22
import Derived.Test.YtgkajjifbcmoeaaGreatDoorM27
import Derived.Test.YtgkajjifbcmoeaaGreatDoorM31
namespace Go.Proofs.NatL
set_option linter.unusedSimpArgs false
set_option linter.unusedVariables false
def tn (y : Int) (d : Nat) : Int:=sg (decide (y < 0)) d
end Go.Proofs.NatL
namespace Go.Proofs.YtgkajjifbcmoeaaGreatDoor
set_option linter.unusedSimpArgs false
set_option linter.unusedVariables false
open Go.Abs Go.Proofs.NatL

end Go.Proofs.YtgkajjifbcmoeaaGreatDoor

namespace Go.Proofs.YtgkajjifbcmoeaaGreatDoor
set_option linter.unusedSimpArgs false
set_option linter.unusedVariables false
open Go.Abs Go.Proofs.NatL

set_option maxHeartbeats 400000 in
theorem rtrim_cut (xs : List Int) (hx : xs.length ≤ 16777216) : RetC Tryz.prog 148 3 (.ints .i64 xs) (.ints .i64 (trimL xs)):=by
 refine ret_cut (k:=(trimL xs).length) Tryz.func148 rfl (Nat.le_of_ble_eq_true rfl) rfl (fun rs hr=>?_) (fun F=>?_)
 ·simp only [C.rows,C.z,Option.some.injEq,Prod.mk.injEq,true_and] at hr ⊢
  rw [← hr,← List.map_take,← trimL_take]
 simp only [Tryz.ntmps148,Tryz.results148]
 repeat' (first|(with_reducible first|apply q_a|apply q_b|apply q_c|apply q_d|apply q_e|apply q_f|apply q_g|apply q_h|apply q_i|apply q_j|apply q_k|apply q_m|apply q_n|apply q_o|apply q_p|refine q_l ?_)|((with_reducible first|refine q_q cf0_ok fun K hK=>?_|refine q_r cf0_ok fun K hK=>?_);simp (maxSteps:=2000000) only [go_sem,↓reduceIte,reduceCtorEq,Nat.reduceLeDiff,Nat.reduceLT,Nat.reduceBEq,Nat.reduceAdd];(repeat1' with_reducible first|apply And.intro|intro _|(refine hK _ ?_;clear hK K))<;>(try (clear hK K;exact q_u)))|(with_reducible refine q_s ?_;(first|apply q_J|apply q_K|apply q_L|apply q_M|apply q_N|apply q_O)<;>try intro _)|with_reducible refine endsC_ret rfl (by ((simp (maxSteps:=2000000) only [go_sem,↓reduceIte,reduceCtorEq,Nat.reduceLeDiff,Nat.reduceLT,Nat.reduceBEq,Nat.reduceAdd]); rfl)) (by first|((simp (maxSteps:=2000000) only [go_sem,↓reduceIte,reduceCtorEq,Nat.reduceLeDiff,Nat.reduceLT,Nat.reduceBEq,Nat.reduceAdd]);done)|((simp (maxSteps:=2000000) only [go_sem,↓reduceIte,reduceCtorEq,Nat.reduceLeDiff,Nat.reduceLT,Nat.reduceBEq,Nat.reduceAdd]);rfl)) rfl rfl rfl ?_)
 refine q_G (ι:={ k : Nat // k ≤ xs.length ∧ trimL (xs.take k) = trimL xs }) (fun k=>⟨21,[(0,.bw 0 0 k.1)],⟨[],[],[(0,⟨3,.ints .i64 xs⟩)]⟩,0⟩) (fun k=>k.1) ⟨xs.length,Nat.le_refl _,by rw [List.take_length]⟩ ?_ ?_
 ·exact q_D
 rintro ⟨k,h1,h2⟩
 have e : 0 < (k : Int) → ((k : Int) - 1).toNat = k - 1:=fun _=>by omega
 have e2 : 0 < k → (xs.take k).getD ((xs.take k).length - 1) 0 = xs.getD (k - 1) 0:=fun h=>by
  simp only [List.length_take,Nat.min_eq_left h1,List.getD_eq_getElem?_getD,List.getElem?_take]
  rw [if_pos (by omega)]
 have e3 : (xs.take k).length = k:=by simp; omega
 repeat' (first|(with_reducible first|apply q_a|apply q_b|apply q_c|apply q_d|apply q_e|apply q_f|apply q_g|apply q_h|apply q_i|apply q_j|apply q_k|apply q_m|apply q_n|apply q_o|apply q_p|refine q_l ?_)|((with_reducible first|refine q_q cf0_ok fun K hK=>?_|refine q_r cf0_ok fun K hK=>?_);simp (maxSteps:=2000000) only [go_sem,↓reduceIte,reduceCtorEq,Nat.reduceLeDiff,Nat.reduceLT,Nat.reduceBEq,Nat.reduceAdd];(repeat1' with_reducible first|apply And.intro|intro _|(refine hK _ ?_;clear hK K))<;>(try (clear hK K;exact q_u)))|(with_reducible refine q_s ?_;(first|apply q_J|apply q_K|apply q_L|apply q_M|apply q_N|apply q_O)<;>try intro _)|with_reducible refine endsC_ret rfl (by ((simp (maxSteps:=2000000) only [go_sem,↓reduceIte,reduceCtorEq,Nat.reduceLeDiff,Nat.reduceLT,Nat.reduceBEq,Nat.reduceAdd]); rfl)) (by first|((simp (maxSteps:=2000000) only [go_sem,↓reduceIte,reduceCtorEq,Nat.reduceLeDiff,Nat.reduceLT,Nat.reduceBEq,Nat.reduceAdd]);done)|((simp (maxSteps:=2000000) only [go_sem,↓reduceIte,reduceCtorEq,Nat.reduceLeDiff,Nat.reduceLT,Nat.reduceBEq,Nat.reduceAdd]);rfl)) rfl rfl rfl ?_)
 ·rename_i hp h0
  rw [e hp] at h0 ⊢
  refine q_F ⟨k - 1,by omega,?_⟩ ?_ ?_
  ·have:=trimL_drop (xs.take k) (by omega) (by rw [e2 (by omega)]; exact h0)
   rw [e3,List.take_take,Nat.min_eq_left (by omega)] at this
   rw [this,h2]
  ·exact q_D
  ·show k - 1 < k
   omega
 ·rename_i hp h0
  rw [e hp] at h0
  rw [← h2,trimL_stop (xs.take k) (.inr (by rw [e2 (by omega)]; exact h0)),e3]
 ·rw [← h2,trimL_stop (xs.take k) (.inl (by omega)),e3]
def rtrimcCT : CT:=mkCTC [.inl (some (.ints .i64 []))] false 3 (fun c K=>match c with
 | .ints .i64 xs=>xs.length ≤ 16777216 ∧ K (.ints .i64 (trimL xs))
 | _=>False) fun l K=>match l with
 | [.inl (.ints .i64 xs)]=>xs.length ≤ 16777216 ∧ K (.c (.ints .i64 (trimL xs)))
 | _=>False
def jc1 : Cfg:=addT 148 rtrimcCT cf0
theorem jc1_ok : TblOk Tryz.prog jc1:=mkCTC_ok cf0_ok (q_C Tryz.func148 (by kernel_rfl) (by kernel_rfl)) rfl (fun c K h=>by
 split at h
 ·exact ⟨_,rtrim_cut _ h.1,h.2⟩
 ·exact h.elim) fun l K h=>by
 split at h
 ·exact ⟨_,rtrim_ret _ h.1,h.2⟩
 ·exact h.elim
attribute [go_sem] rtrimcCT
def jcb : Cfg:=listT [(148,rtrimcCT)] [34]
theorem jcb_ok : TblOk Tryz.prog jcb:=listE_ok (by simp only [List.mem_singleton,forall_eq]; exact flt) ⟨⟨jc1,jc1_ok,rfl⟩,trivial⟩
attribute [go_sem] jcb
set_option maxRecDepth 100000 in
set_option maxHeartbeats 1600000 in
theorem binary_own (l : List Bool) (hl : l.length ≤ 16777216) : RetO Tryz.prog 137 [.inl (.bools l)] 3 1 (.ints .i64 (dg 65536 (B2 l))):=by
 (refine q_x Tryz.func137 rfl (Nat.le_of_ble_eq_true rfl) (fun F=>?_); simp only [q_z,q_y,Tryz.ntmps137,Tryz.results137])
 repeat' (first|(with_reducible first|apply q_a|apply q_b|apply q_c|apply q_d|apply q_e|apply q_f|apply q_g|apply q_h|apply q_i|apply q_j|apply q_k|apply q_m|apply q_n|apply q_o|apply q_p|refine q_l ?_)|((with_reducible first|refine q_q jcb_ok fun K hK=>?_|refine q_r jcb_ok fun K hK=>?_);simp (maxSteps:=2000000) only [go_sem,↓reduceIte,reduceCtorEq,Nat.reduceLeDiff,Nat.reduceLT,Nat.reduceBEq,Nat.reduceAdd];(repeat1' with_reducible first|apply And.intro|intro _|(refine hK _ ?_;clear hK K))<;>(try (clear hK K;exact q_u)))|(with_reducible refine q_s ?_;(first|apply q_J|apply q_K|apply q_L|apply q_M|apply q_N|apply q_O)<;>try intro _))
 refine q_G (ι:={ p : Nat × List Int // 16 * p.1 ≤ l.length + 15 ∧ p.2.length = p.1 ∧ InB 65536 p.2 ∧ V 65536 p.2 = B2 (l.take (16 * p.1)) }) (fun p=>⟨41,[(0,.c (.bools l)),(3,.own 0 0),(4,.c (.i .i64 ((16 * p.1.1 : Nat) : Int)))],⟨[],[(0,⟨0,3,1,.ints .i64 p.1.2⟩)],[]⟩,1⟩) (fun p=>l.length + 15 - 16 * p.1.1) ⟨(0,[]),by simp,rfl,InB_nil _,by simp [B2,bI,V]⟩ ?_ ?_
 ·exact q_D
 rintro ⟨⟨j,o⟩,g1,g2,g3,g4⟩
 simp only at g1 g2 g3 g4 ⊢
 repeat' (first|(with_reducible first|apply q_a|apply q_b|apply q_c|apply q_d|apply q_e|apply q_f|apply q_g|apply q_h|apply q_i|apply q_j|apply q_k|apply q_m|apply q_n|apply q_o|apply q_p|refine q_l ?_)|((with_reducible first|refine q_q jcb_ok fun K hK=>?_|refine q_r jcb_ok fun K hK=>?_);simp (maxSteps:=2000000) only [go_sem,↓reduceIte,reduceCtorEq,Nat.reduceLeDiff,Nat.reduceLT,Nat.reduceBEq,Nat.reduceAdd];(repeat1' with_reducible first|apply And.intro|(intro _;try exact q_v)|(refine hK _ ?_;clear hK K))<;>(try (clear hK K;exact q_u)))|(with_reducible refine q_s ?_;(first|apply q_J|apply q_K|apply q_L|apply q_M|apply q_N|apply q_O)<;>try (intro _;try exact q_v)))
 ·rename_i hj
  refine q_G (ι:={ p : Nat × Nat // p.1 ≤ 16 ∧ p.2 = B2 ((l.drop (16 * j + p.1)).take (16 - p.1)) }) (fun p=>⟨41,[(0,.c (.bools l)),(3,.own 0 0),(4,.c (.i .i64 ((16 * j : Nat) : Int))),(5,.c (.i .i64 (p.1.2 : Nat))),(6,.c (.i .i64 ((p.1.1 : Int) - 1)))],⟨[],[(0,⟨0,3,1,.ints .i64 o⟩)],[]⟩,1⟩) (fun p=>p.1.1) ⟨(16,0),by simp,by simp [B2,bI,V]⟩ ?_ ?_
  ·exact q_D
  rintro ⟨⟨k,x⟩,q1,q2⟩
  simp only at q1 q2 ⊢
  have hx : x < 65536:=by
   rw [q2]
   refine Nat.lt_of_lt_of_le (B2_lt _) ?_
   have : (2 : Nat) ^ ((l.drop (16 * j + k)).take (16 - k)).length ≤ 2 ^ 16:=Nat.pow_le_pow_right (by omega) (by simp; omega)
   exact this
  have hnx : 0 < k → B2 ((l.drop (16 * j + (k - 1))).take (16 - (k - 1))) = 2 * x + (if l.getD (16 * j + (k - 1)) false then 1 else 0):=fun h=>by
   rcases Nat.lt_or_ge (16 * j + (k - 1)) l.length with h1 | h1
   ·rw [show 16 - (k - 1) = 16 - k + 1 by omega,group_step l _ _ h1,show 16 * j + (k - 1) + 1 = 16 * j + k by omega,← q2]
   ·rw [group_end l _ _ h1,q2,group_end l _ _ (by omega),List.getD_eq_getElem?_getD,List.getElem?_eq_none h1]; simp
  have e1 : 0 < k → (((16 * j : Nat) : Int) + ((k : Int) - 1)).toNat = 16 * j + (k - 1):=fun h=>by omega
  repeat' (first|(with_reducible first|apply q_a|apply q_b|apply q_c|apply q_d|apply q_e|apply q_f|apply q_g|apply q_h|apply q_i|apply q_j|apply q_k|apply q_m|apply q_n|apply q_o|apply q_p|refine q_l ?_)|((with_reducible first|refine q_q jcb_ok fun K hK=>?_|refine q_r jcb_ok fun K hK=>?_);simp (maxSteps:=2000000) only [go_sem,↓reduceIte,reduceCtorEq,Nat.reduceLeDiff,Nat.reduceLT,Nat.reduceBEq,Nat.reduceAdd];(repeat1' with_reducible first|apply And.intro|(intro _;try exact q_v)|(refine hK _ ?_;clear hK K))<;>(try (clear hK K;exact q_u)))|(with_reducible refine q_s ?_;(first|apply q_J|apply q_K|apply q_L|apply q_M|apply q_N|apply q_O)<;>try (intro _;try exact q_v)))
  ·rename_i h1 h2 h3
   rw [e1 (by omega)] at h3
   have h4:=hnx (by omega)
   rw [h3,if_pos rfl] at h4
   refine q_F ⟨(k - 1,2 * x + 1),by simp only; omega,h4.symm⟩ ?_ (by simp only; omega)
   exact q_D
  ·rename_i h1 h2 h3
   rw [e1 (by omega)] at h3
   have h4:=hnx (by omega)
   rw [h3] at h4
   refine q_F ⟨(k - 1,2 * x),by simp only; omega,by simpa using h4.symm⟩ ?_ (by simp only; omega)
   exact q_D
  ·rename_i h1 h2
   have h4:=hnx (by omega)
   rw [List.getD_eq_getElem?_getD,List.getElem?_eq_none (by omega)] at h4
   refine q_F ⟨(k - 1,2 * x),by simp only; omega,by simpa using h4.symm⟩ ?_ (by simp only; omega)
   exact q_D
  ·rename_i h1
   have hk : k = 0:=by omega
   subst hk
   refine q_F ⟨(j + 1,o ++ [(x : Int)]),by simp only; omega,by simp [g2],InB_snoc g3 (by omega) (by omega),digit_group j o l g4 g2 x (by simpa using q2) (by omega)⟩ ?_ (by simp only; omega)
   exact q_D
 ·rename_i hj
  refine endsO_own rfl rfl rfl rfl rfl ?_ rfl
  simp only [C.ints.injEq,true_and]
  rw [List.take_of_length_le (by omega)] at g4
  rw [trimL_eq 65536 (by omega) _ g3,g4]
def binFCT : CT:=mkCT [.inl (some (.bools []))] true fun l K=>match l with
 | [.inl (.bools l)]=>l.length ≤ 16777216 ∧ K (.c (.ints .i64 (dg 65536 (B2 l))))
 | _=>False
def jc2 : Cfg:=addT 137 binFCT cf0
theorem jc2_ok : TblOk Tryz.prog jc2:=q_I cf0_ok Tryz.func137 fun l K h=>by
 split at h
 ·exact ⟨_,(binary_own _ h.1).ret,h.2⟩
 ·exact h.elim
attribute [go_sem] binFCT
def jb7 : Cfg:=listT [(180,onesCT),(137,binFCT),(128,rcmpCT),(68,(rnumCT (fun _ _=>True) (· * ·)))] [34]
theorem jb7_ok : TblOk Tryz.prog jb7:=listE_ok (by simp only [List.mem_singleton,forall_eq]; exact flt) ⟨⟨nt8,nt8_ok,rfl⟩,⟨jc2,jc2_ok,rfl⟩,⟨db7,db7_ok,rfl⟩,⟨db9,db9_ok,rfl⟩,trivial⟩
attribute [go_sem] jb7
theorem root_len (a : Nat) : (((bs a).length : Int) + 1).tdiv 2 = (((bl a + 1) / 2 : Nat) : Int):=by
 rw [bs_bl,Int.tdiv_eq_ediv_of_nonneg (by omega)]; omega
theorem root_top (a : Nat) : a < 2 ^ ((bl a + 1) / 2) * 2 ^ ((bl a + 1) / 2):=by
 rw [← Nat.pow_add]
 have h1 : a < 2 ^ bl a:=by
  rcases Nat.eq_zero_or_pos a with h | h
  ·subst h; exact Nat.pow_pos (by omega)
  ·exact (bl_spec a h).2.1
 exact Nat.lt_of_lt_of_le h1 (Nat.pow_le_pow_right (by omega) (by omega))
set_option maxRecDepth 100000 in
set_option maxHeartbeats 3200000 in
theorem root_ret (a : Nat) (la : (dg 65536 a).length ≤ 65536) : Ret Tryz.prog 127 false [.inl (.ints .i64 (dg 65536 a))] (.c (.ints .i64 (dg 65536 (rt a)))):=by
 have hbl : bl a ≤ 1048576:=Nat.le_trans (bl_dg la) (by omega)
 have hL : (bs a).length ≤ 1048576:=by rw [bs_bl]; exact hbl
 have e0:=root_len a
 have ht:=root_top a
 generalize (bl a + 1) / 2 = N at *
 have hN : N ≤ 1048576:=by
  rw [bs_bl,Int.tdiv_eq_ediv_of_nonneg (by omega)] at e0; omega
 (refine q_H Tryz.func127 (fun F=>?_); simp only [q_z,q_y,Tryz.ntmps127,Tryz.results127])
 repeat' (first|(with_reducible first|apply q_a|apply q_b|apply q_c|apply q_d|apply q_e|apply q_f|apply q_g|apply q_h|apply q_i|apply q_j|apply q_k|apply q_m|apply q_n|apply q_o|apply q_p|refine q_l ?_)|((with_reducible first|refine q_q jb7_ok fun K hK=>?_|refine q_r jb7_ok fun K hK=>?_);simp (maxSteps:=2000000) only [go_sem,↓reduceIte,reduceCtorEq,Nat.reduceLeDiff,Nat.reduceLT,Nat.reduceBEq,Nat.reduceAdd,e0];(repeat1' with_reducible first|apply And.intro|(intro _;try exact q_v)|(refine hK _ ?_;clear hK K))<;>(try (clear hK K;exact q_u)))|(with_reducible refine q_s ?_;(first|apply q_J|apply q_K|apply q_L|apply q_M|apply q_N|apply q_O)<;>try (intro _;try exact q_v))|with_reducible refine q_t ?_)
 all_goals try omega
 refine q_G (ι:={ p : Nat × List Bool // p.1 + p.2.length = N ∧ B2 p.2 * 2 ^ p.1 * (B2 p.2 * 2 ^ p.1) ≤ a ∧ a < (B2 p.2 * 2 ^ p.1 + 2 ^ p.1) * (B2 p.2 * 2 ^ p.1 + 2 ^ p.1) }) (fun p=>⟨36,[(0,.c (.ints .i64 (dg 65536 a))),(4,.own 0 0),(5,.c (.i .i64 ((p.1.1 : Int) - 1)))],⟨[],[(0,⟨0,4,1,.bools (List.replicate p.1.1 false ++ p.1.2)⟩)],[]⟩,1⟩) (fun p=>p.1.1) ⟨(N,[]),by simp,by simp [B2_nil],by simpa [B2_nil] using ht⟩ ?_ ?_
 ·exact q_D
 rintro ⟨⟨k,h⟩,g1,g2,g3⟩
 simp only at g1 g2 g3 ⊢
 have hq : (List.replicate k false ++ h).length = N:=by simp; omega
 rcases Nat.eq_zero_or_pos k with hk | hk
 ·subst hk
  simp only [Nat.pow_zero,Nat.mul_one] at g2 g3
  have e1:=rt_eq g2 g3
  repeat' (first|(with_reducible first|apply q_a|apply q_b|apply q_c|apply q_d|apply q_e|apply q_f|apply q_g|apply q_h|apply q_i|apply q_j|apply q_k|apply q_m|apply q_n|apply q_o|apply q_p|refine q_l ?_)|((with_reducible first|refine q_q jb7_ok fun K hK=>?_|refine q_r jb7_ok fun K hK=>?_);simp (maxSteps:=2000000) only [go_sem,↓reduceIte,reduceCtorEq,Nat.reduceLeDiff,Nat.reduceLT,Nat.reduceBEq,Nat.reduceAdd,hq];(repeat1' with_reducible first|apply And.intro|(intro _;try exact q_v)|(refine hK _ ?_;clear hK K))<;>(try (clear hK K;exact q_u)))|(with_reducible refine q_s ?_;(first|apply q_J|apply q_K|apply q_L|apply q_M|apply q_N|apply q_O)<;>try (intro _;try exact q_v))|with_reducible refine q_t ?_)
  all_goals first | omega | skip
  exact q_A (by simp only [resAV,q_y,List.replicate_zero,List.nil_append,e1])
 ·obtain ⟨j,rfl⟩ : ∃ j,k = j + 1:=⟨k - 1,by omega⟩
  have ek : (((j + 1 : Nat) : Int) - 1).toNat = j:=by omega
  have hs:=set_zeros (j + 1) h (by omega) true
  rw [show j + 1 - 1 = j by omega] at hs
  have hs2:=set_last j true false h
  have hv : B2 (List.replicate j false ++ true :: h) = B2 h * 2 ^ (j + 1) + 2 ^ j:=by
   rw [B2_false,B2_cons,if_pos rfl,Nat.add_mul,Nat.one_mul,Nat.pow_succ,Nat.mul_comm (2 ^ j) 2,← Nat.mul_assoc,Nat.mul_comm (B2 h) 2]
  have hq2 : (List.replicate j false ++ true :: h).length = N:=by simp; omega
  have hp : 2 ^ (j + 1) = 2 * 2 ^ j:=by rw [Nat.pow_succ]; omega
  have l1 : B2 (List.replicate j false ++ true :: h) < 2 ^ N:=by rw [← hq2]; exact B2_lt _
  have l2 : (dg 65536 (B2 (List.replicate j false ++ true :: h))).length ≤ 1048576:=Nat.le_trans (dg_len_two 65536 _ (by omega) _ l1) hN
  have l3:=mul_len (B:=65536) (by omega) l2 l2
  have eF : B2 (false :: h) * 2 ^ j = B2 h * 2 ^ (j + 1):=by
   rw [B2_cons,if_neg (by decide),Nat.add_zero,Nat.pow_succ,Nat.mul_comm (2 ^ j) 2,← Nat.mul_assoc,Nat.mul_comm (B2 h) 2]
  have eT : B2 (true :: h) * 2 ^ j = B2 h * 2 ^ (j + 1) + 2 ^ j:=by
   rw [← eF,B2_cons,B2_cons,if_pos rfl,if_neg (by decide),Nat.add_zero,Nat.add_mul,Nat.one_mul,Nat.add_zero]
  generalize hX : B2 (List.replicate j false ++ true :: h) = X at *
  by_cases hgt : a < X * X
  ·have h3:=(cmp3_gt (X * X) a).2 hgt
   repeat' (first|(with_reducible first|apply q_a|apply q_b|apply q_c|apply q_d|apply q_e|apply q_f|apply q_g|apply q_h|apply q_i|apply q_j|apply q_k|apply q_m|apply q_n|apply q_o|apply q_p|refine q_l ?_)|((with_reducible first|refine q_q jb7_ok fun K hK=>?_|refine q_r jb7_ok fun K hK=>?_);simp (maxSteps:=2000000) only [go_sem,↓reduceIte,reduceCtorEq,Nat.reduceLeDiff,Nat.reduceLT,Nat.reduceBEq,Nat.reduceAdd,ek,hs,hs2,hq,hq2,hX];(repeat1' with_reducible first|apply And.intro|(intro _;try exact q_v)|(refine hK _ ?_;clear hK K))<;>(try (clear hK K;exact q_u)))|(with_reducible refine q_s ?_;(first|apply q_J|apply q_K|apply q_L|apply q_M|apply q_N|apply q_O)<;>try (intro _;try exact q_v))|with_reducible refine q_t ?_)
   all_goals first | omega | skip
   refine q_F ⟨(j,false :: h),by simp; omega,?_,?_⟩ ?_ (by simp only; omega)
   ·simp only; rw [eF]; exact g2
   ·simp only; rw [eF,← hv]; exact hgt
   ·exact q_D
  ·have h3 : ¬ 0 < cmp3 (X * X) a:=fun hh=>hgt ((cmp3_gt (X * X) a).1 hh)
   repeat' (first|(with_reducible first|apply q_a|apply q_b|apply q_c|apply q_d|apply q_e|apply q_f|apply q_g|apply q_h|apply q_i|apply q_j|apply q_k|apply q_m|apply q_n|apply q_o|apply q_p|refine q_l ?_)|((with_reducible first|refine q_q jb7_ok fun K hK=>?_|refine q_r jb7_ok fun K hK=>?_);simp (maxSteps:=2000000) only [go_sem,↓reduceIte,reduceCtorEq,Nat.reduceLeDiff,Nat.reduceLT,Nat.reduceBEq,Nat.reduceAdd,ek,hs,hq,hq2,hX];(repeat1' with_reducible first|apply And.intro|(intro _;try exact q_v)|(refine hK _ ?_;clear hK K))<;>(try (clear hK K;exact q_u)))|(with_reducible refine q_s ?_;(first|apply q_J|apply q_K|apply q_L|apply q_M|apply q_N|apply q_O)<;>try (intro _;try exact q_v))|with_reducible refine q_t ?_)
   all_goals first | omega | skip
   refine q_F ⟨(j,true :: h),by simp; omega,?_,?_⟩ ?_ (by simp only; omega)
   ·simp only; rw [eT,← hv]; omega
   ·simp only; rw [eT,Nat.add_assoc,← Nat.two_mul,← hp]; exact g3
   ·exact q_D

end Go.Proofs.YtgkajjifbcmoeaaGreatDoor
