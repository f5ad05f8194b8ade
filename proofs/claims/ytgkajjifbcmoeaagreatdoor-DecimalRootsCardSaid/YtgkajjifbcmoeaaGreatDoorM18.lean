import Derived.Test.YtgkajjifbcmoeaaGreatDoorM14
import Derived.Test.YtgkajjifbcmoeaaGreatDoorM17
namespace Go.Proofs.YtgkajjifbcmoeaaGreatDoor
set_option linter.unusedSimpArgs false
set_option linter.unusedVariables false
open Go.Abs Go.Proofs.NatL
set_option maxHeartbeats 800000 in
theorem double_ret (xs : List Int) (one : Bool) (hx : xs.length ≤ 4194304) (bx : InB 65536 xs) :
  Ret Tryz.prog 129 false [.inl (.ints .i64 xs),.inl (.b one)] (.c (.ints .i64 (dg 65536 (2 * V 65536 xs + one.toNat)))):=by
 (refine q_H Tryz.func129 (fun F=>?_); simp only [q_z,q_y,Tryz.ntmps129,Tryz.results129])
 refine q_a ?_
 ((first | with_reducible refine q_q rf1_ok (fun K hK=>?_) | with_reducible refine awp_region_draw rf1_ok mixed (by kernel_rfl) (fun K hK=>?_)); (simp (maxSteps:=2000000) only [go_sem,↓reduceIte,reduceCtorEq,Nat.reduceLeDiff,Nat.reduceLT,Nat.reduceBEq,Nat.reduceAdd]); (first | with_reducible apply And.intro | with_reducible intro _ | (with_reducible refine hK _ ?_; clear hK K)) <;> (repeat' (first | with_reducible apply And.intro | with_reducible intro _ | (with_reducible refine hK _ ?_; clear hK K))) <;> (try (clear hK K; first | omega | assumption | ((simp (disch:=omega) only [Int.tdiv_eq_ediv_of_nonneg,Int.tmod_eq_emod_of_nonneg]); omega))))
 refine q_b (q_a ?_)
 ((first | with_reducible refine q_q rf1_ok (fun K hK=>?_) | with_reducible refine awp_region_draw rf1_ok mixed (by kernel_rfl) (fun K hK=>?_)); (simp (maxSteps:=2000000) only [go_sem,↓reduceIte,reduceCtorEq,Nat.reduceLeDiff,Nat.reduceLT,Nat.reduceBEq,Nat.reduceAdd]); (first | with_reducible apply And.intro | with_reducible intro _ | (with_reducible refine hK _ ?_; clear hK K)) <;> (repeat' (first | with_reducible apply And.intro | with_reducible intro _ | (with_reducible refine hK _ ?_; clear hK K))) <;> (try (clear hK K; first | omega | assumption | ((simp (disch:=omega) only [Int.tdiv_eq_ediv_of_nonneg,Int.tmod_eq_emod_of_nonneg]); omega))))
 refine q_b ?_
 refine seq_join (ι:={ c : Nat // c = one.toNat }) (fun c=>⟨38,[(0,.c (.ints .i64 xs)),(5,.c (.i .i64 (c.1 : Nat)))],⟨[],[],[]⟩,0⟩) ?_ ?_
 ·repeat' (first|(with_reducible first|apply q_a|apply q_b|apply q_c|apply q_d|apply q_e|apply q_f|apply q_g|apply q_h|apply q_i|apply q_j|apply q_k|apply q_m|apply q_n|apply q_o|apply q_p|refine q_l ?_)|((with_reducible first|refine q_q rf1_ok fun K hK=>?_|refine q_r rf1_ok fun K hK=>?_);simp (maxSteps:=2000000) only [go_sem,↓reduceIte,reduceCtorEq,Nat.reduceLeDiff,Nat.reduceLT,Nat.reduceBEq,Nat.reduceAdd];(repeat1' with_reducible first|apply And.intro|intro _|(refine hK _ ?_;clear hK K))<;>(try (clear hK K;exact q_u)))|(with_reducible refine q_s ?_;(first|apply q_J|apply q_K|apply q_L|apply q_M|apply q_N|apply q_O)<;>try intro _)|with_reducible refine q_t ?_)
  ·rename_i h
   refine join_n ⟨1,by rw [h]; rfl⟩ ?_
   exact q_D
  ·rename_i h
   refine join_n ⟨0,by cases one <;> simp_all⟩ ?_
   exact q_D
 rintro ⟨c0,hc0⟩
 simp only at hc0 ⊢
 have hc1 : c0 ≤ 1:=by rw [hc0]; cases one <;> decide
 rw [← hc0]
 repeat' (first|(with_reducible first|apply q_a|apply q_b|apply q_c|apply q_d|apply q_e|apply q_f|apply q_g|apply q_h|apply q_i|apply q_j|apply q_k|apply q_m|apply q_n|apply q_o|apply q_p|refine q_l ?_)|((with_reducible first|refine q_q rf1_ok fun K hK=>?_|refine q_r rf1_ok fun K hK=>?_);simp (maxSteps:=2000000) only [go_sem,↓reduceIte,reduceCtorEq,Nat.reduceLeDiff,Nat.reduceLT,Nat.reduceBEq,Nat.reduceAdd];(repeat1' with_reducible first|apply And.intro|intro _|(refine hK _ ?_;clear hK K))<;>(try (clear hK K;exact q_u)))|(with_reducible refine q_s ?_;(first|apply q_J|apply q_K|apply q_L|apply q_M|apply q_N|apply q_O)<;>try intro _)|with_reducible refine q_t ?_)
 refine q_G (ι:={ p : Nat × List Int × Nat // p.1 ≤ xs.length ∧ p.2.1.length = p.1 ∧ InB 65536 p.2.1 ∧ p.2.2 ≤ 1 ∧ V 65536 p.2.1 + 65536 ^ p.1 * p.2.2 = V 65536 (xs.take p.1) * 2 + c0 }) (fun p=>⟨38,[(0,.c (.ints .i64 xs)),(5,.c (.i .i64 (p.1.2.2 : Nat))),(6,.own 0 0),(7,.c (.i .i64 (p.1.1 : Nat)))],⟨[],[(0,⟨0,3,1,.ints .i64 p.1.2.1⟩)],[]⟩,1⟩) (fun p=>xs.length - p.1.1) ⟨(0,[],c0),by simp,rfl,InB_nil _,hc1,by simp [V]⟩ ?_ ?_
 ·exact q_D
 rintro ⟨⟨i,o,c⟩,g1,g2,g3,g4,g5⟩
 simp only at g1 g2 g3 g4 g5 ⊢
 have b1:=InB_getD (by omega) bx i
 obtain ⟨x,hxx⟩ : ∃ x : Nat,xs.getD i 0 = x:=⟨(xs.getD i 0).toNat,by omega⟩
 have hq : (2 * xs.getD i 0 + (c : Int)).tdiv 65536 = (((2 * x + c) / 65536 : Nat) : Int):=by
  rw [hxx,Int.tdiv_eq_ediv_of_nonneg (by omega)]; omega
 have hr : (2 * xs.getD i 0 + (c : Int)).tmod 65536 = (((2 * x + c) % 65536 : Nat) : Int):=by
  rw [hxx,Int.tmod_eq_emod_of_nonneg (by omega)]; omega
 repeat' (first|(with_reducible first|apply q_a|apply q_b|apply q_c|apply q_d|apply q_e|apply q_f|apply q_g|apply q_h|apply q_i|apply q_j|apply q_k|apply q_m|apply q_n|apply q_o|apply q_p|refine q_l ?_)|((with_reducible first|refine q_q rf1_ok fun K hK=>?_|refine q_r rf1_ok fun K hK=>?_);simp (maxSteps:=2000000) only [go_sem,↓reduceIte,reduceCtorEq,Nat.reduceLeDiff,Nat.reduceLT,Nat.reduceBEq,Nat.reduceAdd];(repeat1' with_reducible first|apply And.intro|intro _|(refine hK _ ?_;clear hK K))<;>(try (clear hK K;exact q_u)))|(with_reducible refine q_s ?_;(first|apply q_J|apply q_K|apply q_L|apply q_M|apply q_N|apply q_O)<;>try intro _)|with_reducible refine q_t ?_)
 ·rename_i ha
  rw [hq,hr]
  refine q_F ⟨(i + 1,o ++ [(((2 * x + c) % 65536 : Nat) : Int)],(2 * x + c) / 65536),by simp only; omega,by simp [g2],InB_snoc g3 (by omega) (by omega),by simp only; omega,dbl_step 65536 i o xs c ((2 * x + c) % 65536) ((2 * x + c) / 65536) c0 g5 g2 (by rw [hxx,Int.toNat_natCast]; omega)⟩ ?_ (by simp only; omega)
  exact q_D
 ·rename_i ha hb
  have hi : i = xs.length:=by omega
  refine q_A ?_
  simp only [resAV,q_y]
  rw [trimL_eq 65536 (by omega) _ (InB_snoc g3 (by omega) (by omega)),V_snoc,g2,Int.toNat_natCast,g5,hi,List.take_length,Nat.mul_comm]
 ·rename_i ha hb
  have hi : i = xs.length:=by omega
  have hc : c = 0:=by omega
  refine q_A ?_
  simp only [resAV,q_y]
  rw [hc,Nat.mul_zero,Nat.add_zero,hi,List.take_length] at g5
  rw [trimL_eq 65536 (by omega) _ g3,g5,Nat.mul_comm]

def doubleCT : CT:=mkCT [.inl (some (.ints .i64 []))] false fun l K=>match l with
 | [.inl (.ints .i64 xs),.inl (.b one)]=>(xs.length ≤ 4194304 ∧ InB 65536 xs) ∧ K (.c (.ints .i64 (dg 65536 (2 * V 65536 xs + one.toNat))))
 | _=>False
def rg2 : Cfg:=addT 129 doubleCT cf0
theorem rg2_ok : TblOk Tryz.prog rg2:=q_I cf0_ok Tryz.func129 fun l K h=>by
 split at h
 ·exact ⟨_,double_ret _ _ h.1.1 h.1.2,h.2⟩
 ·exact h.elim
attribute [go_sem] doubleCT
end Go.Proofs.YtgkajjifbcmoeaaGreatDoor
