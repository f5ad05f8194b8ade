import Derived.Test.YtgkajjifbcmoeaaGreatDoorM13
import Derived.Test.YtgkajjifbcmoeaaGreatDoorM6
namespace Go.Proofs.YtgkajjifbcmoeaaGreatDoor
set_option linter.unusedSimpArgs false
set_option linter.unusedVariables false
open Go.Abs Go.Proofs.NatL
set_option maxHeartbeats 800000 in
theorem rcompare_ret (xs ys : List Int) (hx : xs.length ≤ 4194304) (hy : ys.length ≤ 4194304) (bx : InB 65536 xs) (by' : InB 65536 ys) (tx : Trd xs) (ty : Trd ys) : Ret Tryz.prog 128 false [.inl (.ints .i64 xs),.inl (.ints .i64 ys)] (.c (.i .i64 (cmp3 (V 65536 xs) (V 65536 ys)))):=by
 (refine q_H Tryz.func128 (fun F=>?_); simp only [q_z,q_y,Tryz.ntmps128,Tryz.results128])
 repeat' (first|(with_reducible first|apply q_a|apply q_b|apply q_c|apply q_d|apply q_e|apply q_f|apply q_g|apply q_h|apply q_i|apply q_j|apply q_k|apply q_m|apply q_n|apply q_o|apply q_p|refine q_l ?_)|((with_reducible first|refine q_q rf1_ok fun K hK=>?_|refine q_r rf1_ok fun K hK=>?_);simp (maxSteps:=2000000) only [go_sem,↓reduceIte,reduceCtorEq,Nat.reduceLeDiff,Nat.reduceLT,Nat.reduceBEq,Nat.reduceAdd];(repeat1' with_reducible first|apply And.intro|intro _|(refine hK _ ?_;clear hK K))<;>(try (clear hK K;exact q_u)))|(with_reducible refine q_s ?_;(first|apply q_J|apply q_K|apply q_L|apply q_M|apply q_N|apply q_O)<;>try intro _)|with_reducible refine q_t ?_)
 ·rename_i hl
  have:=len_lt (by omega) bx by' ty (by omega)
  exact q_A (by simp only [resAV,q_y,cmp3]; rw [if_pos this])
 ·rename_i hl hl2
  have:=len_lt (by omega) by' bx tx (by omega)
  exact q_A (by simp only [resAV,q_y,cmp3]; rw [if_neg (by omega),if_neg (by omega)])
 rename_i hl
 have hl : xs.length = ys.length:=by omega
 refine q_G (ι:={ i : Int // -1 ≤ i ∧ i < xs.length ∧ xs.drop (i + 1).toNat = ys.drop (i + 1).toNat }) (fun i=>⟨41,[(0,.c (.ints .i64 xs)),(1,.c (.ints .i64 ys)),(5,.c (.i .i64 i.1))],⟨[],[],[]⟩,0⟩) (fun i=>(i.1 + 1).toNat) ⟨(xs.length : Int) - 1,by omega,by omega,by rw [List.drop_eq_nil_of_le (by omega),List.drop_eq_nil_of_le (by omega)]⟩ ?_ ?_
 ·exact q_D
 rintro ⟨i,h1,h2,h3⟩
 simp only
 have e1 : 0 ≤ i → (i + 1).toNat = i.toNat + 1:=fun _=>by omega
 repeat' (first|(with_reducible first|apply q_a|apply q_b|apply q_c|apply q_d|apply q_e|apply q_f|apply q_g|apply q_h|apply q_i|apply q_j|apply q_k|apply q_m|apply q_n|apply q_o|apply q_p|refine q_l ?_)|((with_reducible first|refine q_q rf1_ok fun K hK=>?_|refine q_r rf1_ok fun K hK=>?_);simp (maxSteps:=2000000) only [go_sem,↓reduceIte,reduceCtorEq,Nat.reduceLeDiff,Nat.reduceLT,Nat.reduceBEq,Nat.reduceAdd];(repeat1' with_reducible first|apply And.intro|intro _|(refine hK _ ?_;clear hK K))<;>(try (clear hK K;exact q_u)))|(with_reducible refine q_s ?_;(first|apply q_J|apply q_K|apply q_L|apply q_M|apply q_N|apply q_O)<;>try intro _)|with_reducible refine q_t ?_)
 ·rename_i h0 hlt
  rw [e1 h0] at h3
  have:=cmp_at (by omega) bx by' hl i.toNat (by omega) h3 hlt
  exact q_A (by simp only [resAV,q_y,cmp3]; rw [if_pos this])
 ·rename_i h0 hne hlt
  rw [e1 h0] at h3
  have:=cmp_at (by omega) by' bx hl.symm i.toNat (by omega) h3.symm (by omega)
  exact q_A (by simp only [resAV,q_y,cmp3]; rw [if_neg (by omega),if_neg (by omega)])
 ·rename_i h0 he he2
  rw [e1 h0] at h3
  refine q_F ⟨i - 1,by omega,by omega,?_⟩ ?_ ?_
  ·rw [show (i - 1 + 1).toNat = i.toNat by omega]
   exact drop_step hl i.toNat (by omega) h3 (by omega)
  ·exact q_D
  ·show (i - 1 + 1).toNat < (i + 1).toNat
   omega
 ·rename_i h0
  rw [show (i + 1).toNat = 0 by omega] at h3
  simp only [List.drop_zero] at h3
  exact q_A (by simp only [resAV,q_y,cmp3,h3]; simp)

set_option maxHeartbeats 1600000 in
theorem minus_ret (xs ys : List Int) (hx : xs.length ≤ 4194304) (hy : ys.length ≤ xs.length) (bx : InB 65536 xs) (by' : InB 65536 ys) (hv : V 65536 ys ≤ V 65536 xs) : Ret Tryz.prog 181 false [.inl (.ints .i64 xs),.inl (.ints .i64 ys)] (.c (.ints .i64 (dg 65536 (V 65536 xs - V 65536 ys)))):=by
 (refine q_H Tryz.func181 (fun F=>?_); simp only [q_z,q_y,Tryz.ntmps181,Tryz.results181])
 repeat' (first|(with_reducible first|apply q_a|apply q_b|apply q_c|apply q_d|apply q_e|apply q_f|apply q_g|apply q_h|apply q_i|apply q_j|apply q_k|apply q_m|apply q_n|apply q_o|apply q_p|refine q_l ?_)|((with_reducible first|refine q_q rf1_ok fun K hK=>?_|refine q_r rf1_ok fun K hK=>?_);simp (maxSteps:=2000000) only [go_sem,↓reduceIte,reduceCtorEq,Nat.reduceLeDiff,Nat.reduceLT,Nat.reduceBEq,Nat.reduceAdd];(repeat1' with_reducible first|apply And.intro|intro _|(refine hK _ ?_;clear hK K))<;>(try (clear hK K;exact q_u)))|(with_reducible refine q_s ?_;(first|apply q_J|apply q_K|apply q_L|apply q_M|apply q_N|apply q_O)<;>try intro _)|with_reducible refine q_t ?_)
 refine q_G (ι:={ p : List Int × Int // p.1.length ≤ xs.length ∧ InB 65536 p.1 ∧ 0 ≤ p.2 ∧ p.2 ≤ 1 ∧ V 65536 p.1 + V 65536 (ys.take p.1.length) = V 65536 (xs.take p.1.length) + 65536 ^ p.1.length * p.2.toNat }) (fun p=>⟨41,[(0,.c (.ints .i64 xs)),(1,.c (.ints .i64 ys)),(5,.own 0 0),(6,.c (.i .i64 p.1.2)),(7,.c (.i .i64 p.1.1.length))],⟨[],[(0,⟨0,3,1,.ints .i64 p.1.1⟩)],[]⟩,1⟩) (fun p=>xs.length - p.1.1.length) ⟨([],0),by simp,InB_nil _,by simp,by simp,by simp [V]⟩ ?_ ?_
 ·exact q_D
 rintro ⟨⟨o,c⟩,g1,g2,g3,g4,g5⟩
 simp only at g1 g2 g3 g4 g5 ⊢
 have b1:=InB_getD (by omega) bx o.length
 have b2:=InB_getD (by omega) by' o.length
 have z2 : ¬ (o.length : Int) < ys.length → ys.getD o.length 0 = 0:=fun h=>getD_ge ys o.length (by omega)
 repeat' (first|(with_reducible first|apply q_a|apply q_b|apply q_c|apply q_d|apply q_e|apply q_f|apply q_g|apply q_h|apply q_i|apply q_j|apply q_k|apply q_m|apply q_n|apply q_o|apply q_p|refine q_l ?_)|((with_reducible first|refine q_q rf1_ok fun K hK=>?_|refine q_r rf1_ok fun K hK=>?_);simp (maxSteps:=2000000) only [go_sem,↓reduceIte,reduceCtorEq,Nat.reduceLeDiff,Nat.reduceLT,Nat.reduceBEq,Nat.reduceAdd];(repeat1' with_reducible first|apply And.intro|intro _|(refine hK _ ?_;clear hK K))<;>(try (clear hK K;exact q_u)))|(with_reducible refine q_s ?_;(first|apply q_J|apply q_K|apply q_L|apply q_M|apply q_N|apply q_O)<;>try intro _)|with_reducible refine q_t ?_)
 all_goals first | (exfalso; omega) | skip
 all_goals first
  | (refine q_F ⟨(o ++ [if xs.getD o.length 0 - c - ys.getD o.length 0 < 0 then xs.getD o.length 0 - c - ys.getD o.length 0 + 65536 else xs.getD o.length 0 - c - ys.getD o.length 0],if xs.getD o.length 0 - c - ys.getD o.length 0 < 0 then 1 else 0),by simp; omega,InB_snoc g2 (by split <;> omega) (by split <;> omega),by simp only; split <;> omega,by simp only; split <;> omega,(by
     simp only [List.length_append,List.length_cons,List.length_nil,Nat.zero_add]
     exact sub_step _ _ _ xs ys c _ _ _ _ g5 rfl rfl rfl (by split <;> omega))⟩ ?_ (by simp; omega); exact q_D; done)
  | skip
 ·refine q_A ?_
  have hl : o.length = xs.length:=by omega
  simp only [resAV,q_y]
  rw [trimL_eq 65536 (by omega) _ g2,sub_end 65536 (by omega) o xs ys c g2 hl hy hv g4 g5]
end Go.Proofs.YtgkajjifbcmoeaaGreatDoor

namespace Go.Proofs.YtgkajjifbcmoeaaGreatDoor
set_option linter.unusedSimpArgs false
set_option linter.unusedVariables false
open Go.Abs Go.Proofs.NatL

def rcmpCT : CT:=mkCT [.inl (some (.ints .i64 [])),.inl (some (.ints .i64 []))] true fun l K=>match l with
 | [.inl (.ints .i64 xs),.inl (.ints .i64 ys)]=>(xs.length ≤ 4194304 ∧ ys.length ≤ 4194304 ∧ InB 65536 xs ∧ InB 65536 ys ∧ Trd xs ∧ Trd ys) ∧ K (.c (.i .i64 (cmp3 (V 65536 xs) (V 65536 ys))))
 | _=>False
def db7 : Cfg:=addT 128 rcmpCT cf0
theorem db7_ok : TblOk Tryz.prog db7:=q_I cf0_ok Tryz.func128 fun l K h=>by
 split at h
 ·obtain ⟨⟨h1,h2,h3,h4,h5,h6⟩,h⟩:=h
  exact ⟨_,(rcompare_ret _ _ h1 h2 h3 h4 h5 h6).plain rfl,h⟩
 ·exact h.elim
def db10 : Cfg:=addT 181 (rnumCT (fun xs ys=>V 65536 ys ≤ V 65536 xs) (· - ·)) cf0
theorem db10_ok : TblOk Tryz.prog db10:=q_I cf0_ok Tryz.func181 fun l K h=>by
 split at h
 ·obtain ⟨⟨h1,h2,h3,h4,h5,h6,h7⟩,h⟩:=h
  exact ⟨_,minus_ret _ _ h1 (V_le_len (by omega) h3 h4 h6 h7) h3 h4 h7,h⟩
 ·exact h.elim
attribute [go_sem] db7 db10 rcmpCT
end Go.Proofs.YtgkajjifbcmoeaaGreatDoor

namespace Go.Proofs.YtgkajjifbcmoeaaGreatDoor
set_option linter.unusedSimpArgs false
set_option linter.unusedVariables false
open Go.Abs Go.Proofs.NatL

set_option maxRecDepth 100000 in
set_option maxHeartbeats 1600000 in
theorem ones_ret (n : Nat) (hn : (dg 65536 n).length ≤ 1048576) : Ret Tryz.prog 180 false [.inl (.ints .i64 (dg 65536 n))] (.c (.bools (bs n))):=by
 have bx:=InB_dg 65536 (by omega) n
 have vx:=V_dg 65536 (by omega) n
 generalize dg 65536 n = xs at *
 (refine q_H Tryz.func180 (fun F=>?_); simp only [q_z,q_y,Tryz.ntmps180,Tryz.results180])
 repeat' (first|(with_reducible first|apply q_a|apply q_b|apply q_c|apply q_d|apply q_e|apply q_f|apply q_g|apply q_h|apply q_i|apply q_j|apply q_k|apply q_m|apply q_n|apply q_o|apply q_p|refine q_l ?_)|((with_reducible first|refine q_q rf1_ok fun K hK=>?_|refine q_r rf1_ok fun K hK=>?_);simp (maxSteps:=2000000) only [go_sem,↓reduceIte,reduceCtorEq,Nat.reduceLeDiff,Nat.reduceLT,Nat.reduceBEq,Nat.reduceAdd];(repeat1' with_reducible first|apply And.intro|intro _|(refine hK _ ?_;clear hK K))<;>(try (clear hK K;exact q_u)))|(with_reducible refine q_s ?_;(first|apply q_J|apply q_K|apply q_L|apply q_M|apply q_N|apply q_O)<;>try intro _)|with_reducible refine q_t ?_)
 refine q_G (ι:={ p : Nat × List Bool // p.1 ≤ xs.length ∧ p.2.length = 16 * p.1 ∧ B2 p.2 = V 65536 (xs.take p.1) }) (fun p=>⟨47,[(0,.c (.ints .i64 xs)),(3,.own 0 0),(4,.c (.i .i64 (p.1.1 : Nat)))],⟨[],[(0,⟨0,4,1,.bools p.1.2⟩)],[]⟩,1⟩) (fun p=>xs.length - p.1.1) ⟨(0,[]),by simp,rfl,by simp [B2,bI,V]⟩ ?_ ?_
 ·exact q_D
 rintro ⟨⟨i,o⟩,g1,g2,g3⟩
 simp only at g1 g2 g3 ⊢
 have b1:=InB_getD (by omega) bx i
 obtain ⟨x,hxx⟩ : ∃ x : Nat,xs.getD i 0 = x:=⟨(xs.getD i 0).toNat,by omega⟩
 repeat' (first|(with_reducible first|apply q_a|apply q_b|apply q_c|apply q_d|apply q_e|apply q_f|apply q_g|apply q_h|apply q_i|apply q_j|apply q_k|apply q_m|apply q_n|apply q_o|apply q_p|refine q_l ?_)|((with_reducible first|refine q_q rf1_ok fun K hK=>?_|refine q_r rf1_ok fun K hK=>?_);simp (maxSteps:=2000000) only [go_sem,↓reduceIte,reduceCtorEq,Nat.reduceLeDiff,Nat.reduceLT,Nat.reduceBEq,Nat.reduceAdd];(repeat1' with_reducible first|apply And.intro|(intro _;try exact q_v)|(refine hK _ ?_;clear hK K))<;>(try (clear hK K;exact q_u)))|(with_reducible refine q_s ?_;(first|apply q_J|apply q_K|apply q_L|apply q_M|apply q_N|apply q_O)<;>try (intro _;try exact q_v))|with_reducible refine q_t ?_)
 ·rename_i hi
  rw [hxx]
  refine q_G (ι:={ p : Nat × List Bool × Nat // p.1 ≤ 16 ∧ p.2.1.length = 16 * i + p.1 ∧ p.2.2 < 2 ^ (16 - p.1) ∧ B2 p.2.1 + 2 ^ (16 * i + p.1) * p.2.2 = V 65536 (xs.take (i + 1)) }) (fun p=>⟨47,[(0,.c (.ints .i64 xs)),(3,.own 0 0),(4,.c (.i .i64 (i : Nat))),(5,.c (.i .i64 (p.1.2.2 : Nat))),(6,.c (.i .i64 (p.1.1 : Nat)))],⟨[],[(0,⟨0,4,1,.bools p.1.2.1⟩)],[]⟩,1⟩) (fun p=>16 - p.1.1) ⟨(0,o,x),by simp,g2,by simp only [show (2 : Nat) ^ (16 - 0) = 65536 from rfl]; omega,by
   simp only
   rw [V_take_getD,g3,hxx,Int.toNat_natCast,Nat.add_zero,show (65536 : Nat) = 2 ^ 16 from rfl,← Nat.pow_mul]⟩ ?_ ?_
  ·exact q_D
  rintro ⟨⟨k,l,y⟩,p1,p2,p3,p4⟩
  simp only at p1 p2 p3 p4 ⊢
  have hy : y < 65536:=Nat.lt_of_lt_of_le p3 (by
   have : (2 : Nat) ^ (16 - k) ≤ 2 ^ 16:=Nat.pow_le_pow_right (by omega) (by omega)
   exact this)
  have e1 : ((y : Int)).tdiv 2 = ((y / 2 : Nat) : Int):=by rw [Int.tdiv_eq_ediv_of_nonneg (by omega)]; omega
  have e2 : ((y : Int)).tmod 2 = ((y % 2 : Nat) : Int):=by rw [Int.tmod_eq_emod_of_nonneg (by omega)]; omega
  have e3 : decide (((y % 2 : Nat) : Int) = 1) = decide (y % 2 = 1):=by
   by_cases h : y % 2 = 1
   ·rw [decide_eq_true h,decide_eq_true (by omega)]
   ·rw [decide_eq_false h,decide_eq_false (by omega)]
  repeat' (first|(with_reducible first|apply q_a|apply q_b|apply q_c|apply q_d|apply q_e|apply q_f|apply q_g|apply q_h|apply q_i|apply q_j|apply q_k|apply q_m|apply q_n|apply q_o|apply q_p|refine q_l ?_)|((with_reducible first|refine q_q rf1_ok fun K hK=>?_|refine q_r rf1_ok fun K hK=>?_);simp (maxSteps:=2000000) only [go_sem,↓reduceIte,reduceCtorEq,Nat.reduceLeDiff,Nat.reduceLT,Nat.reduceBEq,Nat.reduceAdd];(repeat1' with_reducible first|apply And.intro|(intro _;try exact q_v)|(refine hK _ ?_;clear hK K))<;>(try (clear hK K;exact q_u)))|(with_reducible refine q_s ?_;(first|apply q_J|apply q_K|apply q_L|apply q_M|apply q_N|apply q_O)<;>try (intro _;try exact q_v))|with_reducible refine q_t ?_)
  ·rename_i hk
   rw [e1,e2,e3]
   refine q_F ⟨(k + 1,l ++ [decide (y % 2 = 1)],y / 2),by simp only; omega,by simp [p2]; omega,?_,?_⟩ ?_ (by simp only; omega)
   ·simp only
    rw [show 16 - k = 16 - (k + 1) + 1 by omega,Nat.pow_succ] at p3
    omega
   ·simp only
    exact bit_step l (16 * i + k) y _ p2 p4
   ·exact q_D
  ·rename_i hk
   have hk' : k = 16:=by omega
   subst hk'
   have hy0 : y = 0:=by simp only [Nat.sub_self,Nat.pow_zero] at p3; omega
   subst hy0
   refine q_F ⟨(i + 1,l),by simp only; omega,by simp only; omega,by simpa using p4⟩ ?_ (by simp only; omega)
   exact q_D
 ·rename_i hi
  have hi' : i = xs.length:=by omega
  rw [hi',List.take_length,vx] at g3
  refine q_G (ι:={ l : List Bool // l.length ≤ 16 * xs.length ∧ B2 l = n }) (fun l=>⟨47,[(3,.own 0 0)],⟨[],[(0,⟨0,4,1,.bools l.1⟩)],[]⟩,1⟩) (fun l=>l.1.length) ⟨o,by omega,g3⟩ ?_ ?_
  ·exact q_D
  rintro ⟨l,q1,q2⟩
  simp only at q1 q2 ⊢
  have e1 : ((l.length : Int) - 1).toNat = l.length - 1:=by omega
  repeat' (first|(with_reducible first|apply q_a|apply q_b|apply q_c|apply q_d|apply q_e|apply q_f|apply q_g|apply q_h|apply q_i|apply q_j|apply q_k|apply q_m|apply q_n|apply q_o|apply q_p|refine q_l ?_)|((with_reducible first|refine q_q rf1_ok fun K hK=>?_|refine q_r rf1_ok fun K hK=>?_);simp (maxSteps:=2000000) only [go_sem,↓reduceIte,reduceCtorEq,Nat.reduceLeDiff,Nat.reduceLT,Nat.reduceBEq,Nat.reduceAdd];(repeat1' with_reducible first|apply And.intro|(intro _;try exact q_v)|(refine hK _ ?_;clear hK K))<;>(try (clear hK K;exact q_u)))|(with_reducible refine q_s ?_;(first|apply q_J|apply q_K|apply q_L|apply q_M|apply q_N|apply q_O)<;>try (intro _;try exact q_v))|with_reducible refine q_t ?_)
  ·rename_i h1 h2
   rw [e1] at h2
   rw [e1]
   refine q_F ⟨l.take (l.length - 1),by simp; omega,by rw [B2_drop_last l (by omega) h2]; exact q2⟩ ?_ (by simp; omega)
   exact q_D
  ·rename_i h1 h2
   rw [e1] at h2
   exact q_A (by rw [← q2,← bs_of l (.inr h2)]; rfl)
  ·rename_i h1
   exact q_A (by rw [← q2,← bs_of l (.inl (by omega))]; rfl)

set_option maxRecDepth 100000 in
set_option maxHeartbeats 1600000 in
theorem binary_ret (l : List Bool) (hl : l.length ≤ 16777216) : Ret Tryz.prog 137 false [.inl (.bools l)] (.c (.ints .i64 (dg 65536 (B2 l)))):=by
 (refine q_H Tryz.func137 (fun F=>?_); simp only [q_z,q_y,Tryz.ntmps137,Tryz.results137])
 repeat' (first|(with_reducible first|apply q_a|apply q_b|apply q_c|apply q_d|apply q_e|apply q_f|apply q_g|apply q_h|apply q_i|apply q_j|apply q_k|apply q_m|apply q_n|apply q_o|apply q_p|refine q_l ?_)|((with_reducible first|refine q_q rf1_ok fun K hK=>?_|refine q_r rf1_ok fun K hK=>?_);simp (maxSteps:=2000000) only [go_sem,↓reduceIte,reduceCtorEq,Nat.reduceLeDiff,Nat.reduceLT,Nat.reduceBEq,Nat.reduceAdd];(repeat1' with_reducible first|apply And.intro|intro _|(refine hK _ ?_;clear hK K))<;>(try (clear hK K;exact q_u)))|(with_reducible refine q_s ?_;(first|apply q_J|apply q_K|apply q_L|apply q_M|apply q_N|apply q_O)<;>try intro _)|with_reducible refine q_t ?_)
 refine q_G (ι:={ p : Nat × List Int // 16 * p.1 ≤ l.length + 15 ∧ p.2.length = p.1 ∧ InB 65536 p.2 ∧ V 65536 p.2 = B2 (l.take (16 * p.1)) }) (fun p=>⟨41,[(0,.c (.bools l)),(3,.own 0 0),(4,.c (.i .i64 ((16 * p.1.1 : Nat) : Int)))],⟨[],[(0,⟨0,3,1,.ints .i64 p.1.2⟩)],[]⟩,1⟩) (fun p=>l.length + 15 - 16 * p.1.1) ⟨(0,[]),by simp,rfl,InB_nil _,by simp [B2,bI,V]⟩ ?_ ?_
 ·exact q_D
 rintro ⟨⟨j,o⟩,g1,g2,g3,g4⟩
 simp only at g1 g2 g3 g4 ⊢
 repeat' (first|(with_reducible first|apply q_a|apply q_b|apply q_c|apply q_d|apply q_e|apply q_f|apply q_g|apply q_h|apply q_i|apply q_j|apply q_k|apply q_m|apply q_n|apply q_o|apply q_p|refine q_l ?_)|((with_reducible first|refine q_q rf1_ok fun K hK=>?_|refine q_r rf1_ok fun K hK=>?_);simp (maxSteps:=2000000) only [go_sem,↓reduceIte,reduceCtorEq,Nat.reduceLeDiff,Nat.reduceLT,Nat.reduceBEq,Nat.reduceAdd];(repeat1' with_reducible first|apply And.intro|(intro _;try exact q_v)|(refine hK _ ?_;clear hK K))<;>(try (clear hK K;exact q_u)))|(with_reducible refine q_s ?_;(first|apply q_J|apply q_K|apply q_L|apply q_M|apply q_N|apply q_O)<;>try (intro _;try exact q_v))|with_reducible refine q_t ?_)
 ·rename_i hj
  refine q_G (ι:={ p : Nat × Nat // p.1 ≤ 16 ∧ p.2 = B2 ((l.drop (16 * j + p.1)).take (16 - p.1)) }) (fun p=>⟨41,[(0,.c (.bools l)),(3,.own 0 0),(4,.c (.i .i64 ((16 * j : Nat) : Int))),(5,.c (.i .i64 (p.1.2 : Nat))),(6,.c (.i .i64 ((p.1.1 : Int) - 1)))],⟨[],[(0,⟨0,3,1,.ints .i64 o⟩)],[]⟩,1⟩) (fun p=>p.1.1) ⟨(16,0),by simp,by simp [B2,bI,V]⟩ ?_ ?_
  ·exact q_D
  rintro ⟨⟨k,x⟩,q1,q2⟩
  simp only at q1 q2 ⊢
  have hx : x < 65536:=by
   rw [q2]
   refine Nat.lt_of_lt_of_le (B2_lt _) ?_
   have : (2 : Nat) ^ ((l.drop (16 * j + k)).take (16 - k)).length ≤ 2 ^ 16:=Nat.pow_le_pow_right (by omega) (by simp; omega)
   exact this
  have hnx : 0 < k → B2 ((l.drop (16 * j + (k - 1))).take (16 - (k - 1))) = 2 * x + (if l.getD (16 * j + (k - 1)) false then 1 else 0):=fun h=>by
   rcases Nat.lt_or_ge (16 * j + (k - 1)) l.length with h1 | h1
   ·rw [show 16 - (k - 1) = 16 - k + 1 by omega,group_step l _ _ h1,show 16 * j + (k - 1) + 1 = 16 * j + k by omega,← q2]
   ·rw [group_end l _ _ h1,q2,group_end l _ _ (by omega),List.getD_eq_getElem?_getD,List.getElem?_eq_none h1]; simp
  have e1 : 0 < k → (((16 * j : Nat) : Int) + ((k : Int) - 1)).toNat = 16 * j + (k - 1):=fun h=>by omega
  repeat' (first|(with_reducible first|apply q_a|apply q_b|apply q_c|apply q_d|apply q_e|apply q_f|apply q_g|apply q_h|apply q_i|apply q_j|apply q_k|apply q_m|apply q_n|apply q_o|apply q_p|refine q_l ?_)|((with_reducible first|refine q_q rf1_ok fun K hK=>?_|refine q_r rf1_ok fun K hK=>?_);simp (maxSteps:=2000000) only [go_sem,↓reduceIte,reduceCtorEq,Nat.reduceLeDiff,Nat.reduceLT,Nat.reduceBEq,Nat.reduceAdd];(repeat1' with_reducible first|apply And.intro|(intro _;try exact q_v)|(refine hK _ ?_;clear hK K))<;>(try (clear hK K;exact q_u)))|(with_reducible refine q_s ?_;(first|apply q_J|apply q_K|apply q_L|apply q_M|apply q_N|apply q_O)<;>try (intro _;try exact q_v))|with_reducible refine q_t ?_)
  ·rename_i h1 h2 h3
   rw [e1 (by omega)] at h3
   have h4:=hnx (by omega)
   rw [h3,if_pos rfl] at h4
   refine q_F ⟨(k - 1,2 * x + 1),by simp only; omega,h4.symm⟩ ?_ (by simp only; omega)
   exact q_D
  ·rename_i h1 h2 h3
   rw [e1 (by omega)] at h3
   have h4:=hnx (by omega)
   rw [h3] at h4
   refine q_F ⟨(k - 1,2 * x),by simp only; omega,by simpa using h4.symm⟩ ?_ (by simp only; omega)
   exact q_D
  ·rename_i h1 h2
   have h4:=hnx (by omega)
   rw [List.getD_eq_getElem?_getD,List.getElem?_eq_none (by omega)] at h4
   refine q_F ⟨(k - 1,2 * x),by simp only; omega,by simpa using h4.symm⟩ ?_ (by simp only; omega)
   exact q_D
  ·rename_i h1
   have hk : k = 0:=by omega
   subst hk
   refine q_F ⟨(j + 1,o ++ [(x : Int)]),by simp only; omega,by simp [g2],InB_snoc g3 (by omega) (by omega),digit_group j o l g4 g2 x (by simpa using q2) (by omega)⟩ ?_ (by simp only; omega)
   exact q_D
 ·rename_i hj
  refine q_A ?_
  rw [List.take_of_length_le (by omega)] at g4
  simp only [resAV,q_y]
  rw [trimL_eq 65536 (by omega) _ g3,g4]

def onesCT : CT:=mkCT [.inl (some (.ints .i64 []))] false fun l K=>match l with
 | [.inl (.ints .i64 xs)]=>(xs.length ≤ 1048576 ∧ InB 65536 xs ∧ Trd xs) ∧ K (.c (.bools (bs (V 65536 xs))))
 | _=>False
def binaryCT : CT:=mkCT [.inl (some (.bools []))] false fun l K=>match l with
 | [.inl (.bools l)]=>l.length ≤ 16777216 ∧ K (.c (.ints .i64 (dg 65536 (B2 l))))
 | _=>False
attribute [go_sem] onesCT binaryCT
theorem bs_bl (n : Nat) : (bs n).length = bl n:=by
 rw [bs_len]
 rcases Nat.eq_zero_or_pos n with h | h
 ·subst h; rfl
 ·obtain ⟨h1,h2,h3⟩:=bl_spec n h
  have g1:=dg_len_le (B:=2) (by omega) n _ h2
  have g2:=dg_len_gt (B:=2) (by omega) n _ h1
  omega

theorem bl_dg {a k : Nat} (h : (dg 65536 a).length ≤ k) : bl a ≤ 16 * k:=by
 have h1:=lt_of_len (B:=65536) (by omega) h
 rw [show (65536 : Nat) = 2 ^ 16 from rfl,← Nat.pow_mul] at h1
 exact bl_lt a _ h1

end Go.Proofs.YtgkajjifbcmoeaaGreatDoor
