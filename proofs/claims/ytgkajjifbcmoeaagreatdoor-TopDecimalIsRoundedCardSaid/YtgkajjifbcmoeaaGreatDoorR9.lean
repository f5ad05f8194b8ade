import Derived.Test.YtgkajjifbcmoeaaGreatDoorR7
namespace Go.Proofs.YtgkajjifbcmoeaaGreatDoor
set_option linter.unusedSimpArgs false
set_option linter.unusedVariables false
open Go.Abs Go.Proofs.NatL
theorem toNat2 : (2 : Int).toNat = 2:=rfl
attribute [go_sem] dg_head tmod2 toNat2 Bool.toNat_false Bool.toNat_true
set_option maxHeartbeats 800000 in
theorem halve_ret (xs : List Int) (d : Nat) (hx : xs.length ≤ 4194304) (bx : InB 65536 xs) (d0 : 0 < d) (d1 : d < 65536) :
  Ret Tryz.prog 121 false [.inl (.ints .i64 xs),.inl (.i .i64 d)] (.t [.inl (.ints .i64 (dg 65536 (V 65536 xs / d))),.inl (.i .i64 ((V 65536 xs % d : Nat) : Int))]):=by
 (refine q_H Tryz.func121 (fun F=>?_); simp only [q_z,q_y,Tryz.ntmps121,Tryz.results121])
 repeat' (first|with_reducible refine q_0 ?_|((with_reducible first|refine q_q rf1_ok fun K hK=>?_|refine q_r rf1_ok fun K hK=>?_);simp (maxSteps:=2000000) only [go_sem,↓reduceIte,reduceCtorEq,Nat.reduceLeDiff,Nat.reduceLT,Nat.reduceBEq,Nat.reduceAdd];(repeat1' with_reducible first|apply And.intro|intro _|(refine hK _ ?_;clear hK K))<;>(try (clear hK K;exact q_u)))|(with_reducible refine q_s ?_;(first|apply q_J|apply q_K|apply q_L|apply q_M|apply q_N|apply q_O)<;>try intro _))
 refine q_G (ι:={ p : Nat × List Int × Nat // p.1 ≤ xs.length ∧ p.2.1.length = xs.length ∧ InB 65536 p.2.1 ∧ p.2.2 < d ∧ V 65536 (p.2.1.drop p.1) * d + p.2.2 = V 65536 (xs.drop p.1) }) (fun p=>⟨38,[(0,.c (.ints .i64 xs)),(1,.c (.i .i64 d)),(6,.own 0 0),(7,.c (.i .i64 (p.1.2.2 : Nat))),(8,.c (.i .i64 ((p.1.1 : Int) - 1)))],⟨[],[(0,⟨0,3,1,.ints .i64 p.1.2.1⟩)],[]⟩,1⟩) (fun p=>p.1.1) ⟨(xs.length,List.replicate xs.length 0,0),by simp,by simp,InB_replicate (by omega) _,d0,by simp [V]⟩ ?_ ?_
 ·exact q_D
 rintro ⟨⟨k,o,r⟩,g1,g2,g3,g4,g5⟩
 simp only at g1 g2 g3 g4 g5 ⊢
 have b1:=InB_getD (by omega) bx ((k : Int) - 1).toNat
 obtain ⟨x,hxx⟩ : ∃ x : Nat,xs.getD ((k : Int) - 1).toNat 0 = x:=⟨(xs.getD ((k : Int) - 1).toNat 0).toNat,by omega⟩
 have hx2 : x < 65536:=by omega
 have hq : ((r : Int) * 65536 + xs.getD ((k : Int) - 1).toNat 0).tdiv (d : Int) = (((r * 65536 + x) / d : Nat) : Int):=by
  rw [hxx,Int.tdiv_eq_ediv_of_nonneg (by omega)]; simp
 have hr : ((r : Int) * 65536 + xs.getD ((k : Int) - 1).toNat 0).tmod (d : Int) = (((r * 65536 + x) % d : Nat) : Int):=by
  rw [hxx,Int.tmod_eq_emod_of_nonneg (by omega)]; simp
 have hlt : (r * 65536 + x) / d < 65536:=by
  rw [Nat.div_lt_iff_lt_mul d0]
  have h1 : (r + 1) * 65536 ≤ d * 65536:=Nat.mul_le_mul_right _ g4
  omega
 have hmod:=Nat.mod_lt (r * 65536 + x) d0
 have hdm:=Nat.div_add_mod (r * 65536 + x) d
 generalize (r * 65536 + x) / d = Q at *
 generalize (r * 65536 + x) % d = R at *
 repeat' (first|with_reducible refine q_0 ?_|((with_reducible first|refine q_q rf1_ok fun K hK=>?_|refine q_r rf1_ok fun K hK=>?_);simp (maxSteps:=2000000) only [go_sem,↓reduceIte,reduceCtorEq,Nat.reduceLeDiff,Nat.reduceLT,Nat.reduceBEq,Nat.reduceAdd];(repeat1' with_reducible first|apply And.intro|intro _|(refine hK _ ?_;clear hK K))<;>(try (clear hK K;exact q_u)))|(with_reducible refine q_s ?_;(first|apply q_J|apply q_K|apply q_L|apply q_M|apply q_N|apply q_O)<;>try intro _))
 ·rename_i ha
  have e : ((k : Int) - 1).toNat = k - 1:=by omega
  rw [hq,hr,e]
  rw [e] at hxx
  refine q_F ⟨(k - 1,o.set (k - 1) (Q : Int),R),by simp only; omega,by simp [g2],InB_set g3 _ (by omega) (by omega),hmod,?_⟩ ?_ ?_
  ·simp only
   refine short_step 65536 (k - 1) d o xs r _ _ x (by omega) g2 (by rw [show k - 1 + 1 = k by omega]; exact g5) (by rw [hxx]; simp) ?_
   rw [Nat.mul_comm]; exact hdm
  ·exact q_D
  ·show k - 1 < k
   omega
 ·rename_i ha
  have hk : k = 0:=by omega
  subst hk
  simp only [List.drop_zero] at g5
  refine q_A ?_
  simp only [resAV]
  rw [trimL_eq 65536 (by omega) _ g3,← g5]
  have h1 : (V 65536 o * d + r) / d = V 65536 o:=by rw [Nat.mul_comm,Nat.mul_add_div d0,Nat.div_eq_of_lt g4]; simp
  have h2 : (V 65536 o * d + r) % d = r:=by rw [Nat.mul_comm,Nat.mul_add_mod]; exact Nat.mod_eq_of_lt g4
  rw [h1,h2]

def halveCT : CT:=mkCT [.inl (some (.ints .i64 []))] false fun l K=>match l with
 | [.inl (.ints .i64 xs),.inl (.i .i64 d)]=>(xs.length ≤ 4194304 ∧ InB 65536 xs ∧ 0 < d ∧ d < 65536) ∧ K (.t [.inl (.ints .i64 (dg 65536 (V 65536 xs / d.toNat))),.inl (.i .i64 ((V 65536 xs % d.toNat : Nat) : Int))])
 | _=>False
def rg1 : Cfg:=addT 121 halveCT cf0
theorem rg1_ok : TblOk Tryz.prog rg1:=q_I cf0_ok Tryz.func121 fun l K h=>by
 split at h
 ·rename_i xs d
  obtain ⟨d,rfl⟩ : ∃ n : Nat,d = n:=⟨d.toNat,by omega⟩
  exact ⟨_,halve_ret _ d h.1.1 h.1.2.1 (by omega) (by omega),by simpa using h.2⟩
 ·exact h.elim
attribute [go_sem] halveCT
end Go.Proofs.YtgkajjifbcmoeaaGreatDoor
