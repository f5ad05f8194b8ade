import Derived.Test.YtgkajjifbcmoeaaGreatDoorM17
namespace Go.Proofs.YtgkajjifbcmoeaaGreatDoor
set_option linter.unusedSimpArgs false
set_option linter.unusedVariables false
open Go.Abs Go.Proofs.NatL

def dd1 : Cfg:=addT 15 smallCT cf0
theorem dd1_ok : TblOk Tryz.prog dd1:=q_I cf0_ok Tryz.func15 fun l K h=>by
 split at h
 ·rename_i n
  obtain ⟨m,rfl⟩ : ∃ m : Nat,n = m:=⟨n.toNat,by omega⟩
  exact ⟨_,small_ret m (by omega),by simpa using h.2⟩
 ·exact h.elim
def tb23 : Cfg:=listT [(121,halveCT),(15,smallCT),(131,(rnumCT (fun _ _=>True) (· + ·))),(68,(rnumCT (fun _ _=>True) (· * ·)))] [34]
theorem tb23_ok : TblOk Tryz.prog tb23:=listE_ok (by simp only [List.mem_singleton,forall_eq]; exact flt) ⟨⟨rg1,rg1_ok,rfl⟩,⟨dd1,dd1_ok,rfl⟩,⟨db8,db8_ok,rfl⟩,⟨db9,db9_ok,rfl⟩,trivial⟩
attribute [go_sem] tb23
set_option maxRecDepth 100000 in
set_option maxHeartbeats 1600000 in
theorem figures_ret (n b : Nat) (hn : (dg 65536 n).length ≤ 65536) (h1 : 2 ≤ b) (h2 : b ≤ 36) :
  Ret Tryz.prog 105 false [.inl (.ints .i64 (dg 65536 n)),.inl (.i .i64 b)] (.c (.ints .i64 (dg b n).reverse)):=by
 have hbn : (dg b n).length ≤ 1048576:=by
  obtain ⟨e,he⟩ : ∃ e : Nat,e = 65536:=⟨_,rfl⟩
  have:=lt_of_len (B:=65536) (a:=n) (k:=e) (by omega) (by omega)
  rw [show (65536 : Nat) = 2 ^ 16 from rfl,← Nat.pow_mul] at this
  exact Nat.le_trans (dg_len_two b n h1 (16 * e) this) (by omega)
 (refine q_H Tryz.func105 (fun F=>?_); simp only [q_z,q_y,Tryz.ntmps105,Tryz.results105])
 repeat' (first|(with_reducible first|apply q_a|apply q_b|apply q_c|apply q_d|apply q_e|apply q_f|apply q_g|apply q_h|apply q_i|apply q_j|apply q_k|apply q_m|apply q_n|apply q_o|apply q_p|refine q_l ?_)|((with_reducible first|refine q_q tb23_ok fun K hK=>?_|refine q_r tb23_ok fun K hK=>?_);simp (maxSteps:=2000000) only [go_sem,↓reduceIte,reduceCtorEq,Nat.reduceLeDiff,Nat.reduceLT,Nat.reduceBEq,Nat.reduceAdd];(repeat1' with_reducible first|apply And.intro|(intro _;try exact q_v)|(refine hK _ ?_;clear hK K))<;>(try (clear hK K;exact q_u)))|(with_reducible refine q_s ?_;(first|apply q_J|apply q_K|apply q_L|apply q_M|apply q_N|apply q_O)<;>try (intro _;try exact q_v))|with_reducible refine q_t ?_)
 refine q_G (ι:={ p : Nat × List Int // p.1 ≤ n ∧ p.2 ++ dg b p.1 = dg b n }) (fun p=>⟨37,[(0,.c (.ints .i64 (dg 65536 p.1.1))),(1,.c (.i .i64 b)),(5,.own 0 0)],⟨[],[(0,⟨0,3,1,.ints .i64 p.1.2⟩)],[]⟩,1⟩) (fun p=>p.1.1) ⟨(n,[]),Nat.le_refl _,rfl⟩ ?_ ?_
 ·exact q_D
 rintro ⟨⟨m,o⟩,g1,g2⟩
 simp only at g1 g2 ⊢
 have lm:=dg_len_mono (B:=65536) (by omega) g1
 have pm:=dg_len_pos 65536 m (by omega)
 have ll : o.length ≤ 1048576:=by
  have:=congrArg List.length g2
  rw [List.length_append] at this
  omega
 have bm:=InB_dg 65536 (by omega) m
 have mn : (b : Int) < 65536:=by omega
 repeat' (first|(with_reducible first|apply q_a|apply q_b|apply q_c|apply q_d|apply q_e|apply q_f|apply q_g|apply q_h|apply q_i|apply q_j|apply q_k|apply q_m|apply q_n|apply q_o|apply q_p|refine q_l ?_)|((with_reducible first|refine q_q tb23_ok fun K hK=>?_|refine q_r tb23_ok fun K hK=>?_);simp (maxSteps:=2000000) only [go_sem,↓reduceIte,reduceCtorEq,Nat.reduceLeDiff,Nat.reduceLT,Nat.reduceBEq,Nat.reduceAdd];(repeat1' with_reducible first|apply And.intro|(intro _;try exact q_v)|(refine hK _ ?_;clear hK K))<;>(try (clear hK K;exact q_u)))|(with_reducible refine q_s ?_;(first|apply q_J|apply q_K|apply q_L|apply q_M|apply q_N|apply q_O)<;>try (intro _;try exact q_v))|with_reducible refine q_t ?_)
 ·rename_i q
  have m0 : 0 < m:=pm.1 (by omega)
  refine q_F ⟨(m / b,o ++ [((m % b : Nat) : Int)]),Nat.le_trans (Nat.div_le_self _ _) g1,?_⟩ ?_ (Nat.div_lt_self m0 h1)
  ·simp only
   rw [dg_pos b m h1 m0] at g2
   rw [List.append_assoc]; exact g2
  ·exact q_D
 ·rename_i q
  have m0 : m = 0:=by
   rcases Nat.eq_zero_or_pos m with h | h
   ·exact h
   ·exact absurd (pm.2 h) (by omega)
  subst m0
  rw [dg_zero,List.append_nil] at g2
  rw [← g2] at hbn ⊢
  refine q_G (ι:={ k : Nat // k ≤ o.length }) (fun k=>⟨37,[(5,.c (.ints .i64 o)),(7,.own 1 0),(8,.c (.i .i64 ((k.1 : Int) - 1)))],⟨[],[(1,⟨0,3,1,.ints .i64 (o.drop k.1).reverse⟩)],[]⟩,2⟩) (fun k=>k.1) ⟨o.length,Nat.le_refl _⟩ ?_ ?_
  ·exact q_D
  rintro ⟨k,hk⟩
  simp only at hk ⊢
  have lr : (o.drop k).reverse.length ≤ 1048576:=by simp only [List.length_reverse,List.length_drop]; omega
  have e1 : 0 < k → ((k : Int) - 1).toNat = k - 1:=fun h=>by omega
  have e2 : 0 < k → (o.drop k).reverse ++ [o.getD (k - 1) 0] = (o.drop (k - 1)).reverse:=fun h=>by
   rw [List.drop_eq_getElem_cons (i:=k - 1) (by omega),List.reverse_cons,getD_eq _ _ (by omega),show k - 1 + 1 = k by omega]
  repeat' (first|(with_reducible first|apply q_a|apply q_b|apply q_c|apply q_d|apply q_e|apply q_f|apply q_g|apply q_h|apply q_i|apply q_j|apply q_k|apply q_m|apply q_n|apply q_o|apply q_p|refine q_l ?_)|((with_reducible first|refine q_q tb23_ok fun K hK=>?_|refine q_r tb23_ok fun K hK=>?_);simp (maxSteps:=2000000) only [go_sem,↓reduceIte,reduceCtorEq,Nat.reduceLeDiff,Nat.reduceLT,Nat.reduceBEq,Nat.reduceAdd];(repeat1' with_reducible first|apply And.intro|(intro _;try exact q_v)|(refine hK _ ?_;clear hK K))<;>(try (clear hK K;exact q_u)))|(with_reducible refine q_s ?_;(first|apply q_J|apply q_K|apply q_L|apply q_M|apply q_N|apply q_O)<;>try (intro _;try exact q_v))|with_reducible refine q_t ?_)
  ·rename_i q
   rw [e1 (by omega),e2 (by omega)]
   refine q_F ⟨k - 1,by omega⟩ ?_ (by simp only; omega)
   exact q_D
  ·rename_i q
   have hk0 : k = 0:=by omega
   subst hk0
   exact q_A rfl

end Go.Proofs.YtgkajjifbcmoeaaGreatDoor
