import Derived.Test.YtgkajjifbcmoeaaGreatDoorR7
namespace Go.Proofs.YtgkajjifbcmoeaaGreatDoor
set_option linter.unusedSimpArgs false
set_option linter.unusedVariables false
open Go.Abs Go.Proofs.NatL

set_option maxHeartbeats 800000 in
theorem small_ret (n : Nat) (hn : n ≤ 9223372036854775807) : Ret Tryz.prog 15 false [.inl (.i .i64 n)] (.c (.ints .i64 (dg 65536 n))):=by
 (refine q_H Tryz.func15 (fun F=>?_); simp only [q_z,q_y,Tryz.ntmps15,Tryz.results15])
 repeat' (first|with_reducible refine q_0 ?_|((with_reducible first|refine q_q rf1_ok fun K hK=>?_|refine q_r rf1_ok fun K hK=>?_);simp (maxSteps:=2000000) only [go_sem,↓reduceIte,reduceCtorEq,Nat.reduceLeDiff,Nat.reduceLT,Nat.reduceBEq,Nat.reduceAdd];(repeat1' with_reducible first|apply And.intro|intro _|(refine hK _ ?_;clear hK K))<;>(try (clear hK K;exact q_u)))|(with_reducible refine q_s ?_;(first|apply q_J|apply q_K|apply q_L|apply q_M|apply q_N|apply q_O)<;>try intro _))
 refine q_G (ι:={ p : List Int × Nat // p.2 ≤ n ∧ p.1 ++ dg 65536 p.2 = dg 65536 n }) (fun p=>⟨14,[(0,.c (.i .i64 (p.1.2 : Nat))),(3,.own 0 0)],⟨[],[(0,⟨0,3,1,.ints .i64 p.1.1⟩)],[]⟩,1⟩) (fun p=>p.1.2) ⟨([],n),Nat.le_refl _,rfl⟩ ?_ ?_
 ·exact q_D
 rintro ⟨⟨o,m⟩,g1,g2⟩
 simp only at g1 g2 ⊢
 have hlen : o.length ≤ 4:=by
  have h1:=congrArg List.length g2
  rw [List.length_append] at h1
  have h2:=dg_len_le (B:=65536) (by omega) n 4 (by omega)
  omega
 repeat' (first|with_reducible refine q_0 ?_|((with_reducible first|refine q_q rf1_ok fun K hK=>?_|refine q_r rf1_ok fun K hK=>?_);simp (maxSteps:=2000000) only [go_sem,↓reduceIte,reduceCtorEq,Nat.reduceLeDiff,Nat.reduceLT,Nat.reduceBEq,Nat.reduceAdd];(repeat1' with_reducible first|apply And.intro|(intro _;try exact q_v)|(refine hK _ ?_;clear hK K))<;>(try (clear hK K;exact q_u)))|(with_reducible refine q_s ?_;(first|apply q_J|apply q_K|apply q_L|apply q_M|apply q_N|apply q_O)<;>try (intro _;try exact q_v)))
 ·rename_i h
  have e1 : ((m : Int)).tdiv 65536 = ((m / 65536 : Nat) : Int):=by rw [Int.tdiv_eq_ediv_of_nonneg (by omega)]; omega
  have e2 : ((m : Int)).tmod 65536 = ((m % 65536 : Nat) : Int):=by rw [Int.tmod_eq_emod_of_nonneg (by omega)]; omega
  rw [e1,e2]
  refine q_F ⟨(o ++ [((m % 65536 : Nat) : Int)],m / 65536),by simp only; omega,?_⟩ ?_ (by simp only; omega)
  ·simp only
   rw [← g2,dg_pos 65536 m (by omega) (by omega)]; simp
  ·exact q_D
 ·rename_i h
  have hm : m = 0:=by omega
  subst hm
  rw [dg_zero,List.append_nil] at g2
  exact q_A (by rw [g2]; rfl)

def smallCT : CT:=mkCT [] false fun l K=>match l with
 | [.inl (.i .i64 n)]=>(0 ≤ n ∧ n ≤ 9223372036854775807) ∧ K (.c (.ints .i64 (dg 65536 n.toNat)))
 | _=>False
attribute [go_sem] smallCT V65 I65 T65
end Go.Proofs.YtgkajjifbcmoeaaGreatDoor

namespace Go.Proofs.YtgkajjifbcmoeaaGreatDoor
set_option linter.unusedSimpArgs false
set_option linter.unusedVariables false
open Go.Abs Go.Proofs.NatL

def okGCT : CT:=mkCT [.inl (some (.ints .u32 []))] true fun l K=>match l with
 | [.inl (.ints .u32 xs)]=>okN xs = true ∧ K (.c (.b true))
 | _=>False
def ck3 : Cfg:=addT 192 okGCT cf0
theorem ck3_ok : TblOk Tryz.prog ck3:=q_I cf0_ok Tryz.func192 fun l K h=>by
 split at h
 ·obtain ⟨h1,h⟩:=h
  have:=valid_ret _ (okN_LB' h1)
  rw [h1] at this
  exact ⟨_,this.plain rfl,h⟩
 ·exact h.elim
attribute [go_sem] okGCT
def tb21 : Cfg:=listT [(163,atCT),(192,okGCT),(193,chunkCT),(194,shortCT),(195,reverseCT)] [34]
theorem tb21_ok : TblOk Tryz.prog tb21:=listE_ok (by simp only [List.mem_singleton,forall_eq]; exact flt) ⟨⟨cf1,cf1_ok,rfl⟩,⟨ck3,ck3_ok,rfl⟩,⟨ck1,ck1_ok,rfl⟩,⟨cf17,cf17_ok,rfl⟩,⟨ck2,ck2_ok,rfl⟩,trivial⟩
attribute [go_sem] tb21
set_option maxRecDepth 100000 in
set_option maxHeartbeats 1600000 in
theorem Digits_good (xs : List Int) (b : Nat) (bx : InB 4294967296 xs) (ho : okN xs = true) (h1 : 2 ≤ b) (h2 : b ≤ 36) :
  Ret Tryz.prog 152 false [.inl (.ints .u32 xs),.inl (.i .i64 b)] (.t [.inl (.ints .i64 (dg b (V 4294967296 xs)).reverse),.inr [.i .i64 0,.i .i64 0]]):=by
 obtain ⟨lx,tx⟩ : xs.length ≤ 600 ∧ Trd xs:=by simpa [okN] using ho
 have hbl:=bl_ok ho bx
 have hdl:=Nat.le_trans (dg_len_two b _ h1 _ (lt_bl (V 4294967296 xs))) hbl
 have e:=dg_V 4294967296 (by omega) xs bx tx
 generalize hA : V 4294967296 xs = A at *
 subst e
 (refine q_H Tryz.func152 (fun F=>?_); simp only [q_z,q_y,Tryz.ntmps152,Tryz.results152])
 repeat' (first|with_reducible refine q_0 ?_|((with_reducible first|refine q_q tb21_ok fun K hK=>?_|refine q_r tb21_ok fun K hK=>?_);simp (maxSteps:=2000000) only [go_sem,↓reduceIte,reduceCtorEq,Nat.reduceLeDiff,Nat.reduceLT,Nat.reduceBEq,Nat.reduceAdd];(repeat1' with_reducible first|apply And.intro|(intro _;try exact q_v)|(refine hK _ ?_;clear hK K))<;>(try (clear hK K;exact q_u)))|(with_reducible refine q_s ?_;(first|apply q_J|apply q_K|apply q_L|apply q_M|apply q_N|apply q_O)<;>try (intro _;try exact q_v)))
 rename_i n hn
 obtain ⟨n0,n32,hP⟩:=hn
 have hP2 : 2 ≤ b ^ n:=by
  have : b ^ 1 ≤ b ^ n:=Nat.pow_le_pow_right (by omega) n0
  rw [Nat.pow_one] at this
  omega
 refine q_G (ι:={ p : Nat × List Int // p.1 ≤ A ∧ p.2 ++ dg b p.1 = dg b A }) (fun p=>⟨67,[(0,.c (.ints .u32 (dg 4294967296 p.1.1))),(1,.c (.i .i64 b)),(5,.bx 0 0),(6,.c (.i .u32 ((b ^ n : Nat) : Int))),(7,.c (.i .i64 n)),(8,.own 1 0)],⟨[(0,[.c (.i .i64 0),.c (.i .i64 0)])],[(1,⟨0,3,1,.ints .i64 p.1.2⟩)],[]⟩,2⟩) (fun p=>p.1.1) ⟨(A,[]),Nat.le_refl _,by simp⟩ ?_ ?_
 ·exact q_D
 rintro ⟨⟨m,o⟩,g1,g2⟩
 simp only at g1 g2 ⊢
 have lm:=Nat.le_trans (dg_len_mono (B:=4294967296) (by omega) g1) lx
 have pm:=dg_len_pos 4294967296 m (by omega)
 have lo : o.length ≤ 19200:=by
  have:=congrArg List.length g2
  rw [List.length_append] at this
  omega
 repeat' (first|with_reducible refine q_0 ?_|((with_reducible first|refine q_q tb21_ok fun K hK=>?_|refine q_r tb21_ok fun K hK=>?_);simp (maxSteps:=2000000) only [go_sem,↓reduceIte,reduceCtorEq,Nat.reduceLeDiff,Nat.reduceLT,Nat.reduceBEq,Nat.reduceAdd];(repeat1' with_reducible first|apply And.intro|(intro _;try exact q_v)|(refine hK _ ?_;clear hK K))<;>(try (clear hK K;exact q_u)))|(with_reducible refine q_s ?_;(first|apply q_J|apply q_K|apply q_L|apply q_M|apply q_N|apply q_O)<;>try (intro _;try exact q_v)))
 ·rename_i hm
  have hm0 : 0 < m:=pm.1 (by omega)
  have hsp : m / b ^ n * b ^ n + m % b ^ n = m:=by rw [Nat.mul_comm]; exact Nat.div_add_mod _ _
  have hr0 : m % b ^ n < b ^ n:=Nat.mod_lt _ (by omega)
  have hlt : m / b ^ n < m:=Nat.div_lt_self hm0 hP2
  have pm':=dg_len_pos 4294967296 (m / b ^ n) (by omega)
  generalize m / b ^ n = m' at *
  generalize m % b ^ n = r0 at *
  refine q_G (ι:={ p : Nat × List Int × Nat // p.1 ≤ n ∧ p.2.2 < b ^ (n - p.1) ∧ p.2.1 ++ dg b (m' * b ^ (n - p.1) + p.2.2) = dg b A }) (fun p=>⟨67,[(0,.c (.ints .u32 (dg 4294967296 m'))),(1,.c (.i .i64 b)),(5,.bx 0 0),(6,.c (.i .u32 ((b ^ n : Nat) : Int))),(7,.c (.i .i64 n)),(8,.own 1 0),(9,.c (.i .u32 (p.1.2.2 : Nat))),(10,.c (.i .i64 (p.1.1 : Nat)))],⟨[(0,[.c (.i .i64 0),.c (.i .i64 0)])],[(1,⟨0,3,1,.ints .i64 p.1.2.1⟩)],[]⟩,2⟩) (fun p=>n - p.1.1) ⟨(0,o,r0),by simp,hr0,by simp only [Nat.sub_zero]; rw [hsp]; exact g2⟩ ?_ ?_
  ·exact q_D
  rintro ⟨⟨k,l,r⟩,p1,p2,p3⟩
  simp only at p1 p2 p3 ⊢
  have hrW : r < 4294967296:=Nat.lt_of_lt_of_le p2 (Nat.le_trans (Nat.pow_le_pow_right (by omega) (by omega)) (Nat.le_of_lt hP))
  have ll : l.length ≤ 19200:=by
   have:=congrArg List.length p3
   rw [List.length_append] at this
   omega
  have hbm : (b : Int) % 4294967296 = b:=by omega
  have e1 : ((r : Int)).tmod (b : Int) = ((r % b : Nat) : Int):=by rw [Int.tmod_eq_emod_of_nonneg (by omega)]; simp
  have e2 : (r : Int) / ((b : Int) % 4294967296) = ((r / b : Nat) : Int):=by rw [hbm]; simp
  have hst : k < n → 0 < m' ∨ 0 < r → r / b < b ^ (n - (k + 1)) ∧ (l ++ [((r % b : Nat) : Int)]) ++ dg b (m' * b ^ (n - (k + 1)) + r / b) = dg b A:=fun hk hp=>by
   have ek : n - k = n - (k + 1) + 1:=by omega
   rw [ek] at p2 p3
   refine ⟨Nat.div_lt_of_lt_mul (by rw [Nat.pow_succ,Nat.mul_comm] at p2; exact p2),?_⟩
   rw [dg_digit b m' (n - (k + 1)) r h1 (by
    rcases hp with hp | hp
    ·exact Nat.lt_of_lt_of_le (Nat.mul_pos hp (Nat.pow_pos (by omega))) (Nat.le_add_right _ _)
    ·omega)] at p3
   rw [List.append_assoc]; exact p3
  have hen : k = n ∨ (m' = 0 ∧ r = 0) → l ++ dg b m' = dg b A:=fun h=>by
   rcases h with h | ⟨h,h'⟩
   ·subst h
    rw [Nat.sub_self,Nat.pow_zero] at p2 p3
    have : r = 0:=by omega
    subst this
    simpa using p3
   ·subst h; subst h'
    simpa using p3
  generalize r / b = rq at *
  generalize r % b = rm at *
  repeat' (first|with_reducible refine q_0 ?_|((with_reducible first|refine q_q tb21_ok fun K hK=>?_|refine q_r tb21_ok fun K hK=>?_);simp (maxSteps:=2000000) only [go_sem,↓reduceIte,reduceCtorEq,Nat.reduceLeDiff,Nat.reduceLT,Nat.reduceBEq,Nat.reduceAdd];(repeat1' with_reducible first|apply And.intro|(intro _;try exact q_v)|(refine hK _ ?_;clear hK K))<;>(try (clear hK K;exact q_u)))|(with_reducible refine q_s ?_;(first|apply q_J|apply q_K|apply q_L|apply q_M|apply q_N|apply q_O)<;>try (intro _;try exact q_v)))
  all_goals (try simp only [hbm] at *)
  all_goals (try omega)
  all_goals (first
   | (rw [e1,e2]; obtain ⟨q1,q2⟩:=hst (by omega) (by omega); refine q_F ⟨(k + 1,l ++ [(rm : Int)],rq),by simp only; omega,q1,q2⟩ ?_ (by simp only; omega); exact q_D; done)
   | (refine q_F ⟨(m',l),by simp only; omega,hen (by omega)⟩ ?_ (by simp only; omega); exact q_D; done)
   | skip)
  all_goals trace_state
 ·rename_i hm
  have hm0 : m = 0:=by
   rcases Nat.eq_zero_or_pos m with h | h
   ·exact h
   ·exact absurd (pm.2 h) (by omega)
  subst hm0
  rw [dg_zero,List.append_nil] at g2
  exact q_A (by rw [g2]; rfl)

end Go.Proofs.YtgkajjifbcmoeaaGreatDoor
