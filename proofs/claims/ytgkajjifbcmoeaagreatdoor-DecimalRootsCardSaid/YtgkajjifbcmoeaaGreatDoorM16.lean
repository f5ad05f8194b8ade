import Derived.Test.YtgkajjifbcmoeaaGreatDoorM13
namespace Go.Proofs.YtgkajjifbcmoeaaGreatDoor
set_option linter.unusedSimpArgs false
set_option linter.unusedVariables false
open Go.Abs Go.Proofs.NatL

def okGCT : CT:=mkCT [.inl (some (.ints .u32 []))] true fun l K=>match l with
 | [.inl (.ints .u32 xs)]=>okN xs = true ∧ K (.c (.b true))
 | _=>False
def ck3 : Cfg:=addT 192 okGCT cf0
theorem ck3_ok : TblOk Tryz.prog ck3:=q_I cf0_ok Tryz.func192 fun l K h=>by
 split at h
 ·obtain ⟨h1,h⟩:=h
  have:=valid_ret _ (okN_LB' h1)
  rw [h1] at this
  exact ⟨_,this.plain rfl,h⟩
 ·exact h.elim
attribute [go_sem] okGCT
def tb21 : Cfg:=listT [(163,atCT),(192,okGCT),(193,chunkCT),(194,shortCT),(195,reverseCT)] [34]
theorem tb21_ok : TblOk Tryz.prog tb21:=listE_ok (by simp only [List.mem_singleton,forall_eq]; exact flt) ⟨⟨cf1,cf1_ok,rfl⟩,⟨ck3,ck3_ok,rfl⟩,⟨ck1,ck1_ok,rfl⟩,⟨cf17,cf17_ok,rfl⟩,⟨ck2,ck2_ok,rfl⟩,trivial⟩
attribute [go_sem] tb21
set_option maxRecDepth 100000 in
set_option maxHeartbeats 1600000 in
theorem Digits_good (xs : List Int) (b : Nat) (bx : InB 4294967296 xs) (ho : okN xs = true) (h1 : 2 ≤ b) (h2 : b ≤ 36) :
  Ret Tryz.prog 152 false [.inl (.ints .u32 xs),.inl (.i .i64 b)] (.t [.inl (.ints .i64 (dg b (V 4294967296 xs)).reverse),.inr [.i .i64 0,.i .i64 0]]):=by
 obtain ⟨lx,tx⟩ : xs.length ≤ 600 ∧ Trd xs:=by simpa [okN] using ho
 have hbl:=bl_ok ho bx
 have hdl:=Nat.le_trans (dg_len_two b _ h1 _ (lt_bl (V 4294967296 xs))) hbl
 have e:=dg_V 4294967296 (by omega) xs bx tx
 generalize hA : V 4294967296 xs = A at *
 subst e
 (refine q_H Tryz.func152 (fun F=>?_); simp only [q_z,q_y,Tryz.ntmps152,Tryz.results152])
 repeat' (first|(with_reducible first|apply q_a|apply q_b|apply q_c|apply q_d|apply q_e|apply q_f|apply q_g|apply q_h|apply q_i|apply q_j|apply q_k|apply q_m|apply q_n|apply q_o|apply q_p|refine q_l ?_)|((with_reducible first|refine q_q tb21_ok fun K hK=>?_|refine q_r tb21_ok fun K hK=>?_);simp (maxSteps:=2000000) only [go_sem,↓reduceIte,reduceCtorEq,Nat.reduceLeDiff,Nat.reduceLT,Nat.reduceBEq,Nat.reduceAdd];(repeat1' with_reducible first|apply And.intro|(intro _;try exact q_v)|(refine hK _ ?_;clear hK K))<;>(try (clear hK K;exact q_u)))|(with_reducible refine q_s ?_;(first|apply q_J|apply q_K|apply q_L|apply q_M|apply q_N|apply q_O)<;>try (intro _;try exact q_v))|with_reducible refine q_t ?_)
 rename_i n hn
 obtain ⟨n0,n32,hP⟩:=hn
 have hP2 : 2 ≤ b ^ n:=by
  have : b ^ 1 ≤ b ^ n:=Nat.pow_le_pow_right (by omega) n0
  rw [Nat.pow_one] at this
  omega
 refine q_G (ι:={ p : Nat × List Int // p.1 ≤ A ∧ p.2 ++ dg b p.1 = dg b A }) (fun p=>⟨67,[(0,.c (.ints .u32 (dg 4294967296 p.1.1))),(1,.c (.i .i64 b)),(5,.bx 0 0),(6,.c (.i .u32 ((b ^ n : Nat) : Int))),(7,.c (.i .i64 n)),(8,.own 1 0)],⟨[(0,[.c (.i .i64 0),.c (.i .i64 0)])],[(1,⟨0,3,1,.ints .i64 p.1.2⟩)],[]⟩,2⟩) (fun p=>p.1.1) ⟨(A,[]),Nat.le_refl _,by simp⟩ ?_ ?_
 ·exact q_D
 rintro ⟨⟨m,o⟩,g1,g2⟩
 simp only at g1 g2 ⊢
 have lm:=Nat.le_trans (dg_len_mono (B:=4294967296) (by omega) g1) lx
 have pm:=dg_len_pos 4294967296 m (by omega)
 have lo : o.length ≤ 19200:=by
  have:=congrArg List.length g2
  rw [List.length_append] at this
  omega
 repeat' (first|(with_reducible first|apply q_a|apply q_b|apply q_c|apply q_d|apply q_e|apply q_f|apply q_g|apply q_h|apply q_i|apply q_j|apply q_k|apply q_m|apply q_n|apply q_o|apply q_p|refine q_l ?_)|((with_reducible first|refine q_q tb21_ok fun K hK=>?_|refine q_r tb21_ok fun K hK=>?_);simp (maxSteps:=2000000) only [go_sem,↓reduceIte,reduceCtorEq,Nat.reduceLeDiff,Nat.reduceLT,Nat.reduceBEq,Nat.reduceAdd];(repeat1' with_reducible first|apply And.intro|(intro _;try exact q_v)|(refine hK _ ?_;clear hK K))<;>(try (clear hK K;exact q_u)))|(with_reducible refine q_s ?_;(first|apply q_J|apply q_K|apply q_L|apply q_M|apply q_N|apply q_O)<;>try (intro _;try exact q_v))|with_reducible refine q_t ?_)
 ·rename_i hm
  have hm0 : 0 < m:=pm.1 (by omega)
  have hsp : m / b ^ n * b ^ n + m % b ^ n = m:=by rw [Nat.mul_comm]; exact Nat.div_add_mod _ _
  have hr0 : m % b ^ n < b ^ n:=Nat.mod_lt _ (by omega)
  have hlt : m / b ^ n < m:=Nat.div_lt_self hm0 hP2
  have pm':=dg_len_pos 4294967296 (m / b ^ n) (by omega)
  generalize m / b ^ n = m' at *
  generalize m % b ^ n = r0 at *
  refine q_G (ι:={ p : Nat × List Int × Nat // p.1 ≤ n ∧ p.2.2 < b ^ (n - p.1) ∧ p.2.1 ++ dg b (m' * b ^ (n - p.1) + p.2.2) = dg b A }) (fun p=>⟨67,[(0,.c (.ints .u32 (dg 4294967296 m'))),(1,.c (.i .i64 b)),(5,.bx 0 0),(6,.c (.i .u32 ((b ^ n : Nat) : Int))),(7,.c (.i .i64 n)),(8,.own 1 0),(9,.c (.i .u32 (p.1.2.2 : Nat))),(10,.c (.i .i64 (p.1.1 : Nat)))],⟨[(0,[.c (.i .i64 0),.c (.i .i64 0)])],[(1,⟨0,3,1,.ints .i64 p.1.2.1⟩)],[]⟩,2⟩) (fun p=>n - p.1.1) ⟨(0,o,r0),by simp,hr0,by simp only [Nat.sub_zero]; rw [hsp]; exact g2⟩ ?_ ?_
  ·exact q_D
  rintro ⟨⟨k,l,r⟩,p1,p2,p3⟩
  simp only at p1 p2 p3 ⊢
  have hrW : r < 4294967296:=Nat.lt_of_lt_of_le p2 (Nat.le_trans (Nat.pow_le_pow_right (by omega) (by omega)) (Nat.le_of_lt hP))
  have ll : l.length ≤ 19200:=by
   have:=congrArg List.length p3
   rw [List.length_append] at this
   omega
  have hbm : (b : Int) % 4294967296 = b:=by omega
  have e1 : ((r : Int)).tmod (b : Int) = ((r % b : Nat) : Int):=by rw [Int.tmod_eq_emod_of_nonneg (by omega)]; simp
  have e2 : (r : Int) / ((b : Int) % 4294967296) = ((r / b : Nat) : Int):=by rw [hbm]; simp
  have hst : k < n → 0 < m' ∨ 0 < r → r / b < b ^ (n - (k + 1)) ∧ (l ++ [((r % b : Nat) : Int)]) ++ dg b (m' * b ^ (n - (k + 1)) + r / b) = dg b A:=fun hk hp=>by
   have ek : n - k = n - (k + 1) + 1:=by omega
   rw [ek] at p2 p3
   refine ⟨Nat.div_lt_of_lt_mul (by rw [Nat.pow_succ,Nat.mul_comm] at p2; exact p2),?_⟩
   rw [dg_digit b m' (n - (k + 1)) r h1 (by
    rcases hp with hp | hp
    ·exact Nat.lt_of_lt_of_le (Nat.mul_pos hp (Nat.pow_pos (by omega))) (Nat.le_add_right _ _)
    ·omega)] at p3
   rw [List.append_assoc]; exact p3
  have hen : k = n ∨ (m' = 0 ∧ r = 0) → l ++ dg b m' = dg b A:=fun h=>by
   rcases h with h | ⟨h,h'⟩
   ·subst h
    rw [Nat.sub_self,Nat.pow_zero] at p2 p3
    have : r = 0:=by omega
    subst this
    simpa using p3
   ·subst h; subst h'
    simpa using p3
  generalize r / b = rq at *
  generalize r % b = rm at *
  repeat' (first|(with_reducible first|apply q_a|apply q_b|apply q_c|apply q_d|apply q_e|apply q_f|apply q_g|apply q_h|apply q_i|apply q_j|apply q_k|apply q_m|apply q_n|apply q_o|apply q_p|refine q_l ?_)|((with_reducible first|refine q_q tb21_ok fun K hK=>?_|refine q_r tb21_ok fun K hK=>?_);simp (maxSteps:=2000000) only [go_sem,↓reduceIte,reduceCtorEq,Nat.reduceLeDiff,Nat.reduceLT,Nat.reduceBEq,Nat.reduceAdd];(repeat1' with_reducible first|apply And.intro|(intro _;try exact q_v)|(refine hK _ ?_;clear hK K))<;>(try (clear hK K;exact q_u)))|(with_reducible refine q_s ?_;(first|apply q_J|apply q_K|apply q_L|apply q_M|apply q_N|apply q_O)<;>try (intro _;try exact q_v))|with_reducible refine q_t ?_)
  all_goals (try simp only [hbm] at *)
  all_goals (try omega)
  all_goals (first
   | (rw [e1,e2]; obtain ⟨q1,q2⟩:=hst (by omega) (by omega); refine q_F ⟨(k + 1,l ++ [(rm : Int)],rq),by simp only; omega,q1,q2⟩ ?_ (by simp only; omega); exact q_D; done)
   | (refine q_F ⟨(m',l),by simp only; omega,hen (by omega)⟩ ?_ (by simp only; omega); exact q_D; done)
   | skip)
  all_goals trace_state
 ·rename_i hm
  have hm0 : m = 0:=by
   rcases Nat.eq_zero_or_pos m with h | h
   ·exact h
   ·exact absurd (pm.2 h) (by omega)
  subst hm0
  rw [dg_zero,List.append_nil] at g2
  exact q_A (by rw [g2]; rfl)

end Go.Proofs.YtgkajjifbcmoeaaGreatDoor

namespace Go.Proofs.YtgkajjifbcmoeaaGreatDoor
set_option linter.unusedSimpArgs false
set_option linter.unusedVariables false
open Go.Abs Go.Proofs.NatL

theorem trim1 (d : Nat) (h : d < 4294967296) : trimL [(d : Int)] = dg 4294967296 d:=by
 rw [trimL_eq 4294967296 (by omega) _ (InB_one (by omega) (by omega)),V_one,Int.toNat_natCast]
theorem one_len (d : Nat) (h : d < 4294967296) : (dg 4294967296 d).length ≤ 1:=dg_len_le (by omega) _ _ (by omega)
theorem mulN1 (m d : Nat) : mulN (dg 4294967296 m) [(d : Int)] = dg 4294967296 (m * d):=by
 unfold mulN; rw [V32,V_one,Int.toNat_natCast]
theorem addNd (m d : Nat) : addN (dg 4294967296 m) (dg 4294967296 d) = dg 4294967296 (m + d):=by
 unfold addN; rw [V32,V32]
theorem fitN_big {xs ys : List Int} (h : xs = ys ∨ 600 < xs.length ∧ 600 < ys.length) (tx : Trd xs) (ty : Trd ys) : fitN xs = fitN ys ∧ fitC xs = fitC ys ∧ fitI xs = fitI ys:=by
 rcases h with h | ⟨h1,h2⟩
 ·subst h; exact ⟨rfl,rfl,rfl⟩
 ·have e1 : trimL xs = xs:=trimL_stop xs (tx.imp_left (by simp_all))
  have e2 : trimL ys = ys:=trimL_stop ys (ty.imp_left (by simp_all))
  have g1 : ¬ xs.length ≤ 600:=by omega
  have g2 : ¬ ys.length ≤ 600:=by omega
  simp [fitN,fitC,fitI,e1,e2,h1,h2,g1,g2]

def tb22 : Cfg:=listT [(163,atCT),(202,trimCT),(166,fitCT),(187,(numCT (fun _ _=>True) addN)),(167,(numCT (fun _ _=>True) mulN))] [34]
theorem tb22_ok : TblOk Tryz.prog tb22:=listE_ok (by simp only [List.mem_singleton,forall_eq]; exact flt) ⟨⟨cf1,cf1_ok,rfl⟩,⟨cf3,cf3_ok,rfl⟩,⟨cf8,cf8_ok,rfl⟩,⟨cf12,cf12_ok,rfl⟩,⟨cf14,cf14_ok,rfl⟩,trivial⟩
attribute [go_sem] tb22
set_option maxRecDepth 100000 in
set_option maxHeartbeats 1600000 in
theorem From_good (ds : List Int) (b : Nat) (hd : InB b ds) (h1 : 2 ≤ b) (h2 : b ≤ 36) (hl : ds.length ≤ 140737488355328) :
  Ret Tryz.prog 177 false [.inl (.ints .i64 ds),.inl (.i .i64 b)] (.t [.inl (.ints .u32 (fitN (dg 4294967296 (rdv b ds)))),.inr [.i .i64 (fitC (dg 4294967296 (rdv b ds))),.i .i64 (fitI (dg 4294967296 (rdv b ds)))]]):=by
 (refine q_H Tryz.func177 (fun F=>?_); simp only [q_z,q_y,Tryz.ntmps177,Tryz.results177])
 repeat' (first|(with_reducible first|apply q_a|apply q_b|apply q_c|apply q_d|apply q_e|apply q_f|apply q_g|apply q_h|apply q_i|apply q_j|apply q_k|apply q_m|apply q_n|apply q_o|apply q_p|refine q_l ?_)|((with_reducible first|refine q_q tb22_ok fun K hK=>?_|refine q_r tb22_ok fun K hK=>?_);simp (maxSteps:=2000000) only [go_sem,↓reduceIte,reduceCtorEq,Nat.reduceLeDiff,Nat.reduceLT,Nat.reduceBEq,Nat.reduceAdd];(repeat1' with_reducible first|apply And.intro|(intro _;try exact q_v)|(refine hK _ ?_;clear hK K))<;>(try (clear hK K;exact q_u)))|(with_reducible refine q_s ?_;(first|apply q_J|apply q_K|apply q_L|apply q_M|apply q_N|apply q_O)<;>try (intro _;try exact q_v))|with_reducible refine q_t ?_)
 refine q_G (ι:={ p : Nat × Nat // p.1 ≤ ds.length ∧ (dg 4294967296 p.2).length ≤ 601 ∧ (p.2 = rdv b (ds.take p.1) ∨ 600 < (dg 4294967296 p.2).length ∧ 600 < (dg 4294967296 (rdv b (ds.take p.1))).length) }) (fun p=>⟨50,[(0,.c (.ints .i64 ds)),(1,.c (.i .i64 b)),(5,.bx 0 0),(6,.c (.ints .u32 (dg 4294967296 p.1.2))),(16,.c (.ints .i64 ds)),(17,.c (.i .i64 ds.length)),(18,.c (.i .i64 (p.1.1 : Nat)))],⟨[(0,[.c (.i .i64 0),.c (.i .i64 0)])],[],[]⟩,1⟩) (fun p=>ds.length - p.1.1) ⟨(0,0),by simp,by simp [dg_zero],by simp [rdv_nil]⟩ ?_ ?_
 ·((simp only [go_sem,↓reduceIte,reduceCtorEq,Nat.reduceLeDiff,Nat.reduceLT,Nat.reduceBEq,Nat.reduceAdd])<;>(try (simp;done))<;>(try ((simp only [C.i.injEq,C.b.injEq,C.ints.injEq,C.bools.injEq,List.append_cancel_left_eq,List.cons.injEq,true_and,and_true]);(repeat' with_reducible apply And.intro)<;>(first|rfl|assumption|omega|(simp;omega)|(congr 1;omega)|(congr 2;omega)))))
  simp [dg_zero]
 rintro ⟨⟨i,m⟩,g1,g2,g3⟩
 simp only at g1 g2 g3 ⊢
 have b1:=InB_getD (by omega) hd i
 obtain ⟨d,hdd⟩ : ∃ d : Nat,ds.getD i 0 = d:=⟨(ds.getD i 0).toNat,by omega⟩
 rw [hdd] at b1
 have hdb : d < b:=by omega
 have bm:=InB_dg 4294967296 (by omega) m
 have bb : InB 4294967296 [(b : Int)]:=InB_one (by omega) (by omega)
 have hbm : (b : Int) % 4294967296 = b:=by omega
 have hdm : (d : Int) % 4294967296 = d:=by omega
 have tr:=trim1 d (by omega)
 have mu:=mulN1 m b
 have ad:=addNd (m * b) d
 have tl : (dg 4294967296 d).length ≤ 1:=dg_len_le (by omega) _ _ (by omega)
 have ml : (dg 4294967296 (m * b)).length ≤ 602:=mul_len (by omega) g2 (one_len b (by omega))
 have al : (dg 4294967296 m).length ≤ 600 → (dg 4294967296 (m * b + d)).length ≤ 601:=fun h=>snoc_len (by omega) h (by omega) (by omega) hdb
 have hstep : i < ds.length → rdv b (ds.take (i + 1)) = rdv b (ds.take i) * b + d:=fun h=>by rw [rdv_take _ _ _ h,hdd,Int.toNat_natCast]
 have hgrow : (dg 4294967296 (rdv b (ds.take i))).length ≤ (dg 4294967296 (rdv b (ds.take i) * b + d)).length:=dg_len_mono (by omega) (rdv_grows b (by omega) _ _)
 repeat' (first|(with_reducible first|apply q_a|apply q_b|apply q_c|apply q_d|apply q_e|apply q_f|apply q_g|apply q_h|apply q_i|apply q_j|apply q_k|apply q_m|apply q_n|apply q_o|apply q_p|refine q_l ?_)|((with_reducible first|refine q_q tb22_ok fun K hK=>?_|refine q_r tb22_ok fun K hK=>?_);simp (maxSteps:=2000000) only [go_sem,↓reduceIte,reduceCtorEq,Nat.reduceLeDiff,Nat.reduceLT,Nat.reduceBEq,Nat.reduceAdd,hdd,hbm,hdm,tr,mu,ad];(repeat1' with_reducible first|apply And.intro|(intro _;try exact q_v)|(refine hK _ ?_;clear hK K))<;>(try (clear hK K;exact q_u)))|(with_reducible refine q_s ?_;(first|apply q_J|apply q_K|apply q_L|apply q_M|apply q_N|apply q_O)<;>try (intro _;try exact q_v))|with_reducible refine q_t ?_)
 ·rename_i q1 q2 q3 q4
  refine q_F ⟨(i + 1,m),by simp only; omega,g2,.inr ⟨by simp only; omega,?_⟩⟩ ?_ (by simp only; omega)
  ·rw [hstep (by omega)]
   rcases g3 with g3 | g3
   ·rw [← g3] at hgrow ⊢; omega
   ·omega
  ·exact q_D
 ·rename_i q1 q2 q3 q4
  refine q_F ⟨(i + 1,m * b + d),by simp only; omega,al (by omega),.inl ?_⟩ ?_ (by simp only; omega)
  ·simp only
   rcases g3 with g3 | g3
   ·rw [hstep (by omega),← g3]
   ·omega
  ·exact q_D
 ·rename_i q1
  have hi : i = ds.length:=by omega
  rw [hi,List.take_length] at g3
  obtain ⟨e1,e2,e3⟩:=fitN_big (xs:=dg 4294967296 m) (ys:=dg 4294967296 (rdv b ds)) (g3.imp_left (fun h=>by rw [h])) (dg_trd 4294967296 (by omega) _) (dg_trd 4294967296 (by omega) _)
  exact q_A (by rw [e1,e2,e3]; rfl)

end Go.Proofs.YtgkajjifbcmoeaaGreatDoor
