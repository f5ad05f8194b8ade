import Derived.Test.YtgkajjifbcmoeaaGreatDoorM20
namespace Go.Proofs.NatL
set_option linter.unusedSimpArgs false
set_option linter.unusedVariables false
def PF (num den : Nat) (e : Int) : Prop:=0 < den ∧ ds num ≤ 4000 ∧ ds den ≤ 1300 ∧ -2500 ≤ e ∧ e ≤ 2500
structure Cx where
 p : Int
 r : Int
 mn : Int
 mx : Int
def okCx (p r mn mx : Int) : Bool:=decide (1 ≤ p ∧ p ≤ 60 ∧ 0 ≤ r ∧ r ≤ 6 ∧ -999 ≤ mn ∧ mn ≤ 0 ∧ 0 ≤ mx ∧ mx ≤ 999)
theorem okCx_p {p r mn mx : Int} (h : okCx p r mn mx = true) : 1 ≤ p ∧ p ≤ 60 ∧ 0 ≤ r ∧ r ≤ 6 ∧ -999 ≤ mn ∧ mn ≤ 0 ∧ 0 ≤ mx ∧ mx ≤ 999:=by
 unfold okCx at h; exact of_decide_eq_true h
def OkC (c : Cx) : Prop:=1 ≤ c.p ∧ c.p ≤ 60 ∧ 0 ≤ c.r ∧ c.r ≤ 6 ∧ -999 ≤ c.mn ∧ c.mn ≤ 0 ∧ 0 ≤ c.mx ∧ c.mx ≤ 999
theorem fit_at {num den : Nat} {e : Int} (h : PF num den e) (hn : 0 < num) {p mn : Int} (hp : 1 ≤ p ∧ p ≤ 60) (hm : -999 ≤ mn ∧ mn ≤ 0) : atP num den e (fitEx num den e p mn):=by
 obtain ⟨h1,h2,h3,h4,h5⟩:=h
 obtain ⟨p1,p2⟩:=hp
 obtain ⟨m1,m2⟩:=hm
 obtain ⟨b1,b2⟩:=first_bounds hn h1 e
 have d1:=ds_pos.2 hn
 have d2:=ds_pos.2 h1
 have hx1 : fitEx num den e p mn ≤ max ((ds num : Int) - ds den + e - p + 1) (mn - p + 1):=by unfold fitEx tinyE; unfold guessE at b1 b2; omega
 have hx2 : (ds num : Int) - ds den + e - p ≤ fitEx num den e p mn:=by unfold fitEx tinyE; unfold guessE at b1 b2; omega
 generalize fitEx num den e p mn = x at *
 refine ⟨h1,?_,?_,by omega,by omega⟩
 ·rcases int_lt_ge (e - x) 0 with h0 | h0
  ·rw [(pt_lt (den:=den) h0).1]; omega
  ·rw [(pt_ge (den:=den) h0).1]; exact ds_mul10 (by omega)
 ·rcases int_lt_ge (e - x) 0 with h0 | h0
  ·rw [(pt_lt (num:=num) h0).2]; exact ds_mul10 (by omega)
  ·rw [(pt_ge (num:=num) h0).2]; omega
theorem fitEx_bd {num den : Nat} {e : Int} (h : PF num den e) (hn : 0 < num) {p mn : Int} (hp : 1 ≤ p ∧ p ≤ 60) (hm : -999 ≤ mn ∧ mn ≤ 0) : -1060 ≤ fitEx num den e p mn ∧ fitEx num den e p mn ≤ 6500:=by
 obtain ⟨h1,h2,h3,h4,h5⟩:=h
 obtain ⟨p1,p2⟩:=hp
 obtain ⟨m1,m2⟩:=hm
 obtain ⟨b1,b2⟩:=first_bounds hn h1 e
 unfold fitEx tinyE; unfold guessE at b1 b2; omega
theorem rdE_len {neg : Bool} {num den : Nat} (hn : 0 < num) (hd : 0 < den) {exp p mn r : Int} (hp : 1 ≤ p ∧ p ≤ 60) : ds (rdE neg num den exp (fitEx num den exp p mn) r) ≤ 61:=by
 have h:=fit_round_le (neg:=neg) (r:=r) (mn:=mn) hn hd (exp:=exp) hp.1
 refine ds_le (Nat.lt_of_le_of_lt h (Nat.pow_lt_pow_right (by omega) (by omega)))
theorem twd_len (k c : Nat) (e : Int) : ds (twd k c e).1 ≤ ds c:=ds_mono (twd_le k c e).1
theorem twd_exp : ∀ (k c : Nat) (e : Int),(twd k c e).2 ≤ e + k
 | 0,c,e=>by simp [twd]
 | k + 1,c,e=>by
  unfold twd; split
  ·have:=twd_exp k (c / 10) (e + 1); omega
  ·simp only; omega
theorem fit_zero (neg : Bool) {num : Nat} (den : Nat) (exp ideal p r mn mx : Int) (h : num = 0) : fitD neg num den exp ideal p r mn mx = ⟨0,neg,0,min (max ideal (tinyE p mn)) mx⟩ ∧ fitS neg num den exp ideal p r mn mx = 0:=by
 unfold fitD fitS; rw [if_pos h,if_pos h]; exact ⟨rfl,rfl⟩
theorem fit_over {neg : Bool} {num den : Nat} {exp ideal p r mn mx : Int} (h : 0 < num) {c : Nat} {e : Int} (hc : fitCE neg num den exp ideal p r mn = (c,e)) (ho : 0 < c ∧ mx < (ds c : Int) - 1 + e) : fitD neg num den exp ideal p r mn mx = ovf neg p r mx ∧ fitS neg num den exp ideal p r mn mx = 9:=by
 have h0 : ¬ num = 0:=by omega
 unfold fitD fitS; rw [if_neg h0,if_neg h0,hc,if_pos ho,if_pos ho]; exact ⟨rfl,rfl⟩
theorem fit_fine {neg : Bool} {num den : Nat} {exp ideal p r mn mx : Int} (h : 0 < num) {c : Nat} {e : Int} (hc : fitCE neg num den exp ideal p r mn = (c,e)) (ho : ¬ (0 < c ∧ mx < (ds c : Int) - 1 + e)) : fitD neg num den exp ideal p r mn mx = ⟨0,neg,c,e⟩ ∧ fitS neg num den exp ideal p r mn mx = sigE num den exp p mn:=by
 have h0 : ¬ num = 0:=by omega
 unfold fitD fitS; rw [if_neg h0,if_neg h0,hc,if_neg ho,if_neg ho]; exact ⟨rfl,rfl⟩
theorem ce_exact {neg : Bool} {num den : Nat} {exp ideal p r mn : Int} (h : sE num den exp (fitEx num den exp p mn) = 0) : fitCE neg num den exp ideal p r mn = twd (ideal - fitEx num den exp p mn).toNat (rdE neg num den exp (fitEx num den exp p mn) r) (fitEx num den exp p mn):=by
 unfold fitCE; rw [if_pos h]
theorem ce_long {neg : Bool} {num den : Nat} {exp ideal p r mn : Int} (h : ¬ sE num den exp (fitEx num den exp p mn) = 0) (h2 : p < ds (rdE neg num den exp (fitEx num den exp p mn) r)) : fitCE neg num den exp ideal p r mn = (rdE neg num den exp (fitEx num den exp p mn) r / 10,fitEx num den exp p mn + 1):=by
 unfold fitCE; rw [if_neg h,if_pos h2]
theorem ce_short {neg : Bool} {num den : Nat} {exp ideal p r mn : Int} (h : ¬ sE num den exp (fitEx num den exp p mn) = 0) (h2 : ¬ p < ds (rdE neg num den exp (fitEx num den exp p mn) r)) : fitCE neg num den exp ideal p r mn = (rdE neg num den exp (fitEx num den exp p mn) r,fitEx num den exp p mn):=by
 unfold fitCE; rw [if_neg h,if_neg h2]
theorem or02 : Go.Abs.bitI .or .i64 0 2 = 2:=by decide
theorem or01 : Go.Abs.bitI .or .i64 0 1 = 1:=by decide
theorem or21 : Go.Abs.bitI .or .i64 2 1 = 3:=by decide
theorem or34 : Go.Abs.bitI .or .i64 3 4 = 7:=by decide
end Go.Proofs.NatL
namespace Go.Proofs.YtgkajjifbcmoeaaGreatDoor
set_option linter.unusedSimpArgs false
set_option linter.unusedVariables false
open Go.Abs Go.Proofs.NatL

abbrev gDc (D : Dc) : List C:=[.i .i64 D.kind,.b D.neg,.b false,.ints .u32 (dg 4294967296 D.coef),.i .i64 D.exp]
abbrev nDc : Option C ⊕ List (Option C):=.inr [none,none,none,some (.ints .u32 []),none]
abbrev gCx (c : Cx) : List C:=[.i .i64 c.p,.i .i64 c.r,.i .i64 c.mn,.i .i64 c.mx]
def db5d : Cfg:=listT [(85,(nat6CT pos2 rDivN))] [34]
theorem db5d_ok : TblOk Tryz.prog db5d:=listE_ok (by simp only [List.mem_singleton,forall_eq]; exact flt) ⟨⟨dn6,dn6_ok,rfl⟩,trivial⟩
attribute [go_sem] db5d
set_option maxHeartbeats 800000 in
theorem finite_ret (s : Bool) (xs : List Int) (e : Int) : Ret Tryz.prog 75 false [.inl (.b s),.inl (.ints .u32 xs),.inl (.i .i64 e)] (.g [.i .i64 0,.b s,.b false,.ints .u32 xs,.i .i64 e]):=by
 (refine q_H Tryz.func75 (fun F=>?_); simp only [q_z,q_y,Tryz.ntmps75,Tryz.results75])
 repeat' (first|(with_reducible first|apply q_a|apply q_b|apply q_c|apply q_d|apply q_e|apply q_f|apply q_g|apply q_h|apply q_i|apply q_j|apply q_k|apply q_m|apply q_n|apply q_o|apply q_p|refine q_l ?_)|((with_reducible first|refine q_q db5d_ok fun K hK=>?_|refine q_r db5d_ok fun K hK=>?_);simp (maxSteps:=2000000) only [go_sem,↓reduceIte,reduceCtorEq,Nat.reduceLeDiff,Nat.reduceLT,Nat.reduceBEq,Nat.reduceAdd];(repeat1' with_reducible first|apply And.intro|(intro _;try exact q_v)|(refine hK _ ?_;clear hK K))<;>(try (clear hK K;exact q_u)))|(with_reducible refine q_s ?_;(first|apply q_J|apply q_K|apply q_L|apply q_M|apply q_N|apply q_O)<;>try (intro _;try exact q_v))|with_reducible refine q_t ?_)
 all_goals first | omega | exact q_A rfl | skip
def finiteCT : CT:=mkCT [.inl none,nU] false fun l K=>match l with
 | [.inl (.b s),.inl (.ints .u32 xs),.inl (.i .i64 e)]=>K (.g [.i .i64 0,.b s,.b false,.ints .u32 xs,.i .i64 e])
 | _=>False
def de1 : Cfg:=addT 75 finiteCT cf0
theorem de1_ok : TblOk Tryz.prog de1:=q_I cf0_ok Tryz.func75 fun l K h=>by
 split at h
 ·exact ⟨_,finite_ret _ _ _,h⟩
 ·exact h.elim
set_option maxHeartbeats 800000 in
theorem infinite_ret (s : Bool) : Ret Tryz.prog 74 false [.inl (.b s)] (.g [.i .i64 1,.b s,.b false,.ints .u32 [],.i .i64 0]):=by
 (refine q_H Tryz.func74 (fun F=>?_); simp only [q_z,q_y,Tryz.ntmps74,Tryz.results74])
 repeat' (first|(with_reducible first|apply q_a|apply q_b|apply q_c|apply q_d|apply q_e|apply q_f|apply q_g|apply q_h|apply q_i|apply q_j|apply q_k|apply q_m|apply q_n|apply q_o|apply q_p|refine q_l ?_)|((with_reducible first|refine q_q db5d_ok fun K hK=>?_|refine q_r db5d_ok fun K hK=>?_);simp (maxSteps:=2000000) only [go_sem,↓reduceIte,reduceCtorEq,Nat.reduceLeDiff,Nat.reduceLT,Nat.reduceBEq,Nat.reduceAdd];(repeat1' with_reducible first|apply And.intro|(intro _;try exact q_v)|(refine hK _ ?_;clear hK K))<;>(try (clear hK K;exact q_u)))|(with_reducible refine q_s ?_;(first|apply q_J|apply q_K|apply q_L|apply q_M|apply q_N|apply q_O)<;>try (intro _;try exact q_v))|with_reducible refine q_t ?_)
 all_goals first | omega | exact q_B [nDc] rfl rfl | exact q_A rfl | skip
def infiniteCT : CT:=mkCT [.inl none] false fun l K=>match l with
 | [.inl (.b s)]=>K (.g [.i .i64 1,.b s,.b false,.ints .u32 [],.i .i64 0])
 | _=>False
def de2 : Cfg:=addT 74 infiniteCT cf0
theorem de2_ok : TblOk Tryz.prog de2:=q_I cf0_ok Tryz.func74 fun l K h=>by
 split at h
 ·exact ⟨_,infinite_ret _,h⟩
 ·exact h.elim
set_option maxHeartbeats 800000 in
theorem tiny_ret (p r mn mx : Int) (h : okCx p r mn mx = true) : Ret Tryz.prog 76 false [.inr [.i .i64 p,.i .i64 r,.i .i64 mn,.i .i64 mx]] (.c (.i .i64 (tinyE p mn))):=by
 have h:=okCx_p h
 have e : mn - p + 1 = tinyE p mn:=rfl
 (refine q_H Tryz.func76 (fun F=>?_); simp only [q_z,q_y,Tryz.ntmps76,Tryz.results76])
 repeat' (first|(with_reducible first|apply q_a|apply q_b|apply q_c|apply q_d|apply q_e|apply q_f|apply q_g|apply q_h|apply q_i|apply q_j|apply q_k|apply q_m|apply q_n|apply q_o|apply q_p|refine q_l ?_)|((with_reducible first|refine q_q db5d_ok fun K hK=>?_|refine q_r db5d_ok fun K hK=>?_);simp (maxSteps:=2000000) only [go_sem,↓reduceIte,reduceCtorEq,Nat.reduceLeDiff,Nat.reduceLT,Nat.reduceBEq,Nat.reduceAdd];(repeat1' with_reducible first|apply And.intro|(intro _;try exact q_v)|(refine hK _ ?_;clear hK K))<;>(try (clear hK K;exact q_u)))|(with_reducible refine q_s ?_;(first|apply q_J|apply q_K|apply q_L|apply q_M|apply q_N|apply q_O)<;>try (intro _;try exact q_v))|with_reducible refine q_t ?_)
 all_goals first | omega | exact q_A rfl | skip
def tinyCT : CT:=mkCT [.inr [none,none,none,none]] true fun l K=>match l with
 | [.inr [.i .i64 p,.i .i64 r,.i .i64 mn,.i .i64 mx]]=>okCx p r mn mx = true ∧ K (.c (.i .i64 (tinyE p mn)))
 | _=>False
def de3 : Cfg:=addT 76 tinyCT cf0
theorem de3_ok : TblOk Tryz.prog de3:=q_I cf0_ok Tryz.func76 fun l K h=>by
 split at h
 ·exact ⟨_,(tiny_ret _ _ _ _ h.1).plain rfl,h.2⟩
 ·exact h.elim
attribute [go_sem] finiteCT infiniteCT tinyCT
set_option maxHeartbeats 1600000 in
theorem toward_ret (c : Nat) (e i : Int) (h : (dg 4294967296 c).length ≤ 600) (he : -100000 ≤ e ∧ e ≤ 100000) (hi : -100000 ≤ i ∧ i ≤ 100000) :
  Ret Tryz.prog 118 false [.inl (.ints .u32 (dg 4294967296 c)),.inl (.i .i64 e),.inl (.i .i64 i)] (.t [.inl (.ints .u32 (dg 4294967296 (twd (i - e).toNat c e).1)),.inl (.i .i64 (twd (i - e).toNat c e).2)]):=by
 have e10 : ([10] : List Int) = dg 4294967296 10:=(dg_ten 10 (by omega) (by omega)).symm
 have l10 : (dg 4294967296 10).length ≤ 600:=by rw [dg_ten 10 (by omega) (by omega)]; simp
 (refine q_H Tryz.func118 (fun F=>?_); simp only [q_z,q_y,Tryz.ntmps118,Tryz.results118])
 repeat' (first|(with_reducible first|apply q_a|apply q_b|apply q_c|apply q_d|apply q_e|apply q_f|apply q_g|apply q_h|apply q_i|apply q_j|apply q_k|apply q_m|apply q_n|apply q_o|apply q_p|refine q_l ?_)|((with_reducible first|refine q_q db5d_ok fun K hK=>?_|refine q_r db5d_ok fun K hK=>?_);simp (maxSteps:=2000000) only [go_sem,↓reduceIte,reduceCtorEq,Nat.reduceLeDiff,Nat.reduceLT,Nat.reduceBEq,Nat.reduceAdd];(repeat1' with_reducible first|apply And.intro|(intro _;try exact q_v)|(refine hK _ ?_;clear hK K))<;>(try (clear hK K;exact q_u)))|(with_reducible refine q_s ?_;(first|apply q_J|apply q_K|apply q_L|apply q_M|apply q_N|apply q_O)<;>try (intro _;try exact q_v))|with_reducible refine q_t ?_)
 all_goals first | omega | skip
 generalize hT : twd (i - e).toNat c e = T
 obtain ⟨Tc,Te⟩:=T
 refine q_G (ι:={ q : Nat × Int // twd (i - q.2).toNat q.1 q.2 = (Tc,Te) ∧ (dg 4294967296 q.1).length ≤ 600 ∧ -100000 ≤ q.2 ∧ q.2 ≤ 100000 }) (fun q=>⟨29,[(0,.c (.ints .u32 (dg 4294967296 q.1.1))),(1,.c (.i .i64 q.1.2)),(2,.c (.i .i64 i))],⟨[],[],[]⟩,0⟩) (fun q=>(i - q.1.2).toNat) ⟨(c,e),hT,h,he⟩ ?_ ?_
 ·exact q_D
 rintro ⟨⟨k,x⟩,g1,g2,g3,g4⟩
 simp only at g1 g2 g3 g4 ⊢
 by_cases hx : x < i
 ·obtain ⟨j,hj⟩ : ∃ j,(i - x).toNat = j + 1:=⟨(i - x).toNat - 1,by omega⟩
  have hj2 : (i - (x + 1)).toNat = j:=by omega
  rw [hj] at g1
  have ht : twd (j + 1) k x = if k % 10 = 0 then twd j (k / 10) (x + 1) else (k,x):=rfl
  rw [ht] at g1
  have hz:=dg_nil_iff (k % 10)
  by_cases hk : k % 10 = 0
  ·rw [if_pos hk] at g1
   have hz:=hz.2 hk
   have lk:=Nat.le_trans (dg_len_mono (B:=4294967296) (by omega) (Nat.div_le_self k 10)) g2
   rw [hk] at hz
   repeat' (first|(with_reducible first|apply q_a|apply q_b|apply q_c|apply q_d|apply q_e|apply q_f|apply q_g|apply q_h|apply q_i|apply q_j|apply q_k|apply q_m|apply q_n|apply q_o|apply q_p|refine q_l ?_)|((with_reducible first|refine q_q db5d_ok fun K hK=>?_|refine q_r db5d_ok fun K hK=>?_);simp (maxSteps:=2000000) only [go_sem,↓reduceIte,reduceCtorEq,Nat.reduceLeDiff,Nat.reduceLT,Nat.reduceBEq,Nat.reduceAdd,V32,e10,hk];(repeat1' with_reducible first|apply And.intro|(intro _;try exact q_v)|(refine hK _ ?_;clear hK K))<;>(try (clear hK K;exact q_u)))|(with_reducible refine q_s ?_;(first|apply q_J|apply q_K|apply q_L|apply q_M|apply q_N|apply q_O)<;>try (intro _;try exact q_v))|with_reducible refine q_t ?_)
   all_goals first | omega | skip
   refine q_F ⟨(k / 10,x + 1),by simp only; rw [hj2]; exact g1,lk,by simp only; omega,by simp only; omega⟩ ?_ (by simp only; omega)
   exact q_D
  ·rw [if_neg hk] at g1
   obtain ⟨rfl,rfl⟩:=Prod.mk.inj g1
   have lk:=Nat.le_trans (dg_len_mono (B:=4294967296) (by omega) (Nat.mod_le k 10)) g2
   have hz : ¬ ((dg 4294967296 (k % 10)).length : Int) = 0:=fun q=>hk (hz.1 q)
   repeat' (first|(with_reducible first|apply q_a|apply q_b|apply q_c|apply q_d|apply q_e|apply q_f|apply q_g|apply q_h|apply q_i|apply q_j|apply q_k|apply q_m|apply q_n|apply q_o|apply q_p|refine q_l ?_)|((with_reducible first|refine q_q db5d_ok fun K hK=>?_|refine q_r db5d_ok fun K hK=>?_);simp (maxSteps:=2000000) only [go_sem,↓reduceIte,reduceCtorEq,Nat.reduceLeDiff,Nat.reduceLT,Nat.reduceBEq,Nat.reduceAdd,V32,e10];(repeat1' with_reducible first|apply And.intro|(intro _;try exact q_v)|(refine hK _ ?_;clear hK K))<;>(try (clear hK K;exact q_u)))|(with_reducible refine q_s ?_;(first|apply q_J|apply q_K|apply q_L|apply q_M|apply q_N|apply q_O)<;>try (intro _;try exact q_v))|with_reducible refine q_t ?_)
   all_goals first | omega | exact q_A rfl | skip
 ·have hj : (i - x).toNat = 0:=by omega
  rw [hj] at g1
  have ht : twd 0 k x = (k,x):=rfl
  rw [ht] at g1
  obtain ⟨rfl,rfl⟩:=Prod.mk.inj g1
  repeat' (first|(with_reducible first|apply q_a|apply q_b|apply q_c|apply q_d|apply q_e|apply q_f|apply q_g|apply q_h|apply q_i|apply q_j|apply q_k|apply q_m|apply q_n|apply q_o|apply q_p|refine q_l ?_)|((with_reducible first|refine q_q db5d_ok fun K hK=>?_|refine q_r db5d_ok fun K hK=>?_);simp (maxSteps:=2000000) only [go_sem,↓reduceIte,reduceCtorEq,Nat.reduceLeDiff,Nat.reduceLT,Nat.reduceBEq,Nat.reduceAdd];(repeat1' with_reducible first|apply And.intro|(intro _;try exact q_v)|(refine hK _ ?_;clear hK K))<;>(try (clear hK K;exact q_u)))|(with_reducible refine q_s ?_;(first|apply q_J|apply q_K|apply q_L|apply q_M|apply q_N|apply q_O)<;>try (intro _;try exact q_v))|with_reducible refine q_t ?_)
  all_goals first | omega | exact q_A rfl | skip
def towardCT : CT:=mkCT [nU] false fun l K=>match l with
 | [.inl (.ints .u32 xs),.inl (.i .i64 e),.inl (.i .i64 i)]=>(InB 4294967296 xs ∧ Trd xs ∧ xs.length ≤ 600 ∧ (-100000 ≤ e ∧ e ≤ 100000) ∧ (-100000 ≤ i ∧ i ≤ 100000)) ∧
   K (.t [.inl (.ints .u32 (dg 4294967296 (twd (i - e).toNat (V 4294967296 xs) e).1)),.inl (.i .i64 (twd (i - e).toNat (V 4294967296 xs) e).2)])
 | _=>False
def de3b : Cfg:=addT 118 towardCT cf0
theorem de3b_ok : TblOk Tryz.prog de3b:=q_I cf0_ok Tryz.func118 fun l K h=>by
 split at h
 ·rename_i xs e i
  obtain ⟨⟨h1,h2,h3,h4,h5⟩,h⟩:=h
  have e1:=dg_V 4294967296 (by omega) xs h1 h2
  have:=toward_ret (V 4294967296 xs) e i (by rw [e1]; exact h3) h4 h5
  rw [e1] at this
  exact ⟨_,this,h⟩
 ·exact h.elim
attribute [go_sem] towardCT
def db6d : Cfg:=listT [(183,awayCT),(74,infiniteCT),(75,finiteCT),(83,powerCT),(165,(nat6CT le2 rSubN))] [34]
theorem db6d_ok : TblOk Tryz.prog db6d:=listE_ok (by simp only [List.mem_singleton,forall_eq]; exact flt) ⟨⟨dd3x,dd3x_ok,rfl⟩,⟨de2,de2_ok,rfl⟩,⟨de1,de1_ok,rfl⟩,⟨dc3,dc3_ok,rfl⟩,⟨dn3,dn3_ok,rfl⟩,trivial⟩
attribute [go_sem] db6d
set_option maxHeartbeats 1600000 in
theorem overflow_ret (s : Bool) (p r mn mx : Int) (h : okCx p r mn mx = true) : Ret Tryz.prog 150 false [.inl (.b s),.inr [.i .i64 p,.i .i64 r,.i .i64 mn,.i .i64 mx]] (.g (gDc (ovf s p r mx))):=by
 have h:=okCx_p h
 have e1 : ([1] : List Int) = dg 4294967296 1:=rfl
 have l1:=ten_600 (k:=p.toNat) (by omega)
 have p1 : 1 ≤ 10 ^ p.toNat:=Nat.pow_pos (by omega)
 have l6:=ds_600 (n:=1) (by decide)
 unfold ovf
 cases ha : awayB r s true 1
 ·simp only [Bool.false_eq_true,if_false]
  (refine q_H Tryz.func150 (fun F=>?_); simp only [q_z,q_y,Tryz.ntmps150,Tryz.results150])
  repeat' (first|(with_reducible first|apply q_a|apply q_b|apply q_c|apply q_d|apply q_e|apply q_f|apply q_g|apply q_h|apply q_i|apply q_j|apply q_k|apply q_m|apply q_n|apply q_o|apply q_p|refine q_l ?_)|((with_reducible first|refine q_q db6d_ok fun K hK=>?_|refine q_r db6d_ok fun K hK=>?_);simp (maxSteps:=2000000) only [go_sem,↓reduceIte,reduceCtorEq,Nat.reduceLeDiff,Nat.reduceLT,Nat.reduceBEq,Nat.reduceAdd,V32,e1,ha];(repeat1' with_reducible first|apply And.intro|(intro _;try exact q_v)|(refine hK _ ?_;clear hK K))<;>(try (clear hK K;exact q_u)))|(with_reducible refine q_s ?_;(first|apply q_J|apply q_K|apply q_L|apply q_M|apply q_N|apply q_O)<;>try (intro _;try exact q_v))|with_reducible refine q_t ?_)
  all_goals first | omega | exact q_A rfl | skip
 ·simp only [if_true]
  (refine q_H Tryz.func150 (fun F=>?_); simp only [q_z,q_y,Tryz.ntmps150,Tryz.results150])
  repeat' (first|(with_reducible first|apply q_a|apply q_b|apply q_c|apply q_d|apply q_e|apply q_f|apply q_g|apply q_h|apply q_i|apply q_j|apply q_k|apply q_m|apply q_n|apply q_o|apply q_p|refine q_l ?_)|((with_reducible first|refine q_q db6d_ok fun K hK=>?_|refine q_r db6d_ok fun K hK=>?_);simp (maxSteps:=2000000) only [go_sem,↓reduceIte,reduceCtorEq,Nat.reduceLeDiff,Nat.reduceLT,Nat.reduceBEq,Nat.reduceAdd,V32,e1,ha];(repeat1' with_reducible first|apply And.intro|(intro _;try exact q_v)|(refine hK _ ?_;clear hK K))<;>(try (clear hK K;exact q_u)))|(with_reducible refine q_s ?_;(first|apply q_J|apply q_K|apply q_L|apply q_M|apply q_N|apply q_O)<;>try (intro _;try exact q_v))|with_reducible refine q_t ?_)
  all_goals first | omega | exact q_A rfl | skip
def overflowCT : CT:=mkCT [.inl none,.inr [none,none,none,none]] false fun l K=>match l with
 | [.inl (.b s),.inr [.i .i64 p,.i .i64 r,.i .i64 mn,.i .i64 mx]]=>okCx p r mn mx = true ∧ K (.g (gDc (ovf s p r mx)))
 | _=>False
def de3c : Cfg:=addT 150 overflowCT cf0
theorem de3c_ok : TblOk Tryz.prog de3c:=q_I cf0_ok Tryz.func150 fun l K h=>by
 split at h
 ·exact ⟨_,overflow_ret _ _ _ _ _ h.1,h.2⟩
 ·exact h.elim
attribute [go_sem] overflowCT
def dbfd : Cfg:=listT [(149,(xCT fsP rFs)),(119,roundedCT),(76,tinyCT),(75,finiteCT),(120,sizeCT),(118,towardCT),(150,overflowCT),(85,(nat6CT pos2 rDivN))] [34]
theorem dbfd_ok : TblOk Tryz.prog dbfd:=listE_ok (by simp only [List.mem_singleton,forall_eq]; exact flt) ⟨⟨dd1x,dd1x_ok,rfl⟩,⟨dd4x,dd4x_ok,rfl⟩,⟨de3,de3_ok,rfl⟩,⟨de1,de1_ok,rfl⟩,⟨dc1,dc1_ok,rfl⟩,⟨de3b,de3b_ok,rfl⟩,⟨de3c,de3c_ok,rfl⟩,⟨dn6,dn6_ok,rfl⟩,trivial⟩
attribute [go_sem] dbfd
set_option maxHeartbeats 6400000 in
theorem dfit_ret (s : Bool) (num den : Nat) (e ideal p r mn mx : Int) (hP : PF num den e) (hc : okCx p r mn mx = true) (hi : -10000 ≤ ideal ∧ ideal ≤ 10000) :
  Ret Tryz.prog 77 false [.inr (gX s num den e),.inl (.i .i64 ideal),.inr [.i .i64 p,.i .i64 r,.i .i64 mn,.i .i64 mx]]
   (.t [.inr (gDc (fitD s num den e ideal p r mn mx)),.inl (.i .i64 (fitS s num den e ideal p r mn mx))]):=by
 have hcc:=hc
 obtain ⟨c1,c2,c3,c4,c5,c6,c7,c8⟩:=okCx_p hcc
 have hPP:=hP
 obtain ⟨p1,p2,p3,p4,p5⟩:=hPP
 have hz:=dg_nil_iff num
 have l1:=ds_600 (n:=num) (by omega)
 have l2:=ds_600 (n:=den) (by omega)
 by_cases h0 : num = 0
 ·obtain ⟨f1,f2⟩:=fit_zero s den e ideal p r mn mx h0
  rw [f1,f2]
  have hz:=hz.2 h0
  have ht : tinyE p mn = mn - p + 1:=rfl
  (refine q_H Tryz.func77 (fun F=>?_); simp only [q_z,q_y,Tryz.ntmps77,Tryz.results77])
  repeat' (first|(with_reducible first|apply q_a|apply q_b|apply q_c|apply q_d|apply q_e|apply q_f|apply q_g|apply q_h|apply q_i|apply q_j|apply q_k|apply q_m|apply q_n|apply q_o|apply q_p|refine q_l ?_)|((with_reducible first|refine q_q dbfd_ok fun K hK=>?_|refine q_r dbfd_ok fun K hK=>?_);simp (maxSteps:=2000000) only [go_sem,↓reduceIte,reduceCtorEq,Nat.reduceLeDiff,Nat.reduceLT,Nat.reduceBEq,Nat.reduceAdd,V32,hc];(repeat1' with_reducible first|apply And.intro|(intro _;try exact q_v)|(refine hK _ ?_;clear hK K))<;>(try (clear hK K;exact q_u)))|(with_reducible refine q_s ?_;(first|apply q_J|apply q_K|apply q_L|apply q_M|apply q_N|apply q_O)<;>try (intro _;try exact q_v))|with_reducible refine q_t ?_)
  all_goals first | omega | exact q_A rfl | skip
 have hn : 0 < num:=by omega
 have hz : ¬ ((dg 4294967296 num).length : Int) = 0:=fun h=>h0 (hz.1 h)
 obtain ⟨_,ha2,ha3,ha4,ha5⟩:=fit_at hP hn ⟨c1,c2⟩ ⟨c5,c6⟩
 obtain ⟨x1,x2⟩:=fitEx_bd hP hn ⟨c1,c2⟩ ⟨c5,c6⟩
 have hr:=rdE_len (neg:=s) (r:=r) (mn:=mn) hn p1 (exp:=e) ⟨c1,c2⟩
 have over:=fun {c : Nat} {x : Int}=>fit_over (neg:=s) (num:=num) (den:=den) (exp:=e) (ideal:=ideal) (p:=p) (r:=r) (mn:=mn) (mx:=mx) hn (c:=c) (e:=x)
 have fine:=fun {c : Nat} {x : Int}=>fit_fine (neg:=s) (num:=num) (den:=den) (exp:=e) (ideal:=ideal) (p:=p) (r:=r) (mn:=mn) (mx:=mx) hn (c:=c) (e:=x)
 have cex:=ce_exact (neg:=s) (num:=num) (den:=den) (exp:=e) (ideal:=ideal) (p:=p) (r:=r) (mn:=mn)
 have clo:=ce_long (neg:=s) (num:=num) (den:=den) (exp:=e) (ideal:=ideal) (p:=p) (r:=r) (mn:=mn)
 have csh:=ce_short (neg:=s) (num:=num) (den:=den) (exp:=e) (ideal:=ideal) (p:=p) (r:=r) (mn:=mn)
 obtain ⟨b1,b2⟩:=first_bounds hn p1 e
 unfold guessE at b1 b2
 have hsig : sigE num den e p mn = (if firstE num den e < mn then 2 else 0) + (if sE num den e (fitEx num den e p mn) = 0 then 0 else 1 + (if firstE num den e < mn then 4 else 0)):=rfl
 have hX : max (firstE num den e - p + 1) (tinyE p mn) = fitEx num den e p mn:=rfl
 have ht : tinyE p mn = mn - p + 1:=rfl
 generalize hSg : sigE num den e p mn = SG at *
 generalize hR : rdE s num den e (fitEx num den e p mn) r = R at *
 generalize hSs : sE num den e (fitEx num den e p mn) = S at *
 generalize hF : firstE num den e = F0 at *
 generalize hXX : fitEx num den e p mn = X at *
 generalize hCE : fitCE s num den e ideal p r mn = CE at *
 have l3:=ds_600 (n:=R) (by omega)
 have or2:=or02
 have or1:=or01
 have or3:=or21
 have or7:=or34
 have l4:=ds_div10 R
 have l5:=ds_600 (n:=R / 10) (by omega)
 have d10 : ([10] : List Int) = dg 4294967296 10:=(dg_ten 10 (by omega) (by omega)).symm
 have l10 : (dg 4294967296 10).length ≤ 600:=by rw [dg_ten 10 (by omega) (by omega)]; simp
 have hcb : ds CE.1 ≤ 5000 ∧ -10000 ≤ CE.2 ∧ CE.2 ≤ 20001:=by
  by_cases hS : S = 0
  ·rw [cex hS]
   have w1:=(twd_le (ideal - X).toNat R X)
   have w2:=twd_exp (ideal - X).toNat R X
   have w3:=twd_len (ideal - X).toNat R X
   omega
  ·by_cases hl : p < (ds R : Int)
   ·rw [clo hS hl]; simp only; omega
   ·rw [csh hS hl]; simp only; omega
 (refine q_H Tryz.func77 (fun F=>?_); simp only [q_z,q_y,Tryz.ntmps77,Tryz.results77])
 refine seq_cut8 (ι:=Unit) (fun _=>⟨104,[(3,.bx 0 0),(5,.bx 1 0),(6,.bx 2 0),(9,.c (.i .i64 CE.2)),(10,.c (.ints .u32 (dg 4294967296 CE.1))),(12,.c (.i .i64 SG))],⟨[(2,[.c (.i .i64 0),.c (.b false),.c (.b false),.c .nil,.c (.i .i64 0)]),(1,[.c (.i .i64 p),.c (.i .i64 r),.c (.i .i64 mn),.c (.i .i64 mx)]),(0,[.c (.b s),.c (.ints .u32 (dg 4294967296 num)),.c (.ints .u32 (dg 4294967296 den)),.c (.i .i64 e)])],[],[]⟩,3⟩) (fun Y hY=>?_) ?_
 ·clear over fine
  by_cases hS : S = 0
  ·have cex:=cex hS
   clear clo csh
   have hb : decide (S ≠ 0) = false:=decide_eq_false (by omega)
   rw [if_pos hS] at hsig
   subst cex
   by_cases hf : F0 < mn
   ·rw [if_pos hf] at hsig
    subst hsig
    repeat' (first|(with_reducible first|apply q_a|apply q_b|apply q_c|apply q_d|apply q_e|apply q_f|apply q_g|apply q_h|apply q_i|apply q_j|apply q_k|apply q_m|apply q_n|apply q_o|apply q_p|refine q_l ?_)|((with_reducible first|refine q_q dbfd_ok fun K hK=>?_|refine q_r dbfd_ok fun K hK=>?_);simp (maxSteps:=2000000) only [go_sem,↓reduceIte,reduceCtorEq,Nat.reduceLeDiff,Nat.reduceLT,Nat.reduceBEq,Nat.reduceAdd,V32,hc,hF,hX,hR,hSs,hb,or2];(repeat1' with_reducible first|apply And.intro|(intro _;try exact q_v)|(refine hK _ ?_;clear hK K))<;>(try (clear hK K;exact q_u)))|(with_reducible refine q_s ?_;(first|apply q_J|apply q_K|apply q_L|apply q_M|apply q_N|apply q_O)<;>try (intro _;try exact q_v))|with_reducible refine q_t ?_)
    all_goals first | omega | assumption | exact cut_fit hY () q_D | skip
   ·rw [if_neg hf] at hsig
    subst hsig
    repeat' (first|(with_reducible first|apply q_a|apply q_b|apply q_c|apply q_d|apply q_e|apply q_f|apply q_g|apply q_h|apply q_i|apply q_j|apply q_k|apply q_m|apply q_n|apply q_o|apply q_p|refine q_l ?_)|((with_reducible first|refine q_q dbfd_ok fun K hK=>?_|refine q_r dbfd_ok fun K hK=>?_);simp (maxSteps:=2000000) only [go_sem,↓reduceIte,reduceCtorEq,Nat.reduceLeDiff,Nat.reduceLT,Nat.reduceBEq,Nat.reduceAdd,V32,hc,hF,hX,hR,hSs,hb,or2];(repeat1' with_reducible first|apply And.intro|(intro _;try exact q_v)|(refine hK _ ?_;clear hK K))<;>(try (clear hK K;exact q_u)))|(with_reducible refine q_s ?_;(first|apply q_J|apply q_K|apply q_L|apply q_M|apply q_N|apply q_O)<;>try (intro _;try exact q_v))|with_reducible refine q_t ?_)
    all_goals first | omega | assumption | exact cut_fit hY () q_D | skip
  ·have clo:=clo hS
   have csh:=csh hS
   clear cex
   have hb : decide (S ≠ 0) = true:=decide_eq_true hS
   rw [if_neg hS] at hsig
   by_cases hl : p < (ds R : Int)
   ·have clo:=clo hl
    clear csh
    subst clo
    by_cases hf : F0 < mn
    ·rw [if_pos hf,if_pos hf] at hsig
     subst hsig
     repeat' (first|(with_reducible first|apply q_a|apply q_b|apply q_c|apply q_d|apply q_e|apply q_f|apply q_g|apply q_h|apply q_i|apply q_j|apply q_k|apply q_m|apply q_n|apply q_o|apply q_p|refine q_l ?_)|((with_reducible first|refine q_q dbfd_ok fun K hK=>?_|refine q_r dbfd_ok fun K hK=>?_);simp (maxSteps:=2000000) only [go_sem,↓reduceIte,reduceCtorEq,Nat.reduceLeDiff,Nat.reduceLT,Nat.reduceBEq,Nat.reduceAdd,V32,hc,hF,hX,hR,hSs,hb,d10,or2,or1,or3,or7];(repeat1' with_reducible first|apply And.intro|(intro _;try exact q_v)|(refine hK _ ?_;clear hK K))<;>(try (clear hK K;exact q_u)))|(with_reducible refine q_s ?_;(first|apply q_J|apply q_K|apply q_L|apply q_M|apply q_N|apply q_O)<;>try (intro _;try exact q_v))|with_reducible refine q_t ?_)
     all_goals first | omega | assumption | exact cut_fit hY () q_D | skip
    ·rw [if_neg hf,if_neg hf] at hsig
     subst hsig
     repeat' (first|(with_reducible first|apply q_a|apply q_b|apply q_c|apply q_d|apply q_e|apply q_f|apply q_g|apply q_h|apply q_i|apply q_j|apply q_k|apply q_m|apply q_n|apply q_o|apply q_p|refine q_l ?_)|((with_reducible first|refine q_q dbfd_ok fun K hK=>?_|refine q_r dbfd_ok fun K hK=>?_);simp (maxSteps:=2000000) only [go_sem,↓reduceIte,reduceCtorEq,Nat.reduceLeDiff,Nat.reduceLT,Nat.reduceBEq,Nat.reduceAdd,V32,hc,hF,hX,hR,hSs,hb,d10,or2,or1,or3,or7];(repeat1' with_reducible first|apply And.intro|(intro _;try exact q_v)|(refine hK _ ?_;clear hK K))<;>(try (clear hK K;exact q_u)))|(with_reducible refine q_s ?_;(first|apply q_J|apply q_K|apply q_L|apply q_M|apply q_N|apply q_O)<;>try (intro _;try exact q_v))|with_reducible refine q_t ?_)
     all_goals first | omega | assumption | exact cut_fit hY () q_D | skip
   ·have csh:=csh hl
    clear clo
    subst csh
    by_cases hf : F0 < mn
    ·rw [if_pos hf,if_pos hf] at hsig
     subst hsig
     repeat' (first|(with_reducible first|apply q_a|apply q_b|apply q_c|apply q_d|apply q_e|apply q_f|apply q_g|apply q_h|apply q_i|apply q_j|apply q_k|apply q_m|apply q_n|apply q_o|apply q_p|refine q_l ?_)|((with_reducible first|refine q_q dbfd_ok fun K hK=>?_|refine q_r dbfd_ok fun K hK=>?_);simp (maxSteps:=2000000) only [go_sem,↓reduceIte,reduceCtorEq,Nat.reduceLeDiff,Nat.reduceLT,Nat.reduceBEq,Nat.reduceAdd,V32,hc,hF,hX,hR,hSs,hb,or2,or1,or3,or7];(repeat1' with_reducible first|apply And.intro|(intro _;try exact q_v)|(refine hK _ ?_;clear hK K))<;>(try (clear hK K;exact q_u)))|(with_reducible refine q_s ?_;(first|apply q_J|apply q_K|apply q_L|apply q_M|apply q_N|apply q_O)<;>try (intro _;try exact q_v))|with_reducible refine q_t ?_)
     all_goals first | omega | assumption | exact cut_fit hY () q_D | skip
    ·rw [if_neg hf,if_neg hf] at hsig
     subst hsig
     repeat' (first|(with_reducible first|apply q_a|apply q_b|apply q_c|apply q_d|apply q_e|apply q_f|apply q_g|apply q_h|apply q_i|apply q_j|apply q_k|apply q_m|apply q_n|apply q_o|apply q_p|refine q_l ?_)|((with_reducible first|refine q_q dbfd_ok fun K hK=>?_|refine q_r dbfd_ok fun K hK=>?_);simp (maxSteps:=2000000) only [go_sem,↓reduceIte,reduceCtorEq,Nat.reduceLeDiff,Nat.reduceLT,Nat.reduceBEq,Nat.reduceAdd,V32,hc,hF,hX,hR,hSs,hb,or2,or1,or3,or7];(repeat1' with_reducible first|apply And.intro|(intro _;try exact q_v)|(refine hK _ ?_;clear hK K))<;>(try (clear hK K;exact q_u)))|(with_reducible refine q_s ?_;(first|apply q_J|apply q_K|apply q_L|apply q_M|apply q_N|apply q_O)<;>try (intro _;try exact q_v))|with_reducible refine q_t ?_)
     all_goals first | omega | assumption | exact cut_fit hY () q_D | skip
 intro _
 clear cex clo csh hsig hX b1 b2 hr
 obtain ⟨Cn,Ce⟩:=CE
 simp only at hcb ⊢
 obtain ⟨cb1,cb2,cb3⟩:=hcb
 have lc:=ds_600 (n:=Cn) (by omega)
 have hd0:=dg_len_pos 4294967296 Cn (by omega)
 have over:=over (c:=Cn) (x:=Ce) rfl
 have fine:=fine (c:=Cn) (x:=Ce) rfl
 by_cases ho : 0 < Cn ∧ mx < (ds Cn : Int) - 1 + Ce
 ·obtain ⟨f1,f2⟩:=over ho
  rw [f1,f2]
  obtain ⟨o1,o2⟩:=ho
  clear over fine
  have hd0:=hd0.2 o1
  repeat' (first|(with_reducible first|apply q_a|apply q_b|apply q_c|apply q_d|apply q_e|apply q_f|apply q_g|apply q_h|apply q_i|apply q_j|apply q_k|apply q_m|apply q_n|apply q_o|apply q_p|refine q_l ?_)|((with_reducible first|refine q_q dbfd_ok fun K hK=>?_|refine q_r dbfd_ok fun K hK=>?_);simp (maxSteps:=2000000) only [go_sem,↓reduceIte,reduceCtorEq,Nat.reduceLeDiff,Nat.reduceLT,Nat.reduceBEq,Nat.reduceAdd,V32,hc];(repeat1' with_reducible first|apply And.intro|(intro _;try exact q_v)|(refine hK _ ?_;clear hK K))<;>(try (clear hK K;exact q_u)))|(with_reducible refine q_s ?_;(first|apply q_J|apply q_K|apply q_L|apply q_M|apply q_N|apply q_O)<;>try (intro _;try exact q_v))|with_reducible refine q_t ?_)
  all_goals first | omega | assumption | exact q_A rfl | skip
 ·obtain ⟨f1,f2⟩:=fine ho
  rw [f1,f2]
  clear over fine
  by_cases hc0 : 0 < Cn
  ·have hd0:=hd0.2 hc0
   repeat' (first|(with_reducible first|apply q_a|apply q_b|apply q_c|apply q_d|apply q_e|apply q_f|apply q_g|apply q_h|apply q_i|apply q_j|apply q_k|apply q_m|apply q_n|apply q_o|apply q_p|refine q_l ?_)|((with_reducible first|refine q_q dbfd_ok fun K hK=>?_|refine q_r dbfd_ok fun K hK=>?_);simp (maxSteps:=2000000) only [go_sem,↓reduceIte,reduceCtorEq,Nat.reduceLeDiff,Nat.reduceLT,Nat.reduceBEq,Nat.reduceAdd,V32,hc];(repeat1' with_reducible first|apply And.intro|(intro _;try exact q_v)|(refine hK _ ?_;clear hK K))<;>(try (clear hK K;exact q_u)))|(with_reducible refine q_s ?_;(first|apply q_J|apply q_K|apply q_L|apply q_M|apply q_N|apply q_O)<;>try (intro _;try exact q_v))|with_reducible refine q_t ?_)
   all_goals first | omega | assumption | exact q_A rfl | skip
  ·have hd0 : ¬ 0 < (dg 4294967296 Cn).length:=fun h=>hc0 (hd0.1 h)
   repeat' (first|(with_reducible first|apply q_a|apply q_b|apply q_c|apply q_d|apply q_e|apply q_f|apply q_g|apply q_h|apply q_i|apply q_j|apply q_k|apply q_m|apply q_n|apply q_o|apply q_p|refine q_l ?_)|((with_reducible first|refine q_q dbfd_ok fun K hK=>?_|refine q_r dbfd_ok fun K hK=>?_);simp (maxSteps:=2000000) only [go_sem,↓reduceIte,reduceCtorEq,Nat.reduceLeDiff,Nat.reduceLT,Nat.reduceBEq,Nat.reduceAdd,V32,hc];(repeat1' with_reducible first|apply And.intro|(intro _;try exact q_v)|(refine hK _ ?_;clear hK K))<;>(try (clear hK K;exact q_u)))|(with_reducible refine q_s ?_;(first|apply q_J|apply q_K|apply q_L|apply q_M|apply q_N|apply q_O)<;>try (intro _;try exact q_v))|with_reducible refine q_t ?_)
   all_goals first | omega | assumption | exact q_A rfl | skip
def fitXCT : CT:=mkCT [nX,.inl none,.inr [none,none,none,none]] false fun l K=>match l with
 | [.inr [.b s,.ints .u32 xs,.ints .u32 ys,.i .i64 e],.inl (.i .i64 ideal),.inr [.i .i64 p,.i .i64 r,.i .i64 mn,.i .i64 mx]] =>
   (InB 4294967296 xs ∧ Trd xs ∧ InB 4294967296 ys ∧ Trd ys ∧ PF (V 4294967296 xs) (V 4294967296 ys) e ∧ okCx p r mn mx = true ∧ (-10000 ≤ ideal ∧ ideal ≤ 10000)) ∧
   K (.t [.inr (gDc (fitD s (V 4294967296 xs) (V 4294967296 ys) e ideal p r mn mx)),.inl (.i .i64 (fitS s (V 4294967296 xs) (V 4294967296 ys) e ideal p r mn mx))])
 | _=>False
def de3d : Cfg:=addT 77 fitXCT cf0
theorem de3d_ok : TblOk Tryz.prog de3d:=q_I cf0_ok Tryz.func77 fun l K h=>by
 split at h
 ·rename_i s xs ys e ideal p r mn mx
  obtain ⟨⟨h1,h2,h3,h4,h5,h6,h7⟩,h⟩:=h
  have e1:=dg_V 4294967296 (by omega) xs h1 h2
  have e2:=dg_V 4294967296 (by omega) ys h3 h4
  have:=dfit_ret s _ _ e ideal p r mn mx h5 h6 h7
  rw [gX,e1,e2] at this
  exact ⟨_,this,h⟩
 ·exact h.elim
attribute [go_sem] fitXCT
end Go.Proofs.YtgkajjifbcmoeaaGreatDoor

namespace Go.Proofs.NatL
set_option linter.unusedSimpArgs false
set_option linter.unusedVariables false
end Go.Proofs.NatL
namespace Go.Proofs.YtgkajjifbcmoeaaGreatDoor
set_option linter.unusedSimpArgs false
set_option linter.unusedVariables false
open Go.Abs Go.Proofs.NatL

abbrev fltQ (c i : Int) : C ⊕ List C:=.inr [.i .i64 c,.i .i64 i]
attribute [go_sem] fltQ
end Go.Proofs.YtgkajjifbcmoeaaGreatDoor

namespace Go.Proofs.YtgkajjifbcmoeaaGreatDoor
set_option linter.unusedSimpArgs false
set_option linter.unusedVariables false
open Go.Abs Go.Proofs.NatL

theorem sv65d (s : Bool) (m : Nat) : sv 65536 s (dg 65536 m) = sg s m:=sv_d (by omega) s m
theorem sg_sgz (z : Int) (c : Bool) : sg (sgz z c) z.natAbs = z:=by rw [← sv65d,svz65]
attribute [go_sem] sv65d sg_self sg_sgz
end Go.Proofs.YtgkajjifbcmoeaaGreatDoor

namespace Go.Proofs.NatL
set_option linter.unusedSimpArgs false
set_option linter.unusedVariables false
end Go.Proofs.NatL
namespace Go.Proofs.YtgkajjifbcmoeaaGreatDoor
set_option linter.unusedSimpArgs false
set_option linter.unusedVariables false
open Go.Abs Go.Proofs.NatL

def dpos (_ : Int) (d : Nat) : Prop:=0 < d
theorem dpos_d (z : Int) (d : Nat) : dpos z d = (0 < d):=rfl
attribute [go_sem] dpos_d
def dpos2 (_ : Int) (c : Nat) (_ : Int) (d : Nat) : Prop:=0 < c ∧ 0 < d
def dany2 (_ : Int) (_ : Nat) (_ : Int) (_ : Nat) : Prop:=True
theorem dpos2_d (x : Int) (c : Nat) (y : Int) (d : Nat) : dpos2 x c y d = (0 < c ∧ 0 < d):=rfl
theorem dany2_d (x : Int) (c : Nat) (y : Int) (d : Nat) : dany2 x c y d = True:=rfl
attribute [go_sem] dpos2_d dany2_d
end Go.Proofs.YtgkajjifbcmoeaaGreatDoor

namespace Go.Proofs.NatL
set_option linter.unusedSimpArgs false
set_option linter.unusedVariables false
end Go.Proofs.NatL
namespace Go.Proofs.YtgkajjifbcmoeaaGreatDoor
set_option linter.unusedSimpArgs false
set_option linter.unusedVariables false
open Go.Abs Go.Proofs.NatL

def ptP (num den : Nat) (e x : Int) : Prop:=ds num ≤ 8000 ∧ ds den ≤ 8000 ∧ -12000 ≤ e - x ∧ e - x ≤ 12000 ∧ -100000 ≤ e ∧ e ≤ 100000
theorem ptP_d (num den : Nat) (e x : Int) : ptP num den e x = (ds num ≤ 8000 ∧ ds den ≤ 8000 ∧ -12000 ≤ e - x ∧ e - x ≤ 12000 ∧ -100000 ≤ e ∧ e ≤ 100000):=rfl
attribute [go_sem] ptP_d
def fgP (num den : Nat) (e : Int) : Prop:=0 < num ∧ 0 < den ∧ ds num ≤ 5000 ∧ ds den ≤ 5000 ∧ -3000 ≤ e ∧ e ≤ 3000
theorem fgP_d (num den : Nat) (e : Int) : fgP num den e = (0 < num ∧ 0 < den ∧ ds num ≤ 5000 ∧ ds den ≤ 5000 ∧ -3000 ≤ e ∧ e ≤ 3000):=rfl
theorem fig_len (n : Nat) : (dg 10 n).reverse.length = ds n:=by rw [List.length_reverse]; rfl
attribute [go_sem] fgP_d
end Go.Proofs.YtgkajjifbcmoeaaGreatDoor

namespace Go.Proofs.NatL
set_option linter.unusedSimpArgs false
set_option linter.unusedVariables false
def okD (k : Int) (s t : Bool) (xs : List Int) (e : Int) : Bool :=
 if k = 0 then okZ t xs && !t && decide (-1200 ≤ e ∧ e ≤ 1200) && decide (V 4294967296 xs < 10 ^ 120)
 else if k = 1 then decide (xs = []) && !t && decide (e = 0)
 else if k = 2 then decide (xs = []) && !t && decide (e = 0) && !s
 else false
def OkD (D : Dc) : Prop:=(D.kind = 0 ∧ -1200 ≤ D.exp ∧ D.exp ≤ 1200 ∧ D.coef < 10 ^ 120) ∨ (D.kind = 1 ∧ D.coef = 0 ∧ D.exp = 0) ∨ (D.kind = 2 ∧ D.coef = 0 ∧ D.exp = 0 ∧ D.neg = false)
def dcOf (k : Int) (s : Bool) (xs : List Int) (e : Int) : Dc:=⟨k,s,V 4294967296 xs,e⟩
theorem lt120 {n : Nat} : n < 10 ^ 120 ↔ ds n ≤ 120:=⟨fun h=>ds_le h,fun h=>Nat.lt_of_lt_of_le (ds_lt n) (Nat.pow_le_pow_right (by omega) h)⟩
theorem okD_parts {k : Int} {s t : Bool} {xs : List Int} {e : Int} (h : okD k s t xs e = true) :
  (k = 0 ∧ okZ t xs = true ∧ t = false ∧ -1200 ≤ e ∧ e ≤ 1200 ∧ V 4294967296 xs < 10 ^ 120) ∨ (k = 1 ∧ xs = [] ∧ t = false ∧ e = 0) ∨ (k = 2 ∧ xs = [] ∧ t = false ∧ e = 0 ∧ s = false):=by
 unfold okD at h
 split at h
 ·rename_i hk
  simp only [Bool.and_eq_true,Bool.not_eq_true',decide_eq_true_eq] at h
  obtain ⟨⟨⟨h1,h2⟩,h3,h4⟩,h5⟩:=h
  exact .inl ⟨hk,h1,h2,h3,h4,h5⟩
 ·split at h
  ·rename_i hk
   simp only [Bool.and_eq_true,Bool.not_eq_true',decide_eq_true_eq] at h
   exact .inr (.inl ⟨hk,h.1.1,h.1.2,h.2⟩)
  ·split at h
   ·rename_i hk
    simp only [Bool.and_eq_true,Bool.not_eq_true',decide_eq_true_eq] at h
    exact .inr (.inr ⟨hk,h.1.1.1,h.1.1.2,h.1.2,h.2⟩)
   ·cases h
theorem okD_eq {k : Int} {s t : Bool} {xs : List Int} {e : Int} (h : okD k s t xs e = true) (b : InB 4294967296 xs) :
  t = false ∧ xs = dg 4294967296 (dcOf k s xs e).coef ∧ OkD (dcOf k s xs e):=by
 rcases okD_parts h with ⟨h1,h2,h3,h4,h5,h6⟩ | ⟨h1,h2,h3,h4⟩ | ⟨h1,h2,h3,h4,h5⟩
 ·exact ⟨h3,(dg_V 4294967296 (by omega) xs b (okZ_trd h2)).symm,.inl ⟨h1,h4,h5,h6⟩⟩
 ·subst h2; exact ⟨h3,rfl,.inr (.inl ⟨h1,rfl,h4⟩)⟩
 ·subst h2; exact ⟨h3,rfl,.inr (.inr ⟨h1,rfl,h4,h5⟩)⟩
theorem coef_len {n : Nat} (h : ds n ≤ 120) : (dg 4294967296 n).length ≤ 13:=Nat.le_trans (len_ds h) (by omega)
theorem okZ_n' {n : Nat} (h : (dg 4294967296 n).length ≤ 128) : okZ false (dg 4294967296 n) = true:=by
 unfold okZ
 refine decide_eq_true ⟨h,?_⟩
 rcases Nat.eq_zero_or_pos n with rfl | h0
 ·exact .inl ⟨rfl,rfl⟩
 ·refine .inr ⟨fun e=>?_,dg_trd _ (by omega) _⟩
  have:=(dg_len_pos 4294967296 n (by omega)).2 h0
  rw [e] at this; exact absurd this (by simp)
theorem okD_g {D : Dc} (h : OkD D) : okD D.kind D.neg false (dg 4294967296 D.coef) D.exp = true:=by
 rcases h with ⟨h1,h2,h3,h4⟩ | ⟨h1,h2,h3⟩ | ⟨h1,h2,h3,h4⟩
 ·unfold okD
  rw [if_pos h1,V_dg _ (by omega),decide_eq_true h4,decide_eq_true ⟨h2,h3⟩,okZ_n' (Nat.le_trans (coef_len (lt120.1 h4)) (by omega))]
  rfl
 ·unfold okD
  rw [if_neg (by omega),if_pos h1,h2,h3]; rfl
 ·unfold okD
  rw [if_neg (by omega),if_neg (by omega),if_pos h1,h2,h3,h4]; rfl
abbrev D5:=Int × Bool × Bool × List Int × Int
abbrev d0 : D5:=(0,false,false,[],0)
def okD5 (p : D5) : Bool:=okD p.1 p.2.1 p.2.2.1 p.2.2.2.1 p.2.2.2.2
def dbC : List D5 → Int
 | []=>0
 | p :: l=>if okD5 p then dbC l else 6
def dbX : Int → List D5 → Int
 | _,[]=>0
 | i,p :: l=>if okD5 p then dbX (i + 1) l else -1 - i
def allD (n : Nat) : List D5 → Prop
 | []=>True
 | p :: l=>(p.2.2.2.1.length ≤ n ∧ InB 4294967296 p.2.2.2.1) ∧ allD n l
theorem allD_get {n : Nat} : ∀ {l : List D5} {i : Nat},allD n l → (l.getD i d0).2.2.2.1.length ≤ n ∧ InB 4294967296 (l.getD i d0).2.2.2.1
 | [],i,_=>by simp [InB_nil]
 | p :: l,0,h=>h.1
 | p :: l,i + 1,h=>by simpa using allD_get (i:=i) h.2
theorem drop_getD5 (l : List D5) (i : Nat) (h : i < l.length) : l.drop i = l.getD i d0 :: l.drop (i + 1):=by
 rw [List.drop_eq_getElem_cons h,List.getD_eq_getElem?_getD,List.getElem?_eq_getElem h]; rfl
end Go.Proofs.NatL
namespace Go.Proofs.YtgkajjifbcmoeaaGreatDoor
set_option linter.unusedSimpArgs false
set_option linter.unusedVariables false
open Go.Abs Go.Proofs.NatL

def rowD (p : D5) : List C:=[.i .i64 p.1,.b p.2.1,.b p.2.2.1,.ints .u32 p.2.2.2.1,.i .i64 p.2.2.2.2]
def unD : List (List C) → Option (List D5)
 | []=>some []
 | [.i .i64 k,.b s,.b t,.ints .u32 xs,.i .i64 e] :: r=>(unD r).map ((k,s,t,xs,e) :: ·)
 | _ :: _=>none
theorem unD_some : ∀ {rows : List (List C)} {l : List D5},unD rows = some l → rows = l.map rowD
 | [],l,h=>by simp [unD] at h; subst h; rfl
 | r :: rows,l,h=>by
  unfold unD at h
  split at h
  ·rename_i h0; cases h0
  ·rename_i k s t xs e r' h0
   cases h0
   obtain ⟨l',h1,rfl⟩:=Option.map_eq_some_iff.1 h
   rw [unD_some h1]; rfl
  ·cases h
theorem rowD_get (l : List D5) (i : Nat) (h : i < l.length) : (l.map rowD).getD i [] = [.i .i64 (l.getD i d0).1,.b (l.getD i d0).2.1,.b (l.getD i d0).2.2.1,.ints .u32 (l.getD i d0).2.2.2.1,.i .i64 (l.getD i d0).2.2.2.2]:=by
 simp [List.getD_eq_getElem?_getD,List.getElem?_eq_getElem h,rowD]
def db7d : Cfg:=listT [(83,powerCT),(124,lessCT),(143,ivalidCT)] [34]
theorem db7d_ok : TblOk Tryz.prog db7d:=listE_ok (by simp only [List.mem_singleton,forall_eq]; exact flt) ⟨⟨dc3,dc3_ok,rfl⟩,⟨dc2,dc2_ok,rfl⟩,⟨it2,it2_ok,rfl⟩,trivial⟩
attribute [go_sem] db7d
set_option maxRecDepth 100000 in
set_option maxHeartbeats 1600000 in
theorem validD_ret (k : Int) (s t : Bool) (xs : List Int) (e : Int) (h1 : xs.length ≤ 140737488355328) (b1 : InB 4294967296 xs) :
  Ret Tryz.prog 62 false [.inr [.i .i64 k,.b s,.b t,.ints .u32 xs,.i .i64 e]] (.c (.b (okD k s t xs e))):=by
 obtain ⟨U,hU⟩ : ∃ x : Nat,x = 10 ^ 120:=⟨_,rfl⟩
 have t120 : 10 ^ (120 : Int).toNat = U:=by rw [hU]; rfl
 have l120 : (dg 4294967296 U).length ≤ 600:=by rw [hU]; exact ten_600 (k:=120) (by omega)
 have e0 : okD 0 s t xs e = (okZ t xs && !t && decide (-1200 ≤ e ∧ e ≤ 1200) && decide (V 4294967296 xs < U)):=by rw [hU]; rfl
 clear hU
 have hx : decide (xs = []) = decide ((xs.length : Int) = 0):=by congr 1; exact propext ⟨fun h=>by rw [h]; rfl,fun h=>List.eq_nil_of_length_eq_zero (by omega)⟩
 by_cases k0 : k = 0
 ·subst k0
  rw [e0]
  clear e0 hx
  cases hz : okZ t xs
  ·(refine q_H Tryz.func62 (fun F=>?_); simp only [q_z,q_y,Tryz.ntmps62,Tryz.results62])
   repeat' (first|(with_reducible first|apply q_a|apply q_b|apply q_c|apply q_d|apply q_e|apply q_f|apply q_g|apply q_h|apply q_i|apply q_j|apply q_k|apply q_m|apply q_n|apply q_o|apply q_p|refine q_l ?_)|((with_reducible first|refine q_q db7d_ok fun K hK=>?_|refine q_r db7d_ok fun K hK=>?_);simp (maxSteps:=2000000) only [go_sem,↓reduceIte,reduceCtorEq,Nat.reduceLeDiff,Nat.reduceLT,Nat.reduceBEq,Nat.reduceAdd,hz,t120];(repeat1' with_reducible first|apply And.intro|(intro _;try exact q_v)|(refine hK _ ?_;clear hK K))<;>(try (clear hK K;exact q_u)))|(with_reducible refine q_s ?_;(first|apply q_J|apply q_K|apply q_L|apply q_M|apply q_N|apply q_O)<;>try (intro _;try exact q_v))|with_reducible refine q_t ?_)
   all_goals first | omega | (refine q_A ?_; simp [resAV,q_y]; done) | skip
  ·have lz:=okZ_len hz
   have tz:=okZ_trd hz
   cases t
   all_goals
    (refine q_H Tryz.func62 (fun F=>?_); simp only [q_z,q_y,Tryz.ntmps62,Tryz.results62])
    repeat' (first|(with_reducible first|apply q_a|apply q_b|apply q_c|apply q_d|apply q_e|apply q_f|apply q_g|apply q_h|apply q_i|apply q_j|apply q_k|apply q_m|apply q_n|apply q_o|apply q_p|refine q_l ?_)|((with_reducible first|refine q_q db7d_ok fun K hK=>?_|refine q_r db7d_ok fun K hK=>?_);simp (maxSteps:=2000000) only [go_sem,↓reduceIte,reduceCtorEq,Nat.reduceLeDiff,Nat.reduceLT,Nat.reduceBEq,Nat.reduceAdd,hz,t120,V32];(repeat1' with_reducible first|apply And.intro|(intro _;try exact q_v)|(refine hK _ ?_;clear hK K))<;>(try (clear hK K;exact q_u)))|(with_reducible refine q_s ?_;(first|apply q_J|apply q_K|apply q_L|apply q_M|apply q_N|apply q_O)<;>try (intro _;try exact q_v))|with_reducible refine q_t ?_)
    all_goals first | omega | (refine q_A ?_; simp [resAV,q_y, *]; done) | (refine q_A ?_; simp [resAV,q_y]; omega) | (refine q_A ?_; simp [resAV,q_y, *]; omega) | skip
 ·clear e0 l120 t120
  obtain ⟨nx,hnx⟩ : ∃ z : Int,(xs.length : Int) = z:=⟨_,rfl⟩
  rw [hnx] at hx
  by_cases k1 : k = 1
  ·subst k1
   have e0 : okD 1 s t xs e = (decide (xs = []) && !t && decide (e = 0)):=rfl
   rw [e0,hx]
   cases t
   all_goals
    (refine q_H Tryz.func62 (fun F=>?_); simp only [q_z,q_y,Tryz.ntmps62,Tryz.results62])
    repeat' (first|(with_reducible first|apply q_a|apply q_b|apply q_c|apply q_d|apply q_e|apply q_f|apply q_g|apply q_h|apply q_i|apply q_j|apply q_k|apply q_m|apply q_n|apply q_o|apply q_p|refine q_l ?_)|((with_reducible first|refine q_q db7d_ok fun K hK=>?_|refine q_r db7d_ok fun K hK=>?_);simp (maxSteps:=2000000) only [go_sem,↓reduceIte,reduceCtorEq,Nat.reduceLeDiff,Nat.reduceLT,Nat.reduceBEq,Nat.reduceAdd,hnx];(repeat1' with_reducible first|apply And.intro|(intro _;try exact q_v)|(refine hK _ ?_;clear hK K))<;>(try (clear hK K;exact q_u)))|(with_reducible refine q_s ?_;(first|apply q_J|apply q_K|apply q_L|apply q_M|apply q_N|apply q_O)<;>try (intro _;try exact q_v))|with_reducible refine q_t ?_)
    all_goals first | omega | (refine q_A ?_; simp [resAV,q_y, *]; done) | (refine q_A ?_; simp [resAV,q_y]; omega) | (refine q_A ?_; simp [resAV,q_y, *]; omega) | skip
  ·by_cases k2 : k = 2
   ·subst k2
    have e0 : okD 2 s t xs e = (decide (xs = []) && !t && decide (e = 0) && !s):=rfl
    rw [e0,hx]
    cases t <;> cases s
    all_goals
     (refine q_H Tryz.func62 (fun F=>?_); simp only [q_z,q_y,Tryz.ntmps62,Tryz.results62])
     repeat' (first|(with_reducible first|apply q_a|apply q_b|apply q_c|apply q_d|apply q_e|apply q_f|apply q_g|apply q_h|apply q_i|apply q_j|apply q_k|apply q_m|apply q_n|apply q_o|apply q_p|refine q_l ?_)|((with_reducible first|refine q_q db7d_ok fun K hK=>?_|refine q_r db7d_ok fun K hK=>?_);simp (maxSteps:=2000000) only [go_sem,↓reduceIte,reduceCtorEq,Nat.reduceLeDiff,Nat.reduceLT,Nat.reduceBEq,Nat.reduceAdd,hnx];(repeat1' with_reducible first|apply And.intro|(intro _;try exact q_v)|(refine hK _ ?_;clear hK K))<;>(try (clear hK K;exact q_u)))|(with_reducible refine q_s ?_;(first|apply q_J|apply q_K|apply q_L|apply q_M|apply q_N|apply q_O)<;>try (intro _;try exact q_v))|with_reducible refine q_t ?_)
     all_goals first | omega | (refine q_A ?_; simp [resAV,q_y, *]; done) | (refine q_A ?_; simp [resAV,q_y]; omega) | (refine q_A ?_; simp [resAV,q_y, *]; omega) | skip
   ·have e0 : okD k s t xs e = false:=by unfold okD; rw [if_neg k0,if_neg k1,if_neg k2]
    rw [e0]
    cases t
    all_goals
     (refine q_H Tryz.func62 (fun F=>?_); simp only [q_z,q_y,Tryz.ntmps62,Tryz.results62])
     repeat' (first|(with_reducible first|apply q_a|apply q_b|apply q_c|apply q_d|apply q_e|apply q_f|apply q_g|apply q_h|apply q_i|apply q_j|apply q_k|apply q_m|apply q_n|apply q_o|apply q_p|refine q_l ?_)|((with_reducible first|refine q_q db7d_ok fun K hK=>?_|refine q_r db7d_ok fun K hK=>?_);simp (maxSteps:=2000000) only [go_sem,↓reduceIte,reduceCtorEq,Nat.reduceLeDiff,Nat.reduceLT,Nat.reduceBEq,Nat.reduceAdd,hnx];(repeat1' with_reducible first|apply And.intro|(intro _;try exact q_v)|(refine hK _ ?_;clear hK K))<;>(try (clear hK K;exact q_u)))|(with_reducible refine q_s ?_;(first|apply q_J|apply q_K|apply q_L|apply q_M|apply q_N|apply q_O)<;>try (intro _;try exact q_v))|with_reducible refine q_t ?_)
     all_goals first | omega | (refine q_A ?_; simp [resAV,q_y, *]; done) | (refine q_A ?_; simp [resAV,q_y]; omega) | (refine q_A ?_; simp [resAV,q_y, *]; omega) | skip
def validDCT : CT:=mkCT [nDc] true fun l K=>match l with
 | [.inr [.i .i64 k,.b s,.b t,.ints .u32 xs,.i .i64 e]]=>(xs.length ≤ 140737488355328 ∧ InB 4294967296 xs) ∧ K (.c (.b (okD k s t xs e)))
 | _=>False
def de4 : Cfg:=addT 62 validDCT cf0
theorem de4_ok : TblOk Tryz.prog de4:=q_I cf0_ok Tryz.func62 fun l K h=>by
 split at h
 ·exact ⟨_,(validD_ret _ _ _ _ _ h.1.1 h.1.2).plain rfl,h.2⟩
 ·exact h.elim
set_option maxRecDepth 100000 in
set_option maxHeartbeats 1600000 in
theorem checkC_ret (p r mn mx : Int) : Ret Tryz.prog 63 false [.inr [.i .i64 p,.i .i64 r,.i .i64 mn,.i .i64 mx]] (.c (.b (okCx p r mn mx))):=by
 (refine q_H Tryz.func63 (fun F=>?_); simp only [q_z,q_y,Tryz.ntmps63,Tryz.results63])
 repeat' (first|(with_reducible first|apply q_a|apply q_b|apply q_c|apply q_d|apply q_e|apply q_f|apply q_g|apply q_h|apply q_i|apply q_j|apply q_k|apply q_m|apply q_n|apply q_o|apply q_p|refine q_l ?_)|((with_reducible first|refine q_q db7d_ok fun K hK=>?_|refine q_r db7d_ok fun K hK=>?_);simp (maxSteps:=2000000) only [go_sem,↓reduceIte,reduceCtorEq,Nat.reduceLeDiff,Nat.reduceLT,Nat.reduceBEq,Nat.reduceAdd];(repeat1' with_reducible first|apply And.intro|(intro _;try exact q_v)|(refine hK _ ?_;clear hK K))<;>(try (clear hK K;exact q_u)))|(with_reducible refine q_s ?_;(first|apply q_J|apply q_K|apply q_L|apply q_M|apply q_N|apply q_O)<;>try (intro _;try exact q_v))|with_reducible refine q_t ?_)
 all_goals first | (refine q_A ?_; simp [resAV,q_y,okCx, *]; done) | (refine q_A ?_; simp [resAV,q_y,okCx]; omega) | (refine q_A ?_; simp [resAV,q_y,okCx, *]; omega) | skip
def checkCCT : CT:=mkCT [.inr [none,none,none,none]] true fun l K=>match l with
 | [.inr [.i .i64 p,.i .i64 r,.i .i64 mn,.i .i64 mx]]=>K (.c (.b (okCx p r mn mx)))
 | _=>False
def de5 : Cfg:=addT 63 checkCCT cf0
theorem de5_ok : TblOk Tryz.prog de5:=q_I cf0_ok Tryz.func63 fun l K h=>by
 split at h
 ·exact ⟨_,(checkC_ret _ _ _ _).plain rfl,h⟩
 ·exact h.elim
def de6 : Cfg:=addT 78 atCT cf0
theorem de6_ok : TblOk Tryz.prog de6:=q_I cf0_ok Tryz.func78 fun l K h=>by
 split at h
 ·refine ⟨_,Ret.plain ?_ rfl,h⟩
  (refine q_H Tryz.func78 (fun F=>?_); simp only [q_z,q_y,Tryz.ntmps78,Tryz.results78])
  repeat' (first|(with_reducible first|apply q_a|apply q_b|apply q_c|apply q_d|apply q_e|apply q_f|apply q_g|apply q_h|apply q_i|apply q_j|apply q_k|apply q_m|apply q_n|apply q_o|apply q_p|refine q_l ?_)|((with_reducible first|refine q_q db7d_ok fun K hK=>?_|refine q_r db7d_ok fun K hK=>?_);simp (maxSteps:=2000000) only [go_sem,↓reduceIte,reduceCtorEq,Nat.reduceLeDiff,Nat.reduceLT,Nat.reduceBEq,Nat.reduceAdd];(repeat1' with_reducible first|apply And.intro|(intro _;try exact q_v)|(refine hK _ ?_;clear hK K))<;>(try (clear hK K;exact q_u)))|(with_reducible refine q_s ?_;(first|apply q_J|apply q_K|apply q_L|apply q_M|apply q_N|apply q_O)<;>try (intro _;try exact q_v))|with_reducible refine q_t ?_)
  exact q_A rfl
 ·exact h.elim
attribute [go_sem] validDCT checkCCT
def db8d : Cfg:=listT [(62,validDCT),(63,checkCCT),(78,atCT)] [34]
theorem db8d_ok : TblOk Tryz.prog db8d:=listE_ok (by simp only [List.mem_singleton,forall_eq]; exact flt) ⟨⟨de4,de4_ok,rfl⟩,⟨de5,de5_ok,rfl⟩,⟨de6,de6_ok,rfl⟩,trivial⟩
attribute [go_sem] db8d
def dcC (p r mn mx : Int) (l : List D5) : Int:=if okCx p r mn mx then dbC l else 4
def dcX (p r mn mx : Int) (l : List D5) : Int:=if okCx p r mn mx then dbX 0 l else -9
set_option maxRecDepth 100000 in
set_option maxHeartbeats 1600000 in
theorem dcheck_ret (p r mn mx : Int) (l : List D5) (hn : l.length ≤ 1000) (hl : allD 140737488355328 l) :
  Ret Tryz.prog 71 false [.inr [.i .i64 p,.i .i64 r,.i .i64 mn,.i .i64 mx],.inl (.sl 5 (l.map rowD))] (.g [.i .i64 (dcC p r mn mx l),.i .i64 (dcX p r mn mx l)]):=by
 unfold dcC dcX
 cases hc : okCx p r mn mx
 ·simp only [Bool.false_eq_true,if_false]
  (refine q_H Tryz.func71 (fun F=>?_); simp only [q_z,q_y,Tryz.ntmps71,Tryz.results71])
  repeat' (first|(with_reducible first|apply q_a|apply q_b|apply q_c|apply q_d|apply q_e|apply q_f|apply q_g|apply q_h|apply q_i|apply q_j|apply q_k|apply q_m|apply q_n|apply q_o|apply q_p|refine q_l ?_)|((with_reducible first|refine q_q db8d_ok fun K hK=>?_|refine q_r db8d_ok fun K hK=>?_);simp (maxSteps:=2000000) only [go_sem,↓reduceIte,reduceCtorEq,Nat.reduceLeDiff,Nat.reduceLT,Nat.reduceBEq,Nat.reduceAdd,hc,List.length_map];(repeat1' with_reducible first|apply And.intro|(intro _;try exact q_v)|(refine hK _ ?_;clear hK K))<;>(try (clear hK K;exact q_u)))|(with_reducible refine q_s ?_;(first|apply q_J|apply q_K|apply q_L|apply q_M|apply q_N|apply q_O)<;>try (intro _;try exact q_v))|with_reducible refine q_t ?_)
  all_goals first | omega | exact q_A rfl | skip
 simp only [if_true]
 (refine q_H Tryz.func71 (fun F=>?_); simp only [q_z,q_y,Tryz.ntmps71,Tryz.results71])
 repeat' (first|(with_reducible first|apply q_a|apply q_b|apply q_c|apply q_d|apply q_e|apply q_f|apply q_g|apply q_h|apply q_i|apply q_j|apply q_k|apply q_m|apply q_n|apply q_o|apply q_p|refine q_l ?_)|((with_reducible first|refine q_q db8d_ok fun K hK=>?_|refine q_r db8d_ok fun K hK=>?_);simp (maxSteps:=2000000) only [go_sem,↓reduceIte,reduceCtorEq,Nat.reduceLeDiff,Nat.reduceLT,Nat.reduceBEq,Nat.reduceAdd,hc,List.length_map];(repeat1' with_reducible first|apply And.intro|(intro _;try exact q_v)|(refine hK _ ?_;clear hK K))<;>(try (clear hK K;exact q_u)))|(with_reducible refine q_s ?_;(first|apply q_J|apply q_K|apply q_L|apply q_M|apply q_N|apply q_O)<;>try (intro _;try exact q_v))|with_reducible refine q_t ?_)
 all_goals first | omega | skip
 refine q_G (ι:={ i : Nat // i ≤ l.length ∧ dbC (l.drop i) = dbC l ∧ dbX i (l.drop i) = dbX 0 l }) (fun i=>⟨26,[(4,.bx 1 0),(11,.c (.sl 5 (l.map rowD))),(12,.c (.i .i64 l.length)),(13,.c (.i .i64 (i.1 : Nat)))],⟨[(1,[.c (.i .i64 0),.c (.i .i64 0)])],[],[]⟩,2⟩) (fun i=>l.length - i.1) ⟨0,by simp,rfl,rfl⟩ ?_ ?_
 ·exact q_D
 rintro ⟨i,g1,g2,g3⟩
 simp only at g1 g2 g3 ⊢
 obtain ⟨n1,n2⟩:=allD_get (i:=i) hl
 rcases Nat.lt_or_ge i l.length with hi | hi
 ·have hr:=rowD_get l i hi
  rw [drop_getD5 l i hi,dbC] at g2
  rw [drop_getD5 l i hi,dbX] at g3
  unfold okD5 at g2 g3
  cases ho : okD (l.getD i d0).1 (l.getD i d0).2.1 (l.getD i d0).2.2.1 (l.getD i d0).2.2.2.1 (l.getD i d0).2.2.2.2
  ·simp only [ho,Bool.false_eq_true,if_false] at g2 g3
   repeat' (first|(with_reducible first|apply q_a|apply q_b|apply q_c|apply q_d|apply q_e|apply q_f|apply q_g|apply q_h|apply q_i|apply q_j|apply q_k|apply q_m|apply q_n|apply q_o|apply q_p|refine q_l ?_)|((with_reducible first|refine q_q db8d_ok fun K hK=>?_|refine q_r db8d_ok fun K hK=>?_);simp (maxSteps:=2000000) only [go_sem,↓reduceIte,reduceCtorEq,Nat.reduceLeDiff,Nat.reduceLT,Nat.reduceBEq,Nat.reduceAdd,hr,ho,List.length_map];(repeat1' with_reducible first|apply And.intro|(intro _;try exact q_v)|(refine hK _ ?_;clear hK K))<;>(try (clear hK K;exact q_u)))|(with_reducible refine q_s ?_;(first|apply q_J|apply q_K|apply q_L|apply q_M|apply q_N|apply q_O)<;>try (intro _;try exact q_v))|with_reducible refine q_t ?_)
   all_goals first | omega | assumption | exact q_A (by rw [← g2,← g3]; rfl) | skip
  ·simp only [ho,if_true] at g2 g3
   repeat' (first|(with_reducible first|apply q_a|apply q_b|apply q_c|apply q_d|apply q_e|apply q_f|apply q_g|apply q_h|apply q_i|apply q_j|apply q_k|apply q_m|apply q_n|apply q_o|apply q_p|refine q_l ?_)|((with_reducible first|refine q_q db8d_ok fun K hK=>?_|refine q_r db8d_ok fun K hK=>?_);simp (maxSteps:=2000000) only [go_sem,↓reduceIte,reduceCtorEq,Nat.reduceLeDiff,Nat.reduceLT,Nat.reduceBEq,Nat.reduceAdd,hr,ho,List.length_map];(repeat1' with_reducible first|apply And.intro|(intro _;try exact q_v)|(refine hK _ ?_;clear hK K))<;>(try (clear hK K;exact q_u)))|(with_reducible refine q_s ?_;(first|apply q_J|apply q_K|apply q_L|apply q_M|apply q_N|apply q_O)<;>try (intro _;try exact q_v))|with_reducible refine q_t ?_)
   all_goals first | omega | assumption | skip
   refine q_F ⟨i + 1,hi,g2,by push_cast; exact g3⟩ ?_ (by simp only; omega)
   exact q_D
 ·have hi' : i = l.length:=by omega
  subst hi'
  rw [List.drop_length] at g2 g3
  repeat' (first|(with_reducible first|apply q_a|apply q_b|apply q_c|apply q_d|apply q_e|apply q_f|apply q_g|apply q_h|apply q_i|apply q_j|apply q_k|apply q_m|apply q_n|apply q_o|apply q_p|refine q_l ?_)|((with_reducible first|refine q_q db8d_ok fun K hK=>?_|refine q_r db8d_ok fun K hK=>?_);simp (maxSteps:=2000000) only [go_sem,↓reduceIte,reduceCtorEq,Nat.reduceLeDiff,Nat.reduceLT,Nat.reduceBEq,Nat.reduceAdd,List.length_map];(repeat1' with_reducible first|apply And.intro|(intro _;try exact q_v)|(refine hK _ ?_;clear hK K))<;>(try (clear hK K;exact q_u)))|(with_reducible refine q_s ?_;(first|apply q_J|apply q_K|apply q_L|apply q_M|apply q_N|apply q_O)<;>try (intro _;try exact q_v))|with_reducible refine q_t ?_)
  all_goals first | omega | exact q_A (by rw [← g2,← g3]; rfl) | skip
def dcheckCT : CT:=mkCT [.inr [none,none,none,none]] true fun l K=>match l with
 | [.inr [.i .i64 p,.i .i64 r,.i .i64 mn,.i .i64 mx],.inl (.sl 5 rows)]=>match unD rows with
  | some l=>(l.length ≤ 1000 ∧ allD 140737488355328 l) ∧ K (.g [.i .i64 (dcC p r mn mx l),.i .i64 (dcX p r mn mx l)])
  | none=>False
 | _=>False
def de7 : Cfg:=addT 71 dcheckCT cf0
theorem de7_ok : TblOk Tryz.prog de7:=q_I cf0_ok Tryz.func71 fun l K h=>by
 split at h
 ·split at h
  ·rename_i l hl
   rw [unD_some hl]
   exact ⟨_,(dcheck_ret _ _ _ _ l h.1.1 h.1.2).plain rfl,h.2⟩
  ·exact h.elim
 ·exact h.elim
attribute [go_sem] dcheckCT unD dcC dcX dbC dbX allD okD5
def eb5 : Cfg:=listT [(104,ivalidCT),(27,noIntCT),(106,ofCT),(105,figCT)] [34]
theorem eb5_ok : TblOk Tryz.prog eb5:=listE_ok (by simp only [List.mem_singleton,forall_eq]; exact flt) ⟨⟨jt1,jt1_ok,rfl⟩,⟨jt6,jt6_ok,rfl⟩,⟨db6,db6_ok,rfl⟩,⟨nt11,nt11_ok,rfl⟩,trivial⟩
attribute [go_sem] eb5
def noI (t : Bool) (xs : List Int) : Bool:=decide (xs = []) && !t
set_option maxHeartbeats 800000 in
theorem noIntA_ret (t : Bool) (xs : List Int) (hx : xs.length ≤ 140737488355328) : Ret Tryz.prog 27 false [.inr [.b t,.ints .u32 xs]] (.c (.b (noI t xs))):=by
 have hx' : decide (xs = []) = decide ((xs.length : Int) = 0):=by congr 1; exact propext ⟨fun h=>by rw [h]; rfl,fun h=>List.eq_nil_of_length_eq_zero (by omega)⟩
 unfold noI
 rw [hx']
 cases t
 all_goals
  (refine q_H Tryz.func27 (fun F=>?_); simp only [q_z,q_y,Tryz.ntmps27,Tryz.results27])
  repeat' (first|(with_reducible first|apply q_a|apply q_b|apply q_c|apply q_d|apply q_e|apply q_f|apply q_g|apply q_h|apply q_i|apply q_j|apply q_k|apply q_m|apply q_n|apply q_o|apply q_p|refine q_l ?_)|((with_reducible first|refine q_q eb5_ok fun K hK=>?_|refine q_r eb5_ok fun K hK=>?_);simp (maxSteps:=2000000) only [go_sem,↓reduceIte,reduceCtorEq,Nat.reduceLeDiff,Nat.reduceLT,Nat.reduceBEq,Nat.reduceAdd];(repeat1' with_reducible first|apply And.intro|(intro _;try exact q_v)|(refine hK _ ?_;clear hK K))<;>(try (clear hK K;exact q_u)))|(with_reducible refine q_s ?_;(first|apply q_J|apply q_K|apply q_L|apply q_M|apply q_N|apply q_O)<;>try (intro _;try exact q_v))|with_reducible refine q_t ?_)
  all_goals first | omega | exact q_A (by simp [resAV,q_y]) | skip
def noIntACT : CT:=mkCT [nP] true fun l K=>match l with
 | [.inr [.b t,.ints .u32 xs]]=>xs.length ≤ 140737488355328 ∧ K (.c (.b (noI t xs)))
 | _=>False
def er6 : Cfg:=addT 27 noIntACT cf0
theorem er6_ok : TblOk Tryz.prog er6:=q_I cf0_ok Tryz.func27 fun l K h=>by
 split at h
 ·exact ⟨_,(noIntA_ret _ _ h.1).plain rfl,h.2⟩
 ·exact h.elim
attribute [go_sem] noIntACT
def eb6 : Cfg:=listT [(104,ivalidCT),(27,noIntACT),(106,ofCT),(105,figCT)] [34]
theorem eb6_ok : TblOk Tryz.prog eb6:=listE_ok (by simp only [List.mem_singleton,forall_eq]; exact flt) ⟨⟨jt1,jt1_ok,rfl⟩,⟨er6,er6_ok,rfl⟩,⟨db6,db6_ok,rfl⟩,⟨nt11,nt11_ok,rfl⟩,trivial⟩
attribute [go_sem] eb6
set_option maxRecDepth 100000 in
set_option maxHeartbeats 1600000 in
theorem decimalOk_ret (k : Int) (s t : Bool) (xs : List Int) (e : Int) (h1 : xs.length ≤ 140737488355328) (b1 : InB 4294967296 xs) :
  Ret Tryz.prog 32 false [.inr [.i .i64 k,.b s,.b t,.ints .u32 xs,.i .i64 e]] (.c (.b (okD k s t xs e))):=by
 have ten : (10 : Int).toNat = 10:=rfl
 by_cases k0 : k = 0
 ·subst k0
  have e0 : okD 0 s t xs e = (okZ t xs && !t && decide (-1200 ≤ e ∧ e ≤ 1200) && decide (V 4294967296 xs < 10 ^ 120)):=rfl
  have hv : decide (V 4294967296 xs < 10 ^ 120) = decide ((ds (V 4294967296 xs) : Int) ≤ 120):=by congr 1; exact propext ⟨fun h=>by have:=lt120.1 h; omega,fun h=>lt120.2 (by omega)⟩
  rw [e0,hv]
  cases hz : okZ t xs
  ·(refine q_H Tryz.func32 (fun F=>?_); simp only [q_z,q_y,Tryz.ntmps32,Tryz.results32])
   repeat' (first|(with_reducible first|apply q_a|apply q_b|apply q_c|apply q_d|apply q_e|apply q_f|apply q_g|apply q_h|apply q_i|apply q_j|apply q_k|apply q_m|apply q_n|apply q_o|apply q_p|refine q_l ?_)|((with_reducible first|refine q_q eb6_ok fun K hK=>?_|refine q_r eb6_ok fun K hK=>?_);simp (maxSteps:=2000000) only [go_sem,↓reduceIte,reduceCtorEq,Nat.reduceLeDiff,Nat.reduceLT,Nat.reduceBEq,Nat.reduceAdd,hz];(repeat1' with_reducible first|apply And.intro|(intro _;try exact q_v)|(refine hK _ ?_;clear hK K))<;>(try (clear hK K;exact q_u)))|(with_reducible refine q_s ?_;(first|apply q_J|apply q_K|apply q_L|apply q_M|apply q_N|apply q_O)<;>try (intro _;try exact q_v))|with_reducible refine q_t ?_)
   all_goals first | omega | exact q_A (by simp [resAV,q_y]) | skip
  ·have lz:=okZ_len hz
   have l2 : (dg 65536 (V 4294967296 xs)).length ≤ 256:=(dg_half' _ 128).2 (by rw [dg_V 4294967296 (by omega) xs b1 (okZ_trd hz)]; exact lz)
   cases t
   all_goals
    (refine q_H Tryz.func32 (fun F=>?_); simp only [q_z,q_y,Tryz.ntmps32,Tryz.results32])
    repeat' (first|(with_reducible first|apply q_a|apply q_b|apply q_c|apply q_d|apply q_e|apply q_f|apply q_g|apply q_h|apply q_i|apply q_j|apply q_k|apply q_m|apply q_n|apply q_o|apply q_p|refine q_l ?_)|((with_reducible first|refine q_q eb6_ok fun K hK=>?_|refine q_r eb6_ok fun K hK=>?_);simp (maxSteps:=2000000) only [go_sem,↓reduceIte,reduceCtorEq,Nat.reduceLeDiff,Nat.reduceLT,Nat.reduceBEq,Nat.reduceAdd,hz,V65,ten,fig_len];(repeat1' with_reducible first|apply And.intro|(intro _;try exact q_v)|(refine hK _ ?_;clear hK K))<;>(try (clear hK K;exact q_u)))|(with_reducible refine q_s ?_;(first|apply q_J|apply q_K|apply q_L|apply q_M|apply q_N|apply q_O)<;>try (intro _;try exact q_v))|with_reducible refine q_t ?_)
    all_goals first | omega | (refine q_A ?_; simp [resAV,q_y, *]; done) | (refine q_A ?_; simp [resAV,q_y]; omega) | (refine q_A ?_; simp [resAV,q_y, *]; omega) | skip
 ·by_cases k1 : k = 1
  ·subst k1
   have e0 : okD 1 s t xs e = (noI t xs && decide (e = 0)):=rfl
   rw [e0]
   cases hi : noI t xs
   all_goals
    (refine q_H Tryz.func32 (fun F=>?_); simp only [q_z,q_y,Tryz.ntmps32,Tryz.results32])
    repeat' (first|(with_reducible first|apply q_a|apply q_b|apply q_c|apply q_d|apply q_e|apply q_f|apply q_g|apply q_h|apply q_i|apply q_j|apply q_k|apply q_m|apply q_n|apply q_o|apply q_p|refine q_l ?_)|((with_reducible first|refine q_q eb6_ok fun K hK=>?_|refine q_r eb6_ok fun K hK=>?_);simp (maxSteps:=2000000) only [go_sem,↓reduceIte,reduceCtorEq,Nat.reduceLeDiff,Nat.reduceLT,Nat.reduceBEq,Nat.reduceAdd,hi];(repeat1' with_reducible first|apply And.intro|(intro _;try exact q_v)|(refine hK _ ?_;clear hK K))<;>(try (clear hK K;exact q_u)))|(with_reducible refine q_s ?_;(first|apply q_J|apply q_K|apply q_L|apply q_M|apply q_N|apply q_O)<;>try (intro _;try exact q_v))|with_reducible refine q_t ?_)
    all_goals first | omega | (refine q_A ?_; simp [resAV,q_y, *]; done) | (refine q_A ?_; simp [resAV,q_y]; omega) | (refine q_A ?_; simp [resAV,q_y, *]; omega) | skip
  ·by_cases k2 : k = 2
   ·subst k2
    have e0 : okD 2 s t xs e = (noI t xs && decide (e = 0) && !s):=rfl
    rw [e0]
    cases hi : noI t xs <;> cases s
    all_goals
     (refine q_H Tryz.func32 (fun F=>?_); simp only [q_z,q_y,Tryz.ntmps32,Tryz.results32])
     repeat' (first|(with_reducible first|apply q_a|apply q_b|apply q_c|apply q_d|apply q_e|apply q_f|apply q_g|apply q_h|apply q_i|apply q_j|apply q_k|apply q_m|apply q_n|apply q_o|apply q_p|refine q_l ?_)|((with_reducible first|refine q_q eb6_ok fun K hK=>?_|refine q_r eb6_ok fun K hK=>?_);simp (maxSteps:=2000000) only [go_sem,↓reduceIte,reduceCtorEq,Nat.reduceLeDiff,Nat.reduceLT,Nat.reduceBEq,Nat.reduceAdd,hi];(repeat1' with_reducible first|apply And.intro|(intro _;try exact q_v)|(refine hK _ ?_;clear hK K))<;>(try (clear hK K;exact q_u)))|(with_reducible refine q_s ?_;(first|apply q_J|apply q_K|apply q_L|apply q_M|apply q_N|apply q_O)<;>try (intro _;try exact q_v))|with_reducible refine q_t ?_)
     all_goals first | omega | (refine q_A ?_; simp [resAV,q_y, *]; done) | (refine q_A ?_; simp [resAV,q_y]; omega) | (refine q_A ?_; simp [resAV,q_y, *]; omega) | skip
   ·have e0 : okD k s t xs e = false:=by unfold okD; rw [if_neg k0,if_neg k1,if_neg k2]
    rw [e0]
    (refine q_H Tryz.func32 (fun F=>?_); simp only [q_z,q_y,Tryz.ntmps32,Tryz.results32])
    repeat' (first|(with_reducible first|apply q_a|apply q_b|apply q_c|apply q_d|apply q_e|apply q_f|apply q_g|apply q_h|apply q_i|apply q_j|apply q_k|apply q_m|apply q_n|apply q_o|apply q_p|refine q_l ?_)|((with_reducible first|refine q_q eb6_ok fun K hK=>?_|refine q_r eb6_ok fun K hK=>?_);simp (maxSteps:=2000000) only [go_sem,↓reduceIte,reduceCtorEq,Nat.reduceLeDiff,Nat.reduceLT,Nat.reduceBEq,Nat.reduceAdd];(repeat1' with_reducible first|apply And.intro|(intro _;try exact q_v)|(refine hK _ ?_;clear hK K))<;>(try (clear hK K;exact q_u)))|(with_reducible refine q_s ?_;(first|apply q_J|apply q_K|apply q_L|apply q_M|apply q_N|apply q_O)<;>try (intro _;try exact q_v))|with_reducible refine q_t ?_)
    all_goals first | omega | (refine q_A ?_; simp [resAV,q_y, *]; done) | (refine q_A ?_; simp [resAV,q_y]; omega) | (refine q_A ?_; simp [resAV,q_y, *]; omega) | skip
def er7 : Cfg:=addT 32 validDCT cf0
theorem er7_ok : TblOk Tryz.prog er7:=q_I cf0_ok Tryz.func32 fun l K h=>by
 split at h
 ·exact ⟨_,(decimalOk_ret _ _ _ _ _ h.1.1 h.1.2).plain rfl,h.2⟩
 ·exact h.elim
end Go.Proofs.YtgkajjifbcmoeaaGreatDoor
