import Derived.Test.YtgkajjifbcmoeaaGreatDoorM21
import Derived.Test.YtgkajjifbcmoeaaGreatDoorM25
namespace Go.Proofs.YtgkajjifbcmoeaaGreatDoor
set_option linter.unusedSimpArgs false
set_option linter.unusedVariables false
open Go.Abs Go.Proofs.NatL

def jb6 : Cfg:=listT [(180,onesCT),(137,binaryCT),(129,doubleCT),(128,rcmpCT),(68,(rnumCT (fun _ _=>True) (· * ·))),(181,(rnumCT (fun xs ys=>V 65536 ys ≤ V 65536 xs) (· - ·)))] [34]
theorem jb6_ok : TblOk Tryz.prog jb6:=listE_ok (by simp only [List.mem_singleton,forall_eq]; exact flt) ⟨⟨nt8,nt8_ok,rfl⟩,⟨nt9,nt9_ok,rfl⟩,⟨rg2,rg2_ok,rfl⟩,⟨db7,db7_ok,rfl⟩,⟨db9,db9_ok,rfl⟩,⟨db10,db10_ok,rfl⟩,trivial⟩
attribute [go_sem] jb6
set_option maxRecDepth 100000 in
set_option maxHeartbeats 3200000 in
theorem divide_ret' (m n : Nat) (hn : 0 < n) (lm : (dg 65536 m).length ≤ 65536) (ln : (dg 65536 n).length ≤ 65536) :
  Ret Tryz.prog 117 false [.inl (.ints .i64 (dg 65536 m)),.inl (.ints .i64 (dg 65536 n))] (.t [.inl (.ints .i64 (dg 65536 (m / n))),.inl (.ints .i64 (dg 65536 (m % n)))]):=by
 have hbl : bl m ≤ 1048576:=Nat.le_trans (bl_dg lm) (by omega)
 have hL : (bs m).length ≤ 1048576:=by rw [bs_bl]; exact hbl
 (refine q_H Tryz.func117 (fun F=>?_); simp only [q_z,q_y,Tryz.ntmps117,Tryz.results117])
 repeat' (first|(with_reducible first|apply q_a|apply q_b|apply q_c|apply q_d|apply q_e|apply q_f|apply q_g|apply q_h|apply q_i|apply q_j|apply q_k|apply q_m|apply q_n|apply q_o|apply q_p|refine q_l ?_)|((with_reducible first|refine q_q jb6_ok fun K hK=>?_|refine q_r jb6_ok fun K hK=>?_);simp (maxSteps:=2000000) only [go_sem,↓reduceIte,reduceCtorEq,Nat.reduceLeDiff,Nat.reduceLT,Nat.reduceBEq,Nat.reduceAdd];(repeat1' with_reducible first|apply And.intro|(intro _;try exact q_v)|(refine hK _ ?_;clear hK K))<;>(try (clear hK K;exact q_u)))|(with_reducible refine q_s ?_;(first|apply q_J|apply q_K|apply q_L|apply q_M|apply q_N|apply q_O)<;>try (intro _;try exact q_v))|with_reducible refine q_t ?_)
 all_goals try omega
 refine q_G (ι:={ p : Nat × List Bool × Nat // p.1 ≤ (bs m).length ∧ p.2.1.length = (bs m).length - p.1 ∧ p.2.2 < n ∧ B2 p.2.1 * n + p.2.2 = B2 ((bs m).drop p.1) }) (fun p=>⟨41,[(1,.c (.ints .i64 (dg 65536 n))),(6,.c (.bools (bs m))),(7,.own 0 0),(8,.c (.ints .i64 (dg 65536 p.1.2.2))),(9,.c (.i .i64 ((p.1.1 : Int) - 1)))],⟨[],[(0,⟨0,4,1,.bools (List.replicate p.1.1 false ++ p.1.2.1)⟩)],[]⟩,1⟩) (fun p=>p.1.1) ⟨((bs m).length,[],0),by simp,by simp,hn,by simp [B2_nil]⟩ ?_ ?_
 ·((simp only [go_sem,↓reduceIte,reduceCtorEq,Nat.reduceLeDiff,Nat.reduceLT,Nat.reduceBEq,Nat.reduceAdd])<;>(try (simp;done))<;>(try ((simp only [C.i.injEq,C.b.injEq,C.ints.injEq,C.bools.injEq,List.append_cancel_left_eq,List.cons.injEq,true_and,and_true]);(repeat' with_reducible apply And.intro)<;>(first|rfl|assumption|omega|(simp;omega)|(congr 1;omega)|(congr 2;omega)))))
  all_goals (try simp [dg_zero])
 rintro ⟨⟨k,q,r⟩,g1,g2,g3,g4⟩
 simp only at g1 g2 g3 g4 ⊢
 have lr:=dg_len_mono (B:=65536) (by omega) (Nat.le_of_lt g3)
 rcases Nat.eq_zero_or_pos k with hk | hk
 ·subst hk
  rw [drop_bs] at g4
  have e1 : B2 q = m / n:=by
   rw [← g4,Nat.mul_comm,Nat.mul_add_div hn,Nat.div_eq_of_lt g3]; rfl
  have e2 : r = m % n:=by
   rw [← g4,Nat.mul_comm,Nat.mul_add_mod,Nat.mod_eq_of_lt g3]
  have hq : (List.replicate 0 false ++ q).length ≤ 16777216:=by simp; omega
  repeat' (first|(with_reducible first|apply q_a|apply q_b|apply q_c|apply q_d|apply q_e|apply q_f|apply q_g|apply q_h|apply q_i|apply q_j|apply q_k|apply q_m|apply q_n|apply q_o|apply q_p|refine q_l ?_)|((with_reducible first|refine q_q jb6_ok fun K hK=>?_|refine q_r jb6_ok fun K hK=>?_);simp (maxSteps:=2000000) only [go_sem,↓reduceIte,reduceCtorEq,Nat.reduceLeDiff,Nat.reduceLT,Nat.reduceBEq,Nat.reduceAdd];(repeat1' with_reducible first|apply And.intro|(intro _;try exact q_v)|(refine hK _ ?_;clear hK K))<;>(try (clear hK K;exact q_u)))|(with_reducible refine q_s ?_;(first|apply q_J|apply q_K|apply q_L|apply q_M|apply q_N|apply q_O)<;>try (intro _;try exact q_v))|with_reducible refine q_t ?_)
  all_goals first | assumption | omega | skip
  exact q_A (by simp only [resAV,List.replicate_zero,List.nil_append,e1,e2])
 ·have hd:=drop_bit (bs m) k hk g1
  have ek : ((k : Int) - 1).toNat = k - 1:=by omega
  have hq : (List.replicate k false ++ q).length = (bs m).length:=by simp; omega
  have hs:=set_zeros k q hk true
  have hx : ∀ b : Bool,(2 * r + b.toNat) < 2 * n:=fun b=>by cases b <;> simp <;> omega
  have lx : ∀ b : Bool,(dg 65536 (2 * r + b.toNat)).length ≤ 65537:=fun b=>by
   refine Nat.le_trans (dg_len_mono (by omega) (Nat.le_of_lt (hx b))) ?_
   rw [Nat.two_mul]; exact add_len (by omega) ln ln
  obtain ⟨c,hc⟩ : ∃ c,(bs m).getD (k - 1) false = c:=⟨_,rfl⟩
  have hx:=hx c
  have lx:=lx c
  rw [hc] at hd
  have hcn : (if c = true then 1 else 0) = c.toNat:=by cases c <;> rfl
  rw [hcn] at hd
  generalize hX : 2 * r + c.toNat = X at *
  by_cases hge : n ≤ X
  ·have h3:=(cmp3_ge X n).2 hge
   repeat' (first|(with_reducible first|apply q_a|apply q_b|apply q_c|apply q_d|apply q_e|apply q_f|apply q_g|apply q_h|apply q_i|apply q_j|apply q_k|apply q_m|apply q_n|apply q_o|apply q_p|refine q_l ?_)|((with_reducible first|refine q_q jb6_ok fun K hK=>?_|refine q_r jb6_ok fun K hK=>?_);simp (maxSteps:=2000000) only [go_sem,↓reduceIte,reduceCtorEq,Nat.reduceLeDiff,Nat.reduceLT,Nat.reduceBEq,Nat.reduceAdd,ek,hc,hX,hs,hq];(repeat1' with_reducible first|apply And.intro|(intro _;try exact q_v)|(refine hK _ ?_;clear hK K))<;>(try (clear hK K;exact q_u)))|(with_reducible refine q_s ?_;(first|apply q_J|apply q_K|apply q_L|apply q_M|apply q_N|apply q_O)<;>try (intro _;try exact q_v))|with_reducible refine q_t ?_)
   all_goals first | omega | skip
   refine q_F ⟨(k - 1,true :: q,X - n),by simp only; omega,by simp; omega,by simp only; omega,?_⟩ ?_ (by simp only; omega)
   ·simp only
    rw [hd,← g4,B2_cons,if_pos rfl,Nat.add_mul,Nat.mul_assoc]; omega
   ·exact q_D
  ·have h3 : ¬ 0 ≤ cmp3 X n:=fun h=>hge ((cmp3_ge X n).1 h)
   have hs0 : List.replicate (k - 1) false ++ false :: q = List.replicate k false ++ q:=by
    obtain ⟨j,rfl⟩ : ∃ j,k = j + 1:=⟨k - 1,by omega⟩
    rw [show j + 1 - 1 = j by omega,List.replicate_succ',List.append_assoc]; rfl
   repeat' (first|(with_reducible first|apply q_a|apply q_b|apply q_c|apply q_d|apply q_e|apply q_f|apply q_g|apply q_h|apply q_i|apply q_j|apply q_k|apply q_m|apply q_n|apply q_o|apply q_p|refine q_l ?_)|((with_reducible first|refine q_q jb6_ok fun K hK=>?_|refine q_r jb6_ok fun K hK=>?_);simp (maxSteps:=2000000) only [go_sem,↓reduceIte,reduceCtorEq,Nat.reduceLeDiff,Nat.reduceLT,Nat.reduceBEq,Nat.reduceAdd,ek,hc,hX,hq];(repeat1' with_reducible first|apply And.intro|(intro _;try exact q_v)|(refine hK _ ?_;clear hK K))<;>(try (clear hK K;exact q_u)))|(with_reducible refine q_s ?_;(first|apply q_J|apply q_K|apply q_L|apply q_M|apply q_N|apply q_O)<;>try (intro _;try exact q_v))|with_reducible refine q_t ?_)
   all_goals first | omega | skip
   refine q_F ⟨(k - 1,false :: q,X),by simp only; omega,by simp; omega,by simp only; omega,?_⟩ ?_ (by simp only; omega)
   ·simp only
    rw [hd,← g4,B2_cons,if_neg (by decide),Nat.add_zero,Nat.mul_assoc]; omega
   ·simp only [hs0]
    exact q_D

end Go.Proofs.YtgkajjifbcmoeaaGreatDoor

namespace Go.Proofs.NatL
set_option linter.unusedSimpArgs false
set_option linter.unusedVariables false
def okQ (s : Bool) (xs : List Int) (t : Bool) (ys : List Int) : Bool:=okZ s xs && okZ t ys && !t && decide (0 < ys.length) && decide (Nat.gcd (V 4294967296 xs) (V 4294967296 ys) = 1)
end Go.Proofs.NatL
namespace Go.Proofs.YtgkajjifbcmoeaaGreatDoor
set_option linter.unusedSimpArgs false
set_option linter.unusedVariables false
open Go.Abs Go.Proofs.NatL

abbrev nQ : Option C ⊕ List (Option C):=.inr [none,some (.ints .u32 []),none,some (.ints .u32 [])]
def qb1 : Cfg:=listT [(143,ivalidCT),(84,gcGoodCT),(175,atCT)] [34]
attribute [go_sem] qb1
def validQCT : CT:=mkCT [nQ] true fun l K=>match l with
 | [.inr [.b s,.ints .u32 xs,.b t,.ints .u32 ys]]=>(xs.length ≤ 140737488355328 ∧ ys.length ≤ 140737488355328 ∧ InB 4294967296 xs ∧ InB 4294967296 ys) ∧ K (.c (.b (okQ s xs t ys)))
 | _=>False
attribute [go_sem] validQCT
def qb2 : Cfg:=listT [(96,validQCT),(90,atCT)] [34]
attribute [go_sem] qb2
end Go.Proofs.YtgkajjifbcmoeaaGreatDoor

namespace Go.Proofs.NatL
set_option linter.unusedSimpArgs false
set_option linter.unusedVariables false
end Go.Proofs.NatL
namespace Go.Proofs.YtgkajjifbcmoeaaGreatDoor
set_option linter.unusedSimpArgs false
set_option linter.unusedVariables false
open Go.Abs Go.Proofs.NatL

def natCT (p : Nat → Nat → Prop) (f : Nat → Nat → AV) : CT:=mkCT [nU,nU] false fun l K=>match l with
 | [.inl (.ints .u32 xs),.inl (.ints .u32 ys)]=>(InB 4294967296 xs ∧ Trd xs ∧ xs.length ≤ 300 ∧ InB 4294967296 ys ∧ Trd ys ∧ ys.length ≤ 300 ∧ p (V 4294967296 xs) (V 4294967296 ys)) ∧ K (f (V 4294967296 xs) (V 4294967296 ys))
 | _=>False
def rGcdN (m n : Nat) : AV:=oneN (Nat.gcd m n)
attribute [go_sem] natCT rGcdN
def qb3 : Cfg:=listT [(90,atCT),(84,(natCT tr2 rGcdN)),(85,(natCT pos2 rDivN))] [34]
attribute [go_sem] qb3
end Go.Proofs.YtgkajjifbcmoeaaGreatDoor

namespace Go.Abs
set_option linter.unusedSimpArgs false
set_option linter.unusedVariables false
open Go.RowKit
variable {P : Program}
theorem seq_cut4 {F : Fr} {Q : Exit → St → Prop} {st : St} {a0 a1 a2 a3 Y : Code} {ι : Type} (mid : ι → St) (h1 : ∀ Y',(∀ i,AWp P F Y' Q (mid i)) → AWp P F (.seq a0 (.seq a1 (.seq a2 (.seq a3 Y')))) Q st) (h2 : ∀ i,AWp P F Y Q (mid i)) : AWp P F (.seq a0 (.seq a1 (.seq a2 (.seq a3 Y)))) Q st:=h1 Y h2
end Go.Abs
