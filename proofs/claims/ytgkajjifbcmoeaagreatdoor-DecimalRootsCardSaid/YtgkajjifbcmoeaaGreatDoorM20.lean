import Derived.Test.YtgkajjifbcmoeaaGreatDoorM16
import Derived.Test.YtgkajjifbcmoeaaGreatDoorM19
namespace Go.Proofs.YtgkajjifbcmoeaaGreatDoor
set_option linter.unusedSimpArgs false
set_option linter.unusedVariables false
open Go.Abs Go.Proofs.NatL

theorem okN_dg' {n : Nat} (h : (dg 4294967296 n).length ≤ 600) : okN (dg 4294967296 n) = true:=by
 unfold okN; exact decide_eq_true ⟨h,dg_trd 4294967296 (by omega) n⟩
theorem okN_d (n : Nat) : okN (dg 4294967296 n) = decide ((dg 4294967296 n).length ≤ 600):=by
 unfold okN
 congr 1
 exact propext ⟨fun h=>h.1,fun h=>⟨h,dg_trd 4294967296 (by omega) n⟩⟩
theorem fit_small {n : Nat} (h : (dg 4294967296 n).length ≤ 600) : fitN (dg 4294967296 n) = dg 4294967296 n ∧ fitC (dg 4294967296 n) = 0 ∧ fitI (dg 4294967296 n) = 0:=by
 obtain ⟨h1,h2,h3⟩:=fit_dg n
 rw [h1,h2,h3]; simp [h]

theorem dvGood_ok (xs ys : List Int) (h1 : okN xs = true) (h2 : okN ys = true) (h3 : InB 4294967296 xs) (h4 : InB 4294967296 ys) (h5 : 0 < V 4294967296 ys) :
  Ret Tryz.prog 85 false [.inl (.ints .u32 xs),.inl (.ints .u32 ys)] (.t [.inl (.ints .u32 (dg 4294967296 (V 4294967296 xs / V 4294967296 ys))),.inl (.ints .u32 (dg 4294967296 (V 4294967296 xs % V 4294967296 ys))),.inr [.i .i64 0,.i .i64 0]]):=by
 have:=DivMod_ret _ _ (okN_LB h1) (okN_LB h2) h3 h4
 have hn : ys ≠ []:=fun e=>by subst e; simp [V] at h5
 simp only [dvQ,dvR,dvC,dvI,dvE,(chkC_zero h1 h2).1,hn,ne_eq,not_true_eq_false,not_false_eq_true,and_self,decide_true,if_true,if_false] at this
 exact this
def digG : CT:=mkCT [.inl (some (.ints .u32 []))] false fun l K=>match l with
 | [.inl (.ints .u32 xs),.inl (.i .i64 b)]=>(InB 4294967296 xs ∧ okN xs = true ∧ 2 ≤ b ∧ b ≤ 36) ∧ K (.t [.inl (.ints .i64 (dg b.toNat (V 4294967296 xs)).reverse),.inr [.i .i64 0,.i .i64 0]])
 | _=>False
def nt5 : Cfg:=addT 152 digG cf0
theorem nt5_ok : TblOk Tryz.prog nt5:=q_I cf0_ok Tryz.func152 fun l K h=>by
 split at h
 ·rename_i xs b
  obtain ⟨⟨h2,h3,h4,h5⟩,h⟩:=h
  obtain ⟨n,rfl⟩ : ∃ n : Nat,b = n:=⟨b.toNat,by omega⟩
  exact ⟨_,Digits_good xs n h2 h3 (by omega) (by omega),by simpa using h⟩
 ·exact h.elim
def fromG : CT:=mkCT [.inl (some (.ints .i64 []))] false fun l K=>match l with
 | [.inl (.ints .i64 ds),.inl (.i .i64 b)]=>(ds.length ≤ 140737488355328 ∧ InB b.toNat ds ∧ 2 ≤ b ∧ b ≤ 36) ∧ K (.t [.inl (.ints .u32 (fitN (dg 4294967296 (rdv b.toNat ds)))),.inr [.i .i64 (fitC (dg 4294967296 (rdv b.toNat ds))),.i .i64 (fitI (dg 4294967296 (rdv b.toNat ds)))]])
 | _=>False
def nt6 : Cfg:=addT 177 fromG cf0
theorem nt6_ok : TblOk Tryz.prog nt6:=q_I cf0_ok Tryz.func177 fun l K h=>by
 split at h
 ·rename_i ds b
  obtain ⟨⟨h1,h2,h3,h4⟩,h⟩:=h
  obtain ⟨n,rfl⟩ : ∃ n : Nat,b = n:=⟨b.toNat,by omega⟩
  exact ⟨_,From_good ds n (by simpa using h2) (by omega) (by omega) h1,by simpa using h⟩
 ·exact h.elim
def figCT : CT:=mkCT [.inl (some (.ints .i64 []))] false fun l K=>match l with
 | [.inl (.ints .i64 xs),.inl (.i .i64 b)]=>(xs.length ≤ 65536 ∧ InB 65536 xs ∧ Trd xs ∧ 2 ≤ b ∧ b ≤ 36) ∧ K (.c (.ints .i64 (dg b.toNat (V 65536 xs)).reverse))
 | _=>False
def nt11 : Cfg:=addT 105 figCT cf0
theorem nt11_ok : TblOk Tryz.prog nt11:=q_I cf0_ok Tryz.func105 fun l K h=>by
 split at h
 ·rename_i xs b
  obtain ⟨⟨h1,h2,h3,h4,h5⟩,h⟩:=h
  obtain ⟨n,rfl⟩ : ∃ n : Nat,b = n:=⟨b.toNat,by omega⟩
  have e:=dg_V 65536 (by omega) xs h2 h3
  have:=figures_ret (V 65536 xs) n (by rw [e]; exact h1) (by omega) (by omega)
  rw [e] at this
  exact ⟨_,this,by simpa using h⟩
 ·exact h.elim
attribute [go_sem] digG fromG figCT okN_d V65 I65 T65 V32 I32 T32
end Go.Proofs.YtgkajjifbcmoeaaGreatDoor

namespace Go.Proofs.NatL
set_option linter.unusedSimpArgs false
set_option linter.unusedVariables false

def sv (B : Nat) (s : Bool) (xs : List Int) : Int:=if s then -(V B xs : Int) else V B xs
def sgz (z : Int) (b : Bool) : Bool:=if z = 0 then b else decide (z < 0)

theorem sv_sgz {B : Nat} (hB : 2 ≤ B) (z : Int) (b : Bool) : sv B (sgz z b) (dg B z.natAbs) = z:=by
 unfold sv sgz
 rw [V_dg B hB]
 by_cases h0 : z = 0
 ·subst h0; simp
 ·rw [if_neg h0]
  by_cases h : z < 0
  ·rw [if_pos (by simpa using h)]; omega
  ·rw [if_neg (by simpa using h)]; omega
theorem sv_sg {B : Nat} (hB : 2 ≤ B) (z : Int) : sv B (decide (z < 0)) (dg B z.natAbs) = z:=by
 have:=sv_sgz hB z false
 unfold sgz at this
 by_cases h0 : z = 0
 ·subst h0; simp [sv,dg_zero,V]
 ·rw [if_neg h0] at this; exact this
theorem sv32 (z : Int) : sv 4294967296 (decide (z < 0)) (dg 4294967296 z.natAbs) = z:=sv_sg (by omega) z
theorem sv65 (z : Int) : sv 65536 (decide (z < 0)) (dg 65536 z.natAbs) = z:=sv_sg (by omega) z
theorem svz65 (z : Int) (b : Bool) : sv 65536 (sgz z b) (dg 65536 z.natAbs) = z:=sv_sgz (by omega) z b
theorem sv_abs (B : Nat) (s : Bool) (xs : List Int) : (sv B s xs).natAbs = V B xs:=by cases s <;> simp [sv]
instance decTrd (xs : List Int) : Decidable (Trd xs):=by unfold Trd; infer_instance
def sg (s : Bool) (m : Nat) : Int:=if s then -(m : Int) else m
theorem sv_d {B : Nat} (hB : 2 ≤ B) (s : Bool) (m : Nat) : sv B s (dg B m) = sg s m:=by unfold sv sg; rw [V_dg B hB]
theorem sgt (m : Nat) : sg true m = -(m : Int):=rfl
theorem sgf (m : Nat) : sg false m = m:=rfl
theorem sg_self (a : Int) : sg (decide (a < 0)) a.natAbs = a:=by
 by_cases h : a < 0
 ·rw [decide_eq_true h,sgt]; omega
 ·rw [decide_eq_false h,sgf]; omega
def okZ (s : Bool) (xs : List Int) : Bool:=decide (xs.length ≤ 128 ∧ ((xs = [] ∧ s = false) ∨ (xs ≠ [] ∧ Trd xs)))
theorem okZ_eq {s : Bool} {xs : List Int} (h : okZ s xs = true) (bx : InB 4294967296 xs) :
  s = decide (sv 4294967296 s xs < 0) ∧ xs = dg 4294967296 (sv 4294967296 s xs).natAbs ∧ xs.length ≤ 128:=by
 unfold okZ at h
 obtain ⟨hl,h⟩:=of_decide_eq_true h
 rw [sv_abs]
 rcases h with ⟨rfl,rfl⟩ | ⟨hne,ht⟩
 ·exact ⟨by simp [sv,V],by simp [V,dg_zero],hl⟩
 ·have hd:=dg_V 4294967296 (by omega) xs bx ht
  have h0 : 0 < V 4294967296 xs:=by
   rcases Nat.eq_zero_or_pos (V 4294967296 xs) with h | h
   ·rw [h,dg_zero] at hd; exact absurd hd.symm hne
   ·exact h
  refine ⟨?_,hd.symm,hl⟩
  cases s
  ·rw [decide_eq_false]; simp [sv]
  ·rw [decide_eq_true]; simp [sv]; omega
theorem okZ_g (z : Int) : okZ (decide (z < 0)) (dg 4294967296 z.natAbs) = decide ((dg 4294967296 z.natAbs).length ≤ 128):=by
 unfold okZ
 congr 1
 refine propext ⟨fun h=>h.1,fun h=>⟨h,?_⟩⟩
 by_cases h0 : z = 0
 ·subst h0; left; exact ⟨rfl,rfl⟩
 ·right
  refine ⟨fun e=>?_,dg_trd _ (by omega) _⟩
  have:=(dg_len_pos 4294967296 z.natAbs (by omega)).2 (by omega)
  rw [e] at this; simp at this
theorem okZ_len {s : Bool} {xs : List Int} (h : okZ s xs = true) : xs.length ≤ 128:=(of_decide_eq_true h).1
theorem okZ_trd {s : Bool} {xs : List Int} (h : okZ s xs = true) : Trd xs:=by
 rcases (of_decide_eq_true h).2 with ⟨rfl,_⟩ | ⟨_,h⟩
 ·exact .inl rfl
 ·exact h

def cl (k : Nat) (z : Int) : Int:=if (dg 4294967296 z.natAbs).length ≤ k then z else 0
def clC (k : Nat) (z : Int) : Int:=if (dg 4294967296 z.natAbs).length ≤ k then 0 else 14
def clI (k : Nat) (z : Int) : Int:=if (dg 4294967296 z.natAbs).length ≤ k then 0 else -1
theorem cl_fit {k : Nat} {z : Int} (h : (dg 4294967296 z.natAbs).length ≤ k) : cl k z = z ∧ clC k z = 0 ∧ clI k z = 0:=by simp [cl,clC,clI,h]
theorem cl_big {k : Nat} {z : Int} (h : ¬ (dg 4294967296 z.natAbs).length ≤ k) : cl k z = 0 ∧ clC k z = 14 ∧ clI k z = -1:=by simp [cl,clC,clI,h]
theorem dg_len_iff' {B : Nat} (hB : 2 ≤ B) (n k : Nat) : (dg B n).length ≤ k ↔ n < B ^ k:=by
 constructor
 ·intro h; exact lt_of_len hB h
 ·exact dg_len_le hB n k
theorem dg_half' (n k : Nat) : (dg 65536 n).length ≤ 2 * k ↔ (dg 4294967296 n).length ≤ k:=by
 rw [dg_len_iff' (by omega),dg_len_iff' (by omega),Nat.pow_mul]
def fbC : List (Bool × List Int) → Int
 | []=>0
 | p :: l=>if okZ p.1 p.2 then fbC l else 6
def fbX : Int → List (Bool × List Int) → Int
 | _,[]=>0
 | i,p :: l=>if okZ p.1 p.2 then fbX (i + 1) l else -1 - i
def allL (n : Nat) : List (Bool × List Int) → Prop
 | []=>True
 | p :: l=>p.2.length ≤ n ∧ allL n l
theorem allL_get {n : Nat} : ∀ {l : List (Bool × List Int)} {i : Nat},allL n l → (l.getD i (false,[])).2.length ≤ n
 | [],i,_=>by simp
 | p :: l,0,h=>h.1
 | p :: l,i + 1,h=>by simpa using allL_get (i:=i) h.2
theorem drop_getD (l : List (Bool × List Int)) (i : Nat) (h : i < l.length) : l.drop i = l.getD i (false,[]) :: l.drop (i + 1):=by
 rw [List.drop_eq_getElem_cons h,List.getD_eq_getElem?_getD,List.getElem?_eq_getElem h]; rfl
theorem okZ_iff (s : Bool) (xs : List Int) (b : Bool) (h : b = true ↔ ((xs.length : Int) ≤ 128 ∧ (((xs.length : Int) = 0 ∧ s = false) ∨ (0 < (xs.length : Int) ∧ xs.getD ((xs.length : Int) - 1).toNat 0 ≠ 0)))) : b = okZ s xs:=by
 have e : ((xs.length : Int) - 1).toNat = xs.length - 1:=by omega
 have h2 : okZ s xs = true ↔ ((xs.length : Int) ≤ 128 ∧ (((xs.length : Int) = 0 ∧ s = false) ∨ (0 < (xs.length : Int) ∧ xs.getD ((xs.length : Int) - 1).toNat 0 ≠ 0))):=by
  unfold okZ Trd
  rw [decide_eq_true_iff,e]
  have e1 : xs = [] ↔ (xs.length : Int) = 0:=by rw [← List.length_eq_zero_iff]; omega
  have e2 : xs.length = 0 ↔ (xs.length : Int) = 0:=by omega
  rw [e1,e2,ne_eq,e1]
  constructor
  ·rintro ⟨h1,h3 | ⟨h3,h4 | h4⟩⟩
   ·exact ⟨by omega,.inl h3⟩
   ·exact absurd h4 h3
   ·exact ⟨by omega,.inr ⟨by omega,h4⟩⟩
  ·rintro ⟨h1,h3 | ⟨h3,h4⟩⟩
   ·exact ⟨by omega,.inl h3⟩
   ·exact ⟨by omega,.inr ⟨by omega,.inr h4⟩⟩
 rw [Bool.eq_iff_iff,h,h2]

end Go.Proofs.NatL

namespace Go.Proofs.YtgkajjifbcmoeaaGreatDoor
set_option linter.unusedSimpArgs false
set_option linter.unusedVariables false
open Go.Abs Go.Proofs.NatL

theorem iat_ret (c i : Int) : Ret Tryz.prog 175 false [.inl (.i .i64 c),.inl (.i .i64 i)] (.g [.i .i64 c,.i .i64 i]):=by
 (refine q_H Tryz.func175 (fun F=>?_); simp only [q_z,q_y,Tryz.ntmps175,Tryz.results175])
 repeat' (first|(with_reducible first|apply q_a|apply q_b|apply q_c|apply q_d|apply q_e|apply q_f|apply q_g|apply q_h|apply q_i|apply q_j|apply q_k|apply q_m|apply q_n|apply q_o|apply q_p|refine q_l ?_)|((with_reducible first|refine q_q cf0_ok fun K hK=>?_|refine q_r cf0_ok fun K hK=>?_);simp (maxSteps:=2000000) only [go_sem,↓reduceIte,reduceCtorEq,Nat.reduceLeDiff,Nat.reduceLT,Nat.reduceBEq,Nat.reduceAdd];(repeat1' with_reducible first|apply And.intro|intro _|(refine hK _ ?_;clear hK K))<;>(try (clear hK K;exact q_u)))|(with_reducible refine q_s ?_;(first|apply q_J|apply q_K|apply q_L|apply q_M|apply q_N|apply q_O)<;>try intro _)|with_reducible refine q_t ?_)
 exact q_A rfl
def it1 : Cfg:=addT 175 atCT cf0
theorem it1_ok : TblOk Tryz.prog it1:=q_I cf0_ok Tryz.func175 fun l K h=>by
 split at h
 ·exact ⟨_,(iat_ret _ _).plain rfl,h⟩
 ·exact h.elim

set_option maxHeartbeats 800000 in
theorem ivalid_ret (s : Bool) (xs : List Int) (hx : xs.length ≤ 140737488355328) : Ret Tryz.prog 143 false [.inr [.b s,.ints .u32 xs]] (.c (.b (okZ s xs))):=by
 (refine q_H Tryz.func143 (fun F=>?_); simp only [q_z,q_y,Tryz.ntmps143,Tryz.results143])
 repeat' (first|(with_reducible first|apply q_a|apply q_b|apply q_c|apply q_d|apply q_e|apply q_f|apply q_g|apply q_h|apply q_i|apply q_j|apply q_k|apply q_m|apply q_n|apply q_o|apply q_p|refine q_l ?_)|((with_reducible first|refine q_q cf0_ok fun K hK=>?_|refine q_r cf0_ok fun K hK=>?_);simp (maxSteps:=2000000) only [go_sem,↓reduceIte,reduceCtorEq,Nat.reduceLeDiff,Nat.reduceLT,Nat.reduceBEq,Nat.reduceAdd];(repeat1' with_reducible first|apply And.intro|intro _|(refine hK _ ?_;clear hK K))<;>(try (clear hK K;exact q_u)))|(with_reducible refine q_s ?_;(first|apply q_J|apply q_K|apply q_L|apply q_M|apply q_N|apply q_O)<;>try intro _)|with_reducible refine q_t ?_)
 all_goals refine q_A ?_
 all_goals simp only [resAV,q_y,AV.c.injEq,C.b.injEq]
 all_goals refine okZ_iff s xs _ ?_
 all_goals first | (simp_all; done) | (simp_all; omega)
def ivalidCT : CT:=mkCT [.inr [none,some (.ints .u32 [])]] true fun l K=>match l with
 | [.inr [.b s,.ints .u32 xs]]=>xs.length ≤ 140737488355328 ∧ K (.c (.b (okZ s xs)))
 | _=>False
def it2 : Cfg:=addT 143 ivalidCT cf0
theorem it2_ok : TblOk Tryz.prog it2:=q_I cf0_ok Tryz.func143 fun l K h=>by
 split at h
 ·exact ⟨_,(ivalid_ret _ _ h.1).plain rfl,h.2⟩
 ·exact h.elim
attribute [go_sem] ivalidCT listT
def ib1 : Cfg:=listT [(175,atCT),(143,ivalidCT)] [34]
theorem ib1_ok : TblOk Tryz.prog ib1:=listE_ok (by simp only [List.mem_singleton,forall_eq]; exact flt) ⟨⟨it1,it1_ok,rfl⟩,⟨it2,it2_ok,rfl⟩,trivial⟩
attribute [go_sem] ib1
def rowI (p : Bool × List Int) : List C:=[.b p.1,.ints .u32 p.2]
def unI : List (List C) → Option (List (Bool × List Int))
 | []=>some []
 | [.b s,.ints .u32 xs] :: r=>(unI r).map ((s,xs) :: ·)
 | _ :: _=>none
theorem unI_some : ∀ {rows : List (List C)} {l : List (Bool × List Int)},unI rows = some l → rows = l.map rowI
 | [],l,h=>by simp [unI] at h; subst h; rfl
 | r :: rows,l,h=>by
  unfold unI at h
  split at h
  ·rename_i h0; cases h0
  ·rename_i s xs r' h0
   cases h0
   obtain ⟨l',h1,rfl⟩:=Option.map_eq_some_iff.1 h
   rw [unI_some h1]; rfl
  ·cases h
theorem rowI_get (l : List (Bool × List Int)) (i : Nat) (h : i < l.length) : (l.map rowI).getD i [] = [.b (l.getD i (false,[])).1,.ints .u32 (l.getD i (false,[])).2]:=by
 simp [List.getD_eq_getElem?_getD,List.getElem?_eq_getElem h,rowI]

set_option maxHeartbeats 1600000 in
theorem icheck_ret (l : List (Bool × List Int)) (hn : l.length ≤ 1000) (hl : allL 140737488355328 l) :
  Ret Tryz.prog 151 false [.inl (.sl 2 (l.map rowI))] (.g [.i .i64 (fbC l),.i .i64 (fbX 0 l)]):=by
 (refine q_H Tryz.func151 (fun F=>?_); simp only [q_z,q_y,Tryz.ntmps151,Tryz.results151])
 repeat' (first|(with_reducible first|apply q_a|apply q_b|apply q_c|apply q_d|apply q_e|apply q_f|apply q_g|apply q_h|apply q_i|apply q_j|apply q_k|apply q_m|apply q_n|apply q_o|apply q_p|refine q_l ?_)|((with_reducible first|refine q_q ib1_ok fun K hK=>?_|refine q_r ib1_ok fun K hK=>?_);simp (maxSteps:=2000000) only [go_sem,↓reduceIte,reduceCtorEq,Nat.reduceLeDiff,Nat.reduceLT,Nat.reduceBEq,Nat.reduceAdd,List.length_map];(repeat1' with_reducible first|apply And.intro|intro _|(refine hK _ ?_;clear hK K))<;>(try (clear hK K;exact q_u)))|(with_reducible refine q_s ?_;(first|apply q_J|apply q_K|apply q_L|apply q_M|apply q_N|apply q_O)<;>try intro _)|with_reducible refine q_t ?_)
 refine q_G (ι:={ i : Nat // i ≤ l.length ∧ fbC (l.drop i) = fbC l ∧ fbX i (l.drop i) = fbX 0 l }) (fun i=>⟨20,[(2,.bx 0 0),(5,.c (.sl 2 (l.map rowI))),(6,.c (.i .i64 l.length)),(7,.c (.i .i64 (i.1 : Nat)))],⟨[(0,[.c (.i .i64 0),.c (.i .i64 0)])],[],[]⟩,1⟩) (fun i=>l.length - i.1) ⟨0,by simp,rfl,rfl⟩ ?_ ?_
 ·exact q_D
 rintro ⟨i,g1,g2,g3⟩
 simp only at g1 g2 g3 ⊢
 have hlen:=allL_get (i:=i) hl
 rcases Nat.lt_or_ge i l.length with hi | hi
 ·have hr:=rowI_get l i hi
  rw [drop_getD l i hi,fbC] at g2
  rw [drop_getD l i hi,fbX] at g3
  cases ho : okZ (l.getD i (false,[])).1 (l.getD i (false,[])).2
  ·simp only [ho,Bool.false_eq_true,if_false] at g2 g3
   repeat' (first|(with_reducible first|apply q_a|apply q_b|apply q_c|apply q_d|apply q_e|apply q_f|apply q_g|apply q_h|apply q_i|apply q_j|apply q_k|apply q_m|apply q_n|apply q_o|apply q_p|refine q_l ?_)|((with_reducible first|refine q_q ib1_ok fun K hK=>?_|refine q_r ib1_ok fun K hK=>?_);simp (maxSteps:=2000000) only [go_sem,↓reduceIte,reduceCtorEq,Nat.reduceLeDiff,Nat.reduceLT,Nat.reduceBEq,Nat.reduceAdd,hr,ho,List.length_map];(repeat1' with_reducible first|apply And.intro|(intro _;try exact q_v)|(refine hK _ ?_;clear hK K))<;>(try (clear hK K;exact q_u)))|(with_reducible refine q_s ?_;(first|apply q_J|apply q_K|apply q_L|apply q_M|apply q_N|apply q_O)<;>try (intro _;try exact q_v))|with_reducible refine q_t ?_)
   exact q_A (by rw [← g2,← g3]; rfl)
  ·simp only [ho,if_true] at g2 g3
   repeat' (first|(with_reducible first|apply q_a|apply q_b|apply q_c|apply q_d|apply q_e|apply q_f|apply q_g|apply q_h|apply q_i|apply q_j|apply q_k|apply q_m|apply q_n|apply q_o|apply q_p|refine q_l ?_)|((with_reducible first|refine q_q ib1_ok fun K hK=>?_|refine q_r ib1_ok fun K hK=>?_);simp (maxSteps:=2000000) only [go_sem,↓reduceIte,reduceCtorEq,Nat.reduceLeDiff,Nat.reduceLT,Nat.reduceBEq,Nat.reduceAdd,hr,ho,List.length_map];(repeat1' with_reducible first|apply And.intro|(intro _;try exact q_v)|(refine hK _ ?_;clear hK K))<;>(try (clear hK K;exact q_u)))|(with_reducible refine q_s ?_;(first|apply q_J|apply q_K|apply q_L|apply q_M|apply q_N|apply q_O)<;>try (intro _;try exact q_v))|with_reducible refine q_t ?_)
   refine q_F ⟨i + 1,hi,g2,by push_cast; exact g3⟩ ?_ (by simp only; omega)
   exact q_D
 ·have hi' : i = l.length:=by omega
  subst hi'
  rw [List.drop_length] at g2 g3
  repeat' (first|(with_reducible first|apply q_a|apply q_b|apply q_c|apply q_d|apply q_e|apply q_f|apply q_g|apply q_h|apply q_i|apply q_j|apply q_k|apply q_m|apply q_n|apply q_o|apply q_p|refine q_l ?_)|((with_reducible first|refine q_q ib1_ok fun K hK=>?_|refine q_r ib1_ok fun K hK=>?_);simp (maxSteps:=2000000) only [go_sem,↓reduceIte,reduceCtorEq,Nat.reduceLeDiff,Nat.reduceLT,Nat.reduceBEq,Nat.reduceAdd,List.length_map];(repeat1' with_reducible first|apply And.intro|(intro _;try exact q_v)|(refine hK _ ?_;clear hK K))<;>(try (clear hK K;exact q_u)))|(with_reducible refine q_s ?_;(first|apply q_J|apply q_K|apply q_L|apply q_M|apply q_N|apply q_O)<;>try (intro _;try exact q_v))|with_reducible refine q_t ?_)
  exact q_A (by rw [← g2,← g3]; rfl)
def icheckCT : CT:=mkCT [] true fun l K=>match l with
 | [.inl (.sl 2 rows)]=>match unI rows with
  | some l=>(l.length ≤ 1000 ∧ allL 140737488355328 l) ∧ K (.g [.i .i64 (fbC l),.i .i64 (fbX 0 l)])
  | none=>False
 | _=>False
def it3 : Cfg:=addT 151 icheckCT cf0
theorem it3_ok : TblOk Tryz.prog it3:=q_I cf0_ok Tryz.func151 fun l K h=>by
 split at h
 ·split at h
  ·rename_i l hl
   rw [unI_some hl]
   exact ⟨_,(icheck_ret l h.1.1 h.1.2).plain rfl,h.2⟩
  ·exact h.elim
 ·exact h.elim
attribute [go_sem] icheckCT unI fbC fbX allL
abbrev gI (z : Int) : List C:=[.b (decide (z < 0)),.ints .u32 (dg 4294967296 z.natAbs)]
abbrev nP : Option C ⊕ List (Option C):=.inr [none,some (.ints .u32 [])]
theorem dg_zeroA (B : Nat) : dg B (0 : Int).natAbs = []:=rfl

set_option maxHeartbeats 800000 in
theorem isigned_ret (s : Bool) (xs : List Int) (hx : xs.length ≤ 140737488355328) (bx : InB 4294967296 xs) (tx : Trd xs) :
    Ret Tryz.prog 178 false [.inl (.b s), .inl (.ints .u32 xs)] (.t [.inr (gI (cl 128 (sv 4294967296 s xs))), .inr [.i .i64 (clC 128 (sv 4294967296 s xs)), .i .i64 (clI 128 (sv 4294967296 s xs))]]) := by
  have hv := sv_abs 4294967296 s xs
  have hd := dg_V 4294967296 (by omega) xs bx tx
  have hl : (dg 4294967296 (sv 4294967296 s xs).natAbs).length = xs.length := by rw [hv, hd]
  have hp := dg_len_pos 4294967296 (V 4294967296 xs) (by omega)
  rw [hd] at hp
  have hs : (s && decide (0 < (xs.length : Int))) = decide (sv 4294967296 s xs < 0) := by
    rcases Nat.eq_zero_or_pos xs.length with h | h
    · have : xs = [] := List.eq_nil_of_length_eq_zero h
      subst this
      cases s <;> simp [sv, V]
    · have h2 := hp.1 h
      cases s
      · simp [sv]
      · simp [sv]; omega
  cases s
  all_goals
    (refine q_H Tryz.func178 (fun F => ?_); simp only [q_z,q_y,Tryz.ntmps178,Tryz.results178])
    repeat' (first|(with_reducible first|apply q_a|apply q_b|apply q_c|apply q_d|apply q_e|apply q_f|apply q_g|apply q_h|apply q_i|apply q_j|apply q_k|apply q_m|apply q_n|apply q_o|apply q_p|refine q_l ?_)|((with_reducible first|refine q_q ib1_ok fun K hK=>?_|refine q_r ib1_ok fun K hK=>?_);simp (maxSteps:=2000000) only [go_sem,↓reduceIte,reduceCtorEq,Nat.reduceLeDiff,Nat.reduceLT,Nat.reduceBEq,Nat.reduceAdd];(repeat1' with_reducible first|apply And.intro|(intro _;try exact q_v)|(refine hK _ ?_;clear hK K))<;>(try (clear hK K;exact q_u)))|(with_reducible refine q_s ?_;(first|apply q_J|apply q_K|apply q_L|apply q_M|apply q_N|apply q_O)<;>try (intro _;try exact q_v))|with_reducible refine q_t ?_)
  all_goals (try rename_i q)
  all_goals first
    | (obtain ⟨e1, e2, e3⟩ := cl_big (k := 128) (z := sv 4294967296 _ xs) (by rw [hl]; omega)
       exact q_B [nP] rfl (by simp only [norm, nz, nzL, resAV, e1, e2, e3, dg_zeroA]; rfl))
    | (obtain ⟨e1, e2, e3⟩ := cl_fit (k := 128) (z := sv 4294967296 _ xs) (by rw [hl]; omega)
       exact q_A (by simp only [resAV, gI, e1, e2, e3, hv, hd, ← hs, Bool.true_and, Bool.false_and]))
def isignedCT : CT:=mkCT [.inl none,.inl (some (.ints .u32 []))] false fun l K=>match l with
 | [.inl (.b s),.inl (.ints .u32 xs)]=>(xs.length ≤ 140737488355328 ∧ InB 4294967296 xs ∧ Trd xs) ∧ K (.t [.inr (gI (cl 128 (sv 4294967296 s xs))),.inr [.i .i64 (clC 128 (sv 4294967296 s xs)),.i .i64 (clI 128 (sv 4294967296 s xs))]])
 | _=>False
def it4 : Cfg:=addT 178 isignedCT cf0
theorem it4_ok : TblOk Tryz.prog it4:=q_I cf0_ok Tryz.func178 fun l K h=>by
 split at h
 ·exact ⟨_,isigned_ret _ _ h.1.1 h.1.2.1 h.1.2.2,h.2⟩
 ·exact h.elim
attribute [go_sem] isignedCT
def cloneVCT : CT:=mkCT [.inl (some (.ints .u32 []))] true fun l K=>match l with
 | [.inl (.ints .u32 xs)]=>xs.length ≤ 16777216 ∧ K (.c (.ints .u32 xs))
 | _=>False
def it5 : Cfg:=addT 161 cloneVCT cf0
attribute [go_sem] cloneVCT gI
end Go.Proofs.YtgkajjifbcmoeaaGreatDoor

namespace Go.Proofs.YtgkajjifbcmoeaaGreatDoor
set_option linter.unusedSimpArgs false
set_option linter.unusedVariables false
open Go.Abs Go.Proofs.NatL

theorem okN_128 {n : Nat} (h : (dg 4294967296 n).length ≤ 128) : okN (dg 4294967296 n) = true:=okN_dg' (by omega)

end Go.Proofs.YtgkajjifbcmoeaaGreatDoor

namespace Go.Proofs.YtgkajjifbcmoeaaGreatDoor
set_option linter.unusedSimpArgs false
set_option linter.unusedVariables false
open Go.Abs Go.Proofs.NatL

theorem subO_le {m n : Nat} (h : n ≤ m) : subO (dg 4294967296 m) (dg 4294967296 n) = dg 4294967296 (m - n) ∧ subC (dg 4294967296 m) (dg 4294967296 n) = 0 ∧ subI (dg 4294967296 m) (dg 4294967296 n) = 0:=by
 have h1 : ¬ m < n:=by omega
 simp only [subO,subC,subI,subN,V32,h1,if_false,and_self]
theorem addNd' (m n : Nat) : addN (dg 4294967296 m) (dg 4294967296 n) = dg 4294967296 (m + n):=by unfold addN; rw [V32,V32]
theorem mulNd' (m n : Nat) : mulN (dg 4294967296 m) (dg 4294967296 n) = dg 4294967296 (m * n):=by unfold mulN; rw [V32,V32]
def it6 : Cfg:=it5
end Go.Proofs.YtgkajjifbcmoeaaGreatDoor

namespace Go.Proofs.YtgkajjifbcmoeaaGreatDoor
set_option linter.unusedSimpArgs false
set_option linter.unusedVariables false
open Go.Abs Go.Proofs.NatL

def digL : List UInt8:=[48,49,50,51,52,53,54,55,56,57,97,98,99,100,101,102,103,104,105,106,107,108,109,110,111,112,113,114,115,116,117,118,119,120,121,122]
def chr (d : Int) : Int:=((digL.getD d.toNat 0).toNat : Nat)
def textI (z : Int) (b : Nat) : List Int:=(if z < 0 then [45] else []) ++ (if z = 0 then [48] else (dg b z.natAbs).reverse.map chr)
theorem map_snoc (f : Int → Int) (ds : List Int) (i : Nat) (h : i < ds.length) : (ds.take (i + 1)).map f = (ds.take i).map f ++ [f (ds.getD i 0)]:=by
 rw [List.take_succ_eq_append_getElem h,List.map_append,getD_eq _ _ h]; rfl
theorem bl_128 {n : Nat} (h : (dg 4294967296 n).length ≤ 128) : bl n ≤ 4096:=by
 obtain ⟨k,hk⟩ : ∃ k,k = 128:=⟨_,rfl⟩
 rw [← hk] at h
 have h1:=lt_of_len (B:=4294967296) (by omega) h
 rw [show (4294967296 : Nat) = 2 ^ 32 from rfl,← Nat.pow_mul] at h1
 have:=bl_lt n _ h1
 omega
def ibt : Cfg:=listT [(151,icheckCT),(152,digG)] [34]
theorem ibt_ok : TblOk Tryz.prog ibt:=listE_ok (by simp only [List.mem_singleton,forall_eq]; exact flt) ⟨⟨it3,it3_ok,rfl⟩,⟨nt5,nt5_ok,rfl⟩,trivial⟩
attribute [go_sem] ibt
set_option maxRecDepth 100000 in
set_option maxHeartbeats 3200000 in
theorem iText_ok (a : Int) (b : Nat) (h1 : 2 ≤ b) (h2 : b ≤ 36) (la : (dg 4294967296 a.natAbs).length ≤ 128) :
  Ret Tryz.prog 79 false [.inr (gI a),.inl (.i .i64 b)] (.t [.inl (.str (strOf (textI a b))),.inr [.i .i64 0,.i .i64 0]]):=by
 have oa:=(okZ_g a).trans (decide_eq_true la)
 have ka:=okN_128 la
 have dl : (dg b a.natAbs).length ≤ 4096:=Nat.le_trans (dg_len_two b a.natAbs h1 _ (lt_bl _)) (bl_128 la)
 have dp:=dg_len_pos b a.natAbs h1
 have din : InB b (dg b a.natAbs).reverse:=fun z hz=>InB_dg b h1 _ z (List.mem_reverse.1 hz)
 have htx : ∀ pre : List Int,pre = (if a < 0 then [45] else []) → strOf (textI a b) = strOf (pre ++ (if a = 0 then [48] else (dg b a.natAbs).reverse.map chr)):=fun pre h=>by rw [h]; rfl
 rw [← List.length_reverse] at dl dp
 generalize hds : (dg b a.natAbs).reverse = ds at *
 by_cases hneg : a < 0
 ·have htx:=htx [45] (by rw [if_pos hneg])
  rw [if_neg (by omega)] at htx
  have e0 : decide (a < 0) = true:=decide_eq_true hneg
  simp only [gI,e0] at oa ⊢
  (refine q_H Tryz.func79 (fun F=>?_); simp only [q_z,q_y,Tryz.ntmps79,Tryz.results79])
  repeat' (first|(with_reducible first|apply q_a|apply q_b|apply q_c|apply q_d|apply q_e|apply q_f|apply q_g|apply q_h|apply q_i|apply q_j|apply q_k|apply q_m|apply q_n|apply q_o|apply q_p|refine q_l ?_)|((with_reducible first|refine q_q ibt_ok fun K hK=>?_|refine q_r ibt_ok fun K hK=>?_);simp (maxSteps:=2000000) only [go_sem,↓reduceIte,reduceCtorEq,Nat.reduceLeDiff,Nat.reduceLT,Nat.reduceBEq,Nat.reduceAdd,oa,ka,hds];(repeat1' with_reducible first|apply And.intro|(intro _;try exact q_v)|(refine hK _ ?_;clear hK K))<;>(try (clear hK K;exact q_u)))|(with_reducible refine q_s ?_;(first|apply q_J|apply q_K|apply q_L|apply q_M|apply q_N|apply q_O)<;>try (intro _;try exact q_v))|with_reducible refine q_t ?_)
  refine q_G (ι:={ i : Nat // i ≤ ds.length }) (fun i=>⟨56,[(5,.bx 1 0),(7,.c (.ints .i64 ds)),(9,.own 4 0),(35,.c (.ints .i64 ds)),(36,.c (.i .i64 ds.length)),(37,.c (.i .i64 (i.1 : Nat)))],⟨[(1,[.c (.i .i64 0),.c (.i .i64 0)])],[(4,⟨0,5,1,.ints .u8 ([45] ++ (ds.take i.1).map chr)⟩)],[]⟩,5⟩) (fun i=>ds.length - i.1) ⟨0,by simp⟩ ?_ ?_
  ·exact q_D
  rintro ⟨i,g1⟩
  simp only at g1 ⊢
  have b1:=InB_getD (by omega) din i
  have hml : ((ds.take i).map chr).length = i:=by simp; omega
  rcases Nat.lt_or_ge i ds.length with hi | hi
  ·have hm:=map_snoc chr ds i hi
   repeat' (first|(with_reducible first|apply q_a|apply q_b|apply q_c|apply q_d|apply q_e|apply q_f|apply q_g|apply q_h|apply q_i|apply q_j|apply q_k|apply q_m|apply q_n|apply q_o|apply q_p|refine q_l ?_)|((with_reducible first|refine q_q ibt_ok fun K hK=>?_|refine q_r ibt_ok fun K hK=>?_);simp (maxSteps:=2000000) only [go_sem,↓reduceIte,reduceCtorEq,Nat.reduceLeDiff,Nat.reduceLT,Nat.reduceBEq,Nat.reduceAdd,hml];(repeat1' with_reducible first|apply And.intro|(intro _;try exact q_v)|(refine hK _ ?_;clear hK K))<;>(try (clear hK K;exact q_u)))|(with_reducible refine q_s ?_;(first|apply q_J|apply q_K|apply q_L|apply q_M|apply q_N|apply q_O)<;>try (intro _;try exact q_v))|with_reducible refine q_t ?_)
   refine q_F ⟨i + 1,hi⟩ ?_ (by simp only; omega)
   simp only [hm]
   exact q_D
  ·have hi' : i = ds.length:=by omega
   subst hi'
   rw [List.take_length]
   repeat' (first|(with_reducible first|apply q_a|apply q_b|apply q_c|apply q_d|apply q_e|apply q_f|apply q_g|apply q_h|apply q_i|apply q_j|apply q_k|apply q_m|apply q_n|apply q_o|apply q_p|refine q_l ?_)|((with_reducible first|refine q_q ibt_ok fun K hK=>?_|refine q_r ibt_ok fun K hK=>?_);simp (maxSteps:=2000000) only [go_sem,↓reduceIte,reduceCtorEq,Nat.reduceLeDiff,Nat.reduceLT,Nat.reduceBEq,Nat.reduceAdd];(repeat1' with_reducible first|apply And.intro|(intro _;try exact q_v)|(refine hK _ ?_;clear hK K))<;>(try (clear hK K;exact q_u)))|(with_reducible refine q_s ?_;(first|apply q_J|apply q_K|apply q_L|apply q_M|apply q_N|apply q_O)<;>try (intro _;try exact q_v))|with_reducible refine q_t ?_)
   exact q_A (by rw [htx]; rfl)
 ·have htx:=htx [] (by rw [if_neg hneg])
  have e0 : decide (a < 0) = false:=decide_eq_false hneg
  simp only [gI,e0] at oa ⊢
  (refine q_H Tryz.func79 (fun F=>?_); simp only [q_z,q_y,Tryz.ntmps79,Tryz.results79])
  repeat' (first|(with_reducible first|apply q_a|apply q_b|apply q_c|apply q_d|apply q_e|apply q_f|apply q_g|apply q_h|apply q_i|apply q_j|apply q_k|apply q_m|apply q_n|apply q_o|apply q_p|refine q_l ?_)|((with_reducible first|refine q_q ibt_ok fun K hK=>?_|refine q_r ibt_ok fun K hK=>?_);simp (maxSteps:=2000000) only [go_sem,↓reduceIte,reduceCtorEq,Nat.reduceLeDiff,Nat.reduceLT,Nat.reduceBEq,Nat.reduceAdd,oa,ka,hds];(repeat1' with_reducible first|apply And.intro|(intro _;try exact q_v)|(refine hK _ ?_;clear hK K))<;>(try (clear hK K;exact q_u)))|(with_reducible refine q_s ?_;(first|apply q_J|apply q_K|apply q_L|apply q_M|apply q_N|apply q_O)<;>try (intro _;try exact q_v))|with_reducible refine q_t ?_)
  refine q_G (ι:={ i : Nat // i ≤ ds.length }) (fun i=>⟨56,[(5,.bx 1 0),(7,.c (.ints .i64 ds)),(9,.own 4 0),(35,.c (.ints .i64 ds)),(36,.c (.i .i64 ds.length)),(37,.c (.i .i64 (i.1 : Nat)))],⟨[(1,[.c (.i .i64 0),.c (.i .i64 0)])],[(4,⟨0,5,1,.ints .u8 ((ds.take i.1).map chr)⟩)],[]⟩,5⟩) (fun i=>ds.length - i.1) ⟨0,by simp⟩ ?_ ?_
  ·exact q_D
  rintro ⟨i,g1⟩
  simp only at g1 ⊢
  have b1:=InB_getD (by omega) din i
  have hml : ((ds.take i).map chr).length = i:=by simp; omega
  rcases Nat.lt_or_ge i ds.length with hi | hi
  ·have hm:=map_snoc chr ds i hi
   repeat' (first|(with_reducible first|apply q_a|apply q_b|apply q_c|apply q_d|apply q_e|apply q_f|apply q_g|apply q_h|apply q_i|apply q_j|apply q_k|apply q_m|apply q_n|apply q_o|apply q_p|refine q_l ?_)|((with_reducible first|refine q_q ibt_ok fun K hK=>?_|refine q_r ibt_ok fun K hK=>?_);simp (maxSteps:=2000000) only [go_sem,↓reduceIte,reduceCtorEq,Nat.reduceLeDiff,Nat.reduceLT,Nat.reduceBEq,Nat.reduceAdd,hml];(repeat1' with_reducible first|apply And.intro|(intro _;try exact q_v)|(refine hK _ ?_;clear hK K))<;>(try (clear hK K;exact q_u)))|(with_reducible refine q_s ?_;(first|apply q_J|apply q_K|apply q_L|apply q_M|apply q_N|apply q_O)<;>try (intro _;try exact q_v))|with_reducible refine q_t ?_)
   refine q_F ⟨i + 1,hi⟩ ?_ (by simp only; omega)
   simp only [hm]
   exact q_D
  ·have hi' : i = ds.length:=by omega
   subst hi'
   rw [List.take_length]
   by_cases hz : a = 0
   ·have h0 : ds = []:=List.eq_nil_of_length_eq_zero (by omega)
    subst h0
    rw [if_pos hz] at htx
    repeat' (first|(with_reducible first|apply q_a|apply q_b|apply q_c|apply q_d|apply q_e|apply q_f|apply q_g|apply q_h|apply q_i|apply q_j|apply q_k|apply q_m|apply q_n|apply q_o|apply q_p|refine q_l ?_)|((with_reducible first|refine q_q ibt_ok fun K hK=>?_|refine q_r ibt_ok fun K hK=>?_);simp (maxSteps:=2000000) only [go_sem,↓reduceIte,reduceCtorEq,Nat.reduceLeDiff,Nat.reduceLT,Nat.reduceBEq,Nat.reduceAdd];(repeat1' with_reducible first|apply And.intro|(intro _;try exact q_v)|(refine hK _ ?_;clear hK K))<;>(try (clear hK K;exact q_u)))|(with_reducible refine q_s ?_;(first|apply q_J|apply q_K|apply q_L|apply q_M|apply q_N|apply q_O)<;>try (intro _;try exact q_v))|with_reducible refine q_t ?_)
    exact q_A (by rw [htx]; rfl)
   ·rw [if_neg hz] at htx
    repeat' (first|(with_reducible first|apply q_a|apply q_b|apply q_c|apply q_d|apply q_e|apply q_f|apply q_g|apply q_h|apply q_i|apply q_j|apply q_k|apply q_m|apply q_n|apply q_o|apply q_p|refine q_l ?_)|((with_reducible first|refine q_q ibt_ok fun K hK=>?_|refine q_r ibt_ok fun K hK=>?_);simp (maxSteps:=2000000) only [go_sem,↓reduceIte,reduceCtorEq,Nat.reduceLeDiff,Nat.reduceLT,Nat.reduceBEq,Nat.reduceAdd];(repeat1' with_reducible first|apply And.intro|(intro _;try exact q_v)|(refine hK _ ?_;clear hK K))<;>(try (clear hK K;exact q_u)))|(with_reducible refine q_s ?_;(first|apply q_J|apply q_K|apply q_L|apply q_M|apply q_N|apply q_O)<;>try (intro _;try exact q_v))|with_reducible refine q_t ?_)
    exact q_A (by rw [htx]; rfl)
def iTextCT : CT:=mkCT [nP] true fun l K=>match l with
 | [.inr [.b s,.ints .u32 xs],.inl (.i .i64 b)]=>(okZ s xs = true ∧ InB 4294967296 xs ∧ 2 ≤ b ∧ b ≤ 36) ∧ K (.t [.inl (.str (strOf (textI (sv 4294967296 s xs) b.toNat))),.inr [.i .i64 0,.i .i64 0]])
 | _=>False
def iu2 : Cfg:=addT 79 iTextCT cf0
theorem iu2_ok : TblOk Tryz.prog iu2:=q_I cf0_ok Tryz.func79 fun l K h=>by
 split at h
 ·rename_i s xs b
  obtain ⟨⟨h1,h2,h3,h4⟩,h⟩:=h
  obtain ⟨e1,e2,e3⟩:=okZ_eq h1 h2
  obtain ⟨n,rfl⟩ : ∃ n : Nat,b = n:=⟨b.toNat,by omega⟩
  have:=iText_ok (sv 4294967296 s xs) n (by omega) (by omega) (by rw [← e2]; exact e3)
  simp only [gI,← e1,← e2] at this
  exact ⟨_,this.plain rfl,by simpa using h⟩
 ·exact h.elim
attribute [go_sem] iTextCT
end Go.Proofs.YtgkajjifbcmoeaaGreatDoor

namespace Go.Proofs.YtgkajjifbcmoeaaGreatDoor
set_option linter.unusedSimpArgs false
set_option linter.unusedVariables false
open Go.Abs Go.Proofs.NatL

def Nrm (s : Bool) (xs : List Int) : Prop:=InB 4294967296 xs ∧ Trd xs ∧ (xs = [] → s = false)
theorem Nrm_eq {s : Bool} {xs : List Int} (h : Nrm s xs) : s = decide (sv 4294967296 s xs < 0) ∧ xs = dg 4294967296 (sv 4294967296 s xs).natAbs:=by
 obtain ⟨bx,ht,h0⟩:=h
 rw [sv_abs]
 have hd:=dg_V 4294967296 (by omega) xs bx ht
 refine ⟨?_,hd.symm⟩
 cases s
 ·rw [decide_eq_false]; simp [sv]
 ·have hne : xs ≠ []:=fun e=>by have:=h0 e; cases this
  have : 0 < V 4294967296 xs:=by
   rcases Nat.eq_zero_or_pos (V 4294967296 xs) with h | h
   ·rw [h,dg_zero] at hd; exact absurd hd.symm hne
   ·exact h
  rw [decide_eq_true]; simp [sv]; omega
theorem Nrm_g (z : Int) : Nrm (decide (z < 0)) (dg 4294967296 z.natAbs) = True:=by
 refine eq_true ⟨InB_dg _ (by omega) _,dg_trd _ (by omega) _,fun h=>?_⟩
 have:=dg_len_pos 4294967296 z.natAbs (by omega)
 rw [h] at this
 simp only [List.length_nil,Nat.lt_irrefl,false_iff] at this
 exact decide_eq_false (by omega)
theorem Nrm_0 : Nrm false [] = True:=eq_true ⟨InB_nil _,.inl rfl,fun _=>rfl⟩
abbrev gR (z : Int) : List C:=[.b (decide (z < 0)),.ints .i64 (dg 65536 z.natAbs)]
abbrev nR : Option C ⊕ List (Option C):=.inr [none,some (.ints .i64 [])]

set_option maxHeartbeats 800000 in
theorem intOk_ret (s : Bool) (xs : List Int) (hx : xs.length ≤ 140737488355328) : Ret Tryz.prog 104 false [.inr [.b s,.ints .u32 xs]] (.c (.b (okZ s xs))):=by
 (refine q_H Tryz.func104 (fun F=>?_); simp only [q_z,q_y,Tryz.ntmps104,Tryz.results104])
 repeat' (first|(with_reducible first|apply q_a|apply q_b|apply q_c|apply q_d|apply q_e|apply q_f|apply q_g|apply q_h|apply q_i|apply q_j|apply q_k|apply q_m|apply q_n|apply q_o|apply q_p|refine q_l ?_)|((with_reducible first|refine q_q cf0_ok fun K hK=>?_|refine q_r cf0_ok fun K hK=>?_);simp (maxSteps:=2000000) only [go_sem,↓reduceIte,reduceCtorEq,Nat.reduceLeDiff,Nat.reduceLT,Nat.reduceBEq,Nat.reduceAdd];(repeat1' with_reducible first|apply And.intro|intro _|(refine hK _ ?_;clear hK K))<;>(try (clear hK K;exact q_u)))|(with_reducible refine q_s ?_;(first|apply q_J|apply q_K|apply q_L|apply q_M|apply q_N|apply q_O)<;>try intro _)|with_reducible refine q_t ?_)
 all_goals refine q_A ?_
 all_goals simp only [resAV,q_y,AV.c.injEq,C.b.injEq]
 all_goals refine okZ_iff s xs _ ?_
 all_goals first | (simp_all; done) | (simp_all; omega)
def jt1 : Cfg:=addT 104 ivalidCT cf0
theorem jt1_ok : TblOk Tryz.prog jt1:=q_I cf0_ok Tryz.func104 fun l K h=>by
 split at h
 ·exact ⟨_,(intOk_ret _ _ h.1).plain rfl,h.2⟩
 ·exact h.elim
attribute [go_sem] Nrm_g Nrm_0 gR
def jb3 : Cfg:=listT [(70,limbsCT),(179,sameCT)] [34]
theorem jb3_ok : TblOk Tryz.prog jb3:=listE_ok (by simp only [List.mem_singleton,forall_eq]; exact flt) ⟨⟨ch1,ch1_ok,rfl⟩,⟨ch2,ch2_ok,rfl⟩,trivial⟩
attribute [go_sem] jb3
end Go.Proofs.YtgkajjifbcmoeaaGreatDoor

namespace Go.Proofs.YtgkajjifbcmoeaaGreatDoor
set_option linter.unusedSimpArgs false
set_option linter.unusedVariables false
open Go.Abs Go.Proofs.NatL

def sameIntCT : CT:=mkCT [nP,nR] true fun l K=>match l with
 | [.inr [.b s,.ints .u32 xs],.inr [.b t,.ints .i64 ys]]=>(Nrm s xs ∧ xs.length ≤ 16777216 ∧ InB 65536 ys ∧ Trd ys ∧ ys.length ≤ 4194304) ∧ K (.c (.b (decide (sv 4294967296 s xs = sv 65536 t ys))))
 | _=>False
set_option maxHeartbeats 800000 in
theorem noInt_ret (s : Bool) (xs : List Int) (hn : Nrm s xs) (hx : xs.length ≤ 140737488355328) :
  Ret Tryz.prog 27 false [.inr [.b s,.ints .u32 xs]] (.c (.b (decide (sv 4294967296 s xs = 0)))):=by
 obtain ⟨h1,h2⟩:=Nrm_eq hn
 have hl:=dg_len_pos 4294967296 (sv 4294967296 s xs).natAbs (by omega)
 rw [← h2] at hl
 generalize sv 4294967296 s xs = z at *
 have key : decide (¬ s = true ∧ (xs.length : Int) = 0) = decide (z = 0):=by
  congr 1
  refine propext ⟨fun ⟨e1,e2⟩=>by omega,fun h=>?_⟩
  subst h
  exact ⟨by rw [h1]; simp,by omega⟩
 rw [← key]
 clear key h1 h2 hl
 cases s
 all_goals
  (refine q_H Tryz.func27 (fun F=>?_); simp only [q_z,q_y,Tryz.ntmps27,Tryz.results27])
  repeat' (first|(with_reducible first|apply q_a|apply q_b|apply q_c|apply q_d|apply q_e|apply q_f|apply q_g|apply q_h|apply q_i|apply q_j|apply q_k|apply q_m|apply q_n|apply q_o|apply q_p|refine q_l ?_)|((with_reducible first|refine q_q jb3_ok fun K hK=>?_|refine q_r jb3_ok fun K hK=>?_);simp (maxSteps:=2000000) only [go_sem,↓reduceIte,reduceCtorEq,Nat.reduceLeDiff,Nat.reduceLT,Nat.reduceBEq,Nat.reduceAdd];(repeat1' with_reducible first|apply And.intro|(intro _;try exact q_v)|(refine hK _ ?_;clear hK K))<;>(try (clear hK K;exact q_u)))|(with_reducible refine q_s ?_;(first|apply q_J|apply q_K|apply q_L|apply q_M|apply q_N|apply q_O)<;>try (intro _;try exact q_v))|with_reducible refine q_t ?_)
 all_goals (refine q_A ?_; simp [resAV,q_y])
def noIntCT : CT:=mkCT [nP] true fun l K=>match l with
 | [.inr [.b s,.ints .u32 xs]]=>(Nrm s xs ∧ xs.length ≤ 140737488355328) ∧ K (.c (.b (decide (sv 4294967296 s xs = 0))))
 | _=>False
def jt6 : Cfg:=addT 27 noIntCT cf0
theorem jt6_ok : TblOk Tryz.prog jt6:=q_I cf0_ok Tryz.func27 fun l K h=>by
 split at h
 ·exact ⟨_,(noInt_ret _ _ h.1.1 h.1.2).plain rfl,h.2⟩
 ·exact h.elim
attribute [go_sem] sameIntCT noIntCT sv32 sv65 svz65
def numberCT : CT:=mkCT [] false fun l K=>match l with
 | [.inl (.i .i64 n)]=>(-9223372036854775808 ≤ n ∧ n ≤ 9223372036854775807) ∧ K (.g (gR n))
 | _=>False
attribute [go_sem] numberCT
end Go.Proofs.YtgkajjifbcmoeaaGreatDoor

namespace Go.Proofs.YtgkajjifbcmoeaaGreatDoor
set_option linter.unusedSimpArgs false
set_option linter.unusedVariables false
open Go.Proofs.NatL

structure BitOp (op : Nat → Nat → Nat) : Prop where
 lt : ∀ k x y,x < 2 ^ k → y < 2 ^ k → op x y < 2 ^ k
 split : ∀ k x y s t,x < 2 ^ k → y < 2 ^ k → op (x + 2 ^ k * s) (y + 2 ^ k * t) = op x y + 2 ^ k * op s t

theorem BitOp.zero {op : Nat → Nat → Nat} (h : BitOp op) : op 0 0 = 0:=by
 have:=h.split 0 0 0 0 0 (by simp) (by simp)
 simp at this; omega

def lo (k : Nat) (a : Int) : Nat:=(a % ((2 ^ k : Nat) : Int)).toNat
def FitK (k : Nat) (a : Int) : Prop := -((2 ^ k : Nat) : Int) ≤ a ∧ a < ((2 ^ k : Nat) : Int)
theorem FitK.mono {k m : Nat} {a : Int} (h : FitK k a) (hm : k ≤ m) : FitK m a:=by
 have:=Nat.pow_le_pow_right (n:=2) (by omega) hm
 unfold FitK at *; omega
end Go.Proofs.YtgkajjifbcmoeaaGreatDoor

namespace Go.Proofs.YtgkajjifbcmoeaaGreatDoor
set_option linter.unusedSimpArgs false
set_option linter.unusedVariables false
open Go.Proofs.NatL

def pm (a : Int) (e : Nat) (m : Int) : Int:=(a ^ e) % m
end Go.Proofs.YtgkajjifbcmoeaaGreatDoor

namespace Go.Abs
set_option linter.unusedSimpArgs false
set_option linter.unusedVariables false
variable {P : Program}
end Go.Abs
namespace Go.Proofs.YtgkajjifbcmoeaaGreatDoor
set_option linter.unusedSimpArgs false
set_option linter.unusedVariables false
open Go.Proofs.NatL

def bits (n v : Nat) : List Bool:=(List.range n).map fun i=>v.testBit i
end Go.Proofs.YtgkajjifbcmoeaaGreatDoor

namespace Go.Proofs.YtgkajjifbcmoeaaGreatDoor
set_option linter.unusedSimpArgs false
set_option linter.unusedVariables false
open Go.Abs Go.Proofs.NatL

def ku1 : Cfg:=it6
def ku2 : Cfg:=ku1
attribute [go_sem] okZ_g
def kc : Cfg:=listT [(79,iTextCT),(191,sameIntCT),(55,numberCT)] [34]
attribute [go_sem] kc
end Go.Proofs.YtgkajjifbcmoeaaGreatDoor

namespace Go.Proofs.NatL
set_option linter.unusedSimpArgs false
set_option linter.unusedVariables false
abbrev q0 : Bool × List Int × Bool × List Int:=(false,[],false,[])
end Go.Proofs.NatL
namespace Go.Proofs.YtgkajjifbcmoeaaGreatDoor
set_option linter.unusedSimpArgs false
set_option linter.unusedVariables false
open Go.Abs Go.Proofs.NatL

end Go.Proofs.YtgkajjifbcmoeaaGreatDoor

namespace Go.Proofs.NatL
set_option linter.unusedSimpArgs false
set_option linter.unusedVariables false
def fQ (z : Int) (d : Nat) : Prop:=(dg 4294967296 z.natAbs).length ≤ 128 ∧ (dg 4294967296 d).length ≤ 128
instance decFQ (z : Int) (d : Nat) : Decidable (fQ z d):=by unfold fQ; infer_instance
def plF (u : Bool) (a b : Int) : Int:=if u = true then a - b else a + b
theorem plF_f (a b : Int) : plF false a b = a + b:=rfl
theorem plF_t (a b : Int) : plF true a b = a - b:=rfl
end Go.Proofs.NatL
namespace Go.Proofs.YtgkajjifbcmoeaaGreatDoor
set_option linter.unusedSimpArgs false
set_option linter.unusedVariables false
open Go.Abs Go.Proofs.NatL

abbrev nU : Option C ⊕ List (Option C):=.inl (some (.ints .u32 []))
def oneN (k : Nat) : AV:=.t [.inl (.ints .u32 (dg 4294967296 k)),.inr [.i .i64 0,.i .i64 0]]
def rAddN (m n : Nat) : AV:=oneN (m + n)
def rSubN (m n : Nat) : AV:=oneN (m - n)
def rMulN (m n : Nat) : AV:=oneN (m * n)
def rDivN (m n : Nat) : AV:=.t [.inl (.ints .u32 (dg 4294967296 (m / n))),.inl (.ints .u32 (dg 4294967296 (m % n))),.inr [.i .i64 0,.i .i64 0]]
def rCmpN (m n : Nat) : AV:=.t [.inl (.i .i64 (cmp3 m n)),.inr [.i .i64 0,.i .i64 0]]
def tr2 (_ _ : Nat) : Prop:=True
def le2 (m n : Nat) : Prop:=n ≤ m
def pos2 (_ n : Nat) : Prop:=0 < n
theorem le2_d (m n : Nat) : le2 m n = (n ≤ m):=rfl
theorem pos2_d (m n : Nat) : pos2 m n = (0 < n):=rfl
theorem tr2_d (m n : Nat) : tr2 m n = True:=rfl
attribute [go_sem] oneN rAddN rSubN rMulN rDivN rCmpN le2_d pos2_d tr2_d
attribute [go_sem] plF_f plF_t
end Go.Proofs.YtgkajjifbcmoeaaGreatDoor

namespace Go.Proofs.NatL
set_option linter.unusedSimpArgs false
set_option linter.unusedVariables false
theorem int_lt_ge (a b : Int) : a < b ∨ b ≤ a:=by omega
theorem ds_600 {n : Nat} (h : ds n ≤ 5700) : (dg 4294967296 n).length ≤ 600:=Nat.le_trans (len_ds h) (by omega)
theorem ds_mul10 {a n k : Nat} (h : ds a + n ≤ k) : ds (a * 10 ^ n) ≤ k:=by
 refine ds_le ?_
 rw [show k = (k - n) + n by omega,Nat.pow_add]
 exact Nat.mul_lt_mul_of_pos_right (Nat.lt_of_lt_of_le (ds_lt a) (Nat.pow_le_pow_right (by omega) (by omega))) (Nat.pow_pos (by omega))
theorem pw_odd (P n : Nat) (h : n % 2 = 1) (a N : Nat) (e : a + P * n = N) : a + P + P * 2 * (n / 2) = N:=by
 have h1 : n = 2 * (n / 2) + 1:=by omega
 generalize n / 2 = m at *
 subst h1
 rw [← e,Nat.mul_add,Nat.mul_one,← Nat.mul_assoc]; omega
theorem pw_even (P n : Nat) (h : n % 2 = 0) (a N : Nat) (e : a + P * n = N) : a + P * 2 * (n / 2) = N:=by
 have h1 : n = 2 * (n / 2):=by omega
 generalize n / 2 = m at *
 subst h1
 rw [← e,← Nat.mul_assoc]
theorem pw_fits {i n a N : Nat} (hN : N < 4096) (h0 : 0 < n) (e : a + 2 ^ i * n = N) : 2 ^ i ≤ N ∧ a + 2 ^ i ≤ N ∧ 2 ^ i * 2 ≤ 4096:=by
 have h1 : 2 ^ i ≤ 2 ^ i * n:=Nat.le_mul_of_pos_right _ h0
 have h2 : 2 ^ i < 2 ^ 12:=by omega
 have h3 : i < 12:=(Nat.pow_lt_pow_iff_right (by omega)).1 h2
 have h4 : 2 ^ (i + 1) ≤ 2 ^ 12:=Nat.pow_le_pow_right (by omega) (by omega)
 rw [Nat.pow_succ] at h4
 exact ⟨by omega,by omega,h4⟩
theorem dg_ten (k : Nat) (h : k < 4294967296) (h0 : 0 < k) : dg 4294967296 k = [(k : Int)]:=by
 rw [dg_pos _ _ (by omega) h0,Nat.mod_eq_of_lt h,Nat.div_eq_of_lt h]; rfl
theorem ten_600 {k : Nat} (h : k ≤ 5699) : (dg 4294967296 (10 ^ k)).length ≤ 600:=ds_600 (by rw [ds_ten]; omega)
end Go.Proofs.NatL
namespace Go.Proofs.YtgkajjifbcmoeaaGreatDoor
set_option linter.unusedSimpArgs false
set_option linter.unusedVariables false
open Go.Abs Go.Proofs.NatL

def nat6CT (p : Nat → Nat → Prop) (f : Nat → Nat → AV) : CT:=mkCT [nU,nU] false fun l K=>match l with
 | [.inl (.ints .u32 xs),.inl (.ints .u32 ys)]=>(InB 4294967296 xs ∧ Trd xs ∧ xs.length ≤ 600 ∧ InB 4294967296 ys ∧ Trd ys ∧ ys.length ≤ 600 ∧ p (V 4294967296 xs) (V 4294967296 ys)) ∧ K (f (V 4294967296 xs) (V 4294967296 ys))
 | _=>False
theorem nat6_tr {F : FuncId} {p : Nat → Nat → Prop} {f : Nat → Nat → AV} (hc : ∀ (m n : Nat),(dg 4294967296 m).length ≤ 600 → (dg 4294967296 n).length ≤ 600 → p m n → Ret Tryz.prog F false [.inl (.ints .u32 (dg 4294967296 m)),.inl (.ints .u32 (dg 4294967296 n))] (f m n))
  (l : List (C ⊕ List C)) (K : AV → Prop) (hk : match l with
   | [.inl (.ints .u32 xs),.inl (.ints .u32 ys)]=>(InB 4294967296 xs ∧ Trd xs ∧ xs.length ≤ 600 ∧ InB 4294967296 ys ∧ Trd ys ∧ ys.length ≤ 600 ∧ p (V 4294967296 xs) (V 4294967296 ys)) ∧ K (f (V 4294967296 xs) (V 4294967296 ys))
   | _=>False) : ∃ r,Ret Tryz.prog F false l r ∧ K r:=by
 split at hk
 ·rename_i xs ys
  obtain ⟨⟨h1,h2,h3,h4,h5,h6,h7⟩,hk⟩:=hk
  have e1:=dg_V 4294967296 (by omega) xs h1 h2
  have e2:=dg_V 4294967296 (by omega) ys h4 h5
  have:=hc (V 4294967296 xs) (V 4294967296 ys) (by rw [e1]; exact h3) (by rw [e2]; exact h6) h7
  rw [e1,e2] at this
  exact ⟨_,this,hk⟩
 ·exact hk.elim
def pAdd (m n : Nat) : Prop:=(dg 4294967296 (m + n)).length ≤ 600
theorem pAdd_d (m n : Nat) : pAdd m n = ((dg 4294967296 (m + n)).length ≤ 600):=rfl
theorem mAdd_ret (m n : Nat) (lm : (dg 4294967296 m).length ≤ 600) (ln : (dg 4294967296 n).length ≤ 600) (h : pAdd m n) :
  Ret Tryz.prog 125 false [.inl (.ints .u32 (dg 4294967296 m)),.inl (.ints .u32 (dg 4294967296 n))] (rAddN m n):=by
 have h1:=okN_dg' (n:=m) (by omega)
 have h2:=okN_dg' (n:=n) (by omega)
 have:=Add_ret _ _ (okN_LB h1) (okN_LB h2) (InB_dg _ (by omega) m) (InB_dg _ (by omega) n)
 obtain ⟨f1,f2,f3⟩:=fit_small h
 rw [oneF_good h1 h2,addNd',f1,f2,f3] at this
 exact this
def pMul (m n : Nat) : Prop:=(dg 4294967296 (m * n)).length ≤ 600
theorem pMul_d (m n : Nat) : pMul m n = ((dg 4294967296 (m * n)).length ≤ 600):=rfl
theorem mMul_ret (m n : Nat) (lm : (dg 4294967296 m).length ≤ 600) (ln : (dg 4294967296 n).length ≤ 600) (h : pMul m n) :
  Ret Tryz.prog 88 false [.inl (.ints .u32 (dg 4294967296 m)),.inl (.ints .u32 (dg 4294967296 n))] (rMulN m n):=by
 have h1:=okN_dg' (n:=m) (by omega)
 have h2:=okN_dg' (n:=n) (by omega)
 have:=Mul_ret _ _ (okN_LB h1) (okN_LB h2) (InB_dg _ (by omega) m) (InB_dg _ (by omega) n)
 obtain ⟨f1,f2,f3⟩:=fit_small h
 rw [oneF_good h1 h2,mulNd',f1,f2,f3] at this
 exact this
theorem mSub_ret (m n : Nat) (lm : (dg 4294967296 m).length ≤ 600) (ln : (dg 4294967296 n).length ≤ 600) (h : n ≤ m) :
  Ret Tryz.prog 165 false [.inl (.ints .u32 (dg 4294967296 m)),.inl (.ints .u32 (dg 4294967296 n))] (rSubN m n):=by
 have h1:=okN_dg' (n:=m) (by omega)
 have h2:=okN_dg' (n:=n) (by omega)
 have:=Sub_ret _ _ (okN_LB h1) (okN_LB h2) (InB_dg _ (by omega) m) (InB_dg _ (by omega) n)
 obtain ⟨f1,f2,f3⟩:=subO_le h
 rw [oneF_good h1 h2] at this
 have h3 : (if V 4294967296 (dg 4294967296 m) < V 4294967296 (dg 4294967296 n) then [] else subN (dg 4294967296 m) (dg 4294967296 n)) = dg 4294967296 (m - n):=f1
 first
  | (rw [f1,f2,f3] at this; exact this)
  | (simp only [subO,subC,subI] at f1 f2 f3; rw [f1,f2,f3] at this; exact this)
theorem mCmp_ret (m n : Nat) (lm : (dg 4294967296 m).length ≤ 600) (ln : (dg 4294967296 n).length ≤ 600) :
  Ret Tryz.prog 164 false [.inl (.ints .u32 (dg 4294967296 m)),.inl (.ints .u32 (dg 4294967296 n))] (rCmpN m n):=by
 have h1:=okN_dg' (n:=m) (by omega)
 have h2:=okN_dg' (n:=n) (by omega)
 have:=Cmp_ret _ _ (okN_LB h1) (okN_LB h2) (InB_dg _ (by omega) m) (InB_dg _ (by omega) n)
 rw [(chkC_zero h1 h2).1,(chkC_zero h1 h2).2,if_neg (by simp),V32,V32] at this
 exact this
theorem mDiv_ret (m n : Nat) (lm : (dg 4294967296 m).length ≤ 600) (ln : (dg 4294967296 n).length ≤ 600) (h : 0 < n) :
  Ret Tryz.prog 85 false [.inl (.ints .u32 (dg 4294967296 m)),.inl (.ints .u32 (dg 4294967296 n))] (rDivN m n):=by
 have h1:=okN_dg' (n:=m) (by omega)
 have h2:=okN_dg' (n:=n) (by omega)
 have:=dvGood_ok _ _ h1 h2 (InB_dg _ (by omega) m) (InB_dg _ (by omega) n) (by rw [V32]; exact h)
 rw [V32,V32] at this
 exact this
def dn1 : Cfg:=addT 125 (nat6CT pAdd rAddN) cf0
theorem dn1_ok : TblOk Tryz.prog dn1:=q_I cf0_ok Tryz.func125 fun l K h =>
 nat6_tr (p:=pAdd) (f:=rAddN) (fun m n a b h=>mAdd_ret m n a b h) l K h
def dn2 : Cfg:=addT 88 (nat6CT pMul rMulN) cf0
theorem dn2_ok : TblOk Tryz.prog dn2:=q_I cf0_ok Tryz.func88 fun l K h =>
 nat6_tr (p:=pMul) (f:=rMulN) (fun m n a b h=>mMul_ret m n a b h) l K h
def dn3 : Cfg:=addT 165 (nat6CT le2 rSubN) cf0
theorem dn3_ok : TblOk Tryz.prog dn3:=q_I cf0_ok Tryz.func165 fun l K h =>
 nat6_tr (p:=le2) (f:=rSubN) (fun m n a b h=>mSub_ret m n a b h) l K h
def dn4 : Cfg:=addT 164 (nat6CT tr2 rCmpN) cf0
theorem dn4_ok : TblOk Tryz.prog dn4:=q_I cf0_ok Tryz.func164 fun l K h =>
 nat6_tr (p:=tr2) (f:=rCmpN) (fun m n a b _=>mCmp_ret m n a b) l K h
def dn6 : Cfg:=addT 85 (nat6CT pos2 rDivN) cf0
theorem dn6_ok : TblOk Tryz.prog dn6:=q_I cf0_ok Tryz.func85 fun l K h =>
 nat6_tr (p:=pos2) (f:=rDivN) (fun m n a b h=>mDiv_ret m n a b h) l K h
attribute [go_sem] nat6CT pAdd_d pMul_d
def db1d : Cfg:=listT [(152,digG),(88,(nat6CT pMul rMulN)),(164,(nat6CT tr2 rCmpN))] [34]
theorem db1d_ok : TblOk Tryz.prog db1d:=listE_ok (by simp only [List.mem_singleton,forall_eq]; exact flt) ⟨⟨nt5,nt5_ok,rfl⟩,⟨dn2,dn2_ok,rfl⟩,⟨dn4,dn4_ok,rfl⟩,trivial⟩
attribute [go_sem] db1d
set_option maxHeartbeats 800000 in
theorem size_ret (n : Nat) (h : (dg 4294967296 n).length ≤ 600) : Ret Tryz.prog 120 false [.inl (.ints .u32 (dg 4294967296 n))] (.c (.i .i64 (ds n))):=by
 have o1:=okN_dg' h
 have ten : (10 : Int).toNat = 10:=rfl
 have hl : (dg 10 n).reverse.length = ds n:=by rw [List.length_reverse]; rfl
 (refine q_H Tryz.func120 (fun F=>?_); simp only [q_z,q_y,Tryz.ntmps120,Tryz.results120])
 repeat' (first|(with_reducible first|apply q_a|apply q_b|apply q_c|apply q_d|apply q_e|apply q_f|apply q_g|apply q_h|apply q_i|apply q_j|apply q_k|apply q_m|apply q_n|apply q_o|apply q_p|refine q_l ?_)|((with_reducible first|refine q_q db1d_ok fun K hK=>?_|refine q_r db1d_ok fun K hK=>?_);simp (maxSteps:=2000000) only [go_sem,↓reduceIte,reduceCtorEq,Nat.reduceLeDiff,Nat.reduceLT,Nat.reduceBEq,Nat.reduceAdd,o1,V32,ten,hl];(repeat1' with_reducible first|apply And.intro|(intro _;try exact q_v)|(refine hK _ ?_;clear hK K))<;>(try (clear hK K;exact q_u)))|(with_reducible refine q_s ?_;(first|apply q_J|apply q_K|apply q_L|apply q_M|apply q_N|apply q_O)<;>try (intro _;try exact q_v))|with_reducible refine q_t ?_)
 all_goals first | omega | exact q_A rfl | skip
def sizeCT : CT:=mkCT [nU] true fun l K=>match l with
 | [.inl (.ints .u32 xs)]=>(InB 4294967296 xs ∧ Trd xs ∧ xs.length ≤ 600) ∧ K (.c (.i .i64 (ds (V 4294967296 xs))))
 | _=>False
def dc1 : Cfg:=addT 120 sizeCT cf0
theorem dc1_ok : TblOk Tryz.prog dc1:=q_I cf0_ok Tryz.func120 fun l K h=>by
 split at h
 ·rename_i xs
  obtain ⟨⟨h1,h2,h3⟩,h⟩:=h
  have e1:=dg_V 4294967296 (by omega) xs h1 h2
  have:=size_ret (V 4294967296 xs) (by rw [e1]; exact h3)
  rw [e1] at this
  exact ⟨_,this.plain rfl,h⟩
 ·exact h.elim
set_option maxHeartbeats 800000 in
theorem less_ret (m n : Nat) (lm : (dg 4294967296 m).length ≤ 600) (ln : (dg 4294967296 n).length ≤ 600) : Ret Tryz.prog 124 false [.inl (.ints .u32 (dg 4294967296 m)),.inl (.ints .u32 (dg 4294967296 n))] (.c (.b (decide (m < n)))):=by
 have hc : decide (cmp3 m n < 0) = decide (m < n):=by congr 1; exact propext (cmp3_lt m n)
 (refine q_H Tryz.func124 (fun F=>?_); simp only [q_z,q_y,Tryz.ntmps124,Tryz.results124])
 repeat' (first|(with_reducible first|apply q_a|apply q_b|apply q_c|apply q_d|apply q_e|apply q_f|apply q_g|apply q_h|apply q_i|apply q_j|apply q_k|apply q_m|apply q_n|apply q_o|apply q_p|refine q_l ?_)|((with_reducible first|refine q_q db1d_ok fun K hK=>?_|refine q_r db1d_ok fun K hK=>?_);simp (maxSteps:=2000000) only [go_sem,↓reduceIte,reduceCtorEq,Nat.reduceLeDiff,Nat.reduceLT,Nat.reduceBEq,Nat.reduceAdd,V32,hc];(repeat1' with_reducible first|apply And.intro|(intro _;try exact q_v)|(refine hK _ ?_;clear hK K))<;>(try (clear hK K;exact q_u)))|(with_reducible refine q_s ?_;(first|apply q_J|apply q_K|apply q_L|apply q_M|apply q_N|apply q_O)<;>try (intro _;try exact q_v))|with_reducible refine q_t ?_)
 all_goals first | omega | exact q_A rfl | skip
def lessCT : CT:=mkCT [nU,nU] true fun l K=>match l with
 | [.inl (.ints .u32 xs),.inl (.ints .u32 ys)]=>(InB 4294967296 xs ∧ Trd xs ∧ xs.length ≤ 600 ∧ InB 4294967296 ys ∧ Trd ys ∧ ys.length ≤ 600) ∧ K (.c (.b (decide (V 4294967296 xs < V 4294967296 ys))))
 | _=>False
def dc2 : Cfg:=addT 124 lessCT cf0
theorem dc2_ok : TblOk Tryz.prog dc2:=q_I cf0_ok Tryz.func124 fun l K h=>by
 split at h
 ·rename_i xs ys
  obtain ⟨⟨h1,h2,h3,h4,h5,h6⟩,h⟩:=h
  have e1:=dg_V 4294967296 (by omega) xs h1 h2
  have e2:=dg_V 4294967296 (by omega) ys h4 h5
  have:=less_ret (V 4294967296 xs) (V 4294967296 ys) (by rw [e1]; exact h3) (by rw [e2]; exact h6)
  rw [e1,e2] at this
  exact ⟨_,this.plain rfl,h⟩
 ·exact h.elim
set_option maxHeartbeats 1600000 in
theorem power_ret (N : Nat) (h : N < 4096) : Ret Tryz.prog 83 false [.inl (.i .i64 (N : Int))] (.c (.ints .u32 (dg 4294967296 (10 ^ N)))):=by
 have e1 : ([1] : List Int) = dg 4294967296 1:=rfl
 have e10 : ([10] : List Int) = dg 4294967296 10:=(dg_ten 10 (by omega) (by omega)).symm
 (refine q_H Tryz.func83 (fun F=>?_); simp only [q_z,q_y,Tryz.ntmps83,Tryz.results83])
 repeat' (first|(with_reducible first|apply q_a|apply q_b|apply q_c|apply q_d|apply q_e|apply q_f|apply q_g|apply q_h|apply q_i|apply q_j|apply q_k|apply q_m|apply q_n|apply q_o|apply q_p|refine q_l ?_)|((with_reducible first|refine q_q db1d_ok fun K hK=>?_|refine q_r db1d_ok fun K hK=>?_);simp (maxSteps:=2000000) only [go_sem,↓reduceIte,reduceCtorEq,Nat.reduceLeDiff,Nat.reduceLT,Nat.reduceBEq,Nat.reduceAdd,e1,e10];(repeat1' with_reducible first|apply And.intro|(intro _;try exact q_v)|(refine hK _ ?_;clear hK K))<;>(try (clear hK K;exact q_u)))|(with_reducible refine q_s ?_;(first|apply q_J|apply q_K|apply q_L|apply q_M|apply q_N|apply q_O)<;>try (intro _;try exact q_v))|with_reducible refine q_t ?_)
 all_goals first | omega | skip
 refine q_G (ι:={ q : Nat × Nat × Nat // q.2.1 + 2 ^ q.1 * q.2.2 = N }) (fun q=>⟨27,[(0,.c (.i .i64 (q.1.2.2 : Nat))),(3,.c (.ints .u32 (dg 4294967296 (10 ^ q.1.2.1)))),(4,.c (.ints .u32 (dg 4294967296 (10 ^ 2 ^ q.1.1))))],⟨[],[],[]⟩,0⟩) (fun q=>q.1.2.2) ⟨(0,0,N),by simp⟩ ?_ ?_
 ·exact q_D
 rintro ⟨⟨i,a,n⟩,g⟩
 simp only at g ⊢
 rcases Nat.eq_zero_or_pos n with h0 | h0
 ·subst h0
  rw [Nat.mul_zero,Nat.add_zero] at g
  subst g
  repeat' (first|(with_reducible first|apply q_a|apply q_b|apply q_c|apply q_d|apply q_e|apply q_f|apply q_g|apply q_h|apply q_i|apply q_j|apply q_k|apply q_m|apply q_n|apply q_o|apply q_p|refine q_l ?_)|((with_reducible first|refine q_q db1d_ok fun K hK=>?_|refine q_r db1d_ok fun K hK=>?_);simp (maxSteps:=2000000) only [go_sem,↓reduceIte,reduceCtorEq,Nat.reduceLeDiff,Nat.reduceLT,Nat.reduceBEq,Nat.reduceAdd];(repeat1' with_reducible first|apply And.intro|(intro _;try exact q_v)|(refine hK _ ?_;clear hK K))<;>(try (clear hK K;exact q_u)))|(with_reducible refine q_s ?_;(first|apply q_J|apply q_K|apply q_L|apply q_M|apply q_N|apply q_O)<;>try (intro _;try exact q_v))|with_reducible refine q_t ?_)
  all_goals first | omega | exact q_A rfl | skip
 ·obtain ⟨p1,p2,p3⟩:=pw_fits h h0 g
  have m1 : 10 ^ a * 10 ^ 2 ^ i = 10 ^ (a + 2 ^ i):=(Nat.pow_add 10 a (2 ^ i)).symm
  have m2 : 10 ^ 2 ^ i * 10 ^ 2 ^ i = 10 ^ 2 ^ (i + 1):=by rw [← Nat.pow_add,Nat.pow_succ]; congr 1; omega
  have l1:=ten_600 (k:=a) (by omega)
  have l2:=ten_600 (k:=2 ^ i) (by omega)
  have l3:=ten_600 (k:=a + 2 ^ i) (by omega)
  have l4:=ten_600 (k:=2 ^ (i + 1)) (by rw [Nat.pow_succ]; omega)
  have hnN : n ≤ N:=by have:=Nat.le_mul_of_pos_left n (Nat.pow_pos (n:=i) (show 0 < 2 by omega)); omega
  have t2 : Int.tdiv (n : Int) 2 = ((n / 2 : Nat) : Int):=by rw [Int.tdiv_eq_ediv_of_nonneg (by omega)]; omega
  have dp:=Nat.div_lt_self h0 (show 1 < 2 by omega)
  rw [← m1] at l3
  rw [← m2] at l4
  rcases Nat.mod_two_eq_zero_or_one n with ho | ho
  ·have t1 : Int.tmod (n : Int) 2 = 0:=by rw [tmod2,ho]; rfl
   have gg:=pw_even _ _ ho _ _ g
   rw [← Nat.pow_succ] at gg
   repeat' (first|(with_reducible first|apply q_a|apply q_b|apply q_c|apply q_d|apply q_e|apply q_f|apply q_g|apply q_h|apply q_i|apply q_j|apply q_k|apply q_m|apply q_n|apply q_o|apply q_p|refine q_l ?_)|((with_reducible first|refine q_q db1d_ok fun K hK=>?_|refine q_r db1d_ok fun K hK=>?_);simp (maxSteps:=2000000) only [go_sem,↓reduceIte,reduceCtorEq,Nat.reduceLeDiff,Nat.reduceLT,Nat.reduceBEq,Nat.reduceAdd,V32,t1,t2];(repeat1' with_reducible first|apply And.intro|(intro _;try exact q_v)|(refine hK _ ?_;clear hK K))<;>(try (clear hK K;exact q_u)))|(with_reducible refine q_s ?_;(first|apply q_J|apply q_K|apply q_L|apply q_M|apply q_N|apply q_O)<;>try (intro _;try exact q_v))|with_reducible refine q_t ?_)
   all_goals first | omega | skip
   refine q_F ⟨(i + 1,a,n / 2),gg⟩ ?_ (by simp only; omega)
   simp only [← m2]
   exact q_D
  ·have t1 : Int.tmod (n : Int) 2 = 1:=by rw [tmod2,ho]; rfl
   have gg:=pw_odd _ _ ho _ _ g
   rw [← Nat.pow_succ] at gg
   repeat' (first|(with_reducible first|apply q_a|apply q_b|apply q_c|apply q_d|apply q_e|apply q_f|apply q_g|apply q_h|apply q_i|apply q_j|apply q_k|apply q_m|apply q_n|apply q_o|apply q_p|refine q_l ?_)|((with_reducible first|refine q_q db1d_ok fun K hK=>?_|refine q_r db1d_ok fun K hK=>?_);simp (maxSteps:=2000000) only [go_sem,↓reduceIte,reduceCtorEq,Nat.reduceLeDiff,Nat.reduceLT,Nat.reduceBEq,Nat.reduceAdd,V32,t1,t2];(repeat1' with_reducible first|apply And.intro|(intro _;try exact q_v)|(refine hK _ ?_;clear hK K))<;>(try (clear hK K;exact q_u)))|(with_reducible refine q_s ?_;(first|apply q_J|apply q_K|apply q_L|apply q_M|apply q_N|apply q_O)<;>try (intro _;try exact q_v))|with_reducible refine q_t ?_)
   all_goals first | omega | skip
   refine q_F ⟨(i + 1,a + 2 ^ i,n / 2),gg⟩ ?_ (by simp only; omega)
   simp only [← m2,← m1]
   exact q_D
def powerCT : CT:=mkCT [] false fun l K=>match l with
 | [.inl (.i .i64 n)]=>(0 ≤ n ∧ n < 4096) ∧ K (.c (.ints .u32 (dg 4294967296 (10 ^ n.toNat))))
 | _=>False
def dc3 : Cfg:=addT 83 powerCT cf0
theorem dc3_ok : TblOk Tryz.prog dc3:=q_I cf0_ok Tryz.func83 fun l K h=>by
 split at h
 ·rename_i n
  obtain ⟨⟨h1,h2⟩,h⟩:=h
  have:=power_ret n.toNat (by omega)
  rw [show ((n.toNat : Nat) : Int) = n by omega] at this
  exact ⟨_,this,h⟩
 ·exact h.elim
attribute [go_sem] sizeCT lessCT powerCT
def db2d : Cfg:=listT [(83,powerCT),(88,(nat6CT pMul rMulN))] [34]
theorem db2d_ok : TblOk Tryz.prog db2d:=listE_ok (by simp only [List.mem_singleton,forall_eq]; exact flt) ⟨⟨dc3,dc3_ok,rfl⟩,⟨dn2,dn2_ok,rfl⟩,trivial⟩
attribute [go_sem] db2d
set_option maxHeartbeats 800000 in
theorem times_ret' (m N : Nat) (h : N < 4096) (hm : (dg 4294967296 m).length ≤ 600) (hp : (dg 4294967296 (m * 10 ^ N)).length ≤ 600) : Ret Tryz.prog 82 false [.inl (.ints .u32 (dg 4294967296 m)),.inl (.i .i64 (N : Int))] (.c (.ints .u32 (dg 4294967296 (m * 10 ^ N)))):=by
 have h1:=ten_600 (k:=N) (by omega)
 generalize hP : 10 ^ N = P at *
 (refine q_H Tryz.func82 (fun F=>?_); simp only [q_z,q_y,Tryz.ntmps82,Tryz.results82])
 repeat' (first|(with_reducible first|apply q_a|apply q_b|apply q_c|apply q_d|apply q_e|apply q_f|apply q_g|apply q_h|apply q_i|apply q_j|apply q_k|apply q_m|apply q_n|apply q_o|apply q_p|refine q_l ?_)|((with_reducible first|refine q_q db2d_ok fun K hK=>?_|refine q_r db2d_ok fun K hK=>?_);simp (maxSteps:=2000000) only [go_sem,↓reduceIte,reduceCtorEq,Nat.reduceLeDiff,Nat.reduceLT,Nat.reduceBEq,Nat.reduceAdd,V32,Int.toNat_natCast,hP];(repeat1' with_reducible first|apply And.intro|(intro _;try exact q_v)|(refine hK _ ?_;clear hK K))<;>(try (clear hK K;exact q_u)))|(with_reducible refine q_s ?_;(first|apply q_J|apply q_K|apply q_L|apply q_M|apply q_N|apply q_O)<;>try (intro _;try exact q_v))|with_reducible refine q_t ?_)
 all_goals first | omega | exact q_A rfl | skip
def timesTCT : CT:=mkCT [nU] false fun l K=>match l with
 | [.inl (.ints .u32 xs),.inl (.i .i64 n)]=>(InB 4294967296 xs ∧ Trd xs ∧ xs.length ≤ 600 ∧ 0 ≤ n ∧ n < 4096 ∧ (dg 4294967296 (V 4294967296 xs * 10 ^ n.toNat)).length ≤ 600) ∧ K (.c (.ints .u32 (dg 4294967296 (V 4294967296 xs * 10 ^ n.toNat))))
 | _=>False
def dc4 : Cfg:=addT 82 timesTCT cf0
theorem dc4_ok : TblOk Tryz.prog dc4:=q_I cf0_ok Tryz.func82 fun l K h=>by
 split at h
 ·rename_i xs n
  obtain ⟨⟨h1,h2,h3,h4,h5,h6⟩,h⟩:=h
  have e1:=dg_V 4294967296 (by omega) xs h1 h2
  have:=times_ret' (V 4294967296 xs) n.toNat (by omega) (by rw [e1]; exact h3) h6
  rw [e1,show ((n.toNat : Nat) : Int) = n by omega] at this
  exact ⟨_,this,h⟩
 ·exact h.elim
attribute [go_sem] timesTCT
end Go.Proofs.YtgkajjifbcmoeaaGreatDoor

namespace Go.Proofs.NatL
set_option linter.unusedSimpArgs false
set_option linter.unusedVariables false
theorem first_ge {num den : Nat} {e n : Int} (hn : (ds num : Int) - ds den = n) (h : 0 ≤ n) : firstE num den e = (if num < den * 10 ^ n.toNat then n - 1 else n) + e:=by
 unfold firstE
 have hg : guessE num den e = n + e:=by unfold guessE; omega
 have h1 : ptN num e (n + e) = num:=by
  unfold ptN
  split
  ·rw [show (e - (n + e)).toNat = 0 by omega,Nat.pow_zero,Nat.mul_one]
  ·rfl
 have h2 : ptD den e (n + e) = den * 10 ^ n.toNat:=by
  unfold ptD
  split
  ·rw [show n.toNat = 0 by omega,Nat.pow_zero,Nat.mul_one]
  ·rw [show (n + e - e).toNat = n.toNat by omega]
 rw [hg,h1,h2]
 split <;> omega
theorem first_lt {num den : Nat} {e n : Int} (hn : (ds num : Int) - ds den = n) (h : n < 0) : firstE num den e = (if num * 10 ^ (-n).toNat < den then n - 1 else n) + e:=by
 unfold firstE
 have hg : guessE num den e = n + e:=by unfold guessE; omega
 have h1 : ptN num e (n + e) = num * 10 ^ (-n).toNat:=by
  unfold ptN
  rw [if_pos (by omega),show (e - (n + e)).toNat = (-n).toNat by omega]
 have h2 : ptD den e (n + e) = den:=by
  unfold ptD
  rw [if_pos (by omega)]
 rw [hg,h1,h2]
 split <;> omega
theorem pt_ge {num den : Nat} {e x : Int} (h : 0 ≤ e - x) : ptN num e x = num * 10 ^ (e - x).toNat ∧ ptD den e x = den:=by
 unfold ptN ptD; rw [if_pos (by omega),if_pos (by omega)]; exact ⟨rfl,rfl⟩
theorem pt_lt {num den : Nat} {e x : Int} (h : e - x < 0) : ptN num e x = num ∧ ptD den e x = den * 10 ^ (-(e - x)).toNat:=by
 unfold ptN ptD; rw [if_neg (by omega),if_neg (by omega)]
 exact ⟨rfl,by congr 2; omega⟩
theorem ds_le_of_le {a b k : Nat} (h : a ≤ b) (hb : ds b ≤ k) : ds a ≤ k:=Nat.le_trans (ds_mono h) hb
theorem ptN_ge (num : Nat) (e x : Int) : num ≤ ptN num e x:=by
 unfold ptN; split
 ·exact Nat.le_mul_of_pos_right _ (Nat.pow_pos (by omega))
 ·exact Nat.le_refl _
theorem ptD_ge (den : Nat) (e x : Int) : den ≤ ptD den e x:=by
 unfold ptD; split
 ·exact Nat.le_refl _
 ·exact Nat.le_mul_of_pos_right _ (Nat.pow_pos (by omega))
def atP (num den : Nat) (e x : Int) : Prop:=0 < den ∧ ds (ptN num e x) ≤ 5600 ∧ ds (ptD den e x) ≤ 5600 ∧ -4096 < e - x ∧ e - x < 4096
theorem atP_d (num den : Nat) (e x : Int) : atP num den e x = (0 < den ∧ ds (ptN num e x) ≤ 5600 ∧ ds (ptD den e x) ≤ 5600 ∧ -4096 < e - x ∧ e - x < 4096):=rfl
theorem odd32 (n : Nat) : decide ((dg 4294967296 n).getD 0 0 % 2 = 1) = decide (n % 2 = 1):=by
 rcases Nat.eq_zero_or_pos n with rfl | h
 ·rfl
 ·rw [dg_pos _ _ (by omega) h]
  congr 1
  simp only [List.getD_cons_zero]
  exact propext ⟨fun h=>by omega,fun h=>by omega⟩
theorem dg_nil_iff (n : Nat) : ((dg 4294967296 n).length : Int) = 0 ↔ n = 0:=by
 have:=dg_len_pos 4294967296 n (by omega)
 omega
end Go.Proofs.NatL
namespace Go.Proofs.YtgkajjifbcmoeaaGreatDoor
set_option linter.unusedSimpArgs false
set_option linter.unusedVariables false
open Go.Abs Go.Proofs.NatL

abbrev gX (s : Bool) (num den : Nat) (e : Int) : List C:=[.b s,.ints .u32 (dg 4294967296 num),.ints .u32 (dg 4294967296 den),.i .i64 e]
abbrev nX : Option C ⊕ List (Option C):=.inr [none,some (.ints .u32 []),some (.ints .u32 []),none]
def db3d : Cfg:=listT [(82,timesTCT),(120,sizeCT),(124,lessCT),(85,(nat6CT pos2 rDivN))] [34]
theorem db3d_ok : TblOk Tryz.prog db3d:=listE_ok (by simp only [List.mem_singleton,forall_eq]; exact flt) ⟨⟨dc4,dc4_ok,rfl⟩,⟨dc1,dc1_ok,rfl⟩,⟨dc2,dc2_ok,rfl⟩,⟨dn6,dn6_ok,rfl⟩,trivial⟩
attribute [go_sem] db3d
set_option maxHeartbeats 1600000 in
theorem first_ret (s : Bool) (num den : Nat) (e : Int) (hn : ds num ≤ 4000) (hd : ds den ≤ 4000) (he : -100000 ≤ e ∧ e ≤ 100000) : Ret Tryz.prog 149 false [.inr (gX s num den e)] (.c (.i .i64 (firstE num den e))):=by
 have l1:=ds_600 (n:=num) (by omega)
 have l2:=ds_600 (n:=den) (by omega)
 obtain ⟨e1,e2⟩:=he
 generalize hN : (ds num : Int) - ds den = n
 rcases int_lt_ge n 0 with h0 | h0
 ·rw [first_lt hN h0]
  have l3:=ds_600 (n:=num * 10 ^ (-n).toNat) (ds_mul10 (by omega))
  have hN' : (0 : Int) - n = -n:=by omega
  generalize hM : num * 10 ^ (-n).toNat = M at *
  by_cases hl : M < den
  ·rw [if_pos hl]
   (refine q_H Tryz.func149 (fun F=>?_); simp only [q_z,q_y,Tryz.ntmps149,Tryz.results149])
   repeat' (first|(with_reducible first|apply q_a|apply q_b|apply q_c|apply q_d|apply q_e|apply q_f|apply q_g|apply q_h|apply q_i|apply q_j|apply q_k|apply q_m|apply q_n|apply q_o|apply q_p|refine q_l ?_)|((with_reducible first|refine q_q db3d_ok fun K hK=>?_|refine q_r db3d_ok fun K hK=>?_);simp (maxSteps:=2000000) only [go_sem,↓reduceIte,reduceCtorEq,Nat.reduceLeDiff,Nat.reduceLT,Nat.reduceBEq,Nat.reduceAdd,V32,hN,hN',hM];(repeat1' with_reducible first|apply And.intro|(intro _;try exact q_v)|(refine hK _ ?_;clear hK K))<;>(try (clear hK K;exact q_u)))|(with_reducible refine q_s ?_;(first|apply q_J|apply q_K|apply q_L|apply q_M|apply q_N|apply q_O)<;>try (intro _;try exact q_v))|with_reducible refine q_t ?_)
   all_goals first | omega | exact q_A rfl | skip
  ·rw [if_neg hl]
   (refine q_H Tryz.func149 (fun F=>?_); simp only [q_z,q_y,Tryz.ntmps149,Tryz.results149])
   repeat' (first|(with_reducible first|apply q_a|apply q_b|apply q_c|apply q_d|apply q_e|apply q_f|apply q_g|apply q_h|apply q_i|apply q_j|apply q_k|apply q_m|apply q_n|apply q_o|apply q_p|refine q_l ?_)|((with_reducible first|refine q_q db3d_ok fun K hK=>?_|refine q_r db3d_ok fun K hK=>?_);simp (maxSteps:=2000000) only [go_sem,↓reduceIte,reduceCtorEq,Nat.reduceLeDiff,Nat.reduceLT,Nat.reduceBEq,Nat.reduceAdd,V32,hN,hN',hM];(repeat1' with_reducible first|apply And.intro|(intro _;try exact q_v)|(refine hK _ ?_;clear hK K))<;>(try (clear hK K;exact q_u)))|(with_reducible refine q_s ?_;(first|apply q_J|apply q_K|apply q_L|apply q_M|apply q_N|apply q_O)<;>try (intro _;try exact q_v))|with_reducible refine q_t ?_)
   all_goals first | omega | exact q_A rfl | skip
 ·rw [first_ge hN h0]
  have l3:=ds_600 (n:=den * 10 ^ n.toNat) (ds_mul10 (by omega))
  generalize hM : den * 10 ^ n.toNat = M at *
  by_cases hl : num < M
  ·rw [if_pos hl]
   (refine q_H Tryz.func149 (fun F=>?_); simp only [q_z,q_y,Tryz.ntmps149,Tryz.results149])
   repeat' (first|(with_reducible first|apply q_a|apply q_b|apply q_c|apply q_d|apply q_e|apply q_f|apply q_g|apply q_h|apply q_i|apply q_j|apply q_k|apply q_m|apply q_n|apply q_o|apply q_p|refine q_l ?_)|((with_reducible first|refine q_q db3d_ok fun K hK=>?_|refine q_r db3d_ok fun K hK=>?_);simp (maxSteps:=2000000) only [go_sem,↓reduceIte,reduceCtorEq,Nat.reduceLeDiff,Nat.reduceLT,Nat.reduceBEq,Nat.reduceAdd,V32,hN,hM];(repeat1' with_reducible first|apply And.intro|(intro _;try exact q_v)|(refine hK _ ?_;clear hK K))<;>(try (clear hK K;exact q_u)))|(with_reducible refine q_s ?_;(first|apply q_J|apply q_K|apply q_L|apply q_M|apply q_N|apply q_O)<;>try (intro _;try exact q_v))|with_reducible refine q_t ?_)
   all_goals first | omega | exact q_A rfl | skip
  ·rw [if_neg hl]
   (refine q_H Tryz.func149 (fun F=>?_); simp only [q_z,q_y,Tryz.ntmps149,Tryz.results149])
   repeat' (first|(with_reducible first|apply q_a|apply q_b|apply q_c|apply q_d|apply q_e|apply q_f|apply q_g|apply q_h|apply q_i|apply q_j|apply q_k|apply q_m|apply q_n|apply q_o|apply q_p|refine q_l ?_)|((with_reducible first|refine q_q db3d_ok fun K hK=>?_|refine q_r db3d_ok fun K hK=>?_);simp (maxSteps:=2000000) only [go_sem,↓reduceIte,reduceCtorEq,Nat.reduceLeDiff,Nat.reduceLT,Nat.reduceBEq,Nat.reduceAdd,V32,hN,hM];(repeat1' with_reducible first|apply And.intro|(intro _;try exact q_v)|(refine hK _ ?_;clear hK K))<;>(try (clear hK K;exact q_u)))|(with_reducible refine q_s ?_;(first|apply q_J|apply q_K|apply q_L|apply q_M|apply q_N|apply q_O)<;>try (intro _;try exact q_v))|with_reducible refine q_t ?_)
   all_goals first | omega | exact q_A rfl | skip
def xCT (q : Nat → Nat → Int → Prop) (r : Bool → Nat → Nat → Int → AV) : CT:=mkCT [nX] false fun l K=>match l with
 | [.inr [.b s,.ints .u32 xs,.ints .u32 ys,.i .i64 e]]=>(InB 4294967296 xs ∧ Trd xs ∧ InB 4294967296 ys ∧ Trd ys ∧ q (V 4294967296 xs) (V 4294967296 ys) e) ∧ K (r s (V 4294967296 xs) (V 4294967296 ys) e)
 | _=>False
def fsP (num den : Nat) (e : Int) : Prop:=ds num ≤ 4000 ∧ ds den ≤ 4000 ∧ -100000 ≤ e ∧ e ≤ 100000
theorem fsP_d (num den : Nat) (e : Int) : fsP num den e = (ds num ≤ 4000 ∧ ds den ≤ 4000 ∧ -100000 ≤ e ∧ e ≤ 100000):=rfl
def rFs (_ : Bool) (num den : Nat) (e : Int) : AV:=.c (.i .i64 (firstE num den e))
def dd1x : Cfg:=addT 149 (xCT fsP rFs) cf0
theorem dd1x_ok : TblOk Tryz.prog dd1x:=q_I cf0_ok Tryz.func149 fun l K h=>by
 split at h
 ·rename_i s xs ys e
  obtain ⟨⟨h1,h2,h3,h4,h5,h6,h7⟩,h⟩:=h
  have e1:=dg_V 4294967296 (by omega) xs h1 h2
  have e2:=dg_V 4294967296 (by omega) ys h3 h4
  have:=first_ret s _ _ e h5 h6 h7
  rw [gX,e1,e2] at this
  exact ⟨_,this,h⟩
 ·exact h.elim
attribute [go_sem] xCT fsP_d rFs
set_option maxHeartbeats 1600000 in
theorem at_ret' (s : Bool) (num den : Nat) (e x : Int) (h : atP num den e x) (he : -100000 ≤ e ∧ e ≤ 100000) (hx : -100000 ≤ x ∧ x ≤ 100000) : Ret Tryz.prog 182 false [.inr (gX s num den e),.inl (.i .i64 x)]
  (.t [.inl (.ints .u32 (dg 4294967296 (qE num den e x))),.inl (.ints .u32 (dg 4294967296 (sE num den e x))),.inl (.ints .u32 (dg 4294967296 (ptD den e x)))]):=by
 obtain ⟨h1,h2,h3,h4,h5⟩:=h
 have l1:=ds_600 (n:=num) (Nat.le_trans (ds_mono (ptN_ge num e x)) (by omega))
 have l2:=ds_600 (n:=den) (Nat.le_trans (ds_mono (ptD_ge den e x)) (by omega))
 have hp:=ptD_pos h1 e x
 unfold qE sE
 rcases int_lt_ge (e - x) 0 with h0 | h0
 ·obtain ⟨e1,e2⟩:=pt_lt (num:=num) (den:=den) h0
  rw [e1] at h2
  rw [e2] at h3 hp
  rw [e1,e2]
  have l3:=ds_600 (n:=den * 10 ^ (-(e - x)).toNat) (by omega)
  have e3 : (0 : Int) - (e - x) = -(e - x):=by omega
  generalize hM : den * 10 ^ (-(e - x)).toNat = M at *
  (refine q_H Tryz.func182 (fun F=>?_); simp only [q_z,q_y,Tryz.ntmps182,Tryz.results182])
  repeat' (first|(with_reducible first|apply q_a|apply q_b|apply q_c|apply q_d|apply q_e|apply q_f|apply q_g|apply q_h|apply q_i|apply q_j|apply q_k|apply q_m|apply q_n|apply q_o|apply q_p|refine q_l ?_)|((with_reducible first|refine q_q db3d_ok fun K hK=>?_|refine q_r db3d_ok fun K hK=>?_);simp (maxSteps:=2000000) only [go_sem,↓reduceIte,reduceCtorEq,Nat.reduceLeDiff,Nat.reduceLT,Nat.reduceBEq,Nat.reduceAdd,V32,e3,hM];(repeat1' with_reducible first|apply And.intro|(intro _;try exact q_v)|(refine hK _ ?_;clear hK K))<;>(try (clear hK K;exact q_u)))|(with_reducible refine q_s ?_;(first|apply q_J|apply q_K|apply q_L|apply q_M|apply q_N|apply q_O)<;>try (intro _;try exact q_v))|with_reducible refine q_t ?_)
  all_goals first | omega | exact q_A rfl | skip
 ·obtain ⟨e1,e2⟩:=pt_ge (num:=num) (den:=den) h0
  rw [e1] at h2
  rw [e2] at h3 hp
  rw [e1,e2]
  have l3:=ds_600 (n:=num * 10 ^ (e - x).toNat) (by omega)
  generalize hM : num * 10 ^ (e - x).toNat = M at *
  (refine q_H Tryz.func182 (fun F=>?_); simp only [q_z,q_y,Tryz.ntmps182,Tryz.results182])
  repeat' (first|(with_reducible first|apply q_a|apply q_b|apply q_c|apply q_d|apply q_e|apply q_f|apply q_g|apply q_h|apply q_i|apply q_j|apply q_k|apply q_m|apply q_n|apply q_o|apply q_p|refine q_l ?_)|((with_reducible first|refine q_q db3d_ok fun K hK=>?_|refine q_r db3d_ok fun K hK=>?_);simp (maxSteps:=2000000) only [go_sem,↓reduceIte,reduceCtorEq,Nat.reduceLeDiff,Nat.reduceLT,Nat.reduceBEq,Nat.reduceAdd,V32,hM];(repeat1' with_reducible first|apply And.intro|(intro _;try exact q_v)|(refine hK _ ?_;clear hK K))<;>(try (clear hK K;exact q_u)))|(with_reducible refine q_s ?_;(first|apply q_J|apply q_K|apply q_L|apply q_M|apply q_N|apply q_O)<;>try (intro _;try exact q_v))|with_reducible refine q_t ?_)
  all_goals first | omega | exact q_A rfl | skip
def xatCT : CT:=mkCT [nX,.inl none] false fun l K=>match l with
 | [.inr [.b s,.ints .u32 xs,.ints .u32 ys,.i .i64 e],.inl (.i .i64 x)]=>(InB 4294967296 xs ∧ Trd xs ∧ InB 4294967296 ys ∧ Trd ys ∧ atP (V 4294967296 xs) (V 4294967296 ys) e x ∧ (-100000 ≤ e ∧ e ≤ 100000) ∧ (-100000 ≤ x ∧ x ≤ 100000)) ∧
   K (.t [.inl (.ints .u32 (dg 4294967296 (qE (V 4294967296 xs) (V 4294967296 ys) e x))),.inl (.ints .u32 (dg 4294967296 (sE (V 4294967296 xs) (V 4294967296 ys) e x))),.inl (.ints .u32 (dg 4294967296 (ptD (V 4294967296 ys) e x)))])
 | _=>False
def dd2x : Cfg:=addT 182 xatCT cf0
theorem dd2x_ok : TblOk Tryz.prog dd2x:=q_I cf0_ok Tryz.func182 fun l K h=>by
 split at h
 ·rename_i s xs ys e x
  obtain ⟨⟨h1,h2,h3,h4,h5,h6,h7⟩,h⟩:=h
  have e1:=dg_V 4294967296 (by omega) xs h1 h2
  have e2:=dg_V 4294967296 (by omega) ys h3 h4
  have:=at_ret' s _ _ e x h5 h6 h7
  rw [gX,e1,e2] at this
  exact ⟨_,this,h⟩
 ·exact h.elim
attribute [go_sem] xatCT atP_d
set_option maxHeartbeats 1600000 in
theorem away_ret (r : Int) (s o : Bool) (h : Int) : Ret Tryz.prog 183 false [.inl (.i .i64 r),.inl (.b s),.inl (.b o),.inl (.i .i64 h)] (.c (.b (awayB r s o h))):=by
 (refine q_H Tryz.func183 (fun F=>?_); simp only [q_z,q_y,Tryz.ntmps183,Tryz.results183])
 repeat' (first|(with_reducible first|apply q_a|apply q_b|apply q_c|apply q_d|apply q_e|apply q_f|apply q_g|apply q_h|apply q_i|apply q_j|apply q_k|apply q_m|apply q_n|apply q_o|apply q_p|refine q_l ?_)|((with_reducible first|refine q_q db3d_ok fun K hK=>?_|refine q_r db3d_ok fun K hK=>?_);simp (maxSteps:=2000000) only [go_sem,↓reduceIte,reduceCtorEq,Nat.reduceLeDiff,Nat.reduceLT,Nat.reduceBEq,Nat.reduceAdd];(repeat1' with_reducible first|apply And.intro|(intro _;try exact q_v)|(refine hK _ ?_;clear hK K))<;>(try (clear hK K;exact q_u)))|(with_reducible refine q_s ?_;(first|apply q_J|apply q_K|apply q_L|apply q_M|apply q_N|apply q_O)<;>try (intro _;try exact q_v))|with_reducible refine q_t ?_)
 all_goals exact q_A (by simp [resAV,q_y,awayB, *])
def awayCT : CT:=mkCT [] true fun l K=>match l with
 | [.inl (.i .i64 r),.inl (.b s),.inl (.b o),.inl (.i .i64 h)]=>K (.c (.b (awayB r s o h)))
 | _=>False
def dd3x : Cfg:=addT 183 awayCT cf0
theorem dd3x_ok : TblOk Tryz.prog dd3x:=q_I cf0_ok Tryz.func183 fun l K h=>by
 split at h
 ·exact ⟨_,(away_ret _ _ _ _).plain rfl,h⟩
 ·exact h.elim
attribute [go_sem] awayCT
def db4d : Cfg:=listT [(182,xatCT),(183,awayCT),(125,(nat6CT pAdd rAddN)),(164,(nat6CT tr2 rCmpN))] [34]
theorem db4d_ok : TblOk Tryz.prog db4d:=listE_ok (by simp only [List.mem_singleton,forall_eq]; exact flt) ⟨⟨dd2x,dd2x_ok,rfl⟩,⟨dd3x,dd3x_ok,rfl⟩,⟨dn1,dn1_ok,rfl⟩,⟨dn4,dn4_ok,rfl⟩,trivial⟩
attribute [go_sem] db4d
set_option maxHeartbeats 1600000 in
theorem rounded_ret (s : Bool) (num den : Nat) (e x r : Int) (h : atP num den e x) (he : -100000 ≤ e ∧ e ≤ 100000) (hx : -100000 ≤ x ∧ x ≤ 100000) :
  Ret Tryz.prog 119 false [.inr (gX s num den e),.inl (.i .i64 x),.inl (.i .i64 r)]
  (.t [.inl (.ints .u32 (dg 4294967296 (rdE s num den e x r))),.inl (.b (decide (sE num den e x ≠ 0)))]):=by
 have h':=h
 obtain ⟨h1,h2,h3,h4,h5⟩:=h'
 have hp:=ptD_pos h1 e x
 have b1 : qE num den e x ≤ ptN num e x:=Nat.div_le_self _ _
 have b2 : sE num den e x < ptD den e x:=Nat.mod_lt _ hp
 have l1:=ds_600 (n:=ptD den e x) (by omega)
 have l2:=ds_600 (n:=qE num den e x) (by have:=ds_le_of_le b1 h2; omega)
 have l3:=ds_600 (n:=sE num den e x) (by have:=ds_le_of_le (Nat.le_of_lt b2) h3; omega)
 have l4:=ds_600 (n:=qE num den e x + 1) (by have:=ds_add (a:=qE num den e x) (b:=1) (k:=5600) (ds_le_of_le b1 h2) (by decide); omega)
 have l5:=ds_600 (n:=sE num den e x + sE num den e x) (by have:=ds_add (ds_le_of_le (Nat.le_of_lt b2) h3) (ds_le_of_le (Nat.le_of_lt b2) h3); omega)
 have e1 : ([1] : List Int) = dg 4294967296 1:=rfl
 have l6:=ds_600 (n:=1) (by decide)
 have b0:=(InB_getD (by omega) (InB_dg 4294967296 (by omega) (qE num den e x)) 0).1
 have hodd:=odd32 (qE num den e x)
 have hq:=dg_nil_iff (qE num den e x)
 have e2 : sE num den e x + sE num den e x = 2 * sE num den e x:=by omega
 have hz:=dg_nil_iff (sE num den e x)
 rw [e2] at l5
 unfold rdE
 generalize hQ : qE num den e x = Q at *
 generalize hS : sE num den e x = S at *
 generalize hD : ptD den e x = D at *
 by_cases hs : S = 0
 ·rw [if_pos hs]
  have hs0:=hz.2 hs
  subst hs
  (refine q_H Tryz.func119 (fun F=>?_); simp only [q_z,q_y,Tryz.ntmps119,Tryz.results119])
  repeat' (first|(with_reducible first|apply q_a|apply q_b|apply q_c|apply q_d|apply q_e|apply q_f|apply q_g|apply q_h|apply q_i|apply q_j|apply q_k|apply q_m|apply q_n|apply q_o|apply q_p|refine q_l ?_)|((with_reducible first|refine q_q db4d_ok fun K hK=>?_|refine q_r db4d_ok fun K hK=>?_);simp (maxSteps:=2000000) only [go_sem,↓reduceIte,reduceCtorEq,Nat.reduceLeDiff,Nat.reduceLT,Nat.reduceBEq,Nat.reduceAdd,V32,hQ,hS,hD];(repeat1' with_reducible first|apply And.intro|(intro _;try exact q_v)|(refine hK _ ?_;clear hK K))<;>(try (clear hK K;exact q_u)))|(with_reducible refine q_s ?_;(first|apply q_J|apply q_K|apply q_L|apply q_M|apply q_N|apply q_O)<;>try (intro _;try exact q_v))|with_reducible refine q_t ?_)
  all_goals first | omega | exact q_A rfl | skip
 ·rw [if_neg hs]
  have hs0 : ¬ ((dg 4294967296 S).length : Int) = 0:=fun k=>hs (hz.1 k)
  have hs1 : decide (S ≠ 0) = true:=decide_eq_true hs
  rw [hs1]
  by_cases hq0 : Q = 0
  ·have hq1:=hq.2 hq0
   have hq2 : decide (Q % 2 = 1) = false:=decide_eq_false (by omega)
   rw [hq2]
   cases ha : awayB r s false (cmp3 (2 * S) D)
   all_goals
    (refine q_H Tryz.func119 (fun F=>?_); simp only [q_z,q_y,Tryz.ntmps119,Tryz.results119])
    repeat' (first|(with_reducible first|apply q_a|apply q_b|apply q_c|apply q_d|apply q_e|apply q_f|apply q_g|apply q_h|apply q_i|apply q_j|apply q_k|apply q_m|apply q_n|apply q_o|apply q_p|refine q_l ?_)|((with_reducible first|refine q_q db4d_ok fun K hK=>?_|refine q_r db4d_ok fun K hK=>?_);simp (maxSteps:=2000000) only [go_sem,↓reduceIte,reduceCtorEq,Nat.reduceLeDiff,Nat.reduceLT,Nat.reduceBEq,Nat.reduceAdd,V32,hQ,hS,hD,e1,e2,ha];(repeat1' with_reducible first|apply And.intro|(intro _;try exact q_v)|(refine hK _ ?_;clear hK K))<;>(try (clear hK K;exact q_u)))|(with_reducible refine q_s ?_;(first|apply q_J|apply q_K|apply q_L|apply q_M|apply q_N|apply q_O)<;>try (intro _;try exact q_v))|with_reducible refine q_t ?_)
    all_goals first | omega | exact q_A rfl | skip
  ·have hq1 : ¬ ((dg 4294967296 Q).length : Int) = 0:=fun k=>hq0 (hq.1 k)
   cases ha : awayB r s (decide (Q % 2 = 1)) (cmp3 (2 * S) D)
   all_goals
    (refine q_H Tryz.func119 (fun F=>?_); simp only [q_z,q_y,Tryz.ntmps119,Tryz.results119])
    repeat' (first|(with_reducible first|apply q_a|apply q_b|apply q_c|apply q_d|apply q_e|apply q_f|apply q_g|apply q_h|apply q_i|apply q_j|apply q_k|apply q_m|apply q_n|apply q_o|apply q_p|refine q_l ?_)|((with_reducible first|refine q_q db4d_ok fun K hK=>?_|refine q_r db4d_ok fun K hK=>?_);simp (maxSteps:=2000000) only [go_sem,↓reduceIte,reduceCtorEq,Nat.reduceLeDiff,Nat.reduceLT,Nat.reduceBEq,Nat.reduceAdd,V32,hQ,hS,hD,e1,e2,hodd,ha];(repeat1' with_reducible first|apply And.intro|(intro _;try exact q_v)|(refine hK _ ?_;clear hK K))<;>(try (clear hK K;exact q_u)))|(with_reducible refine q_s ?_;(first|apply q_J|apply q_K|apply q_L|apply q_M|apply q_N|apply q_O)<;>try (intro _;try exact q_v))|with_reducible refine q_t ?_)
    all_goals first | omega | exact q_A rfl | skip
def roundedCT : CT:=mkCT [nX,.inl none,.inl none] false fun l K=>match l with
 | [.inr [.b s,.ints .u32 xs,.ints .u32 ys,.i .i64 e],.inl (.i .i64 x),.inl (.i .i64 r)]=>(InB 4294967296 xs ∧ Trd xs ∧ InB 4294967296 ys ∧ Trd ys ∧ atP (V 4294967296 xs) (V 4294967296 ys) e x ∧ (-100000 ≤ e ∧ e ≤ 100000) ∧ (-100000 ≤ x ∧ x ≤ 100000)) ∧
   K (.t [.inl (.ints .u32 (dg 4294967296 (rdE s (V 4294967296 xs) (V 4294967296 ys) e x r))),.inl (.b (decide (sE (V 4294967296 xs) (V 4294967296 ys) e x ≠ 0)))])
 | _=>False
def dd4x : Cfg:=addT 119 roundedCT cf0
theorem dd4x_ok : TblOk Tryz.prog dd4x:=q_I cf0_ok Tryz.func119 fun l K h=>by
 split at h
 ·rename_i s xs ys e x r
  obtain ⟨⟨h1,h2,h3,h4,h5,h6,h7⟩,h⟩:=h
  have e1:=dg_V 4294967296 (by omega) xs h1 h2
  have e2:=dg_V 4294967296 (by omega) ys h3 h4
  have:=rounded_ret s _ _ e x r h5 h6 h7
  rw [gX,e1,e2] at this
  exact ⟨_,this,h⟩
 ·exact h.elim
attribute [go_sem] roundedCT
end Go.Proofs.YtgkajjifbcmoeaaGreatDoor

namespace Go.Abs
set_option linter.unusedSimpArgs false
set_option linter.unusedVariables false
open Go.RowKit
variable {P : Program}
theorem seq_cut8 {F : Fr} {Q : Exit → St → Prop} {st : St} {a0 a1 a2 a3 a4 a5 a6 a7 Y : Code} {ι : Type} (mid : ι → St) (h1 : ∀ Y',(∀ i,AWp P F Y' Q (mid i)) → AWp P F (.seq a0 (.seq a1 (.seq a2 (.seq a3 (.seq a4 (.seq a5 (.seq a6 (.seq a7 Y')))))))) Q st) (h2 : ∀ i,AWp P F Y Q (mid i)) : AWp P F (.seq a0 (.seq a1 (.seq a2 (.seq a3 (.seq a4 (.seq a5 (.seq a6 (.seq a7 Y)))))))) Q st:=h1 Y h2
theorem cut_fit {F : Fr} {Q : Exit → St → Prop} {st : St} {Y : Code} {ι : Type} {mid : ι → St} (hY : ∀ i,AWp P F Y Q (mid i)) (i : ι) (h : FitP st (mid i)) : AWp P F Y Q st:=awp_told (mid i) h (hY i)
end Go.Abs
