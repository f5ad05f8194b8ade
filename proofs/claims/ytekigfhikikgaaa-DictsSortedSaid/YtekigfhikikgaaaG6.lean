import Derived.Test.YtekigfhikikgaaaG5
namespace Go.Proofs.Ytekigfhikikgaaa
set_option linter.unusedSimpArgs false
set_option linter.unusedVariables false
open Go.Abs Go.Proofs.NatL

section
variable {cf : Cfg} {st : St}
theorem fz_lookup {t : TypeId} {x i : Operand} {ok : Bool} : fzFor cf st (.lookup t x i ok) = st:=rfl
theorem fz_mapUpdate {t : TypeId} {x i y : Operand} : fzFor cf st (.mapUpdate t x i y) = st:=rfl
theorem fz_makeMap {t : TypeId} {r : Option Operand} : fzFor cf st (.makeMap t r) = st:=rfl
theorem fz_mkFn {fn : Fn} {a b : Array Operand} : fzFor cf st (.makeFunc fn a b) = st:=rfl
end
attribute [go_sem] fz_lookup fz_mapUpdate fz_makeMap fz_mkFn
theorem half_eq (k : Int) : half k = k / 2:=by
 show k.fdiv (2 ^ (Int.toNat 1)) = k / 2
 rw [show (2 : Int) ^ (Int.toNat 1) = 2 from rfl]
 exact Int.fdiv_eq_ediv_of_nonneg _ (by omega)
def InI (k : Int) : Prop := -9223372036854775808 ≤ k ∧ k ≤ 9223372036854775807
theorem half_in {k : Int} (h : InI k) : -9223372036854775808 ≤ half k ∧ half k ≤ 9223372036854775807:=by
 unfold InI at h
 rw [half_eq]; omega
def yat : Cfg:=listT [(20,numberCT),(19,textOfCT)] [28]
theorem yat_ok : TblOk Try.prog yat:=listE_ok (by simp only [List.mem_singleton,forall_eq]; exact flt) ⟨⟨jt7,jt7_ok,rfl⟩,⟨jx1,jx1_ok,rfl⟩,trivial⟩
attribute [go_sem] yat
set_option maxHeartbeats 1600000 in
theorem codeOf_ret (k : Int) (hk : InI k) : Ret Try.prog 8 false [.inl (.i .i64 k)] (.c (.str (cdS k))):=by
 have hb:=half_in hk
 have e : shrI .i64 k 1 = half k:=rfl
 unfold cdS
 generalize half k = z at *
 have hl : (dg 65536 z.natAbs).length ≤ 4:=dg_len_le (by omega) z.natAbs 4 (by omega)
 have hi : InB 65536 (dg 65536 z.natAbs):=InB_dg 65536 (by omega) _
 have ht : Trd (dg 65536 z.natAbs):=dg_trd 65536 (by omega) _
 (refine q_H Try.func8 (fun F=>?_); simp only [q_z,q_y,Try.ntmps8,Try.results8])
 repeat' (first|with_reducible refine q_0 ?_|((with_reducible first|refine q_q yat_ok fun K hK=>?_|refine q_r yat_ok fun K hK=>?_);simp (maxSteps:=2000000) only [go_sem,↓reduceIte,reduceCtorEq,Nat.reduceLeDiff,Nat.reduceLT,Nat.reduceBEq,Nat.reduceAdd,e];(repeat1' with_reducible first|apply And.intro|(intro _;try exact q_v)|(refine hK _ ?_;clear hK K))<;>(try (clear hK K;exact q_u)))|(with_reducible refine q_s ?_;(first|apply q_J|apply q_K|apply q_L|apply q_M|apply q_N|apply q_O)<;>try (intro _;try exact q_v)))
 all_goals first | omega | exact q_A rfl | skip
def codeCT : CT:=mkCT [] true fun l K=>match l with
 | [.inl (.i .i64 k)]=>InI k ∧ K (.c (.str (cdS k)))
 | _=>False
def yc1 : Cfg:=addT 8 codeCT jx1
theorem yc1_ok : TblOk Try.prog yc1:=q_I jx1_ok Try.func8 fun l K h=>by
 split at h
 ·exact ⟨_,(codeOf_ret _ h.1).plain rfl,h.2⟩
 ·exact h.elim
theorem yat_ret (c i : Int) : Ret Try.prog 21 false [.inl (.i .i64 c),.inl (.i .i64 i)] (.g [.i .i64 c,.i .i64 i]):=by
 (refine q_H Try.func21 (fun F=>?_); simp only [q_z,q_y,Try.ntmps21,Try.results21])
 repeat' (first|with_reducible refine q_0 ?_|((with_reducible first|refine q_q cf0_ok fun K hK=>?_|refine q_r cf0_ok fun K hK=>?_);simp (maxSteps:=2000000) only [go_sem,↓reduceIte,reduceCtorEq,Nat.reduceLeDiff,Nat.reduceLT,Nat.reduceBEq,Nat.reduceAdd];(repeat1' with_reducible first|apply And.intro|(intro _;try exact q_v)|(refine hK _ ?_;clear hK K))<;>(try (clear hK K;exact q_u)))|(with_reducible refine q_s ?_;(first|apply q_J|apply q_K|apply q_L|apply q_M|apply q_N|apply q_O)<;>try (intro _;try exact q_v)))
 exact q_A rfl
def yc2 : Cfg:=addT 21 atCT yc1
theorem yc2_ok : TblOk Try.prog yc2:=q_I yc1_ok Try.func21 fun l K h=>by
 split at h
 ·exact ⟨_,(yat_ret _ _).plain rfl,h⟩
 ·exact h.elim
attribute [go_sem] codeCT
abbrev fnC : Value:=.func (.func 8) #[] #[]
theorem agF : aggO Try.prog 26 = some false:=by kernel_rfl
theorem szF : szO Try.prog 26 = some 1:=by kernel_rfl
attribute [go_sem] agF szF
abbrev tH (l : List En) : Hp:=⟨[(0,[.c (.a fnC),.mp 1,.own 0 0]),(1,[.mc (.s (idxF l) (cnt l))])],[(0,⟨0,65,4,.sl 4 (encR l)⟩)],[]⟩
abbrev tHf (l : List En) (c w : Int) : Hp:=⟨[(0,[.c (.a fnC),.mp 1,.own 0 0]),(1,[.mc (.s (idxF l) (cnt l))]),(2,[.c (.i .i64 c),.c (.i .i64 w)])],[(0,⟨0,65,4,.sl 4 (encR l)⟩)],[]⟩
def tbCT (tr : List En → List AV → (Hp → List AV → Prop) → Prop) : CT:=mkCTG fun H al K=>match H with
 | ⟨[(0,[.c (.a v),.mp 1,.own 0 0]),(1,[.mc (.s f n)])],[(0,⟨0,65,4,.sl 4 R⟩)],[]⟩=>(v = fnC ∧ R = encR (decR R) ∧ f = idxF (decR R) ∧ n = cnt (decR R) ∧ TI (decR R)) ∧ tr (decR R) al K
 | _=>False
theorem tbCT_ok {f : FuncId} {tr : List En → List AV → (Hp → List AV → Prop) → Prop} (h : ∀ l al K,TI l → tr l al K → ∃ H' rs,RetG Try.prog f (tH l) al H' rs ∧ K H' rs) {H : Hp} {al : List AV} {K : Hp → List AV → Prop}
  (hh : match H with
   | ⟨[(0,[.c (.a v),.mp 1,.own 0 0]),(1,[.mc (.s f n)])],[(0,⟨0,65,4,.sl 4 R⟩)],[]⟩=>(v = fnC ∧ R = encR (decR R) ∧ f = idxF (decR R) ∧ n = cnt (decR R) ∧ TI (decR R)) ∧ tr (decR R) al K
   | _=>False) : ∃ H' rs,RetG Try.prog f H al H' rs ∧ K H' rs:=by
 split at hh
 ·rename_i v f n R
  obtain ⟨⟨rfl,h1,rfl,rfl,h4⟩,h5⟩:=hh
  generalize decR R = l at *
  subst h1
  exact h l al K h4 h5
 ·exact hh.elim
theorem new_ret : RetG Try.prog 7 ⟨[],[],[]⟩ [.c (.a fnC)] ⟨[(1,[.c (.a fnC),.mp 0,.own 0 0]),(0,[.mc (.s (idxF []) (cnt []))])],[(0,⟨0,65,4,.sl 4 (encR [])⟩)],[]⟩ [.bx 1 0]:=by
 show RetG Try.prog 7 ⟨[],[],[]⟩ [.c (.a fnC)] ⟨[(1,[.c (.a fnC),.mp 0,.own 0 0]),(0,[.mc (.s (fun _=>none) 0)])],[(0,⟨0,65,4,.sl 4 []⟩)],[]⟩ [.bx 1 0]
 (refine ret_ge Try.func7 (fun F bs=>?_); simp only [avSl,ancs,hnx,Nat.reduceAdd,Nat.reduceLeDiff,if_true,if_false,List.length_cons,List.length_nil,List.cons_append,List.nil_append,Try.ntmps7,Try.results7])
 refine seq_cut2 (ι:=Unit) (fun _=>⟨7,[(2,.bx 1 0)],⟨[(1,[.c (.a fnC),.mp 0,.own 2 0]),(0,[.mc (.s (fun _=>none) 0)])],[(2,⟨0,65,4,.sl 4 []⟩)],[]⟩,3⟩) (fun Y hY=>?_) ?_
 ·repeat' (first|with_reducible refine q_0 ?_|((with_reducible first|refine q_q yc2_ok fun K hK=>?_|refine q_r yc2_ok fun K hK=>?_);simp (maxSteps:=2000000) only [go_sem,↓reduceIte,reduceCtorEq,Nat.reduceLeDiff,Nat.reduceLT,Nat.reduceBEq,Nat.reduceAdd];(repeat1' with_reducible first|apply And.intro|(intro _;try exact q_v)|(refine hK _ ?_;clear hK K))<;>(try (clear hK K;exact q_u)))|(with_reducible refine q_s ?_;(first|apply q_J|apply q_K|apply q_L|apply q_M|apply q_N|apply q_O)<;>try (intro _;try exact q_v)))
  all_goals first | omega | exact cut_fit hY () (by exact q_D) | skip
 ·intro _
  repeat' (first|with_reducible refine q_0 ?_|((with_reducible first|refine q_q yc2_ok fun K hK=>?_|refine q_r yc2_ok fun K hK=>?_);simp (maxSteps:=2000000) only [go_sem,↓reduceIte,reduceCtorEq,Nat.reduceLeDiff,Nat.reduceLT,Nat.reduceBEq,Nat.reduceAdd];(repeat1' with_reducible first|apply And.intro|(intro _;try exact q_v)|(refine hK _ ?_;clear hK K))<;>(try (clear hK K;exact q_u)))|(with_reducible refine q_s ?_;(first|apply q_J|apply q_K|apply q_L|apply q_M|apply q_N|apply q_O)<;>try (intro _;try exact q_v)))
  all_goals exact ends_gr [(2,0)] [(2,.bx 1 0)] 2 (by exact q_D) rfl
abbrev ptT (l : List En) : C:=.ptr [.a fnC,.m (idxF l) (cnt l),.sl 4 (encR l)]
def newCT : CT:=mkCTG fun H al K=>match H,al with
 | ⟨[],[],[]⟩,[.c (.a v)]=>v = fnC ∧ K ⟨[(1,[.c (.a fnC),.mp 0,.own 0 0]),(0,[.mc (.s (idxF []) (cnt []))])],[(0,⟨0,65,4,.sl 4 (encR [])⟩)],[]⟩ [.bx 1 0]
 | _,_=>False
def yd1 : Cfg:=addT 7 newCT yc2
theorem yd1_ok : TblOk Try.prog yd1:=ctg_ok yc2_ok Try.func7 fun H al K h=>by
 split at h
 ·obtain ⟨rfl,h⟩:=h
  exact ⟨_,_,new_ret,h⟩
 ·exact h.elim
theorem len_ret (v : Value) (hv : oneCell v = true) (f : ByteArray → Option C) (n : Nat) (R : List (List C)) : Ret Try.prog 14 false [.inl (.ptr [.a v,.m f n,.sl 4 R])] (.c (.i .i64 (n : Nat))):=by
 (refine q_H Try.func14 (fun F=>?_); simp only [q_z,q_y,Try.ntmps14,Try.results14])
 repeat' (first|with_reducible refine q_0 ?_|((with_reducible first|refine q_q yc2_ok fun K hK=>?_|refine q_r yc2_ok fun K hK=>?_);simp (maxSteps:=2000000) only [go_sem,↓reduceIte,reduceCtorEq,Nat.reduceLeDiff,Nat.reduceLT,Nat.reduceBEq,Nat.reduceAdd];(repeat1' with_reducible first|apply And.intro|(intro _;try exact q_v)|(refine hK _ ?_;clear hK K))<;>(try (clear hK K;exact q_u)))|(with_reducible refine q_s ?_;(first|apply q_J|apply q_K|apply q_L|apply q_M|apply q_N|apply q_O)<;>try (intro _;try exact q_v)))
 all_goals first | omega | exact q_A rfl
def rdCT (tr : List En → List (C ⊕ List C) → (AV → Prop) → Prop) : CT:=mkCT [] true fun al K=>match al with
 | .inl (.ptr [.a v,.m f n,.sl 4 R]) :: r=>(v = fnC ∧ R = encR (decR R) ∧ f = idxF (decR R) ∧ n = cnt (decR R) ∧ TI (decR R)) ∧ tr (decR R) r K
 | _=>False
theorem rdCT_ok {f : FuncId} {tr : List En → List (C ⊕ List C) → (AV → Prop) → Prop} (h : ∀ l al K,TI l → tr l al K → ∃ r,Ret Try.prog f false (.inl (ptT l) :: al) r ∧ plainAV r = true ∧ K r) {al : List (C ⊕ List C)} {K : AV → Prop}
  (hh : match al with
   | .inl (.ptr [.a v,.m f n,.sl 4 R]) :: r=>(v = fnC ∧ R = encR (decR R) ∧ f = idxF (decR R) ∧ n = cnt (decR R) ∧ TI (decR R)) ∧ tr (decR R) r K
   | _=>False) : ∃ r,Ret Try.prog f true al r ∧ K r:=by
 split at hh
 ·rename_i v f n R al
  obtain ⟨⟨rfl,h1,rfl,rfl,h4⟩,h5⟩:=hh
  generalize decR R = l at *
  subst h1
  obtain ⟨r,h6,h7,h8⟩:=h l al K h4 h5
  exact ⟨r,h6.plain h7,h8⟩
 ·exact hh.elim
def lenCT : CT:=mkCT [] true fun al K=>match al with
 | [.inl (.ptr [.a v,.m f n,.sl 4 R])]=>v = fnC ∧ K (.c (.i .i64 (n : Nat)))
 | _=>False
def yd2 : Cfg:=addT 14 lenCT yd1
theorem yd2_ok : TblOk Try.prog yd2:=q_I yd1_ok Try.func14 fun al K h=>by
 split at h
 ·obtain ⟨rfl,h⟩:=h
  exact ⟨_,(len_ret _ rfl _ _ _).plain rfl,h⟩
 ·exact h.elim
attribute [go_sem] newCT tbCT rdCT lenCT dec_enc
theorem drop_enc {l : List En} {i : Nat} (h : i < l.length) : l.drop i = l[i] :: l.drop (i + 1):=List.drop_eq_getElem_cons h
theorem pl_step {o : Option Nat} {i p : Nat} (h : (o.map (· + 1)).map (· + i) = some p) : o.map (· + (i + 1)) = some p:=by
 rw [← h,Option.map_map]
 congr 1
 funext x
 simp only [Function.comp]
 omega
set_option maxHeartbeats 1600000 in
theorem place_ret (l : List En) (h : TI l) (k : Nat) (hk : k ≤ 1000) (p : Nat) (hp : plF l k = some p) : Ret Try.prog 24 false [.inl (ptT l),.inl (.i .i64 (k : Nat))] (.c (.i .i64 (p : Nat))):=by
 have hle:=encR_len l
 have hsz : l.length ≤ 2008:=by have:=h.sz; have:=h.cn; omega
 (refine q_H Try.func24 (fun F=>?_); simp only [q_z,q_y,Try.ntmps24,Try.results24])
 repeat' (first|with_reducible refine q_0 ?_|((with_reducible first|refine q_q yd2_ok fun K hK=>?_|refine q_r yd2_ok fun K hK=>?_);simp (maxSteps:=2000000) only [go_sem,↓reduceIte,reduceCtorEq,Nat.reduceLeDiff,Nat.reduceLT,Nat.reduceBEq,Nat.reduceAdd,hle];(repeat1' with_reducible first|apply And.intro|(intro _;try exact q_v)|(refine hK _ ?_;clear hK K))<;>(try (clear hK K;exact q_u)))|(with_reducible refine q_s ?_;(first|apply q_J|apply q_K|apply q_L|apply q_M|apply q_N|apply q_O)<;>try (intro _;try exact q_v)))
 all_goals first | omega | skip
 refine q_G (ι:={ q : Nat × Nat // q.1 ≤ l.length ∧ (plF (l.drop q.1) q.2).map (· + q.1) = some p ∧ q.2 ≤ 1000 }) (fun q=>⟨25,[(0,.c (ptT l)),(1,.c (.i .i64 (q.1.2 : Nat))),(10,.c (.sl 4 (encR l))),(11,.c (.i .i64 l.length)),(12,.c (.i .i64 (q.1.1 : Nat)))],
  ⟨[],[],[]⟩,0⟩) (fun q=>l.length - q.1.1) ⟨(0,k),by simp,by simp [hp],hk⟩ ?_ ?_
 ·exact q_D
 rintro ⟨⟨i,kk⟩,q1,q2,q3⟩
 simp only at q1 q2 q3 ⊢
 rcases Nat.lt_or_ge i l.length with hi | hi
 ·have hat:=encR_at l i hi
  rw [drop_enc hi] at q2
  obtain ⟨E,hE⟩ : ∃ E,l[i] = E:=⟨_,rfl⟩
  rw [hE] at hat q2
  obtain ⟨c,k',v,g⟩:=E
  simp only [enC] at hat
  simp only [plF] at q2
  cases g
  ·simp only [Bool.false_eq_true,if_false] at q2
   cases kk with
   | zero =>
    simp at q2
    subst q2
    repeat' (first|with_reducible refine q_0 ?_|((with_reducible first|refine q_q yd2_ok fun K hK=>?_|refine q_r yd2_ok fun K hK=>?_);simp (maxSteps:=2000000) only [go_sem,↓reduceIte,reduceCtorEq,Nat.reduceLeDiff,Nat.reduceLT,Nat.reduceBEq,Nat.reduceAdd,hle,hat];(repeat1' with_reducible first|apply And.intro|(intro _;try exact q_v)|(refine hK _ ?_;clear hK K))<;>(try (clear hK K;exact q_u)))|(with_reducible refine q_s ?_;(first|apply q_J|apply q_K|apply q_L|apply q_M|apply q_N|apply q_O)<;>try (intro _;try exact q_v)))
    all_goals first | omega | exact q_A rfl | skip
   | succ kk =>
    repeat' (first|with_reducible refine q_0 ?_|((with_reducible first|refine q_q yd2_ok fun K hK=>?_|refine q_r yd2_ok fun K hK=>?_);simp (maxSteps:=2000000) only [go_sem,↓reduceIte,reduceCtorEq,Nat.reduceLeDiff,Nat.reduceLT,Nat.reduceBEq,Nat.reduceAdd,hle,hat];(repeat1' with_reducible first|apply And.intro|(intro _;try exact q_v)|(refine hK _ ?_;clear hK K))<;>(try (clear hK K;exact q_u)))|(with_reducible refine q_s ?_;(first|apply q_J|apply q_K|apply q_L|apply q_M|apply q_N|apply q_O)<;>try (intro _;try exact q_v)))
    all_goals first | omega | skip
    all_goals refine q_F ⟨(i + 1,kk),hi,?_,by simp only; omega⟩ ?_ (by simp only; omega)
    all_goals first | exact pl_step q2 | skip
    all_goals exact q_D
  ·simp only [if_true] at q2
   repeat' (first|with_reducible refine q_0 ?_|((with_reducible first|refine q_q yd2_ok fun K hK=>?_|refine q_r yd2_ok fun K hK=>?_);simp (maxSteps:=2000000) only [go_sem,↓reduceIte,reduceCtorEq,Nat.reduceLeDiff,Nat.reduceLT,Nat.reduceBEq,Nat.reduceAdd,hle,hat];(repeat1' with_reducible first|apply And.intro|(intro _;try exact q_v)|(refine hK _ ?_;clear hK K))<;>(try (clear hK K;exact q_u)))|(with_reducible refine q_s ?_;(first|apply q_J|apply q_K|apply q_L|apply q_M|apply q_N|apply q_O)<;>try (intro _;try exact q_v)))
   all_goals first | omega | skip
   all_goals refine q_F ⟨(i + 1,kk),hi,?_,by simp only; omega⟩ ?_ (by simp only; omega)
   all_goals first | exact pl_step q2 | skip
   all_goals exact q_D
 ·rw [List.drop_eq_nil_of_le hi] at q2
  simp [plF] at q2
def placeTr (l : List En) (al : List (C ⊕ List C)) (K : AV → Prop) : Prop:=match al with
 | [.inl (.i .i64 k)]=>(0 ≤ k ∧ k < (cnt l : Int)) ∧ K (.c (.i .i64 ((plF l k.toNat).getD 0 : Nat)))
 | _=>False
def yd3 : Cfg:=addT 24 (rdCT placeTr) cf0
theorem yd3_ok : TblOk Try.prog yd3:=q_I cf0_ok Try.func24 fun al K h=>rdCT_ok (fun l al K ht h=>by
 unfold placeTr at h
 split at h
 ·rename_i k
  obtain ⟨⟨h1,h2⟩,h⟩:=h
  obtain ⟨k,rfl⟩:=Int.eq_ofNat_of_zero_le h1
  obtain ⟨p,hp,h3,_⟩:=plF_some (l:=l) (k:=k) (by omega)
  have:=ht.cn
  rw [Int.toNat_natCast,h3] at h
  exact ⟨_,place_ret l ht k (by omega) p h3,rfl,h⟩
 ·exact h.elim) h
attribute [go_sem] placeTr
def ydt : Cfg:=listT [(21,atCT),(14,lenCT),(24,(rdCT placeTr)),(8,codeCT)] [28]
theorem ydt_ok : TblOk Try.prog ydt:=listE_ok (by simp only [List.mem_singleton,forall_eq]; exact flt) ⟨⟨yc2,yc2_ok,rfl⟩,⟨yd2,yd2_ok,rfl⟩,⟨yd3,yd3_ok,rfl⟩,⟨yc1,yc1_ok,rfl⟩,trivial⟩
attribute [go_sem] ydt
set_option maxHeartbeats 1600000 in
theorem at_bad (l : List En) (h : TI l) (i : Int) (hi : InI i) (hb : i < -(cnt l : Int) ∨ (cnt l : Int) ≤ i) : Ret Try.prog 12 false [.inl (ptT l),.inl (.i .i64 i)] (.t [.inl (.i .i64 0),.inl (.i .i64 0),.inr [.i .i64 4,.i .i64 (-1)]]):=by
 have hc:=h.cn
 unfold InI at hi
 (refine q_H Try.func12 (fun F=>?_); simp only [q_z,q_y,Try.ntmps12,Try.results12])
 repeat' (first|with_reducible refine q_0 ?_|((with_reducible first|refine q_q ydt_ok fun K hK=>?_|refine q_r ydt_ok fun K hK=>?_);simp (maxSteps:=2000000) only [go_sem,↓reduceIte,reduceCtorEq,Nat.reduceLeDiff,Nat.reduceLT,Nat.reduceBEq,Nat.reduceAdd];(repeat1' with_reducible first|apply And.intro|(intro _;try exact q_v)|(refine hK _ ?_;clear hK K))<;>(try (clear hK K;exact q_u)))|(with_reducible refine q_s ?_;(first|apply q_J|apply q_K|apply q_L|apply q_M|apply q_N|apply q_O)<;>try (intro _;try exact q_v)))
 all_goals first | omega | exact h | exact q_A rfl | skip
set_option maxHeartbeats 1600000 in
theorem at_good (l : List En) (h : TI l) (i : Int) (j : Nat) (hj : j < cnt l) (hb : i = (j : Int) ∨ (i < 0 ∧ i + (cnt l : Int) = (j : Int))) (e : En) (he : (lv l)[j]? = some e) : Ret Try.prog 12 false [.inl (ptT l),.inl (.i .i64 i)] (.t [.inl (.i .i64 e.key),.inl (.i .i64 e.val),.inr [.i .i64 0,.i .i64 0]]):=by
 have hc:=h.cn
 have hle:=encR_len l
 have hsz : l.length ≤ 2008:=by have:=h.sz; omega
 obtain ⟨p,hp,h1,h2,_⟩:=plF_some hj
 have hat:=encR_at l p hp
 rw [he] at h2
 have h2:=(Option.some.inj h2).symm
 rw [h2] at hat
 obtain ⟨c,k,v,g⟩:=e
 simp only [enC] at hat
 have ej : Int.toNat (j : Int) = j:=Int.toNat_natCast j
 rcases hb with rfl | ⟨hb1,hb2⟩
 ·(refine q_H Try.func12 (fun F=>?_); simp only [q_z,q_y,Try.ntmps12,Try.results12])
  repeat' (first|with_reducible refine q_0 ?_|((with_reducible first|refine q_q ydt_ok fun K hK=>?_|refine q_r ydt_ok fun K hK=>?_);simp (maxSteps:=2000000) only [go_sem,↓reduceIte,reduceCtorEq,Nat.reduceLeDiff,Nat.reduceLT,Nat.reduceBEq,Nat.reduceAdd,hle,hat,h1,Option.getD_some];(repeat1' with_reducible first|apply And.intro|(intro _;try exact q_v)|(refine hK _ ?_;clear hK K))<;>(try (clear hK K;exact q_u)))|(with_reducible refine q_s ?_;(first|apply q_J|apply q_K|apply q_L|apply q_M|apply q_N|apply q_O)<;>try (intro _;try exact q_v)))
  all_goals first | omega | exact h | exact q_A rfl | skip
 ·(refine q_H Try.func12 (fun F=>?_); simp only [q_z,q_y,Try.ntmps12,Try.results12])
  repeat' (first|with_reducible refine q_0 ?_|((with_reducible first|refine q_q ydt_ok fun K hK=>?_|refine q_r ydt_ok fun K hK=>?_);simp (maxSteps:=2000000) only [go_sem,↓reduceIte,reduceCtorEq,Nat.reduceLeDiff,Nat.reduceLT,Nat.reduceBEq,Nat.reduceAdd,hle,hat,hb2,h1,Option.getD_some];(repeat1' with_reducible first|apply And.intro|(intro _;try exact q_v)|(refine hK _ ?_;clear hK K))<;>(try (clear hK K;exact q_u)))|(with_reducible refine q_s ?_;(first|apply q_J|apply q_K|apply q_L|apply q_M|apply q_N|apply q_O)<;>try (intro _;try exact q_v)))
  all_goals first | omega | exact h | exact q_A rfl | skip
def atTr (l : List En) (al : List (C ⊕ List C)) (K : AV → Prop) : Prop:=match al with
 | [.inl (.i .i64 i)]=>InI i ∧ (i < -(cnt l : Int) ∨ (cnt l : Int) ≤ i → K (.t [.inl (.i .i64 0),.inl (.i .i64 0),.inr [.i .i64 4,.i .i64 (-1)]])) ∧
   ∀ (j : Nat) (e : En),(i = (j : Int) ∨ (i < 0 ∧ i + (cnt l : Int) = (j : Int))) → j < cnt l → (lv l)[j]? = some e → K (.t [.inl (.i .i64 e.key),.inl (.i .i64 e.val),.inr [.i .i64 0,.i .i64 0]])
 | _=>False
def yd4 : Cfg:=addT 12 (rdCT atTr) cf0
theorem yd4_ok : TblOk Try.prog yd4:=q_I cf0_ok Try.func12 fun al K h=>rdCT_ok (fun l al K ht h=>by
 unfold atTr at h
 split at h
 ·rename_i i
  obtain ⟨hi,h1,h2⟩:=h
  by_cases hb : i < -(cnt l : Int) ∨ (cnt l : Int) ≤ i
  ·exact ⟨_,at_bad l ht i hi hb,rfl,h1 hb⟩
  ·obtain ⟨j,hj⟩ : ∃ j : Nat,i = (j : Int) ∨ (i < 0 ∧ i + (cnt l : Int) = (j : Int)):=by
    by_cases h0 : 0 ≤ i
    ·exact ⟨i.toNat,.inl (by omega)⟩
    ·exact ⟨(i + (cnt l : Int)).toNat,.inr (by omega)⟩
   have hj2 : j < cnt l:=by omega
   have he : (lv l)[j]? = some ((lv l)[j]'hj2):=List.getElem?_eq_getElem _
   exact ⟨_,at_good l ht i j hj2 hj _ he,rfl,h2 j _ hj hj2 he⟩
 ·exact h.elim) h
theorem cnt_take {l : List En} {i : Nat} (h : i < l.length) : cnt (l.take (i + 1)) = cnt (l.take i) + if l[i].gone = true then 0 else 1:=by
 unfold cnt
 rw [List.take_succ_eq_append_getElem h,lv_app]
 cases hg : l[i].gone
 ·rw [lv_one hg]; simp
 ·rw [lv_oneg hg]; simp
set_option maxHeartbeats 1600000 in
theorem pos_bad (l : List En) (h : TI l) (k : Int) (hk : InI k) (hb : hasE l k = false) : RetG Try.prog 13 (tH l) [.bx 0 0,.c (.i .i64 k)] (tHf l 12 (-1)) [.c (.i .i64 0),.g [.i .i64 12,.i .i64 (-1)]]:=by
 have hx : idxF l (cdS k) = none:=by unfold idxF; unfold hasE at hb; cases hf : fIdx l (cdS k) with
  | none=>rfl
  | some i=>rw [hf] at hb; cases hb
 (refine ret_ge Try.func13 (fun F bs=>?_); simp only [avSl,ancs,hnx,Nat.reduceAdd,Nat.reduceLeDiff,if_true,if_false,List.length_cons,List.length_nil,List.cons_append,List.nil_append,Try.ntmps13,Try.results13])
 repeat' (first|with_reducible refine q_0 ?_|((with_reducible first|refine q_q (wnT_ok ydt_ok) fun K hK=>?_|refine q_r (wnT_ok ydt_ok) fun K hK=>?_);simp (maxSteps:=2000000) only [go_sem,↓reduceIte,reduceCtorEq,Nat.reduceLeDiff,Nat.reduceLT,Nat.reduceBEq,Nat.reduceAdd,hx];(repeat1' with_reducible first|apply And.intro|(intro _;try exact q_v)|(refine hK _ ?_;clear hK K))<;>(try (clear hK K;exact q_u)))|(with_reducible refine q_s ?_;(first|apply q_J|apply q_K|apply q_L|apply q_M|apply q_N|apply q_O)<;>try (intro _;try exact q_v)))
 all_goals first | omega | exact h | exact hk | contradiction | exact ends_g [(4,.c (.i .i64 0)),(5,.bx 2 0)] 3 (by exact q_D) rfl | skip
set_option maxHeartbeats 1600000 in
theorem pos_good (l : List En) (h : TI l) (k : Int) (hk : InI k) (i : Nat) (hi : i < l.length) (hf : fIdx l (cdS k) = some i) : RetG Try.prog 13 (tH l) [.bx 0 0,.c (.i .i64 k)] (tHf l 0 0) [.c (.i .i64 (cnt (l.take i) : Nat)),.g [.i .i64 0,.i .i64 0]]:=by
 have hx : idxF l (cdS k) = some (.i .i64 (i : Nat)):=by unfold idxF; rw [hf]; rfl
 have hle:=encR_len l
 have hsz : l.length ≤ 2008:=by have:=h.sz; have:=h.cn; omega
 (refine ret_ge Try.func13 (fun F bs=>?_); simp only [avSl,ancs,hnx,Nat.reduceAdd,Nat.reduceLeDiff,if_true,if_false,List.length_cons,List.length_nil,List.cons_append,List.nil_append,Try.ntmps13,Try.results13])
 repeat' (first|with_reducible refine q_0 ?_|((with_reducible first|refine q_q (wnT_ok ydt_ok) fun K hK=>?_|refine q_r (wnT_ok ydt_ok) fun K hK=>?_);simp (maxSteps:=2000000) only [go_sem,↓reduceIte,reduceCtorEq,Nat.reduceLeDiff,Nat.reduceLT,Nat.reduceBEq,Nat.reduceAdd,hx,hle];(repeat1' with_reducible first|apply And.intro|(intro _;try exact q_v)|(refine hK _ ?_;clear hK K))<;>(try (clear hK K;exact q_u)))|(with_reducible refine q_s ?_;(first|apply q_J|apply q_K|apply q_L|apply q_M|apply q_N|apply q_O)<;>try (intro _;try exact q_v)))
 all_goals first | omega | exact h | exact hk | contradiction | skip
 refine q_G (ι:={ q : Nat // q ≤ i }) (fun q=>⟨47,[(8,.c (.i .i64 (cnt (l.take q.1) : Nat))),(5,.bx 2 0),(33,.win 0 0 0 i),(34,.c (.i .i64 i)),(35,.c (.i .i64 (q.1 : Nat))),(1000,.anc 0 (bs 0)),(1001,.anc 1 (bs 1))],
  ⟨[(2,[.c (.i .i64 0),.c (.i .i64 0)]),(0,[.c (.a fnC),.mp 1,.own 0 0]),(1,[.mc (.s (idxF l) (cnt l))])],[(0,⟨0,65,4,.sl 4 (encR l)⟩)],[]⟩,3⟩) (fun q=>i - q.1) ⟨0,by omega⟩ ?_ ?_
 ·have c0 : cnt (l.take 0) = 0:=rfl
  simp only [c0]
  exact q_D
 rintro ⟨q,q1⟩
 simp only at q1 ⊢
 rcases Nat.lt_or_ge q i with hq | hq
 ·have hat:=encR_at l q (by omega)
  have hc:=cnt_take (l:=l) (i:=q) (by omega)
  have hcl : cnt (l.take q) ≤ 2008:=by have:=lv_le (l.take q); rw [List.length_take] at this; omega
  obtain ⟨E,hE⟩ : ∃ E,l[q] = E:=⟨_,rfl⟩
  rw [hE] at hat hc
  obtain ⟨c,k',v,g⟩:=E
  simp only [enC] at hat
  cases g
  ·simp only [Bool.false_eq_true,if_false] at hc
   repeat' (first|with_reducible refine q_0 ?_|((with_reducible first|refine q_q (wnT_ok ydt_ok) fun K hK=>?_|refine q_r (wnT_ok ydt_ok) fun K hK=>?_);simp (maxSteps:=2000000) only [go_sem,↓reduceIte,reduceCtorEq,Nat.reduceLeDiff,Nat.reduceLT,Nat.reduceBEq,Nat.reduceAdd,hle,hat];(repeat1' with_reducible first|apply And.intro|(intro _;try exact q_v)|(refine hK _ ?_;clear hK K))<;>(try (clear hK K;exact q_u)))|(with_reducible refine q_s ?_;(first|apply q_J|apply q_K|apply q_L|apply q_M|apply q_N|apply q_O)<;>try (intro _;try exact q_v)))
   all_goals first | omega | skip
   all_goals refine q_F ⟨q + 1,hq⟩ ?_ (by simp only; omega)
   all_goals simp only [hc]
   all_goals exact q_D
  ·simp only [if_true,Nat.add_zero] at hc
   repeat' (first|with_reducible refine q_0 ?_|((with_reducible first|refine q_q (wnT_ok ydt_ok) fun K hK=>?_|refine q_r (wnT_ok ydt_ok) fun K hK=>?_);simp (maxSteps:=2000000) only [go_sem,↓reduceIte,reduceCtorEq,Nat.reduceLeDiff,Nat.reduceLT,Nat.reduceBEq,Nat.reduceAdd,hle,hat];(repeat1' with_reducible first|apply And.intro|(intro _;try exact q_v)|(refine hK _ ?_;clear hK K))<;>(try (clear hK K;exact q_u)))|(with_reducible refine q_s ?_;(first|apply q_J|apply q_K|apply q_L|apply q_M|apply q_N|apply q_O)<;>try (intro _;try exact q_v)))
   all_goals first | omega | skip
   all_goals refine q_F ⟨q + 1,hq⟩ ?_ (by simp only; omega)
   all_goals simp only [hc]
   all_goals exact q_D
 ·obtain rfl : q = i:=by omega
  repeat' (first|with_reducible refine q_0 ?_|((with_reducible first|refine q_q (wnT_ok ydt_ok) fun K hK=>?_|refine q_r (wnT_ok ydt_ok) fun K hK=>?_);simp (maxSteps:=2000000) only [go_sem,↓reduceIte,reduceCtorEq,Nat.reduceLeDiff,Nat.reduceLT,Nat.reduceBEq,Nat.reduceAdd,hle];(repeat1' with_reducible first|apply And.intro|(intro _;try exact q_v)|(refine hK _ ?_;clear hK K))<;>(try (clear hK K;exact q_u)))|(with_reducible refine q_s ?_;(first|apply q_J|apply q_K|apply q_L|apply q_M|apply q_N|apply q_O)<;>try (intro _;try exact q_v)))
  all_goals first | omega | exact ends_g [(4,.c (.i .i64 (cnt (l.take q) : Nat))),(5,.bx 2 0)] 3 (by exact q_D) rfl | skip
def posTr (l : List En) (al : List AV) (K : Hp → List AV → Prop) : Prop:=match al with
 | [.bx 0 0,.c (.i .i64 k)]=>InI k ∧ (hasE l k = false → K (tHf l 12 (-1)) [.c (.i .i64 0),.g [.i .i64 12,.i .i64 (-1)]]) ∧
   ∀ (j : Nat) (e : En),(lv l)[j]? = some e → half e.key = half k → j < cnt l → K (tHf l 0 0) [.c (.i .i64 (j : Nat)),.g [.i .i64 0,.i .i64 0]]
 | _=>False
def yd5 : Cfg:=addT 13 (tbCT posTr) cf0
theorem yd5_ok : TblOk Try.prog yd5:=ctg_ok cf0_ok Try.func13 fun H al K h=>tbCT_ok (fun l al K ht h=>by
 unfold posTr at h
 split at h
 ·rename_i k
  obtain ⟨hk,h1,h2⟩:=h
  cases hb : hasE l k with
  | false=>exact ⟨_,_,pos_bad l ht k hk hb,h1 hb⟩
  | true =>
   unfold hasE at hb
   obtain ⟨i,hf⟩:=Option.isSome_iff_exists.1 hb
   obtain ⟨hi,g2,g3⟩:=fIdx_some hf
   obtain ⟨g4,g5⟩:=pos_facts hi g2
   exact ⟨_,_,pos_good l ht k hk i hi hf,h2 _ l[i] (by rw [List.getElem?_eq_getElem g4,g5]) ((code_iff ht (List.getElem_mem hi) g2 k).1 g3) g4⟩
 ·exact h.elim) h
theorem putF_cases {l : List En} {k : Int} : (∃ i,fIdx l (cdS k) = some i ∧ putF l k = false) ∨ (fIdx l (cdS k) = none ∧ cnt l = 1000 ∧ putF l k = true) ∨ (fIdx l (cdS k) = none ∧ cnt l ≠ 1000 ∧ putF l k = false):=by
 unfold putF
 cases hf : fIdx l (cdS k) with
 | some i=>exact .inl ⟨i,rfl,rfl⟩
 | none =>
  by_cases hc : cnt l = 1000
  ·exact .inr (.inl ⟨rfl,hc,by simp [hc]⟩)
  ·exact .inr (.inr ⟨rfl,hc,by simp [hc]⟩)
set_option maxHeartbeats 1600000 in
theorem put_old (l : List En) (h : TI l) (k v : Int) (hk : InI k) (i : Nat) (hf : fIdx l (cdS k) = some i) : RetG Try.prog 9 (tH l) [.bx 0 0,.c (.i .i64 k),.c (.i .i64 v)] (tHf (putE l k v) 0 0) [.g [.i .i64 0,.i .i64 0]]:=by
 have hx : idxF l (cdS k) = some (.i .i64 (i : Nat)):=by unfold idxF; rw [hf]; rfl
 obtain ⟨hi,g2,g3⟩:=fIdx_some hf
 have hle:=encR_len l
 have hsz : l.length ≤ 2008:=by have:=h.sz; have:=h.cn; omega
 have hat:=encR_at l i hi
 obtain ⟨E,hE⟩ : ∃ E,l[i] = E:=⟨_,rfl⟩
 have e0 : putE l k v = l.set i ⟨cdS k,l[i].key,v,false⟩:=by unfold putE; rw [hf]; simp only [getD_E hi]
 have e00 : (⟨cdS k,l[i].key,v,false⟩ : En) = ⟨l[i].code,l[i].key,v,l[i].gone⟩:=by rw [g2,g3]
 have e1 : idxF (putE l k v) = idxF l:=by rw [e0,e00]; exact idxF_val hi v
 have e2 : cnt (putE l k v) = cnt l:=by
  rw [e0]; unfold cnt
  rw [lv_set hi,lv_split hi,lv_one rfl,lv_one g2]; simp
 have e3 : encR (putE l k v) = (encR l).set i [.str (cdS k),.i .i64 l[i].key,.i .i64 v,.b false]:=by rw [e0,encR_set]; rfl
 simp only [tHf,e1,e2,e3]
 rw [hE] at hat g2 g3 ⊢
 obtain ⟨c,k',v',g⟩:=E
 simp only at g2 g3
 subst g2 g3
 simp only [enC] at hat
 (refine ret_ge Try.func9 (fun F bs=>?_); simp only [avSl,ancs,hnx,Nat.reduceAdd,Nat.reduceLeDiff,if_true,if_false,List.length_cons,List.length_nil,List.cons_append,List.nil_append,Try.ntmps9,Try.results9])
 repeat' (first|with_reducible refine q_0 ?_|((with_reducible first|refine q_q ydt_ok fun K hK=>?_|refine q_r ydt_ok fun K hK=>?_);simp (maxSteps:=2000000) only [go_sem,↓reduceIte,reduceCtorEq,Nat.reduceLeDiff,Nat.reduceLT,Nat.reduceBEq,Nat.reduceAdd,hx,hle,hat,List.set_cons_succ,List.set_cons_zero];(repeat1' with_reducible first|apply And.intro|(intro _;try exact q_v)|(refine hK _ ?_;clear hK K))<;>(try (clear hK K;exact q_u)))|(with_reducible refine q_s ?_;(first|apply q_J|apply q_K|apply q_L|apply q_M|apply q_N|apply q_O)<;>try (intro _;try exact q_v)))
 all_goals first | omega | exact h | exact hk | contradiction | exact ends_g [(6,.bx 2 0)] 3 (by exact q_D) rfl | skip
set_option maxHeartbeats 1600000 in
theorem put_full (l : List En) (h : TI l) (k v : Int) (hk : InI k) (hf : fIdx l (cdS k) = none) (hc : cnt l = 1000) : RetG Try.prog 9 (tH l) [.bx 0 0,.c (.i .i64 k),.c (.i .i64 v)] (tHf l 2 (-1)) [.g [.i .i64 2,.i .i64 (-1)]]:=by
 have hx : idxF l (cdS k) = none:=by unfold idxF; rw [hf]; rfl
 (refine ret_ge Try.func9 (fun F bs=>?_); simp only [avSl,ancs,hnx,Nat.reduceAdd,Nat.reduceLeDiff,if_true,if_false,List.length_cons,List.length_nil,List.cons_append,List.nil_append,Try.ntmps9,Try.results9])
 repeat' (first|with_reducible refine q_0 ?_|((with_reducible first|refine q_q ydt_ok fun K hK=>?_|refine q_r ydt_ok fun K hK=>?_);simp (maxSteps:=2000000) only [go_sem,↓reduceIte,reduceCtorEq,Nat.reduceLeDiff,Nat.reduceLT,Nat.reduceBEq,Nat.reduceAdd,hx];(repeat1' with_reducible first|apply And.intro|(intro _;try exact q_v)|(refine hK _ ?_;clear hK K))<;>(try (clear hK K;exact q_u)))|(with_reducible refine q_s ?_;(first|apply q_J|apply q_K|apply q_L|apply q_M|apply q_N|apply q_O)<;>try (intro _;try exact q_v)))
 all_goals first | omega | exact h | exact hk | contradiction | exact ends_g [(6,.bx 2 0)] 3 (by exact q_D) rfl | skip
set_option maxHeartbeats 1600000 in
theorem put_new (l : List En) (h : TI l) (k v : Int) (hk : InI k) (hf : fIdx l (cdS k) = none) (hc : cnt l ≠ 1000) : RetG Try.prog 9 (tH l) [.bx 0 0,.c (.i .i64 k),.c (.i .i64 v)] (tHf (putE l k v) 0 0) [.g [.i .i64 0,.i .i64 0]]:=by
 have hx : idxF l (cdS k) = none:=by unfold idxF; rw [hf]; rfl
 have hle:=encR_len l
 have hsz : l.length ≤ 2008:=by have:=h.sz; have:=h.cn; omega
 have e0 : putE l k v = l ++ [⟨cdS k,k,v,false⟩]:=by unfold putE; rw [hf]; simp only [hc,if_false]
 have e1 : idxF (putE l k v) = fun y=>if y = cdS k then some (C.i .i64 (l.length : Nat)) else idxF l y:=by rw [e0]; exact (idxF_new hf).symm
 have e2 : cnt (putE l k v) = cnt l + 1:=by rw [e0]; unfold cnt; rw [lv_app,lv_one rfl]; simp
 have e3 : encR (putE l k v) = encR l ++ [[.str (cdS k),.i .i64 k,.i .i64 v,.b false]]:=by rw [e0,encR_app]; rfl
 simp only [tHf,e1,e2,e3]
 (refine ret_ge Try.func9 (fun F bs=>?_); simp only [avSl,ancs,hnx,Nat.reduceAdd,Nat.reduceLeDiff,if_true,if_false,List.length_cons,List.length_nil,List.cons_append,List.nil_append,Try.ntmps9,Try.results9])
 repeat' (first|with_reducible refine q_0 ?_|((with_reducible first|refine q_q ydt_ok fun K hK=>?_|refine q_r ydt_ok fun K hK=>?_);simp (maxSteps:=2000000) only [go_sem,↓reduceIte,reduceCtorEq,Nat.reduceLeDiff,Nat.reduceLT,Nat.reduceBEq,Nat.reduceAdd,hx,hle];(repeat1' with_reducible first|apply And.intro|(intro _;try exact q_v)|(refine hK _ ?_;clear hK K))<;>(try (clear hK K;exact q_u)))|(with_reducible refine q_s ?_;(first|apply q_J|apply q_K|apply q_L|apply q_M|apply q_N|apply q_O)<;>try (intro _;try exact q_v)))
 all_goals first | omega | exact h | exact hk | contradiction | rfl | exact keep_of [] trivial | exact keep_of [2] ⟨rfl,trivial⟩ | exact ends_g [(6,.bx 2 0)] 3 (by exact q_D) rfl | skip
def putTr (l : List En) (al : List AV) (K : Hp → List AV → Prop) : Prop:=match al with
 | [.bx 0 0,.c (.i .i64 k),.c (.i .i64 v)]=>InI k ∧ (putF l k = true → K (tHf l 2 (-1)) [.g [.i .i64 2,.i .i64 (-1)]]) ∧ (putF l k = false → K (tHf (putE l k v) 0 0) [.g [.i .i64 0,.i .i64 0]])
 | _=>False
def yd6 : Cfg:=addT 9 (tbCT putTr) cf0
theorem yd6_ok : TblOk Try.prog yd6:=ctg_ok cf0_ok Try.func9 fun H al K h=>tbCT_ok (fun l al K ht h=>by
 unfold putTr at h
 split at h
 ·rename_i k v
  obtain ⟨hk,h1,h2⟩:=h
  rcases putF_cases (l:=l) (k:=k) with ⟨i,g1,g2⟩ | ⟨g1,g2,g3⟩ | ⟨g1,g2,g3⟩
  ·exact ⟨_,_,put_old l ht k v hk i g1,h2 g2⟩
  ·exact ⟨_,_,put_full l ht k v hk g1 g2,h1 g3⟩
  ·exact ⟨_,_,put_new l ht k v hk g1 g2,h2 g3⟩
 ·exact h.elim) h
attribute [go_sem] atTr posTr putTr
end Go.Proofs.Ytekigfhikikgaaa

namespace Go.Proofs.Ytekigfhikikgaaa
set_option linter.unusedSimpArgs false
set_option linter.unusedVariables false
open Go.Abs Go.Proofs.NatL

abbrev fnD : Value:=.func (.func 35) #[] #[]
theorem dropf_ret (c : ByteArray) (k v : Int) (g : Bool) : Ret Try.prog 35 false [.inr [.str c,.i .i64 k,.i .i64 v,.b g]] (.c (.b g)):=by
 (refine q_H Try.func35 (fun F=>?_); simp only [q_z,q_y,Try.ntmps35,Try.results35])
 repeat' (first|with_reducible refine q_0 ?_|((with_reducible first|refine q_q cf0_ok fun K hK=>?_|refine q_r cf0_ok fun K hK=>?_);simp (maxSteps:=2000000) only [go_sem,↓reduceIte,reduceCtorEq,Nat.reduceLeDiff,Nat.reduceLT,Nat.reduceBEq,Nat.reduceAdd];(repeat1' with_reducible first|apply And.intro|(intro _;try exact q_v)|(refine hK _ ?_;clear hK K))<;>(try (clear hK K;exact q_u)))|(with_reducible refine q_s ?_;(first|apply q_J|apply q_K|apply q_L|apply q_M|apply q_N|apply q_O)<;>try (intro _;try exact q_v)))
 all_goals exact q_A rfl
def dropfCT : CT:=mkCT [] true fun l K=>match l with
 | [.inr [.str c,.i .i64 k,.i .i64 v,.b g]]=>K (.c (.b g))
 | _=>False
def ye1 : Cfg:=addT 35 dropfCT cf0
theorem ye1_ok : TblOk Try.prog ye1:=q_I cf0_ok Try.func35 fun l K h=>by
 split at h
 ·exact ⟨_,(dropf_ret _ _ _ _).plain rfl,h⟩
 ·exact h.elim
attribute [go_sem] dropfCT
theorem agE : aggO Try.prog 79 = some false:=by kernel_rfl
theorem szE : szO Try.prog 79 = some 1:=by kernel_rfl
attribute [go_sem] agE szE
def yet : Cfg:=listT [(35,dropfCT)] [28]
theorem yet_ok : TblOk Try.prog yet:=listE_ok (by simp only [List.mem_singleton,forall_eq]; exact flt) ⟨⟨ye1,ye1_ok,rfl⟩,trivial⟩
attribute [go_sem] yet
set_option maxHeartbeats 1600000 in
theorem ixf_some (l : List En) (i : Nat) (hi : i < l.length) (hp : ∀ j (h : j < l.length),j < i → l[j].gone = false) (g : l[i].gone = true) (hl : l.length ≤ 100000) : Ret Try.prog 40 false [.inl (.sl 4 (encR l)),.inl (.a fnD)] (.c (.i .i64 (i : Nat))):=by
 have hle:=encR_len l
 (refine q_H Try.func40 (fun F=>?_); simp only [q_z,q_y,Try.ntmps40,Try.results40])
 repeat' (first|with_reducible refine q_0 ?_|((with_reducible first|refine q_q yet_ok fun K hK=>?_|refine q_r yet_ok fun K hK=>?_);simp (maxSteps:=2000000) only [go_sem,↓reduceIte,reduceCtorEq,Nat.reduceLeDiff,Nat.reduceLT,Nat.reduceBEq,Nat.reduceAdd,hle];(repeat1' with_reducible first|apply And.intro|(intro _;try exact q_v)|(refine hK _ ?_;clear hK K))<;>(try (clear hK K;exact q_u)))|(with_reducible refine q_s ?_;(first|apply q_J|apply q_K|apply q_L|apply q_M|apply q_N|apply q_O)<;>try (intro _;try exact q_v)))
 all_goals first | omega | skip
 refine q_G (ι:={ q : Nat // q ≤ i }) (fun q=>⟨19,[(0,.c (.sl 4 (encR l))),(1,.c (.a fnD)),(7,.c (.i .i64 l.length)),(8,.c (.i .i64 (q.1 : Nat)))],⟨[],[],[]⟩,0⟩) (fun q=>i - q.1) ⟨0,Nat.zero_le _⟩ ?_ ?_
 ·exact q_D
 rintro ⟨q,q1⟩
 simp only at q1 ⊢
 have hat:=encR_at l q (by omega)
 rcases Nat.lt_or_ge q i with hq | hq
 ·have hg:=hp q (by omega) hq
  obtain ⟨E,hE⟩ : ∃ E,l[q] = E:=⟨_,rfl⟩
  rw [hE] at hat hg
  obtain ⟨c,k',v,g'⟩:=E
  simp only at hg
  subst hg
  simp only [enC] at hat
  repeat' (first|with_reducible refine q_0 ?_|((with_reducible first|refine q_q yet_ok fun K hK=>?_|refine q_r yet_ok fun K hK=>?_);simp (maxSteps:=2000000) only [go_sem,↓reduceIte,reduceCtorEq,Nat.reduceLeDiff,Nat.reduceLT,Nat.reduceBEq,Nat.reduceAdd,hle,hat];(repeat1' with_reducible first|apply And.intro|(intro _;try exact q_v)|(refine hK _ ?_;clear hK K))<;>(try (clear hK K;exact q_u)))|(with_reducible refine q_s ?_;(first|apply q_J|apply q_K|apply q_L|apply q_M|apply q_N|apply q_O)<;>try (intro _;try exact q_v)))
  all_goals first | omega | skip
  all_goals refine q_F ⟨q + 1,hq⟩ ?_ (by simp only; omega)
  all_goals exact q_D
 ·obtain rfl : q = i:=by omega
  obtain ⟨E,hE⟩ : ∃ E,l[q] = E:=⟨_,rfl⟩
  rw [hE] at hat g
  obtain ⟨c,k',v,g'⟩:=E
  simp only at g
  subst g
  simp only [enC] at hat
  repeat' (first|with_reducible refine q_0 ?_|((with_reducible first|refine q_q yet_ok fun K hK=>?_|refine q_r yet_ok fun K hK=>?_);simp (maxSteps:=2000000) only [go_sem,↓reduceIte,reduceCtorEq,Nat.reduceLeDiff,Nat.reduceLT,Nat.reduceBEq,Nat.reduceAdd,hle,hat];(repeat1' with_reducible first|apply And.intro|(intro _;try exact q_v)|(refine hK _ ?_;clear hK K))<;>(try (clear hK K;exact q_u)))|(with_reducible refine q_s ?_;(first|apply q_J|apply q_K|apply q_L|apply q_M|apply q_N|apply q_O)<;>try (intro _;try exact q_v)))
  all_goals first | omega | exact q_A rfl | skip
set_option maxHeartbeats 1600000 in
theorem ixf_none (l : List En) (hp : ∀ j (h : j < l.length),l[j].gone = false) (hl : l.length ≤ 100000) : Ret Try.prog 40 false [.inl (.sl 4 (encR l)),.inl (.a fnD)] (.c (.i .i64 (-1))):=by
 have hle:=encR_len l
 (refine q_H Try.func40 (fun F=>?_); simp only [q_z,q_y,Try.ntmps40,Try.results40])
 repeat' (first|with_reducible refine q_0 ?_|((with_reducible first|refine q_q yet_ok fun K hK=>?_|refine q_r yet_ok fun K hK=>?_);simp (maxSteps:=2000000) only [go_sem,↓reduceIte,reduceCtorEq,Nat.reduceLeDiff,Nat.reduceLT,Nat.reduceBEq,Nat.reduceAdd,hle];(repeat1' with_reducible first|apply And.intro|(intro _;try exact q_v)|(refine hK _ ?_;clear hK K))<;>(try (clear hK K;exact q_u)))|(with_reducible refine q_s ?_;(first|apply q_J|apply q_K|apply q_L|apply q_M|apply q_N|apply q_O)<;>try (intro _;try exact q_v)))
 all_goals first | omega | skip
 refine q_G (ι:={ q : Nat // q ≤ l.length }) (fun q=>⟨19,[(0,.c (.sl 4 (encR l))),(1,.c (.a fnD)),(7,.c (.i .i64 l.length)),(8,.c (.i .i64 (q.1 : Nat)))],⟨[],[],[]⟩,0⟩) (fun q=>l.length - q.1) ⟨0,Nat.zero_le _⟩ ?_ ?_
 ·exact q_D
 rintro ⟨q,q1⟩
 simp only at q1 ⊢
 rcases Nat.lt_or_ge q l.length with hq | hq
 ·have hat:=encR_at l q (by omega)
  have hg:=hp q hq
  obtain ⟨E,hE⟩ : ∃ E,l[q] = E:=⟨_,rfl⟩
  rw [hE] at hat hg
  obtain ⟨c,k',v,g'⟩:=E
  simp only at hg
  subst hg
  simp only [enC] at hat
  repeat' (first|with_reducible refine q_0 ?_|((with_reducible first|refine q_q yet_ok fun K hK=>?_|refine q_r yet_ok fun K hK=>?_);simp (maxSteps:=2000000) only [go_sem,↓reduceIte,reduceCtorEq,Nat.reduceLeDiff,Nat.reduceLT,Nat.reduceBEq,Nat.reduceAdd,hle,hat];(repeat1' with_reducible first|apply And.intro|(intro _;try exact q_v)|(refine hK _ ?_;clear hK K))<;>(try (clear hK K;exact q_u)))|(with_reducible refine q_s ?_;(first|apply q_J|apply q_K|apply q_L|apply q_M|apply q_N|apply q_O)<;>try (intro _;try exact q_v)))
  all_goals first | omega | skip
  all_goals refine q_F ⟨q + 1,hq⟩ ?_ (by simp only; omega)
  all_goals exact q_D
 ·repeat' (first|with_reducible refine q_0 ?_|((with_reducible first|refine q_q yet_ok fun K hK=>?_|refine q_r yet_ok fun K hK=>?_);simp (maxSteps:=2000000) only [go_sem,↓reduceIte,reduceCtorEq,Nat.reduceLeDiff,Nat.reduceLT,Nat.reduceBEq,Nat.reduceAdd,hle];(repeat1' with_reducible first|apply And.intro|(intro _;try exact q_v)|(refine hK _ ?_;clear hK K))<;>(try (clear hK K;exact q_u)))|(with_reducible refine q_s ?_;(first|apply q_J|apply q_K|apply q_L|apply q_M|apply q_N|apply q_O)<;>try (intro _;try exact q_v)))
  all_goals first | omega | exact q_A rfl | skip
def fstG : List En → Option Nat
 | []=>none
 | e :: l=>if e.gone = true then some 0 else (fstG l).map (· + 1)
theorem fstG_none {l : List En} (h : fstG l = none) : (∀ j (h : j < l.length),l[j].gone = false) ∧ lv l = l:=by
 induction l with
 | nil=>exact ⟨fun j h=>by simp at h,rfl⟩
 | cons e l ih =>
  simp only [fstG] at h
  split at h
  ·cases h
  ·rename_i hg
   have hg : e.gone = false:=by simpa using hg
   obtain ⟨h1,h2⟩:=ih (Option.map_eq_none_iff.1 h)
   refine ⟨fun j hj=>?_,by simp only [lv,List.filter_cons,hg,Bool.not_false,if_true]; exact congrArg (e :: ·) h2⟩
   cases j with
   | zero=>exact hg
   | succ j=>exact h1 j (by simpa using hj)
theorem fstG_some {l : List En} {i : Nat} (h : fstG l = some i) : ∃ hi : i < l.length,(∀ j (h : j < l.length),j < i → l[j].gone = false) ∧ l[i].gone = true ∧ lv (l.take i) = l.take i:=by
 induction l generalizing i with
 | nil=>simp [fstG] at h
 | cons e l ih =>
  simp only [fstG] at h
  split at h
  ·rename_i hg
   cases h
   exact ⟨by simp,fun j _ hj=>by omega,hg,rfl⟩
  ·rename_i hg
   have hg : e.gone = false:=by simpa using hg
   obtain ⟨k,hk,rfl⟩:=Option.map_eq_some_iff.1 h
   obtain ⟨hi,h1,h2,h3⟩:=ih hk
   refine ⟨by simp; omega,fun j hj hlt=>?_,by simpa using h2,?_⟩
   ·cases j with
    | zero=>exact hg
    | succ j=>exact h1 j (by simpa using hj) (by omega)
   ·simp only [List.take_succ_cons,lv,List.filter_cons,hg,Bool.not_false,if_true]
    exact congrArg (e :: ·) h3
def ixfCT : CT:=mkCT [] true fun al K=>match al with
 | [.inl (.sl 4 R),.inl (.a v)]=>(v = fnD ∧ R = encR (decR R) ∧ (decR R).length ≤ 100000) ∧ K (.c (.i .i64 (match fstG (decR R) with | some i=>((i : Nat) : Int) | none => -1)))
 | _=>False
def ye2 : Cfg:=addT 40 ixfCT cf0
theorem ye2_ok : TblOk Try.prog ye2:=q_I cf0_ok Try.func40 fun al K h=>by
 split at h
 ·rename_i R v
  obtain ⟨⟨rfl,h1,h2⟩,h⟩:=h
  generalize decR R = l at *
  subst h1
  cases hg : fstG l with
  | none =>
   rw [hg] at h
   exact ⟨_,(ixf_none l (fstG_none hg).1 h2).plain rfl,h⟩
  | some i =>
   rw [hg] at h
   obtain ⟨g1,g2,g3,_⟩:=fstG_some hg
   exact ⟨_,(ixf_some l i g1 g2 g3 h2).plain rfl,h⟩
 ·exact h.elim
attribute [go_sem] ixfCT
def yeu : Cfg:=listT [(35,dropfCT),(40,ixfCT)] [28]
theorem yeu_ok : TblOk Try.prog yeu:=listE_ok (by simp only [List.mem_singleton,forall_eq]; exact flt) ⟨⟨ye1,ye1_ok,rfl⟩,⟨ye2,ye2_ok,rfl⟩,trivial⟩
attribute [go_sem] yeu
abbrev rowH (l : List En) : Hp:=⟨[],[(0,⟨0,65,4,.sl 4 (encR l)⟩)],[]⟩
set_option maxHeartbeats 1600000 in
theorem df_none (l : List En) (hl : l.length ≤ 100000) (hg : fstG l = none) : RetG Try.prog 34 (rowH l) [.own 0 0,.c (.a fnD)] (rowH (lv l)) [.own 0 0]:=by
 have hle:=encR_len l
 rw [(fstG_none hg).2]
 (refine ret_ge Try.func34 (fun F bs=>?_); simp only [avSl,ancs,hnx,Nat.reduceAdd,Nat.reduceLeDiff,if_true,if_false,List.length_cons,List.length_nil,List.cons_append,List.nil_append,Try.ntmps34,Try.results34])
 repeat' (first|with_reducible refine q_0 ?_|((with_reducible first|refine q_q yeu_ok fun K hK=>?_|refine q_r yeu_ok fun K hK=>?_);simp (maxSteps:=2000000) only [go_sem,↓reduceIte,reduceCtorEq,Nat.reduceLeDiff,Nat.reduceLT,Nat.reduceBEq,Nat.reduceAdd,hle,hg,dec_enc];(repeat1' with_reducible first|apply And.intro|(intro _;try exact q_v)|(refine hK _ ?_;clear hK K))<;>(try (clear hK K;exact q_u)))|(with_reducible refine q_s ?_;(first|apply q_J|apply q_K|apply q_L|apply q_M|apply q_N|apply q_O)<;>try (intro _;try exact q_v)))
 all_goals first | omega | contradiction | exact ends_g [(4,.own 0 0)] 1 (by exact q_D) rfl | skip
theorem df_step {l X : List En} {j : Nat} (hj : j < l.length) (h1 : X.length = l.length) (h2 : X.take (cnt (l.take j)) = lv (l.take j)) (h3 : X.drop j = l.drop j) (hc : cnt (l.take j) < j) (g : l[j].gone = false) :
  (X.set (cnt (l.take j)) l[j]).take (cnt (l.take j) + 1) = lv (l.take (j + 1)) ∧ (X.set (cnt (l.take j)) l[j]).drop (j + 1) = l.drop (j + 1):=by
 have hlt : cnt (l.take j) < X.length:=by omega
 constructor
 ·rw [List.take_succ_eq_append_getElem hj,lv_app,lv_one g,← h2]
  rw [List.take_succ_eq_append_getElem (by rw [List.length_set]; exact hlt),List.getElem_set_self,List.take_set_of_le (Nat.le_refl _)]
 ·rw [List.drop_set_of_lt (by omega),← List.drop_drop,h3,List.drop_drop]
theorem df_skip {l X : List En} {j : Nat} (hj : j < l.length) (h2 : X.take (cnt (l.take j)) = lv (l.take j)) (h3 : X.drop j = l.drop j) (g : l[j].gone = true) :
  cnt (l.take (j + 1)) = cnt (l.take j) ∧ X.take (cnt (l.take (j + 1))) = lv (l.take (j + 1)) ∧ X.drop (j + 1) = l.drop (j + 1):=by
 have h4 : lv (l.take (j + 1)) = lv (l.take j):=by rw [List.take_succ_eq_append_getElem hj,lv_app,lv_oneg g,List.append_nil]
 have h5 : cnt (l.take (j + 1)) = cnt (l.take j):=by unfold cnt; rw [h4]
 refine ⟨h5,by rw [h5,h4]; exact h2,?_⟩
 rw [← List.drop_drop,h3,List.drop_drop]
theorem at_drop {l X : List En} {j : Nat} (hj : j < l.length) (h1 : X.length = l.length) (h3 : X.drop j = l.drop j) : (encR X).getD j [] = enC l[j]:=by
 have : X[j]'(by omega) = l[j]:=by
  have:=congrArg (fun z=>z[0]?) h3
  simp only [List.getElem?_drop,Nat.add_zero] at this
  rw [List.getElem?_eq_getElem (by omega),List.getElem?_eq_getElem hj] at this
  exact Option.some.inj this
 rw [encR_at X j (by omega),this]
set_option maxRecDepth 100000 in
set_option maxHeartbeats 3200000 in
theorem df_some (l : List En) (hl : l.length ≤ 100000) (i : Nat) (hg : fstG l = some i) : RetG Try.prog 34 (rowH l) [.own 0 0,.c (.a fnD)] (rowH (lv l)) [.own 0 0]:=by
 have hle:=encR_len l
 obtain ⟨g1,g2,g3,g4⟩:=fstG_some hg
 have hci : cnt (l.take i) = i:=by unfold cnt; rw [g4,List.length_take]; omega
 obtain ⟨s1,s2,s3⟩:=df_skip (X:=l) g1 (by rw [hci,g4]) rfl g3
 (refine ret_ge Try.func34 (fun F bs=>?_); simp only [avSl,ancs,hnx,Nat.reduceAdd,Nat.reduceLeDiff,if_true,if_false,List.length_cons,List.length_nil,List.cons_append,List.nil_append,Try.ntmps34,Try.results34])
 repeat' (first|with_reducible refine q_0 ?_|((with_reducible first|refine q_q yeu_ok fun K hK=>?_|refine q_r yeu_ok fun K hK=>?_);simp (maxSteps:=2000000) only [go_sem,↓reduceIte,reduceCtorEq,Nat.reduceLeDiff,Nat.reduceLT,Nat.reduceBEq,Nat.reduceAdd,hle,hg,dec_enc];(repeat1' with_reducible first|apply And.intro|(intro _;try exact q_v)|(refine hK _ ?_;clear hK K))<;>(try (clear hK K;exact q_u)))|(with_reducible refine q_s ?_;(first|apply q_J|apply q_K|apply q_L|apply q_M|apply q_N|apply q_O)<;>try (intro _;try exact q_v)))
 all_goals first | omega | contradiction | skip
 refine q_G (ι:={ q : Nat × List En // q.2.length = l.length ∧ q.1 ≤ l.length ∧ cnt (l.take q.1) < q.1 ∧ q.2.take (cnt (l.take q.1)) = lv (l.take q.1) ∧ q.2.drop q.1 = l.drop q.1 }) (fun q=>⟨42,[(0,.own 0 0),(1,.c (.a fnD)),(5,.c (.i .i64 (cnt (l.take q.1.1) : Nat))),(6,.c (.i .i64 (q.1.1 : Nat)))],⟨[],[(0,⟨0,65,4,.sl 4 (encR q.1.2)⟩)],[]⟩,1⟩) (fun q=>l.length - q.1.1) ⟨(i + 1,l),rfl,g1,by simp only; omega,s2,s3⟩ ?_ ?_
 ·simp only [s1,hci]
  exact q_D
 rintro ⟨⟨j,X⟩,q1,q2,q3,q4,q5⟩
 simp only at q1 q2 q3 q4 q5 ⊢
 have hleX:=encR_len X
 rw [q1] at hleX
 rcases Nat.lt_or_ge j l.length with hj | hj
 ·have hat:=at_drop hj q1 q5
  obtain ⟨E,hE⟩ : ∃ E,l[j] = E:=⟨_,rfl⟩
  cases hgg : l[j].gone
  ·obtain ⟨d1,d2⟩:=df_step hj q1 q4 q5 q3 hgg
   have hc:=cnt_take (l:=l) (i:=j) hj
   rw [hgg] at hc
   simp only [Bool.false_eq_true,if_false] at hc
   have hset : encR (X.set (cnt (l.take j)) l[j]) = (encR X).set (cnt (l.take j)) (enC l[j]):=encR_set ..
   rw [hE] at hat hgg d1 d2 hset
   obtain ⟨c,k',v,g'⟩:=E
   simp only at hgg
   subst hgg
   simp only [enC] at hat hset
   repeat' (first|with_reducible refine q_0 ?_|((with_reducible first|refine q_q yeu_ok fun K hK=>?_|refine q_r yeu_ok fun K hK=>?_);simp (maxSteps:=2000000) only [go_sem,↓reduceIte,reduceCtorEq,Nat.reduceLeDiff,Nat.reduceLT,Nat.reduceBEq,Nat.reduceAdd,hle,hleX,hat];(repeat1' with_reducible first|apply And.intro|(intro _;try exact q_v)|(refine hK _ ?_;clear hK K))<;>(try (clear hK K;exact q_u)))|(with_reducible refine q_s ?_;(first|apply q_J|apply q_K|apply q_L|apply q_M|apply q_N|apply q_O)<;>try (intro _;try exact q_v)))
   all_goals first | omega | contradiction | skip
   all_goals refine q_F ⟨(j + 1,X.set (cnt (l.take j)) ⟨c,k',v,false⟩),by simp only [List.length_set]; exact q1,hj,by simp only; omega,by rw [hc]; exact d1,d2⟩ ?_ (by simp only; omega)
   all_goals simp only [hset,hc]
   all_goals exact q_D
  ·obtain ⟨d1,d2,d3⟩:=df_skip hj q4 q5 hgg
   rw [hE] at hat hgg
   obtain ⟨c,k',v,g'⟩:=E
   simp only at hgg
   subst hgg
   simp only [enC] at hat
   repeat' (first|with_reducible refine q_0 ?_|((with_reducible first|refine q_q yeu_ok fun K hK=>?_|refine q_r yeu_ok fun K hK=>?_);simp (maxSteps:=2000000) only [go_sem,↓reduceIte,reduceCtorEq,Nat.reduceLeDiff,Nat.reduceLT,Nat.reduceBEq,Nat.reduceAdd,hle,hleX,hat];(repeat1' with_reducible first|apply And.intro|(intro _;try exact q_v)|(refine hK _ ?_;clear hK K))<;>(try (clear hK K;exact q_u)))|(with_reducible refine q_s ?_;(first|apply q_J|apply q_K|apply q_L|apply q_M|apply q_N|apply q_O)<;>try (intro _;try exact q_v)))
   all_goals first | omega | contradiction | skip
   all_goals refine q_F ⟨(j + 1,X),q1,hj,by simp only; omega,d2,d3⟩ ?_ (by simp only; omega)
   all_goals simp only [d1]
   all_goals exact q_D
 ·obtain rfl : j = l.length:=by omega
  have e : cnt (l.take l.length) = cnt l:=by rw [List.take_length]
  rw [List.take_length] at q3 q4
  have hlv : encR (lv l) = (encR X).take (cnt l):=by rw [← q4,encR_take]
  generalize hk : cnt l = k at *
  have hkl : k ≤ (encR X).length:=by omega
  have hcut : ∀ Z D : List (List C),((encR X).take k ++ Z ++ D).take k = (encR X).take k:=fun Z D=>by
   rw [List.append_assoc,List.take_append_of_le_length (by rw [List.length_take]; omega),List.take_take,Nat.min_self]
  simp only [e,rowH,hlv]
  repeat' (first|with_reducible refine q_0 ?_|((with_reducible first|refine q_q yeu_ok fun K hK=>?_|refine q_r yeu_ok fun K hK=>?_);simp (maxSteps:=2000000) only [go_sem,↓reduceIte,reduceCtorEq,Nat.reduceLeDiff,Nat.reduceLT,Nat.reduceBEq,Nat.reduceAdd,hle,hleX];(repeat1' with_reducible first|apply And.intro|(intro _;try exact q_v)|(refine hK _ ?_;clear hK K))<;>(try (clear hK K;exact q_u)))|(with_reducible refine q_s ?_;(first|apply q_J|apply q_K|apply q_L|apply q_M|apply q_N|apply q_O)<;>try (intro _;try exact q_v)))
  all_goals first | omega | contradiction | skip
  all_goals rw [hcut]
  all_goals exact ends_g [(4,.own 0 0)] 1 (by exact q_D) rfl
def dfCT : CT:=mkCTG fun H al K=>match H,al with
 | ⟨[],[(0,⟨0,65,4,.sl 4 R⟩)],[]⟩,[.own 0 0,.c (.a v)]=>(v = fnD ∧ R = encR (decR R) ∧ (decR R).length ≤ 100000) ∧ K (rowH (lv (decR R))) [.own 0 0]
 | _,_=>False
def ye3 : Cfg:=addT 34 dfCT cf0
theorem ye3_ok : TblOk Try.prog ye3:=ctg_ok cf0_ok Try.func34 fun H al K h=>by
 split at h
 ·rename_i R v
  obtain ⟨⟨rfl,h1,h2⟩,h⟩:=h
  generalize decR R = l at *
  subst h1
  cases hg : fstG l with
  | none=>exact ⟨_,_,df_none l h2 hg,h⟩
  | some i=>exact ⟨_,_,df_some l h2 i hg,h⟩
 ·exact h.elim
attribute [go_sem] dfCT
def yev : Cfg:=listT [(14,lenCT),(34,dfCT)] [28]
theorem yev_ok : TblOk Try.prog yev:=listE_ok (by simp only [List.mem_singleton,forall_eq]; exact flt) ⟨⟨yd2,yd2_ok,rfl⟩,⟨ye3,ye3_ok,rfl⟩,trivial⟩
attribute [go_sem] yev
theorem enC_gone : enC goneE = [.str ByteArray.empty,.i .i64 0,.i .i64 0,.b true]:=rfl
set_option maxRecDepth 100000 in
set_option maxHeartbeats 3200000 in
theorem drop_keep (l : List En) (h : TI l) (i : Nat) (hi : i < l.length) (g : l[i].gone = false) (hk : ¬ 2 * cnt (l.set i goneE) + 8 < l.length) : RetG Try.prog 22 (tH l) [.bx 0 0,.c (.i .i64 (i : Nat))] (tH (dropE l i)) []:=by
 have hle:=encR_len l
 have hc:=cnt_gone hi g
 have hsz : l.length ≤ 2008:=by have:=h.sz; have:=h.cn; omega
 have hat:=encR_at l i hi
 have hx : idxF l l[i].code = some (.i .i64 (i : Nat)):=by unfold idxF; rw [fIdx_eq h.nd hi g]; rfl
 have e0 : dropE l i = l.set i goneE:=if_neg hk
 have e1 : idxF (dropE l i) = fun y=>if y = l[i].code then none else idxF l y:=by rw [e0]; exact (idxF_gone h.nd hi g).symm
 have e3 : encR (dropE l i) = (encR l).set i [.str ByteArray.empty,.i .i64 0,.i .i64 0,.b true]:=by rw [e0,encR_set,enC_gone]
 have e2 : cnt (dropE l i) = cnt l - 1:=by rw [e0]; omega
 simp only [tH,e1,e2,e3]
 obtain ⟨E,hE⟩ : ∃ E,l[i] = E:=⟨_,rfl⟩
 rw [hE] at hat hx ⊢
 obtain ⟨c,k',v,g'⟩:=E
 simp only [enC] at hat hx ⊢
 have hcn:=h.cn
 have hm : (2 * (cnt l - 1) + 8 : Nat) ≥ l.length:=by omega
 (refine ret_ge Try.func22 (fun F bs=>?_); simp only [avSl,ancs,hnx,Nat.reduceAdd,Nat.reduceLeDiff,if_true,if_false,List.length_cons,List.length_nil,List.cons_append,List.nil_append,Try.ntmps22,Try.results22])
 repeat' (first|with_reducible refine q_0 ?_|((with_reducible first|refine q_q yev_ok fun K hK=>?_|refine q_r yev_ok fun K hK=>?_);simp (maxSteps:=2000000) only [go_sem,↓reduceIte,reduceCtorEq,Nat.reduceLeDiff,Nat.reduceLT,Nat.reduceBEq,Nat.reduceAdd,hle,hat,hx];(repeat1' with_reducible first|apply And.intro|(intro _;try exact q_v)|(refine hK _ ?_;clear hK K))<;>(try (clear hK K;exact q_u)))|(with_reducible refine q_s ?_;(first|apply q_J|apply q_K|apply q_L|apply q_M|apply q_N|apply q_O)<;>try (intro _;try exact q_v)))
 all_goals first | omega | contradiction | rfl | exact keep_of [] trivial | exact keep_of [2] ⟨rfl,trivial⟩ | exact ends_gn [] 2 (by exact q_D) rfl | skip
set_option maxRecDepth 100000 in
set_option maxHeartbeats 3200000 in
theorem drop_close (l : List En) (h : TI l) (i : Nat) (hi : i < l.length) (g : l[i].gone = false) (hk : 2 * cnt (l.set i goneE) + 8 < l.length) : RetG Try.prog 22 (tH l) [.bx 0 0,.c (.i .i64 (i : Nat))] (tH (dropE l i)) []:=by
 have hle:=encR_len l
 have hc:=cnt_gone hi g
 have hsz : l.length ≤ 2008:=by have:=h.sz; have:=h.cn; omega
 have hat:=encR_at l i hi
 have hx : idxF l l[i].code = some (.i .i64 (i : Nat)):=by unfold idxF; rw [fIdx_eq h.nd hi g]; rfl
 have e0 : dropE l i = lv (l.set i goneE):=if_pos hk
 have n1:=nd_gone h.nd hi
 have e4 : (fun y=>if y = l[i].code then none else idxF l y) = idxF (l.set i goneE):=idxF_gone h.nd hi g
 have e3 : (encR l).set i [.str ByteArray.empty,.i .i64 0,.i .i64 0,.b true] = encR (l.set i goneE):=by rw [encR_set,enC_gone]
 have hl1 : (l.set i goneE).length ≤ 100000:=by rw [List.length_set]; omega
 have hlen1 : (l.set i goneE).length = l.length:=List.length_set ..
 have hcc : cnt l - 1 = cnt (l.set i goneE):=by omega
 rw [e0]
 obtain ⟨E,hE⟩ : ∃ E,l[i] = E:=⟨_,rfl⟩
 rw [hE] at hat hx e4
 obtain ⟨c,k',v,g'⟩:=E
 simp only [enC] at hat hx e4
 generalize l.set i goneE = l1 at *
 have hcn:=h.cn
 have hle1:=encR_len (lv l1)
 have hcv : (lv l1).length = cnt l1:=rfl
 have hcv2 : cnt (lv l1) = cnt l1:=by unfold cnt; rw [lv_lv]
 (refine ret_ge Try.func22 (fun F bs=>?_); simp only [avSl,ancs,hnx,Nat.reduceAdd,Nat.reduceLeDiff,if_true,if_false,List.length_cons,List.length_nil,List.cons_append,List.nil_append,Try.ntmps22,Try.results22])
 have hle2:=encR_len l1
 have r0:=reIx_zero l1
 have hnx:=reIx_all (l:=l1)
 rw [hcv] at hnx
 repeat' (first|with_reducible refine q_0 ?_|((with_reducible first|refine q_q yev_ok fun K hK=>?_|refine q_r yev_ok fun K hK=>?_);simp (maxSteps:=2000000) only [go_sem,↓reduceIte,reduceCtorEq,Nat.reduceLeDiff,Nat.reduceLT,Nat.reduceBEq,Nat.reduceAdd,hle,hat,hx,e3,e4,dec_enc,hle1,hcv,hle2];(repeat1' with_reducible first|apply And.intro|(intro _;try exact q_v)|(refine hK _ ?_;clear hK K))<;>(try (clear hK K;exact q_u)))|(with_reducible refine q_s ?_;(first|apply q_J|apply q_K|apply q_L|apply q_M|apply q_N|apply q_O)<;>try (intro _;try exact q_v)))
 all_goals first | omega | contradiction | rfl | exact keep_of [] trivial | exact keep_of [2] ⟨rfl,trivial⟩ | skip
 refine q_G (ι:={ k : Nat // k ≤ cnt l1 }) (fun k=>⟨61,[(0,.bx 0 0),(46,.own 2 0),(47,.c (.i .i64 (cnt l1 : Nat))),(48,.c (.i .i64 (k.1 : Nat))),(1000,.anc 0 (bs 0)),(1001,.anc 1 (bs 1))],
  ⟨[(0,[.c (.a fnC),.mp 1,.own 2 0]),(1,[.mc (.s (reIx l1 k.1) (cnt l1))])],[(2,⟨0,65,4,.sl 4 (encR (lv l1))⟩)],[]⟩,3⟩) (fun k=>cnt l1 - k.1) ⟨0,Nat.zero_le _⟩ ?_ ?_
 ·simp only [r0]
  exact q_D
 rintro ⟨k,k1⟩
 simp only at k1 ⊢
 rcases Nat.lt_or_ge k (cnt l1) with hk2 | hk2
 ·have hk3 : k < (lv l1).length:=hk2
  have hat2:=encR_at (lv l1) k hk3
  obtain ⟨cc,hcc2⟩:=reIx_some n1 hk3
  have hs:=reIx_succ n1 hk3
  obtain ⟨E2,hE2⟩ : ∃ E,(lv l1)[k] = E:=⟨_,rfl⟩
  rw [hE2] at hat2 hcc2 hs
  obtain ⟨c2,k2,v2,g2⟩:=E2
  simp only [enC] at hat2 hcc2 hs
  repeat' (first|with_reducible refine q_0 ?_|((with_reducible first|refine q_q yev_ok fun K hK=>?_|refine q_r yev_ok fun K hK=>?_);simp (maxSteps:=2000000) only [go_sem,↓reduceIte,reduceCtorEq,Nat.reduceLeDiff,Nat.reduceLT,Nat.reduceBEq,Nat.reduceAdd,hle1,hcv,hat2,hcc2];(repeat1' with_reducible first|apply And.intro|(intro _;try exact q_v)|(refine hK _ ?_;clear hK K))<;>(try (clear hK K;exact q_u)))|(with_reducible refine q_s ?_;(first|apply q_J|apply q_K|apply q_L|apply q_M|apply q_N|apply q_O)<;>try (intro _;try exact q_v)))
  all_goals first | omega | contradiction | rfl | exact keep_of [] trivial | exact keep_of [2] ⟨rfl,trivial⟩ | skip
  all_goals refine q_F ⟨k + 1,hk2⟩ ?_ (by simp only; omega)
  all_goals simp only [← hs]
  all_goals exact q_D
 ·obtain rfl : k = cnt l1:=by omega
  rw [hnx]
  simp only [tH,hcv2]
  repeat' (first|with_reducible refine q_0 ?_|((with_reducible first|refine q_q yev_ok fun K hK=>?_|refine q_r yev_ok fun K hK=>?_);simp (maxSteps:=2000000) only [go_sem,↓reduceIte,reduceCtorEq,Nat.reduceLeDiff,Nat.reduceLT,Nat.reduceBEq,Nat.reduceAdd,hle1,hcv];(repeat1' with_reducible first|apply And.intro|(intro _;try exact q_v)|(refine hK _ ?_;clear hK K))<;>(try (clear hK K;exact q_u)))|(with_reducible refine q_s ?_;(first|apply q_J|apply q_K|apply q_L|apply q_M|apply q_N|apply q_O)<;>try (intro _;try exact q_v)))
  all_goals first | omega | contradiction | exact ends_grn [(2,0)] [] 2 (by exact q_D) rfl | skip
end Go.Proofs.Ytekigfhikikgaaa

namespace Go.Proofs.Ytekigfhikikgaaa
set_option linter.unusedSimpArgs false
set_option linter.unusedVariables false
open Go.Abs Go.Proofs.NatL

def dropTr (l : List En) (al : List AV) (K : Hp → List AV → Prop) : Prop:=match al with
 | [.bx 0 0,.c (.i .i64 i)]=>(0 ≤ i ∧ i < (l.length : Int) ∧ (l.getD i.toNat goneE).gone = false) ∧ K (tH (dropE l i.toNat)) []
 | _=>False
def yf1 : Cfg:=addT 22 (tbCT dropTr) cf0
theorem yf1_ok : TblOk Try.prog yf1:=ctg_ok cf0_ok Try.func22 fun H al K h=>tbCT_ok (fun l al K ht h=>by
 unfold dropTr at h
 split at h
 ·rename_i i
  obtain ⟨⟨h1,h2,h3⟩,h⟩:=h
  obtain ⟨i,rfl⟩:=Int.eq_ofNat_of_zero_le h1
  rw [Int.toNat_natCast] at h h3
  have hi : i < l.length:=by omega
  rw [getD_E hi] at h3
  by_cases hk : 2 * cnt (l.set i goneE) + 8 < l.length
  ·exact ⟨_,_,drop_close l ht i hi h3 hk,h⟩
  ·exact ⟨_,_,drop_keep l ht i hi h3 hk,h⟩
 ·exact h.elim) h
attribute [go_sem] dropTr
def yft : Cfg:=listT [(21,atCT),(14,lenCT),(22,(tbCT dropTr)),(8,codeCT)] [28]
theorem yft_ok : TblOk Try.prog yft:=listE_ok (by simp only [List.mem_singleton,forall_eq]; exact flt) ⟨⟨yc2,yc2_ok,rfl⟩,⟨yd2,yd2_ok,rfl⟩,⟨yf1,yf1_ok,rfl⟩,⟨yc1,yc1_ok,rfl⟩,trivial⟩
attribute [go_sem] yft
theorem hasE_none {l : List En} {k : Int} (h : hasE l k = false) : fIdx l (cdS k) = none:=by
 unfold hasE at h; cases hf : fIdx l (cdS k) with
 | none=>rfl
 | some i=>rw [hf] at h; cases h
set_option maxHeartbeats 1600000 in
theorem del_bad (l : List En) (h : TI l) (k : Int) (hk : InI k) (hb : hasE l k = false) : RetG Try.prog 10 (tH l) [.bx 0 0,.c (.i .i64 k)] (tH l) [.c (.b false)]:=by
 have hx : idxF l (cdS k) = none:=by unfold idxF; rw [hasE_none hb]; rfl
 (refine ret_ge Try.func10 (fun F bs=>?_); simp only [avSl,ancs,hnx,Nat.reduceAdd,Nat.reduceLeDiff,if_true,if_false,List.length_cons,List.length_nil,List.cons_append,List.nil_append,Try.ntmps10,Try.results10])
 repeat' (first|with_reducible refine q_0 ?_|((with_reducible first|refine q_q yft_ok fun K hK=>?_|refine q_r yft_ok fun K hK=>?_);simp (maxSteps:=2000000) only [go_sem,↓reduceIte,reduceCtorEq,Nat.reduceLeDiff,Nat.reduceLT,Nat.reduceBEq,Nat.reduceAdd,hx];(repeat1' with_reducible first|apply And.intro|(intro _;try exact q_v)|(refine hK _ ?_;clear hK K))<;>(try (clear hK K;exact q_u)))|(with_reducible refine q_s ?_;(first|apply q_J|apply q_K|apply q_L|apply q_M|apply q_N|apply q_O)<;>try (intro _;try exact q_v)))
 all_goals first | omega | exact h | exact hk | contradiction | rfl | exact keep_of [] trivial | exact keep_of [2] ⟨rfl,trivial⟩ | exact ends_g [(4,.c (.b false))] 2 (by exact q_D) rfl | skip
set_option maxHeartbeats 1600000 in
theorem del_good (l : List En) (h : TI l) (k : Int) (hk : InI k) (i : Nat) (hf : fIdx l (cdS k) = some i) : RetG Try.prog 10 (tH l) [.bx 0 0,.c (.i .i64 k)] (tH (dropE l i)) [.c (.b true)]:=by
 have hx : idxF l (cdS k) = some (.i .i64 (i : Nat)):=by unfold idxF; rw [hf]; rfl
 obtain ⟨hi,g2,g3⟩:=fIdx_some hf
 have hg : (l.getD i goneE).gone = false:=by rw [getD_E hi]; exact g2
 (refine ret_ge Try.func10 (fun F bs=>?_); simp only [avSl,ancs,hnx,Nat.reduceAdd,Nat.reduceLeDiff,if_true,if_false,List.length_cons,List.length_nil,List.cons_append,List.nil_append,Try.ntmps10,Try.results10])
 repeat' (first|with_reducible refine q_0 ?_|((with_reducible first|refine q_q yft_ok fun K hK=>?_|refine q_r yft_ok fun K hK=>?_);simp (maxSteps:=2000000) only [go_sem,↓reduceIte,reduceCtorEq,Nat.reduceLeDiff,Nat.reduceLT,Nat.reduceBEq,Nat.reduceAdd,hx];(repeat1' with_reducible first|apply And.intro|(intro _;try exact q_v)|(refine hK _ ?_;clear hK K))<;>(try (clear hK K;exact q_u)))|(with_reducible refine q_s ?_;(first|apply q_J|apply q_K|apply q_L|apply q_M|apply q_N|apply q_O)<;>try (intro _;try exact q_v)))
 all_goals first | omega | exact h | exact hk | exact hg | contradiction | rfl | exact keep_of [] trivial | exact keep_of [2] ⟨rfl,trivial⟩ | skip
 all_goals exact ends_gr [(2,0)] [(4,.c (.b true))] 2 (by exact q_D) rfl
def delTr (l : List En) (al : List AV) (K : Hp → List AV → Prop) : Prop:=match al with
 | [.bx 0 0,.c (.i .i64 k)]=>InI k ∧ K (tH (delE l k)) [.c (.b (hasE l k))]
 | _=>False
def yf2 : Cfg:=addT 10 (tbCT delTr) cf0
theorem yf2_ok : TblOk Try.prog yf2:=ctg_ok cf0_ok Try.func10 fun H al K h=>tbCT_ok (fun l al K ht h=>by
 unfold delTr at h
 split at h
 ·rename_i k
  obtain ⟨hk,h⟩:=h
  unfold delE at h
  cases hf : fIdx l (cdS k) with
  | none =>
   have hb : hasE l k = false:=by unfold hasE; rw [hf]; rfl
   rw [hf,hb] at h
   exact ⟨_,_,del_bad l ht k hk hb,h⟩
  | some i =>
   have hb : hasE l k = true:=by unfold hasE; rw [hf]; rfl
   rw [hf,hb] at h
   exact ⟨_,_,del_good l ht k hk i hf,h⟩
 ·exact h.elim) h
set_option maxHeartbeats 1600000 in
theorem move_bad (l : List En) (h : TI l) (k : Int) (hk : InI k) (hb : hasE l k = false) (last : Bool) : RetG Try.prog 11 (tH l) [.bx 0 0,.c (.i .i64 k),.c (.b last)] (tHf l 12 (-1)) [.g [.i .i64 12,.i .i64 (-1)]]:=by
 have hx : idxF l (cdS k) = none:=by unfold idxF; rw [hasE_none hb]; rfl
 (refine ret_ge Try.func11 (fun F bs=>?_); simp only [avSl,ancs,hnx,Nat.reduceAdd,Nat.reduceLeDiff,if_true,if_false,List.length_cons,List.length_nil,List.cons_append,List.nil_append,Try.ntmps11,Try.results11])
 repeat' (first|with_reducible refine q_0 ?_|((with_reducible first|refine q_q yft_ok fun K hK=>?_|refine q_r yft_ok fun K hK=>?_);simp (maxSteps:=2000000) only [go_sem,↓reduceIte,reduceCtorEq,Nat.reduceLeDiff,Nat.reduceLT,Nat.reduceBEq,Nat.reduceAdd,hx];(repeat1' with_reducible first|apply And.intro|(intro _;try exact q_v)|(refine hK _ ?_;clear hK K))<;>(try (clear hK K;exact q_u)))|(with_reducible refine q_s ?_;(first|apply q_J|apply q_K|apply q_L|apply q_M|apply q_N|apply q_O)<;>try (intro _;try exact q_v)))
 all_goals first | omega | exact h | exact hk | contradiction | rfl | exact keep_of [] trivial | exact keep_of [2] ⟨rfl,trivial⟩ | exact ends_g [(6,.bx 2 0)] 3 (by exact q_D) rfl | skip
theorem drop_code {l : List En} (h : TI l) {i : Nat} (hi : i < l.length) (g : l[i].gone = false) : fIdx (dropE l i) l[i].code = none:=by
 rw [fIdx_none]
 intro e he hg hc
 have hm : e ∈ lv (dropE l i):=mem_lv.2 ⟨he,hg⟩
 rw [lv_dropE] at hm
 have hn : idxF (l.set i goneE) l[i].code = none:=by rw [← idxF_gone h.nd hi g]; simp
 unfold idxF at hn
 exact fIdx_none.1 (Option.map_eq_none_iff.1 hn) e (mem_lv.1 hm).1 hg hc
set_option maxHeartbeats 1600000 in
theorem move_good (l : List En) (h : TI l) (k : Int) (hk : InI k) (i : Nat) (hf : fIdx l (cdS k) = some i) : RetG Try.prog 11 (tH l) [.bx 0 0,.c (.i .i64 k),.c (.b true)] (tHf (moveE l k) 0 0) [.g [.i .i64 0,.i .i64 0]]:=by
 have hx : idxF l (cdS k) = some (.i .i64 (i : Nat)):=by unfold idxF; rw [hf]; rfl
 obtain ⟨hi,g2,g3⟩:=fIdx_some hf
 have hle:=encR_len l
 have hsz : l.length ≤ 2008:=by have:=h.sz; have:=h.cn; omega
 have hg : (l.getD i goneE).gone = false:=by rw [getD_E hi]; exact g2
 have hat:=encR_at l i hi
 have hn:=drop_code h hi g2
 have hti:=dropE_ti h hi g2
 have hle2:=encR_len (dropE l i)
 have hsz2 : (dropE l i).length ≤ 2008:=by have:=hti.sz; have:=hti.cn; omega
 have e0 : moveE l k = dropE l i ++ [l[i]]:=by unfold moveE; rw [hf]; simp only [getD_E hi]
 obtain ⟨E,hE⟩ : ∃ E,l[i] = E:=⟨_,rfl⟩
 rw [hE] at hat g2 hn e0
 obtain ⟨c,k',v',g⟩:=E
 simp only [enC] at hat g2 hn
 subst g2
 have hix : idxF (dropE l i) c = none:=by unfold idxF; rw [hn]; rfl
 have e1 : idxF (moveE l k) = fun y=>if y = c then some (C.i .i64 ((dropE l i).length : Nat)) else idxF (dropE l i) y:=by rw [e0]; exact (idxF_new hn).symm
 have e2 : cnt (moveE l k) = cnt (dropE l i) + 1:=by rw [e0]; unfold cnt; rw [lv_app,lv_one rfl]; simp
 have e3 : encR (moveE l k) = encR (dropE l i) ++ [[.str c,.i .i64 k',.i .i64 v',.b false]]:=by rw [e0,encR_app]; rfl
 simp only [tHf,e1,e2,e3]
 generalize hd : dropE l i = l1 at *
 (refine ret_ge Try.func11 (fun F bs=>?_); simp only [avSl,ancs,hnx,Nat.reduceAdd,Nat.reduceLeDiff,if_true,if_false,List.length_cons,List.length_nil,List.cons_append,List.nil_append,Try.ntmps11,Try.results11])
 repeat' (first|with_reducible refine q_0 ?_|((with_reducible first|refine q_q yft_ok fun K hK=>?_|refine q_r yft_ok fun K hK=>?_);simp (maxSteps:=2000000) only [go_sem,↓reduceIte,reduceCtorEq,Nat.reduceLeDiff,Nat.reduceLT,Nat.reduceBEq,Nat.reduceAdd,hx,hle,hat,hd,hle2,hix];(repeat1' with_reducible first|apply And.intro|(intro _;try exact q_v)|(refine hK _ ?_;clear hK K))<;>(try (clear hK K;exact q_u)))|(with_reducible refine q_s ?_;(first|apply q_J|apply q_K|apply q_L|apply q_M|apply q_N|apply q_O)<;>try (intro _;try exact q_v)))
 all_goals first | omega | exact h | exact hk | exact hg | contradiction | rfl | exact keep_of [] trivial | exact keep_of [2] ⟨rfl,trivial⟩ | skip
 all_goals exact ends_gr [(4,0)] [(6,.bx 2 0)] 3 (by exact q_D) rfl
def moveTr (l : List En) (al : List AV) (K : Hp → List AV → Prop) : Prop:=match al with
 | [.bx 0 0,.c (.i .i64 k),.c (.b last)]=>(InI k ∧ last = true) ∧ (hasE l k = false → K (tHf l 12 (-1)) [.g [.i .i64 12,.i .i64 (-1)]]) ∧ (hasE l k = true → K (tHf (moveE l k) 0 0) [.g [.i .i64 0,.i .i64 0]])
 | _=>False
def yf3 : Cfg:=addT 11 (tbCT moveTr) cf0
theorem yf3_ok : TblOk Try.prog yf3:=ctg_ok cf0_ok Try.func11 fun H al K h=>tbCT_ok (fun l al K ht h=>by
 unfold moveTr at h
 split at h
 ·rename_i k last
  obtain ⟨⟨hk,rfl⟩,h1,h2⟩:=h
  cases hf : fIdx l (cdS k) with
  | none =>
   have hb : hasE l k = false:=by unfold hasE; rw [hf]; rfl
   exact ⟨_,_,move_bad l ht k hk hb true,h1 hb⟩
  | some i =>
   have hb : hasE l k = true:=by unfold hasE; rw [hf]; rfl
   exact ⟨_,_,move_good l ht k hk i hf,h2 hb⟩
 ·exact h.elim) h
attribute [go_sem] delTr moveTr
def ygt : Cfg:=listT [(7,newCT),(9,(tbCT putTr)),(12,(rdCT atTr)),(14,lenCT)] [28]
theorem ygt_ok : TblOk Try.prog ygt:=listE_ok (by simp only [List.mem_singleton,forall_eq]; exact flt) ⟨⟨yd1,yd1_ok,rfl⟩,⟨yd6,yd6_ok,rfl⟩,⟨yd4,yd4_ok,rfl⟩,⟨yd2,yd2_ok,rfl⟩,trivial⟩
attribute [go_sem] ygt
theorem half4 : half 4 = 2:=by rw [half_eq]; rfl
theorem half5 : half 5 = 2:=by rw [half_eq]; rfl
theorem cd45 : cdS 5 = cdS 4:=cdS_inj.2 (by rw [half4,half5])
theorem ex_put1 : putE [] 4 1 = [⟨cdS 4,4,1,false⟩]:=rfl
theorem ex_put2 : putE [⟨cdS 4,4,1,false⟩] 5 2 = [⟨cdS 4,4,2,false⟩]:=by
 have : fIdx [(⟨cdS 4,4,1,false⟩ : En)] (cdS 5) = some 0:=by simp [fIdx,cd45]
 unfold putE
 rw [this]
 simp [cd45]
theorem ex_f1 : putF [] 4 = false:=rfl
theorem ex_f2 : putF [⟨cdS 4,4,1,false⟩] 5 = false:=by
 unfold putF
 have : fIdx [(⟨cdS 4,4,1,false⟩ : En)] (cdS 5) = some 0:=by simp [fIdx,cd45]
 rw [this]; rfl
theorem ex_ti : TI [⟨cdS 4,4,1,false⟩]:=by have:=(put_facts nil_ti 4 1).1; rw [ex_put1] at this; exact this
theorem ex_ti2 : TI [⟨cdS 4,4,2,false⟩]:=by have:=(put_facts ex_ti 5 2).1; rw [ex_put2] at this; exact this
theorem ex_lv : lv [⟨cdS 4,4,2,false⟩] = [⟨cdS 4,4,2,false⟩]:=rfl
theorem ex_cnt : cnt [⟨cdS 4,4,2,false⟩] = 1:=rfl
theorem ex_at {j : Nat} {e : En} (h : j < 1) (he : (lv [⟨cdS 4,4,2,false⟩])[j]? = some e) : e.key = 4 ∧ e.val = 2:=by
 obtain rfl : j = 0:=by omega
 rw [ex_lv] at he
 cases he
 exact ⟨rfl,rfl⟩
theorem in45 : InI 4 ∧ InI 5 ∧ InI (-1):=by unfold InI; omega
set_option maxHeartbeats 1600000 in
theorem tables_ret : Ret Try.prog 6 false [] (.c (.b true)):=by
 obtain ⟨i4,i5,i1⟩:=in45
 have t0:=nil_ti
 have t1:=ex_ti
 have t2:=ex_ti2
 (refine q_H Try.func6 (fun F=>?_); simp only [q_z,q_y,Try.ntmps6,Try.results6])
 repeat' (first|with_reducible refine q_0 ?_|((with_reducible first|refine q_q ygt_ok fun K hK=>?_|refine q_r ygt_ok fun K hK=>?_);simp (maxSteps:=2000000) only [go_sem,↓reduceIte,reduceCtorEq,Nat.reduceLeDiff,Nat.reduceLT,Nat.reduceBEq,Nat.reduceAdd,ex_put1,ex_put2,ex_f1,ex_f2,ex_cnt];(repeat1' with_reducible first|apply And.intro|(intro _;try exact q_v)|(refine hK _ ?_;clear hK K))<;>(try (clear hK K;exact q_u)))|(with_reducible refine q_s ?_;(first|apply q_J|apply q_K|apply q_L|apply q_M|apply q_N|apply q_O)<;>try (intro _;try exact q_v)))
 all_goals first
 | exact q_A rfl
 | (exfalso; have ha:=ex_at (by assumption) (by assumption); omega)
def tablesCT : CT:=mkCT [] true fun l K=>match l with
 | []=>K (.c (.b true))
 | _=>False
def yf4 : Cfg:=addT 6 tablesCT cf0
theorem yf4_ok : TblOk Try.prog yf4:=q_I cf0_ok Try.func6 fun l K h=>by
 split at h
 ·exact ⟨_,tables_ret.plain rfl,h⟩
 ·exact h.elim
attribute [go_sem] tablesCT
end Go.Proofs.Ytekigfhikikgaaa
