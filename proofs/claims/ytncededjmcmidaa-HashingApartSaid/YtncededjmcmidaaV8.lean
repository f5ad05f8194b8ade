import Derived.Test.YtncededjmcmidaaV7
namespace Go.Proofs.Ytncededjmcmidaa
set_option linter.unusedSimpArgs false
set_option linter.unusedVariables false
open Go.Abs Go.Proofs.NatL

def cvL (os : List Ob) : Nat → List Vl → List Int → Nat × List Int × Int × Int
  | r, [], out => (r, out, 0, 0)
  | 0, _ :: _, out => (0, out, 14, -2)
  | r + 1, x :: t, out =>
    if x.k = 9 then (r, out, 27, -2) else if x.k = 6 then
      (let o := os.getD x.r.toNat ob0
       if o.k = 2 ∨ o.k = 3 ∨ o.k = 4 ∨ o.k = 5 then (r, out, 27, x.r)
       else if o.k = 1 then cvL os r (o.it ++ t) (out ++ [6, (o.it.length : Int) % 256, (o.it.length : Int) / 256])
       else cvL os r t (out ++ refB x.r))
    else cvL os r t (out ++ plB x)
theorem cvL_key (os : List Ob) : ∀ (r : Nat) (td : List Vl) (out : List Int),((cvL os r td out).2.2.1 = 0 → keyG os r td out = ((cvL os r td out).2.1,0,0) ∧ (cvL os r td out).2.2.2 = 0) ∧
  ((cvL os r td out).2.2.1 ≠ 0 → keyG os r td out = ([],(cvL os r td out).2.2.1,(cvL os r td out).2.2.2))
 | r,[],out=>by
  have e1 : cvL os r [] out = (r,out,0,0):=by cases r <;> rfl
  have e2 : keyG os r [] out = (out,0,0):=by cases r <;> rfl
  rw [e1,e2]
  exact ⟨fun _=>⟨rfl,rfl⟩,fun h=>absurd rfl h⟩
 | 0,_ :: _,out=>⟨fun h=>by have h : (14 : Int) = 0:=h; omega,fun _=>rfl⟩
 | r + 1,x :: t,out=>by
  unfold cvL keyG
  by_cases h9 : x.k = 9
  ·rw [if_pos h9,if_pos h9]; exact ⟨fun h=>by have h : (27 : Int) = 0:=h; omega,fun _=>rfl⟩
  rw [if_neg h9,if_neg h9]
  by_cases h6 : x.k = 6
  ·rw [if_pos h6,if_pos h6]
   simp only
   generalize os.getD x.r.toNat ob0 = o
   by_cases h2 : o.k = 2 ∨ o.k = 3 ∨ o.k = 4 ∨ o.k = 5
   ·rw [if_pos h2,if_pos h2]; exact ⟨fun h=>by have h : (27 : Int) = 0:=h; omega,fun _=>rfl⟩
   rw [if_neg h2,if_neg h2]
   by_cases h1 : o.k = 1
   ·rw [if_pos h1,if_pos h1]; exact cvL_key os r _ _
   ·rw [if_neg h1,if_neg h1]; exact cvL_key os r _ _
  ·rw [if_neg h6,if_neg h6]; exact cvL_key os r _ _
theorem cvL_s (os : List Ob) (r : Nat) (x : Vl) (t : List Vl) (out : List Int) : cvL os (r + 1) (x :: t) out = if x.k = 9 then (r, out, 27, -2) else if x.k = 6 then
      (let o := os.getD x.r.toNat ob0
       if o.k = 2 ∨ o.k = 3 ∨ o.k = 4 ∨ o.k = 5 then (r, out, 27, x.r)
       else if o.k = 1 then cvL os r (o.it ++ t) (out ++ [6, (o.it.length : Int) % 256, (o.it.length : Int) / 256])
       else cvL os r t (out ++ refB x.r))
    else cvL os r t (out ++ plB x) := rfl
theorem cvL_app (os : List Ob) : ∀ (r : Nat) (a b : List Vl) (out : List Int),cvL os r (a ++ b) out = if (cvL os r a out).2.2.1 = 0 then cvL os (cvL os r a out).1 b (cvL os r a out).2.1 else cvL os r a out
 | r,[],b,out=>by
  have e1 : cvL os r [] out = (r,out,0,0):=by cases r <;> rfl
  rw [e1]; rfl
 | 0,x :: a,b,out=>by
  have e1 : cvL os 0 (x :: a) out = (0,out,14, -2):=rfl
  have e2 : cvL os 0 (x :: a ++ b) out = (0,out,14, -2):=rfl
  rw [e1,e2,if_neg (by simp)]
 | r + 1,x :: a,b,out=>by
  rw [List.cons_append,cvL_s os r x (a ++ b) out,cvL_s os r x a out]
  by_cases h9 : x.k = 9
  ·simp only [if_pos h9]; rw [if_neg (by simp)]
  simp only [if_neg h9]
  by_cases h6 : x.k = 6
  ·simp only [if_pos h6]
   generalize os.getD x.r.toNat ob0 = o
   by_cases h2 : o.k = 2 ∨ o.k = 3 ∨ o.k = 4 ∨ o.k = 5
   ·simp only [if_pos h2]; rw [if_neg (by simp)]
   simp only [if_neg h2]
   by_cases h1 : o.k = 1
   ·simp only [if_pos h1]; rw [← List.append_assoc]; exact cvL_app os r _ _ _
   ·simp only [if_neg h1]; exact cvL_app os r _ _ _
  ·simp only [if_neg h6]; exact cvL_app os r _ _ _
theorem cvL_le (os : List Ob) : ∀ (r : Nat) (td : List Vl) (out : List Int),(cvL os r td out).1 ≤ r
 | r,[],out=>by
  have e1 : cvL os r [] out = (r,out,0,0):=by cases r <;> rfl
  rw [e1]; exact Nat.le_refl _
 | 0,_ :: _,out=>Nat.le_refl _
 | r + 1,x :: t,out=>by
  unfold cvL
  repeat' split
  all_goals first | exact Nat.le_succ r | exact Nat.le_trans (cvL_le os r _ _) (Nat.le_succ r) | skip
  simp only
  repeat' split
  all_goals first | exact Nat.le_succ r | exact Nat.le_trans (cvL_le os r _ _) (Nat.le_succ r)
end Go.Proofs.Ytncededjmcmidaa

namespace Go.Proofs.Ytncededjmcmidaa
set_option linter.unusedSimpArgs false
set_option linter.unusedVariables false
open Go.Abs Go.Proofs.NatL

def ha12 : Cfg:=listT [(91,numberHCT),(92,textHCT)] [39]
theorem ha12_ok : TblOk Try.prog ha12:=listE_ok (by simp only [List.mem_singleton,forall_eq]; exact flt) ⟨⟨h16c,h16c_ok,rfl⟩,⟨h16d,h16d_ok,rfl⟩,trivial⟩
attribute [go_sem] ha12
set_option maxRecDepth 100000 in
set_option maxHeartbeats 8000000 in
theorem hplain_ok (out : List Int) (k : Int) (a : Bool) (x : List Int) (b : Bool) (y : List Int) (t : ByteArray) (r : Int) (h : OkP ⟨k,a,x,b,y,t,r⟩) (hk : k = 0 ∨ k = 1 ∨ k = 2 ∨ k = 3 ∨ k = 4 ∨ k = 5 ∨ k = 7 ∨ k = 8) (ho : out.length ≤ 90000000) : RetG Try.prog 78 (rowB out) [.own 0 0,.g (vC ⟨k,a,x,b,y,t,r⟩)] (rowB (out ++ plB ⟨k,a,x,b,y,t,r⟩)) [.own 0 0,.c (.b true)]:=by
 obtain ⟨⟨h1,h1'⟩,⟨h2,h2'⟩,h3,_⟩:=h
 simp only at h1 h1' h2 h2' h3
 unfold vC
 rcases hk with rfl | rfl | rfl | rfl | rfl | rfl | rfl | rfl
 all_goals simp only [plB,Int.reduceEq,↓reduceIte]
 ·(refine ret_ge Try.func78 (fun F bs=>?_); simp only [avSl,ancs,hnx,Nat.reduceAdd,Nat.reduceLeDiff,if_true,if_false,List.length_cons,List.length_nil,List.cons_append,List.nil_append,Try.ntmps78,Try.results78])
  repeat' (first|with_reducible refine q_0 ?_|((with_reducible first|refine q_q ha12_ok fun K hK=>?_|refine q_r ha12_ok fun K hK=>?_);simp (maxSteps:=2000000) only [go_sem,↓reduceIte,reduceCtorEq,Nat.reduceLeDiff,Nat.reduceLT,Nat.reduceBEq,Nat.reduceAdd];(repeat1' with_reducible first|apply And.intro|(intro _;try exact q_v)|(refine hK _ ?_;clear hK K))<;>(try (clear hK K;exact q_u)))|(with_reducible refine q_s ?_;(first|apply q_J|apply q_K|apply q_L|apply q_M|apply q_N|apply q_O)<;>try (intro _;try exact q_v)))
  all_goals first | omega | exact h1' | exact h2' | contradiction | rfl | exact keep_of [1] ⟨rfl,trivial⟩ | exact keep_of [1,1] ⟨rfl,rfl,trivial⟩ | skip
  exact ends_g [(4,.own 0 0),(5,.c (.b true))] 100 (by exact q_D) rfl
 ·(refine ret_ge Try.func78 (fun F bs=>?_); simp only [avSl,ancs,hnx,Nat.reduceAdd,Nat.reduceLeDiff,if_true,if_false,List.length_cons,List.length_nil,List.cons_append,List.nil_append,Try.ntmps78,Try.results78])
  repeat' (first|with_reducible refine q_0 ?_|((with_reducible first|refine q_q ha12_ok fun K hK=>?_|refine q_r ha12_ok fun K hK=>?_);simp (maxSteps:=2000000) only [go_sem,↓reduceIte,reduceCtorEq,Nat.reduceLeDiff,Nat.reduceLT,Nat.reduceBEq,Nat.reduceAdd];(repeat1' with_reducible first|apply And.intro|(intro _;try exact q_v)|(refine hK _ ?_;clear hK K))<;>(try (clear hK K;exact q_u)))|(with_reducible refine q_s ?_;(first|apply q_J|apply q_K|apply q_L|apply q_M|apply q_N|apply q_O)<;>try (intro _;try exact q_v)))
  all_goals first | omega | exact h1' | exact h2' | contradiction | rfl | exact keep_of [1] ⟨rfl,trivial⟩ | exact keep_of [1,1] ⟨rfl,rfl,trivial⟩ | skip
  exact ends_g [(4,.own 0 0),(5,.c (.b true))] 100 (by exact q_D) rfl
 ·(refine ret_ge Try.func78 (fun F bs=>?_); simp only [avSl,ancs,hnx,Nat.reduceAdd,Nat.reduceLeDiff,if_true,if_false,List.length_cons,List.length_nil,List.cons_append,List.nil_append,Try.ntmps78,Try.results78])
  repeat' (first|with_reducible refine q_0 ?_|((with_reducible first|refine q_q ha12_ok fun K hK=>?_|refine q_r ha12_ok fun K hK=>?_);simp (maxSteps:=2000000) only [go_sem,↓reduceIte,reduceCtorEq,Nat.reduceLeDiff,Nat.reduceLT,Nat.reduceBEq,Nat.reduceAdd];(repeat1' with_reducible first|apply And.intro|(intro _;try exact q_v)|(refine hK _ ?_;clear hK K))<;>(try (clear hK K;exact q_u)))|(with_reducible refine q_s ?_;(first|apply q_J|apply q_K|apply q_L|apply q_M|apply q_N|apply q_O)<;>try (intro _;try exact q_v)))
  all_goals first | omega | exact h1' | exact h2' | contradiction | rfl | exact keep_of [1] ⟨rfl,trivial⟩ | exact keep_of [1,1] ⟨rfl,rfl,trivial⟩ | skip
  exact ends_gr [(2,0)] [(4,.own 0 0),(5,.c (.b true))] 100 (by simp only [swp,List.append_assoc,List.cons_append,List.nil_append]; exact q_D) rfl
 ·(refine ret_ge Try.func78 (fun F bs=>?_); simp only [avSl,ancs,hnx,Nat.reduceAdd,Nat.reduceLeDiff,if_true,if_false,List.length_cons,List.length_nil,List.cons_append,List.nil_append,Try.ntmps78,Try.results78])
  repeat' (first|with_reducible refine q_0 ?_|((with_reducible first|refine q_q ha12_ok fun K hK=>?_|refine q_r ha12_ok fun K hK=>?_);simp (maxSteps:=2000000) only [go_sem,↓reduceIte,reduceCtorEq,Nat.reduceLeDiff,Nat.reduceLT,Nat.reduceBEq,Nat.reduceAdd];(repeat1' with_reducible first|apply And.intro|(intro _;try exact q_v)|(refine hK _ ?_;clear hK K))<;>(try (clear hK K;exact q_u)))|(with_reducible refine q_s ?_;(first|apply q_J|apply q_K|apply q_L|apply q_M|apply q_N|apply q_O)<;>try (intro _;try exact q_v)))
  all_goals first | omega | exact h1' | exact h2' | contradiction | rfl | exact keep_of [1] ⟨rfl,trivial⟩ | exact keep_of [1,1] ⟨rfl,rfl,trivial⟩ | skip
  exact ends_gr [(3,0)] [(4,.own 0 0),(5,.c (.b true))] 100 (by simp only [swp,List.append_assoc,List.cons_append,List.nil_append]; exact q_D) rfl
 ·(refine ret_ge Try.func78 (fun F bs=>?_); simp only [avSl,ancs,hnx,Nat.reduceAdd,Nat.reduceLeDiff,if_true,if_false,List.length_cons,List.length_nil,List.cons_append,List.nil_append,Try.ntmps78,Try.results78])
  repeat' (first|with_reducible refine q_0 ?_|((with_reducible first|refine q_q ha12_ok fun K hK=>?_|refine q_r ha12_ok fun K hK=>?_);simp (maxSteps:=2000000) only [go_sem,↓reduceIte,reduceCtorEq,Nat.reduceLeDiff,Nat.reduceLT,Nat.reduceBEq,Nat.reduceAdd];(repeat1' with_reducible first|apply And.intro|(intro _;try exact q_v)|(refine hK _ ?_;clear hK K))<;>(try (clear hK K;exact q_u)))|(with_reducible refine q_s ?_;(first|apply q_J|apply q_K|apply q_L|apply q_M|apply q_N|apply q_O)<;>try (intro _;try exact q_v)))
  all_goals first | omega | exact h1' | exact h2' | contradiction | rfl | exact keep_of [1] ⟨rfl,trivial⟩ | exact keep_of [1,1] ⟨rfl,rfl,trivial⟩ | skip
  exact ends_gr [(2,0)] [(4,.own 0 0),(5,.c (.b true))] 100 (by simp only [swp,List.append_assoc,List.cons_append,List.nil_append]; exact q_D) rfl
 ·(refine ret_ge Try.func78 (fun F bs=>?_); simp only [avSl,ancs,hnx,Nat.reduceAdd,Nat.reduceLeDiff,if_true,if_false,List.length_cons,List.length_nil,List.cons_append,List.nil_append,Try.ntmps78,Try.results78])
  repeat' (first|with_reducible refine q_0 ?_|((with_reducible first|refine q_q ha12_ok fun K hK=>?_|refine q_r ha12_ok fun K hK=>?_);simp (maxSteps:=2000000) only [go_sem,↓reduceIte,reduceCtorEq,Nat.reduceLeDiff,Nat.reduceLT,Nat.reduceBEq,Nat.reduceAdd];(repeat1' with_reducible first|apply And.intro|(intro _;try exact q_v)|(refine hK _ ?_;clear hK K))<;>(try (clear hK K;exact q_u)))|(with_reducible refine q_s ?_;(first|apply q_J|apply q_K|apply q_L|apply q_M|apply q_N|apply q_O)<;>try (intro _;try exact q_v)))
  all_goals first | omega | exact h1' | exact h2' | contradiction | rfl | exact keep_of [1] ⟨rfl,trivial⟩ | exact keep_of [1,1] ⟨rfl,rfl,trivial⟩ | skip
  exact ends_gr [(2,0)] [(4,.own 0 0),(5,.c (.b true))] 100 (by simp only [swp,List.append_assoc,List.cons_append,List.nil_append]; exact q_D) rfl
 ·(refine ret_ge Try.func78 (fun F bs=>?_); simp only [avSl,ancs,hnx,Nat.reduceAdd,Nat.reduceLeDiff,if_true,if_false,List.length_cons,List.length_nil,List.cons_append,List.nil_append,Try.ntmps78,Try.results78])
  repeat' (first|with_reducible refine q_0 ?_|((with_reducible first|refine q_q ha12_ok fun K hK=>?_|refine q_r ha12_ok fun K hK=>?_);simp (maxSteps:=2000000) only [go_sem,↓reduceIte,reduceCtorEq,Nat.reduceLeDiff,Nat.reduceLT,Nat.reduceBEq,Nat.reduceAdd];(repeat1' with_reducible first|apply And.intro|(intro _;try exact q_v)|(refine hK _ ?_;clear hK K))<;>(try (clear hK K;exact q_u)))|(with_reducible refine q_s ?_;(first|apply q_J|apply q_K|apply q_L|apply q_M|apply q_N|apply q_O)<;>try (intro _;try exact q_v)))
  all_goals first | omega | exact h1' | exact h2' | contradiction | rfl | exact keep_of [1] ⟨rfl,trivial⟩ | exact keep_of [1,1] ⟨rfl,rfl,trivial⟩ | skip
  exact ends_gr [(2,0)] [(4,.own 0 0),(5,.c (.b true))] 100 (by simp only [swp,List.append_assoc,List.cons_append,List.nil_append]; exact q_D) rfl
 ·(refine ret_ge Try.func78 (fun F bs=>?_); simp only [avSl,ancs,hnx,Nat.reduceAdd,Nat.reduceLeDiff,if_true,if_false,List.length_cons,List.length_nil,List.cons_append,List.nil_append,Try.ntmps78,Try.results78])
  repeat' (first|with_reducible refine q_0 ?_|((with_reducible first|refine q_q ha12_ok fun K hK=>?_|refine q_r ha12_ok fun K hK=>?_);simp (maxSteps:=2000000) only [go_sem,↓reduceIte,reduceCtorEq,Nat.reduceLeDiff,Nat.reduceLT,Nat.reduceBEq,Nat.reduceAdd];(repeat1' with_reducible first|apply And.intro|(intro _;try exact q_v)|(refine hK _ ?_;clear hK K))<;>(try (clear hK K;exact q_u)))|(with_reducible refine q_s ?_;(first|apply q_J|apply q_K|apply q_L|apply q_M|apply q_N|apply q_O)<;>try (intro _;try exact q_v)))
  all_goals first | omega | exact h1' | exact h2' | contradiction | rfl | exact keep_of [1] ⟨rfl,trivial⟩ | exact keep_of [1,1] ⟨rfl,rfl,trivial⟩ | skip
  exact ends_g [(4,.own 0 0),(5,.c (.b true))] 100 (by exact q_D) rfl
end Go.Proofs.Ytncededjmcmidaa

namespace Go.Proofs.Ytncededjmcmidaa
set_option linter.unusedSimpArgs false
set_option linter.unusedVariables false
open Go.Abs Go.Proofs.NatL

theorem cvL_len {os : List Ob} (ho : HOk os) : ∀ (r : Nat) (td : List Vl) (out : List Int),(∀ x ∈ td,OkW os.length x) → (cvL os r td out).2.1.length + (cvL os r td out).1 * 60003 ≤ out.length + r * 60003
 | r,[],out,_=>by
  have e1 : cvL os r [] out = (r,out,0,0):=by cases r <;> rfl
  rw [e1]; exact Nat.le_refl _
 | 0,_ :: _,out,_=>Nat.le_refl _
 | r + 1,x :: t,out,h=>by
  have hx:=h x (List.mem_cons_self ..)
  have ht : ∀ y ∈ t,OkW os.length y:=fun y hy=>h y (List.mem_cons_of_mem _ hy)
  have hb:=plB_len x hx.1
  rw [cvL_s]
  by_cases h9 : x.k = 9
  ·simp only [if_pos h9]; omega
  simp only [if_neg h9]
  by_cases h6 : x.k = 6
  ·simp only [if_pos h6]
   have hm:=ob_mem os (hx.2 h6)
   have hT:=ho.2 _ hm
   generalize os.getD x.r.toNat ob0 = o at *
   by_cases h2 : o.k = 2 ∨ o.k = 3 ∨ o.k = 4 ∨ o.k = 5
   ·simp only [if_pos h2]; omega
   simp only [if_neg h2]
   by_cases h1 : o.k = 1
   ·simp only [if_pos h1]
    have:=cvL_len ho r (o.it ++ t) (out ++ [6,(o.it.length : Int) % 256,(o.it.length : Int) / 256]) (fun y hy=>(List.mem_append.1 hy).elim ((hT h1).2.2 y) (ht y))
    simp only [List.length_append,List.length_cons,List.length_nil] at this
    omega
   ·simp only [if_neg h1]
    have:=cvL_len ho r t (out ++ refB x.r) ht
    have hr : (refB x.r).length = 5:=rfl
    simp only [List.length_append,hr] at this
    omega
  ·simp only [if_neg h6]
   have:=cvL_len ho r t (out ++ plB x) ht
   simp only [List.length_append] at this
   omega
theorem cvL_fault (os : List Ob) : ∀ (r : Nat) (td : List Vl) (out : List Int),(cvL os r td out).2.2.1 = 0 → (cvL os r td out).2.2.2 = 0
 | r,td,out=>fun h=>((cvL_key os r td out).1 h).2
end Go.Proofs.Ytncededjmcmidaa

namespace Go.Proofs.Ytncededjmcmidaa
set_option linter.unusedSimpArgs false
set_option linter.unusedVariables false
open Go.Abs Go.Proofs.NatL

set_option maxRecDepth 100000 in
set_option maxHeartbeats 8000000 in
theorem hplain_un (out : List Int) (a : Bool) (x : List Int) (b : Bool) (y : List Int) (t : ByteArray) (r : Int) : RetG Try.prog 78 (rowB out) [.own 0 0,.g (vC ⟨9,a,x,b,y,t,r⟩)] (rowB out) [.own 0 0,.c (.b false)]:=by
 unfold vC
 (refine ret_ge Try.func78 (fun F bs=>?_); simp only [avSl,ancs,hnx,Nat.reduceAdd,Nat.reduceLeDiff,if_true,if_false,List.length_cons,List.length_nil,List.cons_append,List.nil_append,Try.ntmps78,Try.results78])
 repeat' (first|with_reducible refine q_0 ?_|((with_reducible first|refine q_q ha12_ok fun K hK=>?_|refine q_r ha12_ok fun K hK=>?_);simp (maxSteps:=2000000) only [go_sem,↓reduceIte,reduceCtorEq,Nat.reduceLeDiff,Nat.reduceLT,Nat.reduceBEq,Nat.reduceAdd];(repeat1' with_reducible first|apply And.intro|(intro _;try exact q_v)|(refine hK _ ?_;clear hK K))<;>(try (clear hK K;exact q_u)))|(with_reducible refine q_s ?_;(first|apply q_J|apply q_K|apply q_L|apply q_M|apply q_N|apply q_O)<;>try (intro _;try exact q_v)))
 all_goals first | omega | contradiction | rfl | exact keep_of [1] ⟨rfl,trivial⟩ | skip
 all_goals exact ends_g [(4,.own 0 0),(5,.c (.b false))] 100 (by exact q_D) rfl
def plainHCT : CT:=mkCTG fun H al K=>match H,al with
 | ⟨[],[(0,⟨0,5,1,.ints .u8 out⟩)],[]⟩,[.own 0 0,.g [.i .i64 k,.b a,.ints .u32 x,.b b,.ints .u32 y,.str t,.i .i64 r]]=>(OkP ⟨k,a,x,b,y,t,r⟩ ∧ k ≠ 6 ∧ out.length ≤ 90000000) ∧ (k = 9 → K (rowB out) [.own 0 0,.c (.b false)]) ∧ (k ≠ 9 → K (rowB (out ++ plB ⟨k,a,x,b,y,t,r⟩)) [.own 0 0,.c (.b true)])
 | _,_=>False
def h20a : Cfg:=addT 78 plainHCT ha12
theorem h20a_ok : TblOk Try.prog h20a:=ctg_ok ha12_ok Try.func78 fun H al K h=>by
 split at h
 ·rename_i out k a x b y t r
  obtain ⟨⟨h1,h2,h3⟩,h4,h5⟩:=h
  by_cases h9 : k = 9
  ·subst h9; exact ⟨_,_,hplain_un out a x b y t r,h4 rfl⟩
  ·have hk:=h1.2.2.2
   simp only at hk
   exact ⟨_,_,hplain_ok out k a x b y t r h1 (by omega) h3,h5 h9⟩
 ·exact h.elim
attribute [go_sem] plainHCT
abbrev cdH (rows : List (List C)) (out : List Int) (p : Int) : Hp:=⟨[(0,[.c (.sl 10 rows),.own 0 0,.c (.i .i64 p)])],[(0,⟨0,5,1,.ints .u8 out⟩)],[]⟩
abbrev cdR (rows : List (List C)) (out : List Int) (p : Int) : Hp:=⟨[(0,[.c (.sl 10 rows),.own 0 0,.c (.i .i64 p)]),(2,[.c (.i .i64 0),.c (.i .i64 0)])],[(0,⟨0,5,1,.ints .u8 out⟩)],[]⟩
abbrev cdE (rows : List (List C)) (c i : Int) : Hp:=⟨[(0,[.c (.sl 10 rows),.u,.u]),(2,[.c (.i .i64 c),.c (.i .i64 i)])],[],[]⟩
def hvH (rows : List (List C)) (R : Nat × List Int × Int × Int) : Hp:=if R.2.2.1 = 0 then cdR rows R.2.1 (1000 - (R.1 : Int)) else cdE rows R.2.2.1 R.2.2.2
def VG (r : Nat) : Prop:=∀ (os : List Ob) (v : Vl) (out : List Int),(∀ o ∈ os,Pr o) → HOk os → OkW os.length v → out.length + r * 60003 ≤ 60003000 → r ≤ 1000 →
 RetG Try.prog 47 (cdH (os.map obC) out (1000 - (r : Int))) [.bx 0 0,.g (vC v)] (hvH (os.map obC) (cvL os r [v] out)) [.g [.i .i64 (cvL os r [v] out).2.2.1,.i .i64 (cvL os r [v] out).2.2.2]]
def cvCT (n : Nat) : CT:=mkCTG fun H al K=>match H,al with
 | ⟨[(0,[.c (.sl 10 rows),.own 0 0,.c (.i .i64 p)])],[(0,⟨0,5,1,.ints .u8 out⟩)],[]⟩,[.bx 0 0,.g [.i .i64 k,.b a,.ints .u32 x,.b b,.ints .u32 y,.str t,.i .i64 r]] =>
  ((rows = (dO rows).map obC ∧ ∀ o ∈ dO rows,Pr o) ∧ HOk (dO rows) ∧ OkW (dO rows).length ⟨k,a,x,b,y,t,r⟩ ∧ (0 ≤ p ∧ p ≤ 1000) ∧ (1000 - p).toNat < n ∧ out.length + (1000 - p).toNat * 60003 ≤ 60003000) ∧
  ((cvL (dO rows) (1000 - p).toNat [⟨k,a,x,b,y,t,r⟩] out).2.2.1 = 0 → K (cdR rows (cvL (dO rows) (1000 - p).toNat [⟨k,a,x,b,y,t,r⟩] out).2.1 (1000 - ((cvL (dO rows) (1000 - p).toNat [⟨k,a,x,b,y,t,r⟩] out).1 : Int))) [.g [.i .i64 0,.i .i64 0]]) ∧
  ((cvL (dO rows) (1000 - p).toNat [⟨k,a,x,b,y,t,r⟩] out).2.2.1 ≠ 0 → K (cdE rows (cvL (dO rows) (1000 - p).toNat [⟨k,a,x,b,y,t,r⟩] out).2.2.1 (cvL (dO rows) (1000 - p).toNat [⟨k,a,x,b,y,t,r⟩] out).2.2.2) [.g [.i .i64 (cvL (dO rows) (1000 - p).toNat [⟨k,a,x,b,y,t,r⟩] out).2.2.1,.i .i64 (cvL (dO rows) (1000 - p).toNat [⟨k,a,x,b,y,t,r⟩] out).2.2.2]])
 | _,_=>False
def hvB (n : Nat) : Cfg:=addT 47 (cvCT n) h20a
theorem hvB_ok (n : Nat) (ih : ∀ r,r < n → VG r) : TblOk Try.prog (hvB n):=ctg_ok h20a_ok Try.func47 fun H al K h=>by
 split at h
 ·rename_i rows p out k a x b y t r
  obtain ⟨⟨⟨h1,h2⟩,h3,h4,h5,h6,h7⟩,hK1,hK2⟩:=h
  have hv:=ih _ h6 (dO rows) ⟨k,a,x,b,y,t,r⟩ out h2 h3 h4 h7 (by omega)
  rw [← h1,show 1000 - (((1000 - p).toNat : Nat) : Int) = p by omega] at hv
  have hf:=cvL_fault (dO rows) (1000 - p).toNat [⟨k,a,x,b,y,t,r⟩] out
  generalize cvL (dO rows) (1000 - p).toNat [⟨k,a,x,b,y,t,r⟩] out = R at *
  unfold hvH at hv
  by_cases h0 : R.2.2.1 = 0
  ·rw [if_pos h0,h0,hf h0] at hv
   exact ⟨_,_,hv,hK1 h0⟩
  ·rw [if_neg h0] at hv
   exact ⟨_,_,hv,hK2 h0⟩
 ·exact h.elim
def hvT (n : Nat) : Cfg:=listT [(76,atCT),(77,pairCT),(78,plainHCT),(47,cvCT n)] [39]
theorem hvT_ok (n : Nat) (hb : TblOk Try.prog (hvB n)) : TblOk Try.prog (hvT n):=listE_ok (by simp only [List.mem_singleton,forall_eq]; exact flt)
 ⟨⟨h16a,h16a_ok,rfl⟩,⟨h16b,h16b_ok,rfl⟩,⟨h20a,h20a_ok,rfl⟩,⟨hvB n,hb,rfl⟩,trivial⟩
attribute [go_sem] hvT cvCT cdH cdR cdE
theorem hvH_ok (rows : List (List C)) (r : Nat) (out : List Int) : hvH rows (r,out,0,0) = cdR rows out (1000 - (r : Int)):=rfl
theorem hvH_f (rows : List (List C)) (r : Nat) (out : List Int) (c i : Int) (h : c ≠ 0) : hvH rows (r,out,c,i) = cdE rows c i:=by unfold hvH; rw [if_neg h]
set_option maxRecDepth 100000 in
set_option maxHeartbeats 8000000 in
theorem hvalue_zero (os : List Ob) (v : Vl) (out : List Int) : RetG Try.prog 47 (cdH (os.map obC) out 1000) [.bx 0 0,.g (vC v)] (cdE (os.map obC) 14 (-2)) [.g [.i .i64 14,.i .i64 (-2)]]:=by
 obtain ⟨k,a,x,b,y,t,r⟩:=v
 unfold vC
 (refine ret_ge Try.func47 (fun F bs=>?_); simp only [avSl,ancs,hnx,Nat.reduceAdd,Nat.reduceLeDiff,if_true,if_false,List.length_cons,List.length_nil,List.cons_append,List.nil_append,Try.ntmps47,Try.results47])
 repeat' (first|with_reducible refine q_0 ?_|((with_reducible first|refine q_q ha11_ok fun K hK=>?_|refine q_r ha11_ok fun K hK=>?_);simp (maxSteps:=2000000) only [go_sem,↓reduceIte,reduceCtorEq,Nat.reduceLeDiff,Nat.reduceLT,Nat.reduceBEq,Nat.reduceAdd];(repeat1' with_reducible first|apply And.intro|(intro _;try exact q_v)|(refine hK _ ?_;clear hK K))<;>(try (clear hK K;exact q_u)))|(with_reducible refine q_s ?_;(first|apply q_J|apply q_K|apply q_L|apply q_M|apply q_N|apply q_O)<;>try (intro _;try exact q_v)))
 all_goals first | omega | exact ends_g [(4,.bx 2 0)] 3 (by exact q_D) rfl | skip
end Go.Proofs.Ytncededjmcmidaa

namespace Go.Proofs.Ytncededjmcmidaa
set_option linter.unusedSimpArgs false
set_option linter.unusedVariables false
open Go.Abs Go.Proofs.NatL

set_option maxRecDepth 100000 in
set_option maxHeartbeats 16000000 in
theorem hvalue_step (r : Nat) (ih : ∀ q,q < r + 1 → VG q) : VG (r + 1):=by
 intro os v out hp ho hv hl hr
 have ht:=hvT_ok (r + 1) (hvB_ok (r + 1) ih)
 have hd:=dO_map hp
 generalize hR : cvL os (r + 1) [v] out = R
 rw [cvL_s] at hR
 obtain ⟨k,a,xs,b,ys,tx,rf⟩:=v
 obtain ⟨hv1,hv2⟩:=hv
 have hbl:=plB_len _ hv1
 obtain ⟨p,hpp⟩ : ∃ p : Int,p = 1000 - ((r + 1 : Nat) : Int):=⟨_,rfl⟩
 have hp1 : p + 1 = 1000 - (r : Int):=by omega
 rw [← hpp]
 simp only [vC]
 (refine ret_ge Try.func47 (fun F bs=>?_); simp only [avSl,ancs,hnx,Nat.reduceAdd,Nat.reduceLeDiff,if_true,if_false,List.length_cons,List.length_nil,List.cons_append,List.nil_append,Try.ntmps47,Try.results47])
 refine seq_cut4 (ι:={ q : List Vl × List Int // (∀ x ∈ q.1,OkW os.length x) ∧ q.1.length ≤ 1000 ∧ q.2.length + r * 60003 ≤ 60003000 ∧ cvL os r q.1 q.2 = R }) (fun q=>⟨113,[(0,.bx 0 0),(4,.bx 2 0),(5,.c (.sl 7 (q.1.1.map vC))),(1000,.anc 0 (bs 0))],⟨[(0,[.c (.sl 10 (os.map obC)),.own 0 0,.c (.i .i64 (1000 - (r : Int)))]),(2,[.c (.i .i64 0),.c (.i .i64 0)])],[(0,⟨0,5,1,.ints .u8 q.1.2⟩)],[]⟩,3⟩) (fun Y hY=>?_) ?_
 ·by_cases h9 : k = 9
  ·subst h9
   obtain rfl : R = (r,out,27, -2):=by rw [← hR,if_pos rfl]
   rw [hvH_f _ _ _ _ _ (by omega)]
   repeat' (first|with_reducible refine q_0 ?_|((with_reducible first|refine q_q ht fun K hK=>?_|refine q_r ht fun K hK=>?_);simp (maxSteps:=2000000) only [go_sem,↓reduceIte,reduceCtorEq,Nat.reduceLeDiff,Nat.reduceLT,Nat.reduceBEq,Nat.reduceAdd,hp1];(repeat1' with_reducible first|apply And.intro|(intro _;try exact q_v)|(refine hK _ ?_;clear hK K))<;>(try (clear hK K;exact q_u)))|(with_reducible refine q_s ?_;(first|apply q_J|apply q_K|apply q_L|apply q_M|apply q_N|apply q_O)<;>try (intro _;try exact q_v)))
   all_goals first | omega | contradiction | exact keep_of [0,1] ⟨rfl,rfl,trivial⟩ | exact ends_g [(4,.bx 2 0)] 3 (by exact q_D) rfl | skip
  rw [if_neg h9] at hR
  by_cases h6 : k = 6
  ·subst h6
   rw [if_pos rfl] at hR
   obtain ⟨r0,r1⟩:=hv2 rfl
   simp only at r0 r1
   have hat:=obC_at os ⟨r0,r1⟩
   have hmem:=ob_mem os ⟨r0,r1⟩
   simp only at hR
   generalize os.getD rf.toNat ob0 = o at *
   obtain ⟨ok,onm,ocl,orf,ood,oraw,oit,oks⟩:=o
   have hT:=ho.2 _ hmem
   simp only [obC,itC] at hat hT hR
   by_cases h1 : ok = 1
   ·obtain ⟨hT1,hT2,hT3⟩:=hT h1
    subst hT1; subst h1
    simp only at hat
    rw [if_neg (by omega),if_pos rfl] at hR
    have m3 : (oit.length : Int) / 256 % 256 = (oit.length : Int) / 256:=by omega
    repeat' (first|with_reducible refine q_0 ?_|((with_reducible first|refine q_q ht fun K hK=>?_|refine q_r ht fun K hK=>?_);simp (maxSteps:=2000000) only [go_sem,↓reduceIte,reduceCtorEq,Nat.reduceLeDiff,Nat.reduceLT,Nat.reduceBEq,Nat.reduceAdd,hp1,hat,List.length_map,m3];(repeat1' with_reducible first|apply And.intro|(intro _;try exact q_v)|(refine hK _ ?_;clear hK K))<;>(try (clear hK K;exact q_u)))|(with_reducible refine q_s ?_;(first|apply q_J|apply q_K|apply q_L|apply q_M|apply q_N|apply q_O)<;>try (intro _;try exact q_v)))
    all_goals first | omega | contradiction | (with_unfolding_all rfl) | skip
    ·refine cut_fit hY ⟨(oit,out ++ [6,(oit.length : Int) % 256,(oit.length : Int) / 256]),hT3,hT2,by simp only [List.length_append,List.length_cons,List.length_nil]; omega,by rw [List.append_nil] at hR; exact hR⟩ ?_
     simp only [List.append_assoc,List.cons_append,List.nil_append]; exact q_D
   ·rw [if_neg h1] at hR
    have s16 : shrI .i64 rf 16 = rf / 65536:=shrI_lit .i64 rf 16 (by decide)
    have s0 : 0 ≤ rf / 65536:=by omega
    by_cases h2 : ok = 2 ∨ ok = 3 ∨ ok = 4 ∨ ok = 5
    ·obtain rfl : R = (r,out,27,rf):=by rw [← hR,if_pos h2]
     rw [hvH_f _ _ _ _ _ (by omega)]
     repeat' (first|with_reducible refine q_0 ?_|((with_reducible first|refine q_q ht fun K hK=>?_|refine q_r ht fun K hK=>?_);simp (maxSteps:=2000000) only [go_sem,↓reduceIte,reduceCtorEq,Nat.reduceLeDiff,Nat.reduceLT,Nat.reduceBEq,Nat.reduceAdd,hp1,hat,List.length_map,s16];(repeat1' with_reducible first|apply And.intro|(intro _;try exact q_v)|(refine hK _ ?_;clear hK K))<;>(try (clear hK K;exact q_u)))|(with_reducible refine q_s ?_;(first|apply q_J|apply q_K|apply q_L|apply q_M|apply q_N|apply q_O)<;>try (intro _;try exact q_v)))
     all_goals first | omega | contradiction | exact ends_g [(4,.bx 2 0)] 3 (by exact q_D) rfl | skip
    ·rw [if_neg h2] at hR
     have hrl : (refB rf).length = 5:=rfl
     repeat' (first|with_reducible refine q_0 ?_|((with_reducible first|refine q_q ht fun K hK=>?_|refine q_r ht fun K hK=>?_);simp (maxSteps:=2000000) only [go_sem,↓reduceIte,reduceCtorEq,Nat.reduceLeDiff,Nat.reduceLT,Nat.reduceBEq,Nat.reduceAdd,hp1,hat,List.length_map,s16];(repeat1' with_reducible first|apply And.intro|(intro _;try exact q_v)|(refine hK _ ?_;clear hK K))<;>(try (clear hK K;exact q_u)))|(with_reducible refine q_s ?_;(first|apply q_J|apply q_K|apply q_L|apply q_M|apply q_N|apply q_O)<;>try (intro _;try exact q_v)))
     all_goals first | omega | contradiction | (with_unfolding_all rfl) | skip
     ·refine cut_fit hY ⟨([],out ++ refB rf),fun x hx=>(by cases hx),Nat.zero_le _,by simp only [List.length_append,hrl]; omega,hR⟩ ?_
      simp only [refB,List.append_assoc,List.cons_append,List.nil_append]; exact q_D
  ·rw [if_neg h6] at hR
   repeat' (first|with_reducible refine q_0 ?_|((with_reducible first|refine q_q ht fun K hK=>?_|refine q_r ht fun K hK=>?_);simp (maxSteps:=2000000) only [go_sem,↓reduceIte,reduceCtorEq,Nat.reduceLeDiff,Nat.reduceLT,Nat.reduceBEq,Nat.reduceAdd,hp1];(repeat1' with_reducible first|apply And.intro|(intro _;try exact q_v)|(refine hK _ ?_;clear hK K))<;>(try (clear hK K;exact q_u)))|(with_reducible refine q_s ?_;(first|apply q_J|apply q_K|apply q_L|apply q_M|apply q_N|apply q_O)<;>try (intro _;try exact q_v)))
   all_goals first | omega | contradiction | exact keep_of [0,1] ⟨rfl,rfl,trivial⟩ | skip
   ·refine awp_fit (fit_rb (l:=[(3,0)]) rfl rfl (fit_of ?_)) (hY ⟨([],out ++ plB ⟨k,a,xs,b,ys,tx,rf⟩),fun x hx=>(by cases hx),Nat.zero_le _,by simp only [List.length_append]; omega,hR⟩)
    exact q_D
 ·rintro ⟨⟨ps,out1⟩,g1,g2,g3,g4⟩
  simp only at g1 g2 g3 g4 ⊢
  repeat' (first|with_reducible refine q_0 ?_|((with_reducible first|refine q_q ht fun K hK=>?_|refine q_r ht fun K hK=>?_);simp (maxSteps:=2000000) only [go_sem,↓reduceIte,reduceCtorEq,Nat.reduceLeDiff,Nat.reduceLT,Nat.reduceBEq,Nat.reduceAdd,List.length_map];(repeat1' with_reducible first|apply And.intro|(intro _;try exact q_v)|(refine hK _ ?_;clear hK K))<;>(try (clear hK K;exact q_u)))|(with_reducible refine q_s ?_;(first|apply q_J|apply q_K|apply q_L|apply q_M|apply q_N|apply q_O)<;>try (intro _;try exact q_v)))
  refine loop_rb (ι:={ q : Nat × Nat × List Int // q.1 ≤ ps.length ∧ q.2.1 ≤ r ∧ q.2.2.length + q.2.1 * 60003 ≤ 60003000 ∧ cvL os q.2.1 (ps.drop q.1) q.2.2 = R }) (fun q=>⟨113,[(0,.bx 0 0),(4,.bx 2 0),(98,.c (.sl 7 (ps.map vC))),(99,.c (.i .i64 ps.length)),(100,.c (.i .i64 q.1.1)),(1000,.anc 0 (bs 0))],⟨[(0,[.c (.sl 10 (os.map obC)),.own 0 0,.c (.i .i64 (1000 - (q.1.2.1 : Int)))]),(2,[.c (.i .i64 0),.c (.i .i64 0)])],[(0,⟨0,5,1,.ints .u8 q.1.2.2⟩)],[]⟩,3⟩) (fun q=>ps.length - q.1.1) ⟨(0,r,out1),by simp only; omega,Nat.le_refl _,g3,by simpa using g4⟩ ?_ ?_
  ·exact q_D
  rintro ⟨⟨j,r1,out1⟩,q1,q2,q3,q4⟩
  simp only at q1 q2 q3 q4 ⊢
  by_cases hj : j < ps.length
  ·have hat:=vC_at ps hj
   have hmem:=g1 _ (v_mem ps hj)
   have hdr : ps.drop j = [ps.getD j (refV 0)] ++ ps.drop (j + 1):=by
    rw [List.drop_eq_getElem_cons hj]
    simp [List.getD_eq_getElem?_getD,List.getElem?_eq_getElem hj]
   rw [hdr,cvL_app] at q4
   generalize ps.getD j (refV 0) = x at *
   have hlen:=cvL_len ho r1 [x] out1 (by simpa using hmem)
   have hle:=cvL_le os r1 [x] out1
   obtain ⟨xk,xa,xx,xb,xy,xt,xr⟩:=x
   generalize hX : cvL os r1 [⟨xk,xa,xx,xb,xy,xt,xr⟩] out1 = X at *
   obtain ⟨r2,out2,c2,i2⟩:=X
   simp only at q4 hlen hle
   simp only [vC] at hat
   have hr1 : (1000 - (1000 - (r1 : Int))).toNat = r1:=by omega
   by_cases h0 : c2 = 0
   ·subst h0
    rw [if_pos rfl] at q4
    repeat' (first|with_reducible refine q_0 ?_|((with_reducible first|refine q_q ht fun K hK=>?_|refine q_r ht fun K hK=>?_);simp (maxSteps:=2000000) only [go_sem,↓reduceIte,reduceCtorEq,Nat.reduceLeDiff,Nat.reduceLT,Nat.reduceBEq,Nat.reduceAdd,List.length_map,hat,hd,hr1,hX];(repeat1' with_reducible first|apply And.intro|(intro _;try exact q_v)|(refine hK _ ?_;clear hK K))<;>(try (clear hK K;exact q_u)))|(with_reducible refine q_s ?_;(first|apply q_J|apply q_K|apply q_L|apply q_M|apply q_N|apply q_O)<;>try (intro _;try exact q_v)))
    all_goals first | omega | contradiction | exact hp _ (by assumption) | skip
    ·refine roundr_n [(4,0)] ⟨(j + 1,r2,out2),by simp only; omega,by simp only; omega,by simp only; omega,q4⟩ ?_ (by simp only; omega)
     exact q_D
   ·rw [if_neg h0] at q4
    subst q4
    rw [hvH_f _ _ _ _ _ h0]
    repeat' (first|with_reducible refine q_0 ?_|((with_reducible first|refine q_q ht fun K hK=>?_|refine q_r ht fun K hK=>?_);simp (maxSteps:=2000000) only [go_sem,↓reduceIte,reduceCtorEq,Nat.reduceLeDiff,Nat.reduceLT,Nat.reduceBEq,Nat.reduceAdd,List.length_map,hat,hd,hr1,hX];(repeat1' with_reducible first|apply And.intro|(intro _;try exact q_v)|(refine hK _ ?_;clear hK K))<;>(try (clear hK K;exact q_u)))|(with_reducible refine q_s ?_;(first|apply q_J|apply q_K|apply q_L|apply q_M|apply q_N|apply q_O)<;>try (intro _;try exact q_v)))
    all_goals first | omega | contradiction | exact hp _ (by assumption) | skip
    ·exact roundr_ret (ends_g [(4,.bx 2 0)] 3 (by exact q_D) rfl)
  ·obtain rfl : j = ps.length:=by omega
   have e : cvL os r1 (ps.drop ps.length) out1 = (r1,out1,0,0):=by
    rw [List.drop_length]; cases r1 <;> rfl
   rw [e] at q4
   subst q4
   rw [hvH_ok]
   repeat' (first|with_reducible refine q_0 ?_|((with_reducible first|refine q_q ht fun K hK=>?_|refine q_r ht fun K hK=>?_);simp (maxSteps:=2000000) only [go_sem,↓reduceIte,reduceCtorEq,Nat.reduceLeDiff,Nat.reduceLT,Nat.reduceBEq,Nat.reduceAdd,List.length_map];(repeat1' with_reducible first|apply And.intro|(intro _;try exact q_v)|(refine hK _ ?_;clear hK K))<;>(try (clear hK K;exact q_u)))|(with_reducible refine q_s ?_;(first|apply q_J|apply q_K|apply q_L|apply q_M|apply q_N|apply q_O)<;>try (intro _;try exact q_v)))
   all_goals first | omega | contradiction | skip
   all_goals refine roundr_exit ?_
   repeat' (first|with_reducible refine q_0 ?_|((with_reducible first|refine q_q ht fun K hK=>?_|refine q_r ht fun K hK=>?_);simp (maxSteps:=2000000) only [go_sem,↓reduceIte,reduceCtorEq,Nat.reduceLeDiff,Nat.reduceLT,Nat.reduceBEq,Nat.reduceAdd,List.length_map];(repeat1' with_reducible first|apply And.intro|(intro _;try exact q_v)|(refine hK _ ?_;clear hK K))<;>(try (clear hK K;exact q_u)))|(with_reducible refine q_s ?_;(first|apply q_J|apply q_K|apply q_L|apply q_M|apply q_N|apply q_O)<;>try (intro _;try exact q_v)))
   all_goals first | omega | contradiction | skip
   all_goals exact ends_g [(4,.bx 2 0)] 3 (by exact q_D) rfl
theorem hvalue_all : ∀ r,VG r:=by
 intro r
 induction r using Nat.strongRecOn with
 | _ r ih =>
  cases r with
  | zero =>
   intro os v out _ _ _ _ _
   have:=hvalue_zero os v out
   exact this
  | succ r=>exact hvalue_step r ih
end Go.Proofs.Ytncededjmcmidaa

namespace Go.Proofs.Ytncededjmcmidaa
set_option linter.unusedSimpArgs false
set_option linter.unusedVariables false
open Go.Abs Go.Proofs.NatL

def h22a : Cfg:=hvB 1001
theorem h22a_ok : TblOk Try.prog h22a:=hvB_ok 1001 fun r _=>hvalue_all r
def ha13 : Cfg:=listT [(47,(cvCT 1001))] [39]
theorem ha13_ok : TblOk Try.prog ha13:=listE_ok (by simp only [List.mem_singleton,forall_eq]; exact flt) ⟨⟨h22a,h22a_ok,rfl⟩,trivial⟩
attribute [go_sem] ha13
set_option maxRecDepth 100000 in
set_option maxHeartbeats 8000000 in
theorem code_ret (os : List Ob) (v : Vl) (hp : ∀ o ∈ os,Pr o) (ho : HOk os) (hv : OkW os.length v) : Ret Try.prog 14 false [.inr [.sl 10 (os.map obC)],.inr (vC v)] (.t [.inl (.ints .u8 (keyF os v).1),.inr [.i .i64 (keyF os v).2.1,.i .i64 (keyF os v).2.2]]):=by
 have hd:=dO_map hp
 have hk:=cvL_key os 1000 [v] []
 have hkF : keyF os v = keyG os 1000 [v] []:=rfl
 rw [← hkF] at hk
 clear hkF
 obtain ⟨k,a,xs,b,ys,tx,rf⟩:=v
 generalize hX : cvL os 1000 [⟨k,a,xs,b,ys,tx,rf⟩] [] = X at *
 generalize keyF os ⟨k,a,xs,b,ys,tx,rf⟩ = R at *
 obtain ⟨r2,out2,c2,i2⟩:=X
 simp only at hk
 have e1 : (1000 - (0 : Int)).toNat = 1000:=by decide
 (refine q_H Try.func14 (fun F=>?_); simp only [q_z,q_y,Try.ntmps14,Try.results14])
 simp only [vC]
 refine seq_cut2 (ι:=Unit) (fun _=>⟨23,[(3,.bx 1 0),(5,.bx 2 0),(6,.bx 3 0)],⟨[(1,[.c (.i .i64 k),.c (.b a),.c (.ints .u32 xs),.c (.b b),.c (.ints .u32 ys),.c (.str tx),.c (.i .i64 rf)]),(2,[.c (.i .i64 0),.c (.i .i64 0)]),(3,[.c (.sl 10 (os.map obC)),.own 4 0,.c (.i .i64 0)])],[(4,⟨0,5,1,.ints .u8 []⟩)],[]⟩,5⟩) (fun Y hY=>?_) ?_
 ·repeat' (first|with_reducible refine q_0 ?_|((with_reducible first|refine q_q ha13_ok fun K hK=>?_|refine q_r ha13_ok fun K hK=>?_);simp (maxSteps:=2000000) only [go_sem,↓reduceIte,reduceCtorEq,Nat.reduceLeDiff,Nat.reduceLT,Nat.reduceBEq,Nat.reduceAdd];(repeat1' with_reducible first|apply And.intro|(intro _;try exact q_v)|(refine hK _ ?_;clear hK K))<;>(try (clear hK K;exact q_u)))|(with_reducible refine q_s ?_;(first|apply q_J|apply q_K|apply q_L|apply q_M|apply q_N|apply q_O)<;>try (intro _;try exact q_v)))
  all_goals exact cut_fit hY () (by exact q_D)
 rintro ⟨⟩
 by_cases h0 : c2 = 0
 ·subst h0
  obtain ⟨hk1,hk2⟩:=hk.1 rfl
  subst hk1
  repeat' (first|with_reducible refine q_0 ?_|((with_reducible first|refine q_q ha13_ok fun K hK=>?_|refine q_r ha13_ok fun K hK=>?_);simp (maxSteps:=2000000) only [go_sem,↓reduceIte,reduceCtorEq,Nat.reduceLeDiff,Nat.reduceLT,Nat.reduceBEq,Nat.reduceAdd,hd,e1,hX];(repeat1' with_reducible first|apply And.intro|(intro _;try exact q_v)|(refine hK _ ?_;clear hK K))<;>(try (clear hK K;exact q_u)))|(with_reducible refine q_s ?_;(first|apply q_J|apply q_K|apply q_L|apply q_M|apply q_N|apply q_O)<;>try (intro _;try exact q_v)))
  all_goals first | omega | contradiction | exact hp _ (by assumption) | exact q_A rfl | skip
 ·have hk1:=hk.2 h0
  subst hk1
  repeat' (first|with_reducible refine q_0 ?_|((with_reducible first|refine q_q ha13_ok fun K hK=>?_|refine q_r ha13_ok fun K hK=>?_);simp (maxSteps:=2000000) only [go_sem,↓reduceIte,reduceCtorEq,Nat.reduceLeDiff,Nat.reduceLT,Nat.reduceBEq,Nat.reduceAdd,hd,e1,hX];(repeat1' with_reducible first|apply And.intro|(intro _;try exact q_v)|(refine hK _ ?_;clear hK K))<;>(try (clear hK K;exact q_u)))|(with_reducible refine q_s ?_;(first|apply q_J|apply q_K|apply q_L|apply q_M|apply q_N|apply q_O)<;>try (intro _;try exact q_v)))
  all_goals first | omega | contradiction | exact hp _ (by assumption) | exact q_B [.inl (some (.ints .u8 [])),.inr []] rfl rfl | skip
def codeCT : CT:=mkCT [.inr [none],nVal] false fun l K=>match l with
 | [.inr [.sl 10 rows],.inr [.i .i64 k,.b a,.ints .u32 x,.b b,.ints .u32 y,.str t,.i .i64 r]]=>((rows = (dO rows).map obC ∧ ∀ o ∈ dO rows,Pr o) ∧ HOk (dO rows) ∧ OkW (dO rows).length ⟨k,a,x,b,y,t,r⟩) ∧ (InB 256 (keyF (dO rows) ⟨k,a,x,b,y,t,r⟩).1 → (keyF (dO rows) ⟨k,a,x,b,y,t,r⟩).1.length ≤ 60003000 → K (.t [.inl (.ints .u8 (keyF (dO rows) ⟨k,a,x,b,y,t,r⟩).1),.inr [.i .i64 (keyF (dO rows) ⟨k,a,x,b,y,t,r⟩).2.1,.i .i64 (keyF (dO rows) ⟨k,a,x,b,y,t,r⟩).2.2]]))
 | _=>False
def h22b : Cfg:=addT 14 codeCT cf0
theorem h22b_ok : TblOk Try.prog h22b:=q_I cf0_ok Try.func14 fun l K h=>by
 split at h
 ·rename_i rows k a x b y t r
  obtain ⟨⟨⟨h1,h2⟩,h3,h4⟩,hK⟩:=h
  refine ⟨_,?_,hK (keyF_in h3 h4).1 (keyF_in h3 h4).2⟩
  have:=code_ret (dO rows) ⟨k,a,x,b,y,t,r⟩ h2 h3 h4
  rw [← h1] at this
  exact this
 ·exact h.elim
attribute [go_sem] codeCT
def hs1 (h x : Int) : Int:=bitI .xor .u64 h (x % 18446744073709551616) * 1099511628211 % 18446744073709551616
theorem hs1_eq (h x : Int) : bitI .xor .u64 h (x % 18446744073709551616) * 1099511628211 % 18446744073709551616 = hs1 h x:=rfl
def hsF : List Int → Int → Int
 | [],h=>h
 | x :: t,h=>hsF t (hs1 h x)
theorem hsF_at {xs : List Int} {i : Nat} (hi : i < xs.length) (h : Int) : hsF (xs.drop i) h = hsF (xs.drop (i + 1)) (hs1 h (xs.getD i 0)):=by
 rw [List.drop_eq_getElem_cons hi]
 simp only [hsF,List.getD_eq_getElem?_getD,List.getElem?_eq_getElem hi,Option.getD_some]
def hs0 : Int:=14695981039346656037
theorem hs0_eq : (14695981039346656037 : Int) = hs0:=rfl
set_option maxRecDepth 100000 in
set_option maxHeartbeats 8000000 in
theorem hashed_ret (xs : List Int) (hl : xs.length ≤ 60003000) : Ret Try.prog 19 false [.inl (.ints .u8 xs)] (.c (.i .u64 (hsF xs hs0))):=by
 (refine q_H Try.func19 (fun F=>?_); simp only [q_z,q_y,Try.ntmps19,Try.results19])
 repeat' (first|with_reducible refine q_0 ?_|((with_reducible first|refine q_q cf0_ok fun K hK=>?_|refine q_r cf0_ok fun K hK=>?_);simp (maxSteps:=2000000) only [go_sem,↓reduceIte,reduceCtorEq,Nat.reduceLeDiff,Nat.reduceLT,Nat.reduceBEq,Nat.reduceAdd,hs0_eq];(repeat1' with_reducible first|apply And.intro|(intro _;try exact q_v)|(refine hK _ ?_;clear hK K))<;>(try (clear hK K;exact q_u)))|(with_reducible refine q_s ?_;(first|apply q_J|apply q_K|apply q_L|apply q_M|apply q_N|apply q_O)<;>try (intro _;try exact q_v)))
 all_goals first | omega | skip
 refine q_G (ι:={ q : Nat × Int // q.1 ≤ xs.length ∧ hsF (xs.drop q.1) q.2 = hsF xs hs0 }) (fun q=>⟨21,[(0,.c (.ints .u8 xs)),(3,.c (.i .u64 q.1.2)),(4,.c (.i .i64 q.1.1))],⟨[],[],[]⟩,1⟩) (fun q=>xs.length - q.1.1) ⟨(0,hs0),Nat.zero_le _,rfl⟩ ?_ ?_
 ·exact q_D
 rintro ⟨⟨i,h⟩,g1,g2⟩
 simp only at g1 g2 ⊢
 by_cases hi : i < xs.length
 ·rw [hsF_at hi] at g2
  generalize hx : xs.getD i 0 = x at *
  repeat' (first|with_reducible refine q_0 ?_|((with_reducible first|refine q_q cf0_ok fun K hK=>?_|refine q_r cf0_ok fun K hK=>?_);simp (maxSteps:=2000000) only [go_sem,↓reduceIte,reduceCtorEq,Nat.reduceLeDiff,Nat.reduceLT,Nat.reduceBEq,Nat.reduceAdd,hx,hs1_eq];(repeat1' with_reducible first|apply And.intro|(intro _;try exact q_v)|(refine hK _ ?_;clear hK K))<;>(try (clear hK K;exact q_u)))|(with_reducible refine q_s ?_;(first|apply q_J|apply q_K|apply q_L|apply q_M|apply q_N|apply q_O)<;>try (intro _;try exact q_v)))
  all_goals first | omega | contradiction | skip
  ·refine q_F ⟨(i + 1,hs1 h x),hi,g2⟩ ?_ (by simp only; omega)
   exact q_D
 ·obtain rfl : i = xs.length:=by omega
  rw [List.drop_length] at g2
  repeat' (first|with_reducible refine q_0 ?_|((with_reducible first|refine q_q cf0_ok fun K hK=>?_|refine q_r cf0_ok fun K hK=>?_);simp (maxSteps:=2000000) only [go_sem,↓reduceIte,reduceCtorEq,Nat.reduceLeDiff,Nat.reduceLT,Nat.reduceBEq,Nat.reduceAdd];(repeat1' with_reducible first|apply And.intro|(intro _;try exact q_v)|(refine hK _ ?_;clear hK K))<;>(try (clear hK K;exact q_u)))|(with_reducible refine q_s ?_;(first|apply q_J|apply q_K|apply q_L|apply q_M|apply q_N|apply q_O)<;>try (intro _;try exact q_v)))
  all_goals first | omega | contradiction | skip
  all_goals exact q_A (by rw [← g2]; rfl)
def hashedCT : CT:=mkCT [.inl (some (.ints .u8 []))] true fun l K=>match l with
 | [.inl (.ints .u8 xs)]=>xs.length ≤ 60003000 ∧ K (.c (.i .u64 (hsF xs hs0)))
 | _=>False
def h22c : Cfg:=addT 19 hashedCT cf0
theorem h22c_ok : TblOk Try.prog h22c:=q_I cf0_ok Try.func19 fun l K h=>by
 split at h
 ·exact ⟨_,(hashed_ret _ h.1).plain rfl,h.2⟩
 ·exact h.elim
attribute [go_sem] hashedCT
def ha14 : Cfg:=listT [(14,codeCT)] [39]
theorem ha14_ok : TblOk Try.prog ha14:=listE_ok (by simp only [List.mem_singleton,forall_eq]; exact flt) ⟨⟨h22b,h22b_ok,rfl⟩,trivial⟩
attribute [go_sem] ha14
set_option maxRecDepth 100000 in
set_option maxHeartbeats 8000000 in
theorem hash_ret (os : List Ob) (v : Vl) (hp : ∀ o ∈ os,Pr o) (ho : HOk os) (hv : OkW os.length v) : Ret Try.prog 15 false [.inr [.sl 10 (os.map obC)],.inr (vC v)] (.t [.inl (.i .u64 (if (keyF os v).2.1 = 0 then hsF (keyF os v).1 hs0 else 0)),.inr [.i .i64 (keyF os v).2.1,.i .i64 (keyF os v).2.2]]):=by
 have hd:=dO_map hp
 have hxl:=(keyF_in ho hv).2
 have hk:=cvL_key os 1000 [v] []
 have hk2 : (keyF os v).2.1 = 0 → (keyF os v).2.2 = 0:=by
  intro h
  have hkF : keyF os v = keyG os 1000 [v] []:=rfl
  rw [hkF] at h ⊢
  by_cases h0 : (cvL os 1000 [v] []).2.2.1 = 0
  ·rw [(hk.1 h0).1]
  ·rw [hk.2 h0] at h; exact absurd h h0
 obtain ⟨k,a,x,b,ys,tx,rf⟩:=v
 generalize hX : keyF os ⟨k,a,x,b,ys,tx,rf⟩ = X at *
 obtain ⟨xs,c2,i2⟩:=X
 simp only at hk2 hxl ⊢
 (refine q_H Try.func15 (fun F=>?_); simp only [q_z,q_y,Try.ntmps15,Try.results15])
 simp only [vC]
 by_cases h0 : c2 = 0
 ·subst h0
  obtain rfl:=hk2 rfl
  repeat' (first|with_reducible refine q_0 ?_|((with_reducible first|refine q_q ha14_ok fun K hK=>?_|refine q_r ha14_ok fun K hK=>?_);simp (maxSteps:=2000000) only [go_sem,↓reduceIte,reduceCtorEq,Nat.reduceLeDiff,Nat.reduceLT,Nat.reduceBEq,Nat.reduceAdd,hd,hX,hs0_eq];(repeat1' with_reducible first|apply And.intro|(intro _;try exact q_v)|(refine hK _ ?_;clear hK K))<;>(try (clear hK K;exact q_u)))|(with_reducible refine q_s ?_;(first|apply q_J|apply q_K|apply q_L|apply q_M|apply q_N|apply q_O)<;>try (intro _;try exact q_v)))
  all_goals first | omega | contradiction | exact hp _ (by assumption) | skip
  refine q_G (ι:={ q : Nat × Int // q.1 ≤ xs.length ∧ hsF (xs.drop q.1) q.2 = hsF xs hs0 }) (fun q=>⟨35,[(5,.bx 2 0),(8,.c (.i .u64 q.1.2)),(21,.c (.ints .u8 xs)),(22,.c (.i .i64 xs.length)),(23,.c (.i .i64 q.1.1))],⟨[(2,[.c (.i .i64 0),.c (.i .i64 0)])],[],[]⟩,3⟩) (fun q=>xs.length - q.1.1) ⟨(0,hs0),Nat.zero_le _,rfl⟩ ?_ ?_
  ·exact q_D
  rintro ⟨⟨i,h⟩,g1,g2⟩
  simp only at g1 g2 ⊢
  by_cases hi : i < xs.length
  ·rw [hsF_at hi] at g2
   generalize hx : xs.getD i 0 = x at *
   repeat' (first|with_reducible refine q_0 ?_|((with_reducible first|refine q_q ha14_ok fun K hK=>?_|refine q_r ha14_ok fun K hK=>?_);simp (maxSteps:=2000000) only [go_sem,↓reduceIte,reduceCtorEq,Nat.reduceLeDiff,Nat.reduceLT,Nat.reduceBEq,Nat.reduceAdd,hx,hs1_eq];(repeat1' with_reducible first|apply And.intro|(intro _;try exact q_v)|(refine hK _ ?_;clear hK K))<;>(try (clear hK K;exact q_u)))|(with_reducible refine q_s ?_;(first|apply q_J|apply q_K|apply q_L|apply q_M|apply q_N|apply q_O)<;>try (intro _;try exact q_v)))
   all_goals first | omega | contradiction | skip
   ·refine q_F ⟨(i + 1,hs1 h x),hi,g2⟩ ?_ (by simp only; omega)
    exact q_D
  ·obtain rfl : i = xs.length:=by omega
   rw [List.drop_length] at g2
   repeat' (first|with_reducible refine q_0 ?_|((with_reducible first|refine q_q ha14_ok fun K hK=>?_|refine q_r ha14_ok fun K hK=>?_);simp (maxSteps:=2000000) only [go_sem,↓reduceIte,reduceCtorEq,Nat.reduceLeDiff,Nat.reduceLT,Nat.reduceBEq,Nat.reduceAdd];(repeat1' with_reducible first|apply And.intro|(intro _;try exact q_v)|(refine hK _ ?_;clear hK K))<;>(try (clear hK K;exact q_u)))|(with_reducible refine q_s ?_;(first|apply q_J|apply q_K|apply q_L|apply q_M|apply q_N|apply q_O)<;>try (intro _;try exact q_v)))
   all_goals first | omega | contradiction | skip
   all_goals exact q_A (by rw [if_pos trivial,← g2]; rfl)
 ·rw [if_neg h0]
  repeat' (first|with_reducible refine q_0 ?_|((with_reducible first|refine q_q ha14_ok fun K hK=>?_|refine q_r ha14_ok fun K hK=>?_);simp (maxSteps:=2000000) only [go_sem,↓reduceIte,reduceCtorEq,Nat.reduceLeDiff,Nat.reduceLT,Nat.reduceBEq,Nat.reduceAdd,hd,hX];(repeat1' with_reducible first|apply And.intro|(intro _;try exact q_v)|(refine hK _ ?_;clear hK K))<;>(try (clear hK K;exact q_u)))|(with_reducible refine q_s ?_;(first|apply q_J|apply q_K|apply q_L|apply q_M|apply q_N|apply q_O)<;>try (intro _;try exact q_v)))
  all_goals first | omega | contradiction | exact hp _ (by assumption) | exact q_A rfl | skip
end Go.Proofs.Ytncededjmcmidaa

namespace Go.Proofs.Ytncededjmcmidaa
set_option linter.unusedSimpArgs false
set_option linter.unusedVariables false
open Go.Abs Go.Proofs.NatL

def Agr (os os' : List Ob) : Prop:=os.length ≤ os'.length ∧ ∀ i,i < os.length → (os'.getD i ob0).k = (os.getD i ob0).k ∧ ((os.getD i ob0).k = 1 → (os'.getD i ob0).it = (os.getD i ob0).it)
theorem keyG_agr {os os' : List Ob} (ho : HOk os) (ha : Agr os os') : ∀ (p : Nat) (td : List Vl) (out : List Int),(∀ x ∈ td,OkW os.length x) → keyG os' p td out = keyG os p td out
 | p,[],out,_=>by cases p <;> rfl
 | 0,_ :: _,out,_=>rfl
 | p + 1,x :: t,out,h=>by
  have hx:=h x (List.mem_cons_self ..)
  have ht : ∀ y ∈ t,OkW os.length y:=fun y hy=>h y (List.mem_cons_of_mem _ hy)
  unfold keyG
  by_cases h9 : x.k = 9
  ·rw [if_pos h9,if_pos h9]
  rw [if_neg h9,if_neg h9]
  by_cases h6 : x.k = 6
  ·rw [if_pos h6,if_pos h6]
   obtain ⟨r0,r1⟩:=hx.2 h6
   obtain ⟨a1,a2⟩:=ha.2 x.r.toNat (by omega)
   have hmem:=ob_mem os ⟨r0,r1⟩
   have hT:=ho.2 _ hmem
   simp only
   rw [a1]
   generalize os.getD x.r.toNat ob0 = o at *
   generalize os'.getD x.r.toNat ob0 = o' at *
   split
   ·rfl
   split
   ·rename_i h1
    rw [a2 h1]
    obtain ⟨_,_,hT3⟩:=hT h1
    exact keyG_agr ho ha p _ _ fun y hy=>(List.mem_append.1 hy).elim (hT3 y) (ht y)
   ·exact keyG_agr ho ha p _ _ ht
  ·rw [if_neg h6,if_neg h6]
   exact keyG_agr ho ha p _ _ ht
theorem keyF_agr {os os' : List Ob} (ho : HOk os) (ha : Agr os os') {v : Vl} (hv : OkW os.length v) : keyF os' v = keyF os v:=keyG_agr ho ha 1000 [v] [] (by simpa using hv)
def KsOk (os : List Ob) (ks : List Vl) : Prop:=(∀ v ∈ ks,OkW os.length v ∧ (keyF os v).2.1 = 0) ∧ ks.Pairwise (fun a b=>(keyF os a).1 ≠ (keyF os b).1) ∧ ks.length ≤ 1000
theorem OkW.mono {n m : Nat} {v : Vl} (h : OkW n v) (hl : n ≤ m) : OkW m v:=⟨h.1,fun h6=>by have:=h.2 h6; omega⟩
theorem KsOk.agr {os os' : List Ob} {ks : List Vl} (h : KsOk os ks) (ho : HOk os) (ha : Agr os os') : KsOk os' ks:=by
 obtain ⟨h1,h2,h3⟩:=h
 refine ⟨fun v hv=>⟨(h1 v hv).1.mono ha.1,by rw [keyF_agr ho ha (h1 v hv).1]; exact (h1 v hv).2⟩,?_,h3⟩
 refine List.Pairwise.imp_of_mem ?_ h2
 intro a b ham hbm hab
 rw [keyF_agr ho ha (h1 a ham).1,keyF_agr ho ha (h1 b hbm).1]
 exact hab
theorem okW_of {n f : Nat} {v : Vl} (h : OkV n f v) : OkW n v:=by
 rcases h with h | ⟨h1,h2,h3⟩
 ·refine ⟨⟨⟨h.x.2,h.x.1⟩,⟨h.y.2,h.y.1⟩,by have:=h.t; omega,by have:=h.k; omega⟩,fun h6=>?_⟩
  have:=h.k
  omega
 ·rw [h1]
  exact ⟨⟨⟨by simp,inB_nil _⟩,⟨by simp,inB_nil _⟩,by simp,by simp⟩,fun _=>⟨by show 0 ≤ v.r; omega,h3⟩⟩
theorem posF_neg {os : List Ob} {c : List Int} : ∀ {ks : List Vl} {i : Nat},posF os c ks i < 0 → ∀ k ∈ ks,(keyF os k).1 ≠ c
 | [],_,_,k,hk=>by cases hk
 | k0 :: t,i,h,k,hk=>by
  simp only [posF] at h
  split at h
  ·omega
  ·rename_i hne
   rcases List.mem_cons.1 hk with rfl | hk
   ·exact hne
   ·exact posF_neg h k hk
theorem ksOk_snoc {os : List Ob} {ks : List Vl} {v : Vl} (h : KsOk os ks) (hv : OkW os.length v) (h1 : (plO os ks v).2.1 = 0) (h2 : (plO os ks v).1 < 0) (hl : ks.length < 1000) : KsOk os (ks ++ [v]):=by
 obtain ⟨g1,g2,g3⟩:=h
 have h3 : (keyF os v).2.1 = 0:=by
  unfold plO at h1
  split at h1
  ·assumption
  ·exact h1
 have h4:=posF_neg (by unfold plO at h2; rw [if_pos h3] at h2; exact h2)
 refine ⟨fun x hx=>?_,?_,by simp; omega⟩
 ·rcases List.mem_append.1 hx with hx | hx
  ·exact g1 x hx
  ·rw [List.mem_singleton.1 hx]; exact ⟨hv,h3⟩
 ·rw [List.pairwise_append]
  refine ⟨g2,List.pairwise_singleton _ _,fun a ha b hb=>?_⟩
  rw [List.mem_singleton.1 hb]
  exact h4 a ha
def bigG (l : List Int) : Nat → Nat → Int → List Vl → List Vl × Int
 | 0,_,k,out=>(out,k)
 | n + 1,i,k,out=>bigG l n (i + 1) (nxK l k) (out ++ [intV ((i : Int) * 3 + nxV l k 2)])
noncomputable def smG (os : List Ob) (l : List Int) (f : Int) : Nat → Int → List Vl → List Vl × Int
 | 0,k,out=>(out,k)
 | n + 1,k,out=>smG os l f n (vaK l k os.length f) (if (plO os out (vaV l k os.length f)).2.1 = 0 ∧ (plO os out (vaV l k os.length f)).1 < 0 then out ++ [vaV l k os.length f] else out)
noncomputable def ksF (os : List Ob) (l : List Int) (k f : Int) (big : Bool) : List Vl × Int:=if big then ((bigG l 1000 0 k []).1,nxK l (bigG l 1000 0 k []).2) else smG os l f (nxV l k 5).toNat (nxK l k) []
theorem int_code (n : Int) (h : 0 ≤ n ∧ n < 4294967296) (os : List Ob) : keyF os (intV n) = (plB (intV n),0,0):=by
 simp [keyF,keyG,intV]
theorem dg_small (n : Int) (h : 0 ≤ n ∧ n < 4294967296) : dg 4294967296 n.natAbs = if n = 0 then [] else [n]:=by
 by_cases h0 : n = 0
 ·subst h0; rfl
 ·rw [if_neg h0,dg_pos _ _ (by omega) (by omega),Nat.mod_eq_of_lt (by omega),Nat.div_eq_of_lt (by omega),dg_zero]
  congr 1; omega
theorem hdg_inj {a b : Int} (ha : 0 ≤ a) (hb : 0 ≤ b) (h : hbs [a] 2 = hbs [b] 2) : a = b:=by
 simp [hbs,hdg] at h
 omega
theorem plB_intV_inj {a b : Int} (ha : 0 ≤ a ∧ a < 4294967296) (hb : 0 ≤ b ∧ b < 4294967296) (h : plB (intV a) = plB (intV b)) : a = b:=by
 have e1 : plB (intV a) = 2 :: intB (decide (a < 0)) (dg 4294967296 a.natAbs):=by simp [plB,intV]
 have e2 : plB (intV b) = 2 :: intB (decide (b < 0)) (dg 4294967296 b.natAbs):=by simp [plB,intV]
 rw [e1,e2,dg_small a ha,dg_small b hb] at h
 by_cases h0 : a = 0 <;> by_cases h1 : b = 0
 ·omega
 ·simp [h0,h1,intB] at h
 ·simp [h0,h1,intB] at h
 ·simp only [if_neg h0,if_neg h1,intB,List.length_cons,List.length_nil,List.cons_append,List.nil_append,List.cons.injEq,true_and] at h
  exact hdg_inj ha.1 hb.1 h.2
theorem bigG_ok {os : List Ob} {l : List Int} : ∀ (n i : Nat) (k : Int) (out : List Vl),i + n ≤ 1000 → okSd l k → out.length = i → KsOk os out → (∀ v ∈ out,∃ m : Int,v = intV m ∧ 0 ≤ m ∧ m < 3 * i) →
  KsOk os (bigG l n i k out).1 ∧ okSd l (bigG l n i k out).2 ∧ (bigG l n i k out).1.length = i + n
 | 0,i,k,out,_,h,hl,hk,_=>⟨hk,h,hl⟩
 | n + 1,i,k,out,hn,h,hl,hk,hm=>by
  have hx:=nxV_in l k (n:=2) (by omega)
  have hb:=okA_int ((i : Int) * 3 + nxV l k 2) (by omega)
  have:=bigG_ok (os:=os) (l:=l) n (i + 1) (nxK l k) (out ++ [intV ((i : Int) * 3 + nxV l k 2)]) (by omega) (nxK_ok h) (by simp [hl]) ?_ ?_
  ·exact ⟨this.1,this.2.1,by rw [bigG,this.2.2]; omega⟩
  ·obtain ⟨g1,g2,g3⟩:=hk
   refine ⟨fun x hx'=>?_,?_,by simp; omega⟩
   ·rcases List.mem_append.1 hx' with hx' | hx'
    ·exact g1 x hx'
    ·rw [List.mem_singleton.1 hx']
     refine ⟨okW_of (f:=0) (.inl hb),?_⟩
     rw [int_code _ (by omega)]
   ·rw [List.pairwise_append]
    refine ⟨g2,List.pairwise_singleton _ _,fun a ha b hb'=>?_⟩
    rw [List.mem_singleton.1 hb']
    obtain ⟨m,rfl,m0,m1⟩:=hm a ha
    rw [int_code _ (by omega),int_code _ (by omega)]
    intro he
    have:=plB_intV_inj (by omega) (by omega) he
    omega
  ·intro v hv
   rcases List.mem_append.1 hv with hv | hv
   ·obtain ⟨m,e,m0,m1⟩:=hm v hv
    exact ⟨m,e,m0,by omega⟩
   ·exact ⟨_,List.mem_singleton.1 hv,by omega,by omega⟩
theorem smG_ok {os : List Ob} {l : List Int} {f : Nat} : ∀ (n : Nat) (k : Int) (out : List Vl),out.length + n ≤ 1000 → okSd l k → KsOk os out → KsOk os (smG os l f n k out).1 ∧ okSd l (smG os l f n k out).2 ∧ (smG os l f n k out).1.length ≤ out.length + n
 | 0,k,out,_,h,hk=>⟨hk,h,by simp [smG]⟩
 | n + 1,k,out,hn,h,hk=>by
  have hv:=vaV_ok (n:=os.length) (f:=f) h
  unfold smG
  split
  ·rename_i hc
   have:=smG_ok (f:=f) n (vaK l k os.length f) (out ++ [vaV l k os.length f]) (by simp; omega) hv.2 (ksOk_snoc hk (okW_of hv.1) hc.1 hc.2 (by omega))
   exact ⟨this.1,this.2.1,by have:=this.2.2; simp at this; omega⟩
  ·have:=smG_ok (f:=f) n (vaK l k os.length f) out (by omega) hv.2 hk
   exact ⟨this.1,this.2.1,by have:=this.2.2; omega⟩
theorem ksOk_nil (os : List Ob) : KsOk os []:=⟨fun v hv=>(by cases hv),List.Pairwise.nil,Nat.zero_le _⟩
theorem ksF_ok {os : List Ob} {l : List Int} {k : Int} {f : Nat} (big : Bool) (h : okSd l k) : KsOk os (ksF os l k f big).1 ∧ okSd l (ksF os l k f big).2:=by
 unfold ksF
 have h1:=bigG_ok (os:=os) (l:=l) 1000 0 k [] (by omega) h rfl (ksOk_nil os) (fun v hv=>by cases hv)
 generalize bigG l 1000 0 k [] = R at *
 have hx:=nxV_in l k (n:=5) (by omega)
 have h2:=smG_ok (os:=os) (l:=l) (f:=f) (nxV l k 5).toNat (nxK l k) [] (by simp only [List.length_nil]; omega) (nxK_ok h) (ksOk_nil os)
 generalize smG os l f (nxV l k 5).toNat (nxK l k) [] = S at *
 cases big with
 | true=>exact ⟨h1.1,nxK_ok h1.2.1⟩
 | false=>exact ⟨h2.1,h2.2.1⟩
def ha8 : Cfg:=listT [(13,nextCT),(45,integerCT),(12,valueCT),(26,placeCT)] [39]
theorem ha8_ok : TblOk Try.prog ha8:=listE_ok (by simp only [List.mem_singleton,forall_eq]; exact flt) ⟨⟨h1t,h1t_ok,rfl⟩,⟨h2a,h2a_ok,rfl⟩,⟨h6a,h6a_ok,rfl⟩,⟨h9b,h9b_ok,rfl⟩,trivial⟩
attribute [go_sem] ha8
attribute [go_sem] valueCT
set_option maxRecDepth 100000 in
set_option maxHeartbeats 8000000 in
theorem keysOf_big (os : List Ob) (l : List Int) (k : Int) (f : Nat) (h : okSd l k) : RetG Try.prog 44 (sH l k) [.bx 0 0,.gt [.ln (.sl 10 (os.map obC))],.c (.i .i64 f),.c (.b true)] (sH l (ksF os l k f true).2) [.c (.sl 7 ((ksF os l k f true).1.map vC))]:=by
 have hR : ksF os l k f true = ((bigG l 1000 0 k []).1,nxK l (bigG l 1000 0 k []).2):=rfl
 rw [hR]
 generalize hB : bigG l 1000 0 k [] = R
 (refine ret_ge Try.func44 (fun F bs=>?_); simp only [avSl,ancs,hnx,Nat.reduceAdd,Nat.reduceLeDiff,if_true,if_false,List.length_cons,List.length_nil,List.cons_append,List.nil_append,Try.ntmps44,Try.results44])
 repeat' (first|with_reducible refine q_0 ?_|((with_reducible first|refine q_q ha8_ok fun K hK=>?_|refine q_r ha8_ok fun K hK=>?_);simp (maxSteps:=2000000) only [go_sem,↓reduceIte,reduceCtorEq,Nat.reduceLeDiff,Nat.reduceLT,Nat.reduceBEq,Nat.reduceAdd];(repeat1' with_reducible first|apply And.intro|(intro _;try exact q_v)|(refine hK _ ?_;clear hK K))<;>(try (clear hK K;exact q_u)))|(with_reducible refine q_s ?_;(first|apply q_J|apply q_K|apply q_L|apply q_M|apply q_N|apply q_O)<;>try (intro _;try exact q_v)))
 all_goals first | omega | skip
 refine q_G (ι:={ p : Nat × Int × List Vl // p.1 ≤ 1000 ∧ okSd l p.2.1 ∧ p.2.2.length = p.1 ∧ bigG l (1000 - p.1) p.1 p.2.1 p.2.2 = R }) (fun p=>⟨64,[(0,.bx 0 0),(3,.c (.b true)),(9,.own 2 0),(10,.c (.i .i64 p.1.1)),(1000,.anc 0 (bs 0))],⟨[(0,sB l p.1.2.1)],[(2,⟨0,34,7,.sl 7 (p.1.2.2.map vC)⟩)],[]⟩,3⟩) (fun p=>1000 - p.1.1) ⟨(0,k,[]),by simp,h,rfl,hB⟩ ?_ ?_
 ·exact q_D
 rintro ⟨⟨i,k',out⟩,g1,g2,g3,g4⟩
 simp only at g1 g2 g3 g4 ⊢
 have hx:=nxV_in l k' (n:=2) (by omega)
 repeat' (first|with_reducible refine q_0 ?_|((with_reducible first|refine q_q ha8_ok fun K hK=>?_|refine q_r ha8_ok fun K hK=>?_);simp (maxSteps:=2000000) only [go_sem,↓reduceIte,reduceCtorEq,Nat.reduceLeDiff,Nat.reduceLT,Nat.reduceBEq,Nat.reduceAdd,List.length_map];(repeat1' with_reducible first|apply And.intro|(intro _;try exact q_v)|(refine hK _ ?_;clear hK K))<;>(try (clear hK K;exact q_u)))|(with_reducible refine q_s ?_;(first|apply q_J|apply q_K|apply q_L|apply q_M|apply q_N|apply q_O)<;>try (intro _;try exact q_v)))
 all_goals first | omega | skip
 ·refine q_F ⟨(i + 1,nxK l k',out ++ [intV ((i : Int) * 3 + nxV l k' 2)]),by simp only; omega,nxK_ok g2,by simp [g3],by
   rw [← g4,show 1000 - i = (1000 - (i + 1)) + 1 by omega]; rfl⟩ ?_ ?_
  ·simp only [List.map_append,List.map_cons,List.map_nil,vC,intV]; exact q_D
  ·show 1000 - (i + 1) < 1000 - i
   omega
 ·obtain rfl : i = 1000:=by omega
  obtain rfl : R = (out,k'):=by rw [← g4]; rfl
  refine q_G (ι:=Unit) (fun _=>⟨64,[(0,.bx 0 0),(3,.c (.b true)),(9,.own 2 0),(11,.c (.i .i64 (nxV l k' 5))),(1000,.anc 0 (bs 0))],⟨[(0,sB l (nxK l k'))],[(2,⟨0,34,7,.sl 7 (out.map vC)⟩)],[]⟩,4⟩) (fun _=>0) () ?_ ?_
  ·exact q_D
  rintro ⟨⟩
  repeat' (first|with_reducible refine q_0 ?_|((with_reducible first|refine q_q ha8_ok fun K hK=>?_|refine q_r ha8_ok fun K hK=>?_);simp (maxSteps:=2000000) only [go_sem,↓reduceIte,reduceCtorEq,Nat.reduceLeDiff,Nat.reduceLT,Nat.reduceBEq,Nat.reduceAdd,List.length_map];(repeat1' with_reducible first|apply And.intro|(intro _;try exact q_v)|(refine hK _ ?_;clear hK K))<;>(try (clear hK K;exact q_u)))|(with_reducible refine q_s ?_;(first|apply q_J|apply q_K|apply q_L|apply q_M|apply q_N|apply q_O)<;>try (intro _;try exact q_v)))
  all_goals exact ends_g [(8,.c (.sl 7 (out.map vC)))] 5 (by exact q_D) rfl
set_option maxRecDepth 100000 in
set_option maxHeartbeats 8000000 in
theorem keysOf_small (os : List Ob) (l : List Int) (k : Int) (f : Nat) (hp : ∀ o ∈ os,Pr o) (ho : HOk os) (hf : f ≤ os.length) (h : okSd l k) : RetG Try.prog 44 (sH l k) [.bx 0 0,.gt [.ln (.sl 10 (os.map obC))],.c (.i .i64 f),.c (.b false)] (sH l (ksF os l k f false).2) [.c (.sl 7 ((ksF os l k f false).1.map vC))]:=by
 have hR : ksF os l k f false = smG os l f (nxV l k 5).toNat (nxK l k) []:=rfl
 rw [hR]
 have hx:=nxV_in l k (n:=5) (by omega)
 have hd:=dO_map hp
 have ho1:=ho.1
 generalize hB : smG os l f (nxV l k 5).toNat (nxK l k) [] = R
 (refine ret_ge Try.func44 (fun F bs=>?_); simp only [avSl,ancs,hnx,Nat.reduceAdd,Nat.reduceLeDiff,if_true,if_false,List.length_cons,List.length_nil,List.cons_append,List.nil_append,Try.ntmps44,Try.results44])
 repeat' (first|with_reducible refine q_0 ?_|((with_reducible first|refine q_q ha8_ok fun K hK=>?_|refine q_r ha8_ok fun K hK=>?_);simp (maxSteps:=2000000) only [go_sem,↓reduceIte,reduceCtorEq,Nat.reduceLeDiff,Nat.reduceLT,Nat.reduceBEq,Nat.reduceAdd];(repeat1' with_reducible first|apply And.intro|(intro _;try exact q_v)|(refine hK _ ?_;clear hK K))<;>(try (clear hK K;exact q_u)))|(with_reducible refine q_s ?_;(first|apply q_J|apply q_K|apply q_L|apply q_M|apply q_N|apply q_O)<;>try (intro _;try exact q_v)))
 all_goals first | omega | skip
 refine q_G (ι:=Unit) (fun _=>⟨64,[(0,.bx 0 0),(2,.c (.i .i64 f)),(3,.c (.b false)),(5,.bx 1 0),(9,.own 2 0),(10,.c (.i .i64 0)),(1000,.anc 0 (bs 0))],⟨[(0,sB l k),(1,[.ln (.sl 10 (os.map obC))])],[(2,⟨0,34,7,.sl 7 []⟩)],[]⟩,3⟩) (fun _=>0) () ?_ ?_
 ·exact q_D
 rintro ⟨⟩
 repeat' (first|with_reducible refine q_0 ?_|((with_reducible first|refine q_q ha8_ok fun K hK=>?_|refine q_r ha8_ok fun K hK=>?_);simp (maxSteps:=2000000) only [go_sem,↓reduceIte,reduceCtorEq,Nat.reduceLeDiff,Nat.reduceLT,Nat.reduceBEq,Nat.reduceAdd];(repeat1' with_reducible first|apply And.intro|(intro _;try exact q_v)|(refine hK _ ?_;clear hK K))<;>(try (clear hK K;exact q_u)))|(with_reducible refine q_s ?_;(first|apply q_J|apply q_K|apply q_L|apply q_M|apply q_N|apply q_O)<;>try (intro _;try exact q_v)))
 all_goals first | omega | skip
 refine q_G (ι:={ p : Nat × Int × List Vl // p.1 ≤ 4 ∧ okSd l p.2.1 ∧ p.2.2.length + p.1 ≤ 4 ∧ KsOk os p.2.2 ∧ smG os l f p.1 p.2.1 p.2.2 = R }) (fun p=>⟨64,[(0,.bx 0 0),(2,.c (.i .i64 f)),(3,.c (.b false)),(5,.bx 1 0),(9,.own 2 0),(11,.c (.i .i64 p.1.1)),(1000,.anc 0 (bs 0))],⟨[(0,sB l p.1.2.1),(1,[.ln (.sl 10 (os.map obC))])],[(2,⟨0,34,7,.sl 7 (p.1.2.2.map vC)⟩)],[]⟩,4⟩) (fun p=>p.1.1) ⟨((nxV l k 5).toNat,nxK l k,[]),by simp only; omega,nxK_ok h,by simp only [List.length_nil]; omega,ksOk_nil os,hB⟩ ?_ ?_
 ·simp only [Int.toNat_of_nonneg hx.1,List.map_nil]; exact q_D
 rintro ⟨⟨i,k',out⟩,g1,g2,g3,g4,g5⟩
 simp only at g1 g2 g3 g4 g5 ⊢
 have hv:=vaV_ok (n:=os.length) (f:=f) g2
 have hw:=okW_of hv.1
 have hdv:=dV_map out
 have hkk : ∀ x ∈ out,OkW os.length x:=fun x hx=>(g4.1 x hx).1
 cases i with
 | zero =>
  obtain rfl : R = (out,k'):=g5.symm
  repeat' (first|with_reducible refine q_0 ?_|((with_reducible first|refine q_q ha8_ok fun K hK=>?_|refine q_r ha8_ok fun K hK=>?_);simp (maxSteps:=2000000) only [go_sem,↓reduceIte,reduceCtorEq,Nat.reduceLeDiff,Nat.reduceLT,Nat.reduceBEq,Nat.reduceAdd];(repeat1' with_reducible first|apply And.intro|(intro _;try exact q_v)|(refine hK _ ?_;clear hK K))<;>(try (clear hK K;exact q_u)))|(with_reducible refine q_s ?_;(first|apply q_J|apply q_K|apply q_L|apply q_M|apply q_N|apply q_O)<;>try (intro _;try exact q_v)))
  all_goals first | omega | exact ends_g [(8,.c (.sl 7 (out.map vC)))] 5 (by exact q_D) rfl | skip
 | succ i =>
  have g6:=g5
  simp only [smG] at g6
  generalize hvv : vaV l k' os.length f = v at hv hw g6
  obtain ⟨xk,xa,xx,xb,xy,xt,xr⟩:=v
  generalize hpl : plO os out ⟨xk,xa,xx,xb,xy,xt,xr⟩ = pl at g6
  obtain ⟨pa,pc,pi⟩:=pl
  simp only at g6
  repeat' (first|with_reducible refine q_0 ?_|((with_reducible first|refine q_q ha8_ok fun K hK=>?_|refine q_r ha8_ok fun K hK=>?_);simp (maxSteps:=2000000) only [go_sem,↓reduceIte,reduceCtorEq,Nat.reduceLeDiff,Nat.reduceLT,Nat.reduceBEq,Nat.reduceAdd,List.length_map,hvv,hd,hdv,hpl];(repeat1' with_reducible first|apply And.intro|(intro _;try exact q_v)|(refine hK _ ?_;clear hK K))<;>(try (clear hK K;exact q_u)))|(with_reducible refine q_s ?_;(first|apply q_J|apply q_K|apply q_L|apply q_M|apply q_N|apply q_O)<;>try (intro _;try exact q_v)))
  all_goals first | omega | exact hp _ (by assumption) | exact hkk _ (by assumption) | skip
  ·rename_i e1 e2
   rw [if_pos ⟨e1,e2⟩] at g6
   refine q_F ⟨(i,vaK l k' os.length f,out ++ [⟨xk,xa,xx,xb,xy,xt,xr⟩]),by simp only; omega,hv.2,by simp only [List.length_append,List.length_cons,List.length_nil]; omega,ksOk_snoc g4 hw (by rw [hpl]; exact e1) (by rw [hpl]; exact e2) (by omega),g6⟩ ?_ (Nat.lt_succ_self i)
   simp only [List.map_append,List.map_cons,List.map_nil,vC]; exact q_D
  ·rename_i e1 e2
   rw [if_neg (fun e=>e2 e.2)] at g6
   refine q_F ⟨(i,vaK l k' os.length f,out),by simp only; omega,hv.2,by simp only; omega,g4,g6⟩ ?_ (Nat.lt_succ_self i)
   exact q_D
  ·rename_i e1
   rw [if_neg (fun e=>e1 e.1)] at g6
   refine q_F ⟨(i,vaK l k' os.length f,out),by simp only; omega,hv.2,by simp only; omega,g4,g6⟩ ?_ (Nat.lt_succ_self i)
   exact q_D
def keysOfCT : CT:=mkCTG fun H al K=>match H,al with
 | ⟨[(0,[.c (.ints .i64 l),.c (.i .i64 k)])],[],[]⟩,[.bx 0 0,.gt [.ln (.sl 10 rows)],.c (.i .i64 f),.c (.b g)]=>(okSd l k ∧ rows = (dO rows).map obC ∧ (∀ o ∈ dO rows,Pr o) ∧ HOk (dO rows) ∧ 0 ≤ f ∧ f.toNat ≤ (dO rows).length) ∧ (okSd l (ksF (dO rows) l k f g).2 → KsOk (dO rows) (ksF (dO rows) l k f g).1 → K (sH l (ksF (dO rows) l k f g).2) [.c (.sl 7 ((ksF (dO rows) l k f g).1.map vC))])
 | _,_=>False
def h10a : Cfg:=addT 44 keysOfCT cf0
theorem h10a_ok : TblOk Try.prog h10a:=ctg_ok cf0_ok Try.func44 fun H al K h=>by
 split at h
 ·rename_i l k rows f g
  obtain ⟨⟨h1,h2,h3,h4,h5,h6⟩,hK⟩:=h
  have t:=ksF_ok (os:=dO rows) (f:=f.toNat) g h1
  rw [Int.toNat_of_nonneg h5] at t
  refine ⟨_,_,?_,hK t.2 t.1⟩
  conv=>arg 4; rw [h2]
  cases g with
  | true=>have:=keysOf_big (dO rows) l k f.toNat h1; rw [Int.toNat_of_nonneg h5] at this; exact this
  | false=>have:=keysOf_small (dO rows) l k f.toNat h3 h4 h6 h1; rw [Int.toNat_of_nonneg h5] at this; exact this
 ·exact h.elim
attribute [go_sem] keysOfCT
end Go.Proofs.Ytncededjmcmidaa
