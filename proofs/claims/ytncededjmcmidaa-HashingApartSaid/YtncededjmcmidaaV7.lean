import Derived.Test.YtncededjmcmidaaV5
namespace Go.Proofs.Ytncededjmcmidaa
set_option linter.unusedSimpArgs false
set_option linter.unusedVariables false
open Go.Abs Go.Proofs.NatL

structure OkA (v : Vl) : Prop where
 k : v.k = 0 ∨ v.k = 1 ∨ v.k = 2 ∨ v.k = 3 ∨ v.k = 4 ∨ v.k = 5 ∨ v.k = 8
 x : InB 4294967296 v.x ∧ v.x.length ≤ 50
 y : InB 4294967296 v.y ∧ v.y.length ≤ 50
 t : v.t.size ≤ 100
 r : 0 ≤ v.r ∧ v.r ≤ 1
abbrev sB (l : List Int) (k : Int) : List AV:=[.c (.ints .i64 l),.c (.i .i64 k)]
abbrev vA (v : Vl) : List AV:=(vC v).map .c
abbrev atH (l : List Int) (k : Int) (v : Vl) : Hp:=⟨[(0,sB l k),(1,vA v)],[],[]⟩
attribute [go_sem] nextCT vA atH sB vC intV
def ha2 : Cfg:=listT [(13,nextCT),(45,integerCT),(75,textsCT),(70,numberCT),(71,limbsCT),(72,smallCT),(74,rcmpCT),(73,(qT 60000 dpos lowF))] [39]
theorem ha2_ok : TblOk Try.prog ha2:=listE_ok (by simp only [List.mem_singleton,forall_eq]; exact flt) ⟨⟨h1t,h1t_ok,rfl⟩,⟨h2a,h2a_ok,rfl⟩,⟨h2b,h2b_ok,rfl⟩,⟨jt7,jt7_ok,rfl⟩,⟨ch1,ch1_ok,rfl⟩,⟨nt7,nt7_ok,rfl⟩,⟨db7,db7_ok,rfl⟩,⟨rq3,rq3_ok,rfl⟩,trivial⟩
attribute [go_sem] ha2
set_option maxRecDepth 100000 in
set_option maxHeartbeats 4000000 in
theorem atom0 (l : List Int) (k : Int) (h : okSd l k) (hx : nxV l k 9 = 0) : RetG Try.prog 46 (sH l k) [.bx 0 0] (atH l (nxK l k) ⟨0,false,[],false,[],ByteArray.empty,0⟩) [.g (vC ⟨0,false,[],false,[],ByteArray.empty,0⟩)]:=by
 have h2:=nxK_ok h
 (refine ret_ge Try.func46 (fun F bs=>?_); simp only [avSl,ancs,hnx,Nat.reduceAdd,Nat.reduceLeDiff,if_true,if_false,List.length_cons,List.length_nil,List.cons_append,List.nil_append,Try.ntmps46,Try.results46])
 repeat' (first|with_reducible refine q_0 ?_|((with_reducible first|refine q_q ha2_ok fun K hK=>?_|refine q_r ha2_ok fun K hK=>?_);simp (maxSteps:=2000000) only [go_sem,↓reduceIte,reduceCtorEq,Nat.reduceLeDiff,Nat.reduceLT,Nat.reduceBEq,Nat.reduceAdd,hx];(repeat1' with_reducible first|apply And.intro|(intro _;try exact q_v)|(refine hK _ ?_;clear hK K))<;>(try (clear hK K;exact q_u)))|(with_reducible refine q_s ?_;(first|apply q_J|apply q_K|apply q_L|apply q_M|apply q_N|apply q_O)<;>try (intro _;try exact q_v)))
 all_goals first | omega | contradiction | assumption | (exact ends_g [(2,.bx 1 0)] 2 (by exact q_D) rfl) | skip
set_option maxRecDepth 100000 in
set_option maxHeartbeats 4000000 in
theorem atom1 (l : List Int) (k : Int) (h : okSd l k) (hx : nxV l k 9 = 1) : RetG Try.prog 46 (sH l k) [.bx 0 0] (atH l (nxK l (nxK l k)) ⟨1,false,[],false,[],ByteArray.empty,nxV l (nxK l k) 2⟩) [.g (vC ⟨1,false,[],false,[],ByteArray.empty,nxV l (nxK l k) 2⟩)]:=by
 have h2:=nxK_ok h
 (refine ret_ge Try.func46 (fun F bs=>?_); simp only [avSl,ancs,hnx,Nat.reduceAdd,Nat.reduceLeDiff,if_true,if_false,List.length_cons,List.length_nil,List.cons_append,List.nil_append,Try.ntmps46,Try.results46])
 repeat' (first|with_reducible refine q_0 ?_|((with_reducible first|refine q_q ha2_ok fun K hK=>?_|refine q_r ha2_ok fun K hK=>?_);simp (maxSteps:=2000000) only [go_sem,↓reduceIte,reduceCtorEq,Nat.reduceLeDiff,Nat.reduceLT,Nat.reduceBEq,Nat.reduceAdd,hx];(repeat1' with_reducible first|apply And.intro|(intro _;try exact q_v)|(refine hK _ ?_;clear hK K))<;>(try (clear hK K;exact q_u)))|(with_reducible refine q_s ?_;(first|apply q_J|apply q_K|apply q_L|apply q_M|apply q_N|apply q_O)<;>try (intro _;try exact q_v)))
 all_goals first | omega | contradiction | assumption | (exact ends_g [(2,.bx 1 0)] 2 (by exact q_D) rfl) | skip
set_option maxRecDepth 100000 in
set_option maxHeartbeats 4000000 in
theorem atom2 (l : List Int) (k : Int) (h : okSd l k) (hx : nxV l k 9 = 2) : RetG Try.prog 46 (sH l k) [.bx 0 0] (atH l (nxK l (nxK l k)) (intV (nxV l (nxK l k) 1099511627776 - 549755813888))) [.g (vC (intV (nxV l (nxK l k) 1099511627776 - 549755813888)))]:=by
 have h2:=nxK_ok h
 (refine ret_ge Try.func46 (fun F bs=>?_); simp only [avSl,ancs,hnx,Nat.reduceAdd,Nat.reduceLeDiff,if_true,if_false,List.length_cons,List.length_nil,List.cons_append,List.nil_append,Try.ntmps46,Try.results46])
 repeat' (first|with_reducible refine q_0 ?_|((with_reducible first|refine q_q ha2_ok fun K hK=>?_|refine q_r ha2_ok fun K hK=>?_);simp (maxSteps:=2000000) only [go_sem,↓reduceIte,reduceCtorEq,Nat.reduceLeDiff,Nat.reduceLT,Nat.reduceBEq,Nat.reduceAdd,hx];(repeat1' with_reducible first|apply And.intro|(intro _;try exact q_v)|(refine hK _ ?_;clear hK K))<;>(try (clear hK K;exact q_u)))|(with_reducible refine q_s ?_;(first|apply q_J|apply q_K|apply q_L|apply q_M|apply q_N|apply q_O)<;>try (intro _;try exact q_v)))
 all_goals first | omega | contradiction | assumption | (exact ends_g [(2,.bx 1 0)] 2 (by exact q_D) rfl) | skip
set_option maxRecDepth 100000 in
set_option maxHeartbeats 4000000 in
theorem atom7 (l : List Int) (k : Int) (h : okSd l k) (hx : nxV l k 9 = 7) : RetG Try.prog 46 (sH l k) [.bx 0 0] (atH l (nxK l k) ⟨8,false,[],false,[],ByteArray.empty,0⟩) [.g (vC ⟨8,false,[],false,[],ByteArray.empty,0⟩)]:=by
 have h2:=nxK_ok h
 (refine ret_ge Try.func46 (fun F bs=>?_); simp only [avSl,ancs,hnx,Nat.reduceAdd,Nat.reduceLeDiff,if_true,if_false,List.length_cons,List.length_nil,List.cons_append,List.nil_append,Try.ntmps46,Try.results46])
 repeat' (first|with_reducible refine q_0 ?_|((with_reducible first|refine q_q ha2_ok fun K hK=>?_|refine q_r ha2_ok fun K hK=>?_);simp (maxSteps:=2000000) only [go_sem,↓reduceIte,reduceCtorEq,Nat.reduceLeDiff,Nat.reduceLT,Nat.reduceBEq,Nat.reduceAdd,hx];(repeat1' with_reducible first|apply And.intro|(intro _;try exact q_v)|(refine hK _ ?_;clear hK K))<;>(try (clear hK K;exact q_u)))|(with_reducible refine q_s ?_;(first|apply q_J|apply q_K|apply q_L|apply q_M|apply q_N|apply q_O)<;>try (intro _;try exact q_v)))
 all_goals first | omega | contradiction | assumption | (exact ends_g [(2,.bx 1 0)] 2 (by exact q_D) rfl) | skip
set_option maxRecDepth 100000 in
set_option maxHeartbeats 4000000 in
theorem atom8 (l : List Int) (k : Int) (h : okSd l k) (hx : nxV l k 9 = 8) : RetG Try.prog 46 (sH l k) [.bx 0 0] (atH l (nxK l (nxK l k)) (intV (nxV l (nxK l k) 5))) [.g (vC (intV (nxV l (nxK l k) 5)))]:=by
 have h2:=nxK_ok h
 (refine ret_ge Try.func46 (fun F bs=>?_); simp only [avSl,ancs,hnx,Nat.reduceAdd,Nat.reduceLeDiff,if_true,if_false,List.length_cons,List.length_nil,List.cons_append,List.nil_append,Try.ntmps46,Try.results46])
 repeat' (first|with_reducible refine q_0 ?_|((with_reducible first|refine q_q ha2_ok fun K hK=>?_|refine q_r ha2_ok fun K hK=>?_);simp (maxSteps:=2000000) only [go_sem,↓reduceIte,reduceCtorEq,Nat.reduceLeDiff,Nat.reduceLT,Nat.reduceBEq,Nat.reduceAdd,hx];(repeat1' with_reducible first|apply And.intro|(intro _;try exact q_v)|(refine hK _ ?_;clear hK K))<;>(try (clear hK K;exact q_u)))|(with_reducible refine q_s ?_;(first|apply q_J|apply q_K|apply q_L|apply q_M|apply q_N|apply q_O)<;>try (intro _;try exact q_v)))
 all_goals first | omega | contradiction | assumption | (exact ends_g [(2,.bx 1 0)] 2 (by exact q_D) rfl) | skip
end Go.Proofs.Ytncededjmcmidaa

namespace Go.Proofs.Ytncededjmcmidaa
set_option linter.unusedSimpArgs false
set_option linter.unusedVariables false
open Go.Abs Go.Proofs.NatL

theorem tx_at {i : Nat} (h : i < 14) : (tx14.map fun t=>[C.str t]).getD i [] = [.str (tx14.getD i ByteArray.empty)]:=by
 rw [List.getD_eq_getElem?_getD,List.getElem?_map,List.getD_eq_getElem?_getD]
 rw [List.getElem?_eq_getElem (show i < tx14.length from h)]
 rfl
set_option maxRecDepth 100000 in
set_option maxHeartbeats 4000000 in
theorem atom5 (l : List Int) (k : Int) (h : okSd l k) (hx : nxV l k 9 = 5) : RetG Try.prog 46 (sH l k) [.bx 0 0] (atH l (nxK l (nxK l k)) ⟨4,false,[],false,[],tx14.getD (nxV l (nxK l k) 14).toNat ByteArray.empty,0⟩) [.g (vC ⟨4,false,[],false,[],tx14.getD (nxV l (nxK l k) 14).toNat ByteArray.empty,0⟩)]:=by
 have h2:=nxK_ok h
 have e14 : ((List.map (fun t=>[C.str t]) tx14).length : Int) = 14:=rfl
 have hn:=nxV_in l (nxK l k) (n:=14) (by omega)
 have hat:=tx_at (i:=(nxV l (nxK l k) 14).toNat) (by omega)
 (refine ret_ge Try.func46 (fun F bs=>?_); simp only [avSl,ancs,hnx,Nat.reduceAdd,Nat.reduceLeDiff,if_true,if_false,List.length_cons,List.length_nil,List.cons_append,List.nil_append,Try.ntmps46,Try.results46])
 repeat' (first|with_reducible refine q_0 ?_|((with_reducible first|refine q_q ha2_ok fun K hK=>?_|refine q_r ha2_ok fun K hK=>?_);simp (maxSteps:=2000000) only [go_sem,↓reduceIte,reduceCtorEq,Nat.reduceLeDiff,Nat.reduceLT,Nat.reduceBEq,Nat.reduceAdd,hx,e14,hat];(repeat1' with_reducible first|apply And.intro|(intro _;try exact q_v)|(refine hK _ ?_;clear hK K))<;>(try (clear hK K;exact q_u)))|(with_reducible refine q_s ?_;(first|apply q_J|apply q_K|apply q_L|apply q_M|apply q_N|apply q_O)<;>try (intro _;try exact q_v)))
 all_goals first | omega | contradiction | assumption | rfl | exact keep_of [] trivial | exact keep_of [4] ⟨rfl,trivial⟩ | (exact ends_g [(2,.bx 1 0)] 2 (by exact q_D) rfl) | skip
set_option maxRecDepth 100000 in
set_option maxHeartbeats 4000000 in
theorem atom6 (l : List Int) (k : Int) (h : okSd l k) (hx : nxV l k 9 = 6) : RetG Try.prog 46 (sH l k) [.bx 0 0] (atH l (nxK l (nxK l (nxK l (nxK l (nxK l k))))) ⟨5,false,[],false,[],strOf (List.take (nxV l (nxK l (nxK l (nxK l (nxK l k)))) 4).toNat [nxV l (nxK l k) 256 % 256,nxV l (nxK l (nxK l k)) 256 % 256,nxV l (nxK l (nxK l (nxK l k))) 128 % 256]),0⟩) [.g (vC ⟨5,false,[],false,[],strOf (List.take (nxV l (nxK l (nxK l (nxK l (nxK l k)))) 4).toNat [nxV l (nxK l k) 256 % 256,nxV l (nxK l (nxK l k)) 256 % 256,nxV l (nxK l (nxK l (nxK l k))) 128 % 256]),0⟩)]:=by
 have h2:=nxK_ok h
 (refine ret_ge Try.func46 (fun F bs=>?_); simp only [avSl,ancs,hnx,Nat.reduceAdd,Nat.reduceLeDiff,if_true,if_false,List.length_cons,List.length_nil,List.cons_append,List.nil_append,Try.ntmps46,Try.results46])
 repeat' (first|with_reducible refine q_0 ?_|((with_reducible first|refine q_q ha2_ok fun K hK=>?_|refine q_r ha2_ok fun K hK=>?_);simp (maxSteps:=2000000) only [go_sem,↓reduceIte,reduceCtorEq,Nat.reduceLeDiff,Nat.reduceLT,Nat.reduceBEq,Nat.reduceAdd,hx];(repeat1' with_reducible first|apply And.intro|(intro _;try exact q_v)|(refine hK _ ?_;clear hK K))<;>(try (clear hK K;exact q_u)))|(with_reducible refine q_s ?_;(first|apply q_J|apply q_K|apply q_L|apply q_M|apply q_N|apply q_O)<;>try (intro _;try exact q_v)))
 all_goals first | omega | contradiction | assumption | rfl | exact keep_of [] trivial | exact keep_of [4] ⟨rfl,trivial⟩ | (exact ends_g [(2,.bx 1 0)] 2 (by exact q_D) rfl) | skip
set_option maxRecDepth 100000 in
set_option maxHeartbeats 4000000 in
theorem atom4a (l : List Int) (k : Int) (h : okSd l k) (hx : nxV l k 9 = 4) (hc : cmp3 (rdD (nxV l (nxK l k) 99 - 49) ((nxV l (nxK l (nxK l k)) 7 + 2).toNat)) (Int.toNat 1) = 0) (hf : sgz (rdN (nxV l (nxK l k) 99 - 49) ((nxV l (nxK l (nxK l k)) 7 + 2).toNat)) (decide ((nxV l (nxK l k) 99 - 49) < 0)) = true) : RetG Try.prog 46 (sH l k) [.bx 0 0] (atH l (nxK l (nxK l (nxK l k))) ⟨2,decide (0 < ((dg 65536 (rdN (nxV l (nxK l k) 99 - 49) ((nxV l (nxK l (nxK l k)) 7 + 2).toNat)).natAbs).length : Int)),dg 4294967296 (rdN (nxV l (nxK l k) 99 - 49) ((nxV l (nxK l (nxK l k)) 7 + 2).toNat)).natAbs,false,[],ByteArray.empty,0⟩) [.g (vC ⟨2,decide (0 < ((dg 65536 (rdN (nxV l (nxK l k) 99 - 49) ((nxV l (nxK l (nxK l k)) 7 + 2).toNat)).natAbs).length : Int)),dg 4294967296 (rdN (nxV l (nxK l k) 99 - 49) ((nxV l (nxK l (nxK l k)) 7 + 2).toNat)).natAbs,false,[],ByteArray.empty,0⟩)]:=by
 have h2:=nxK_ok h
 have n1:=nxV_in l (nxK l k) (n:=99) (by omega)
 have n2:=nxV_in l (nxK l (nxK l k)) (n:=7) (by omega)
 have l1:=dg_len_le (B:=65536) (by omega) (nxV l (nxK l k) 99 - 49).natAbs 4 (by omega)
 have l2:=dg_len_le (B:=65536) (by omega) ((nxV l (nxK l (nxK l k)) 7 + 2).toNat) 4 (by omega)
 have l3 : (dg 65536 (rdN (nxV l (nxK l k) 99 - 49) (nxV l (nxK l (nxK l k)) 7 + 2).toNat).natAbs).length ≤ 4:=dg_len_le (B:=65536) (by omega) _ 4 (by
  rw [rdN_abs _ (by omega)]
  exact Nat.lt_of_le_of_lt (Nat.div_le_self _ _) (by omega))
 have l4 : (dg 65536 (rdD (nxV l (nxK l k) 99 - 49) (nxV l (nxK l (nxK l k)) 7 + 2).toNat)).length ≤ 4:=dg_len_le (B:=65536) (by omega) _ 4 (by
  unfold rdD
  exact Nat.lt_of_le_of_lt (Nat.div_le_self _ _) (by omega))
 have l5 : (dg 65536 (Int.toNat 1)).length ≤ 4:=dg_len_le (B:=65536) (by omega) _ 4 (by decide)
 (refine ret_ge Try.func46 (fun F bs=>?_); simp only [avSl,ancs,hnx,Nat.reduceAdd,Nat.reduceLeDiff,if_true,if_false,List.length_cons,List.length_nil,List.cons_append,List.nil_append,Try.ntmps46,Try.results46])
 repeat' (first|with_reducible refine q_0 ?_|((with_reducible first|refine q_q ha2_ok fun K hK=>?_|refine q_r ha2_ok fun K hK=>?_);simp (maxSteps:=2000000) only [go_sem,↓reduceIte,reduceCtorEq,Nat.reduceLeDiff,Nat.reduceLT,Nat.reduceBEq,Nat.reduceAdd,hx,hc,hf];(repeat1' with_reducible first|apply And.intro|(intro _;try exact q_v)|(refine hK _ ?_;clear hK K))<;>(try (clear hK K;exact q_u)))|(with_reducible refine q_s ?_;(first|apply q_J|apply q_K|apply q_L|apply q_M|apply q_N|apply q_O)<;>try (intro _;try exact q_v)))
 all_goals first | omega | contradiction | assumption | rfl | exact keep_of [] trivial | exact keep_of [4] ⟨rfl,trivial⟩ | (exact ends_g [(2,.bx 1 0)] 2 (by exact q_D) rfl) | skip
set_option maxRecDepth 100000 in
set_option maxHeartbeats 4000000 in
theorem atom4b (l : List Int) (k : Int) (h : okSd l k) (hx : nxV l k 9 = 4) (hc : cmp3 (rdD (nxV l (nxK l k) 99 - 49) ((nxV l (nxK l (nxK l k)) 7 + 2).toNat)) (Int.toNat 1) = 0) (hf : sgz (rdN (nxV l (nxK l k) 99 - 49) ((nxV l (nxK l (nxK l k)) 7 + 2).toNat)) (decide ((nxV l (nxK l k) 99 - 49) < 0)) = false) : RetG Try.prog 46 (sH l k) [.bx 0 0] (atH l (nxK l (nxK l (nxK l k))) ⟨2,false,dg 4294967296 (rdN (nxV l (nxK l k) 99 - 49) ((nxV l (nxK l (nxK l k)) 7 + 2).toNat)).natAbs,false,[],ByteArray.empty,0⟩) [.g (vC ⟨2,false,dg 4294967296 (rdN (nxV l (nxK l k) 99 - 49) ((nxV l (nxK l (nxK l k)) 7 + 2).toNat)).natAbs,false,[],ByteArray.empty,0⟩)]:=by
 have h2:=nxK_ok h
 have n1:=nxV_in l (nxK l k) (n:=99) (by omega)
 have n2:=nxV_in l (nxK l (nxK l k)) (n:=7) (by omega)
 have l1:=dg_len_le (B:=65536) (by omega) (nxV l (nxK l k) 99 - 49).natAbs 4 (by omega)
 have l2:=dg_len_le (B:=65536) (by omega) ((nxV l (nxK l (nxK l k)) 7 + 2).toNat) 4 (by omega)
 have l3 : (dg 65536 (rdN (nxV l (nxK l k) 99 - 49) (nxV l (nxK l (nxK l k)) 7 + 2).toNat).natAbs).length ≤ 4:=dg_len_le (B:=65536) (by omega) _ 4 (by
  rw [rdN_abs _ (by omega)]
  exact Nat.lt_of_le_of_lt (Nat.div_le_self _ _) (by omega))
 have l4 : (dg 65536 (rdD (nxV l (nxK l k) 99 - 49) (nxV l (nxK l (nxK l k)) 7 + 2).toNat)).length ≤ 4:=dg_len_le (B:=65536) (by omega) _ 4 (by
  unfold rdD
  exact Nat.lt_of_le_of_lt (Nat.div_le_self _ _) (by omega))
 have l5 : (dg 65536 (Int.toNat 1)).length ≤ 4:=dg_len_le (B:=65536) (by omega) _ 4 (by decide)
 (refine ret_ge Try.func46 (fun F bs=>?_); simp only [avSl,ancs,hnx,Nat.reduceAdd,Nat.reduceLeDiff,if_true,if_false,List.length_cons,List.length_nil,List.cons_append,List.nil_append,Try.ntmps46,Try.results46])
 repeat' (first|with_reducible refine q_0 ?_|((with_reducible first|refine q_q ha2_ok fun K hK=>?_|refine q_r ha2_ok fun K hK=>?_);simp (maxSteps:=2000000) only [go_sem,↓reduceIte,reduceCtorEq,Nat.reduceLeDiff,Nat.reduceLT,Nat.reduceBEq,Nat.reduceAdd,hx,hc,hf];(repeat1' with_reducible first|apply And.intro|(intro _;try exact q_v)|(refine hK _ ?_;clear hK K))<;>(try (clear hK K;exact q_u)))|(with_reducible refine q_s ?_;(first|apply q_J|apply q_K|apply q_L|apply q_M|apply q_N|apply q_O)<;>try (intro _;try exact q_v)))
 all_goals first | omega | contradiction | assumption | rfl | exact keep_of [] trivial | exact keep_of [4] ⟨rfl,trivial⟩ | (exact ends_g [(2,.bx 1 0)] 2 (by exact q_D) rfl) | skip
set_option maxRecDepth 100000 in
set_option maxHeartbeats 4000000 in
theorem atom4c (l : List Int) (k : Int) (h : okSd l k) (hx : nxV l k 9 = 4) (hc : ¬ cmp3 (rdD (nxV l (nxK l k) 99 - 49) ((nxV l (nxK l (nxK l k)) 7 + 2).toNat)) (Int.toNat 1) = 0) : RetG Try.prog 46 (sH l k) [.bx 0 0] (atH l (nxK l (nxK l (nxK l k))) ⟨3,sgz (rdN (nxV l (nxK l k) 99 - 49) ((nxV l (nxK l (nxK l k)) 7 + 2).toNat)) (decide ((nxV l (nxK l k) 99 - 49) < 0)),dg 4294967296 (rdN (nxV l (nxK l k) 99 - 49) ((nxV l (nxK l (nxK l k)) 7 + 2).toNat)).natAbs,false,dg 4294967296 (rdD (nxV l (nxK l k) 99 - 49) ((nxV l (nxK l (nxK l k)) 7 + 2).toNat)),ByteArray.empty,0⟩) [.g (vC ⟨3,sgz (rdN (nxV l (nxK l k) 99 - 49) ((nxV l (nxK l (nxK l k)) 7 + 2).toNat)) (decide ((nxV l (nxK l k) 99 - 49) < 0)),dg 4294967296 (rdN (nxV l (nxK l k) 99 - 49) ((nxV l (nxK l (nxK l k)) 7 + 2).toNat)).natAbs,false,dg 4294967296 (rdD (nxV l (nxK l k) 99 - 49) ((nxV l (nxK l (nxK l k)) 7 + 2).toNat)),ByteArray.empty,0⟩)]:=by
 have h2:=nxK_ok h
 have n1:=nxV_in l (nxK l k) (n:=99) (by omega)
 have n2:=nxV_in l (nxK l (nxK l k)) (n:=7) (by omega)
 have l1:=dg_len_le (B:=65536) (by omega) (nxV l (nxK l k) 99 - 49).natAbs 4 (by omega)
 have l2:=dg_len_le (B:=65536) (by omega) ((nxV l (nxK l (nxK l k)) 7 + 2).toNat) 4 (by omega)
 have l3 : (dg 65536 (rdN (nxV l (nxK l k) 99 - 49) (nxV l (nxK l (nxK l k)) 7 + 2).toNat).natAbs).length ≤ 4:=dg_len_le (B:=65536) (by omega) _ 4 (by
  rw [rdN_abs _ (by omega)]
  exact Nat.lt_of_le_of_lt (Nat.div_le_self _ _) (by omega))
 have l4 : (dg 65536 (rdD (nxV l (nxK l k) 99 - 49) (nxV l (nxK l (nxK l k)) 7 + 2).toNat)).length ≤ 4:=dg_len_le (B:=65536) (by omega) _ 4 (by
  unfold rdD
  exact Nat.lt_of_le_of_lt (Nat.div_le_self _ _) (by omega))
 have l5 : (dg 65536 (Int.toNat 1)).length ≤ 4:=dg_len_le (B:=65536) (by omega) _ 4 (by decide)
 (refine ret_ge Try.func46 (fun F bs=>?_); simp only [avSl,ancs,hnx,Nat.reduceAdd,Nat.reduceLeDiff,if_true,if_false,List.length_cons,List.length_nil,List.cons_append,List.nil_append,Try.ntmps46,Try.results46])
 repeat' (first|with_reducible refine q_0 ?_|((with_reducible first|refine q_q ha2_ok fun K hK=>?_|refine q_r ha2_ok fun K hK=>?_);simp (maxSteps:=2000000) only [go_sem,↓reduceIte,reduceCtorEq,Nat.reduceLeDiff,Nat.reduceLT,Nat.reduceBEq,Nat.reduceAdd,hx,hc];(repeat1' with_reducible first|apply And.intro|(intro _;try exact q_v)|(refine hK _ ?_;clear hK K))<;>(try (clear hK K;exact q_u)))|(with_reducible refine q_s ?_;(first|apply q_J|apply q_K|apply q_L|apply q_M|apply q_N|apply q_O)<;>try (intro _;try exact q_v)))
 all_goals first | omega | contradiction | assumption | rfl | exact keep_of [] trivial | exact keep_of [4] ⟨rfl,trivial⟩ | (exact ends_g [(2,.bx 1 0)] 2 (by exact q_D) rfl) | skip
end Go.Proofs.Ytncededjmcmidaa

namespace Go.Proofs.Ytncededjmcmidaa
set_option linter.unusedSimpArgs false
set_option linter.unusedVariables false
open Go.Abs Go.Proofs.NatL

set_option maxRecDepth 100000 in
set_option maxHeartbeats 4000000 in
theorem atom3 (l : List Int) (k : Int) (h : okSd l k) (hx : nxV l k 9 = 3) : RetG Try.prog 46 (sH l k) [.bx 0 0] (atH l (nxK l (nxK l (nxK l (nxK l k)))) ⟨2,decide (nxV l (nxK l (nxK l (nxK l k))) 2 = 1),List.replicate (nxV l (nxK l k) 40).toNat 0 ++ [nxV l (nxK l (nxK l k)) 2147483648 + 1],false,[],ByteArray.empty,0⟩) [.g (vC ⟨2,decide (nxV l (nxK l (nxK l (nxK l k))) 2 = 1),List.replicate (nxV l (nxK l k) 40).toNat 0 ++ [nxV l (nxK l (nxK l k)) 2147483648 + 1],false,[],ByteArray.empty,0⟩)]:=by
 have h2:=nxK_ok h
 (refine ret_ge Try.func46 (fun F bs=>?_); simp only [avSl,ancs,hnx,Nat.reduceAdd,Nat.reduceLeDiff,if_true,if_false,List.length_cons,List.length_nil,List.cons_append,List.nil_append,Try.ntmps46,Try.results46])
 repeat' (first|with_reducible refine q_0 ?_|((with_reducible first|refine q_q (mkT_ok ha2_ok) fun K hK=>?_|refine q_r (mkT_ok ha2_ok) fun K hK=>?_);simp (maxSteps:=2000000) only [go_sem,↓reduceIte,reduceCtorEq,Nat.reduceLeDiff,Nat.reduceLT,Nat.reduceBEq,Nat.reduceAdd,hx];(repeat1' with_reducible first|apply And.intro|(intro _;try exact q_v)|(refine hK _ ?_;clear hK K))<;>(try (clear hK K;exact q_u)))|(with_reducible refine q_s ?_;(first|apply q_J|apply q_K|apply q_L|apply q_M|apply q_N|apply q_O)<;>try (intro _;try exact q_v)))
 all_goals first | omega | contradiction | assumption | rfl | exact keep_of [] trivial | exact keep_of [4] ⟨rfl,trivial⟩ | (exact ends_g [(2,.bx 1 0)] 2 (by exact q_D) rfl) | skip
theorem strOf_size_go : ∀ (xs : List Int) (r : ByteArray),(xs.foldl (fun r n=>r.push (UInt8.ofNat n.toNat)) r).size = r.size + xs.length
 | [],r=>by simp
 | x :: xs,r=>by
  rw [List.foldl_cons,strOf_size_go xs,ByteArray.size_push,List.length_cons]; omega
theorem strOf_size (xs : List Int) : (strOf xs).size = xs.length:=by
 unfold strOf
 rw [strOf_size_go]
 exact Nat.zero_add _
theorem tx14_size (i : Nat) : (tx14.getD i ByteArray.empty).size ≤ 100:=by
 rw [List.getD_eq_getElem?_getD]
 rcases hq : tx14[i]? with _ | t
 ·exact Nat.zero_le _
 ·have:=List.mem_of_getElem? hq
  simp only [Option.getD_some]
  have h : ∀ t ∈ tx14,t.size ≤ 100:=by
   intro t ht
   simp only [tx14,List.mem_cons,List.not_mem_nil,or_false] at ht
   rcases ht with rfl | rfl | rfl | rfl | rfl | rfl | rfl | rfl | rfl | rfl | rfl | rfl | rfl | rfl <;> exact Nat.le_of_ble_eq_true rfl
  exact h t this
theorem inB_nil (B : Nat) : InB B []:=fun x hx=>by cases hx
theorem okA_int (n : Int) (h : n.natAbs < 4294967296 ^ 2) : OkA (intV n):=⟨by simp [intV],⟨InB_dg _ (by omega) _,by have:=dg_len_le (B:=4294967296) (by omega) n.natAbs 2 h; simp only [intV]; omega⟩,⟨inB_nil _,by simp [intV]⟩,by simp [intV],by simp [intV]⟩
theorem dg50 (n : Nat) (h : n < 4294967296 ^ 2) : InB 4294967296 (dg 4294967296 n) ∧ (dg 4294967296 n).length ≤ 50:=⟨InB_dg _ (by omega) _,by have:=dg_len_le (B:=4294967296) (by omega) n 2 h; omega⟩
theorem atom_ex (l : List Int) (k : Int) (h : okSd l k) : ∃ v k',(OkA v ∧ okSd l k') ∧ RetG Try.prog 46 (sH l k) [.bx 0 0] (atH l k' v) [.g (vC v)]:=by
 have hn:=nxV_in l k (n:=9) (by omega)
 have h1:=nxK_ok h
 have h2:=nxK_ok h1
 have h3:=nxK_ok h2
 have h4:=nxK_ok h3
 have hb:=inB_nil 4294967296
 have hc : nxV l k 9 = 0 ∨ nxV l k 9 = 1 ∨ nxV l k 9 = 2 ∨ nxV l k 9 = 3 ∨ nxV l k 9 = 4 ∨ nxV l k 9 = 5 ∨ nxV l k 9 = 6 ∨ nxV l k 9 = 7 ∨ nxV l k 9 = 8:=by omega
 rcases hc with hc | hc | hc | hc | hc | hc | hc | hc | hc
 ·exact ⟨_,_,⟨⟨by simp,⟨hb,by simp⟩,⟨hb,by simp⟩,by simp,by simp⟩,h1⟩,atom0 l k h hc⟩
 ·have hr:=nxV_in l (nxK l k) (n:=2) (by omega)
  exact ⟨_,_,⟨⟨by simp,⟨hb,by simp⟩,⟨hb,by simp⟩,by simp,by simp only; omega⟩,h2⟩,atom1 l k h hc⟩
 ·have hr:=nxV_in l (nxK l k) (n:=1099511627776) (by omega)
  exact ⟨_,_,⟨okA_int _ (by omega),h2⟩,atom2 l k h hc⟩
 ·have hr:=nxV_in l (nxK l k) (n:=40) (by omega)
  have hs:=nxV_in l (nxK l (nxK l k)) (n:=2147483648) (by omega)
  refine ⟨_,_,⟨⟨by simp,⟨fun x hx=>?_,?_⟩,⟨hb,by simp⟩,by simp,by simp⟩,h4⟩,atom3 l k h hc⟩
  ·rcases List.mem_append.1 hx with hx | hx
   ·have:=List.eq_of_mem_replicate hx; omega
   ·simp only [List.mem_singleton] at hx; omega
  ·simp only [List.length_append,List.length_replicate,List.length_singleton]; omega
 ·have n1:=nxV_in l (nxK l k) (n:=99) (by omega)
  have n2:=nxV_in l (nxK l (nxK l k)) (n:=7) (by omega)
  have e1 : (rdN (nxV l (nxK l k) 99 - 49) (nxV l (nxK l (nxK l k)) 7 + 2).toNat).natAbs < 4294967296 ^ 2:=by
   rw [rdN_abs _ (by omega)]
   exact Nat.lt_of_le_of_lt (Nat.div_le_self _ _) (by omega)
  have e2 : rdD (nxV l (nxK l k) 99 - 49) (nxV l (nxK l (nxK l k)) 7 + 2).toNat < 4294967296 ^ 2:=by
   unfold rdD
   exact Nat.lt_of_le_of_lt (Nat.div_le_self _ _) (by omega)
  by_cases hcc : cmp3 (rdD (nxV l (nxK l k) 99 - 49) ((nxV l (nxK l (nxK l k)) 7 + 2).toNat)) (Int.toNat 1) = 0
  ·cases hf : sgz (rdN (nxV l (nxK l k) 99 - 49) ((nxV l (nxK l (nxK l k)) 7 + 2).toNat)) (decide ((nxV l (nxK l k) 99 - 49) < 0))
   ·exact ⟨_,_,⟨⟨by simp,dg50 _ e1,⟨hb,by simp⟩,by simp,by simp⟩,h3⟩,atom4b l k h hc hcc hf⟩
   ·exact ⟨_,_,⟨⟨by simp,dg50 _ e1,⟨hb,by simp⟩,by simp,by simp⟩,h3⟩,atom4a l k h hc hcc hf⟩
  ·exact ⟨_,_,⟨⟨by simp,dg50 _ e1,dg50 _ e2,by simp,by simp⟩,h3⟩,atom4c l k h hc hcc⟩
 ·exact ⟨_,_,⟨⟨by simp,⟨hb,by simp⟩,⟨hb,by simp⟩,tx14_size _,by simp⟩,h2⟩,atom5 l k h hc⟩
 ·exact ⟨_,_,⟨⟨by simp,⟨hb,by simp⟩,⟨hb,by simp⟩,by
   simp only [strOf_size,List.length_take,List.length_cons,List.length_nil]; omega,by simp⟩,nxK_ok h4⟩,atom6 l k h hc⟩
 ·exact ⟨_,_,⟨⟨by simp,⟨hb,by simp⟩,⟨hb,by simp⟩,by simp,by simp⟩,h1⟩,atom7 l k h hc⟩
 ·have hr:=nxV_in l (nxK l k) (n:=5) (by omega)
  exact ⟨_,_,⟨okA_int _ (by omega),h2⟩,atom8 l k h hc⟩
open Classical in
noncomputable def atV (l : List Int) (k : Int) : Vl:=if h : okSd l k then (atom_ex l k h).choose else intV 0
open Classical in
noncomputable def atK (l : List Int) (k : Int) : Int:=if h : okSd l k then (atom_ex l k h).choose_spec.choose else k
theorem at_spec {l : List Int} {k : Int} (h : okSd l k) : (OkA (atV l k) ∧ okSd l (atK l k)) ∧ RetG Try.prog 46 (sH l k) [.bx 0 0] (atH l (atK l k) (atV l k)) [.g (vC (atV l k))]:=by
 unfold atV atK
 rw [dif_pos h,dif_pos h]
 exact (atom_ex l k h).choose_spec.choose_spec
def atomCT : CT:=mkCTG fun H al K=>match H,al with
 | ⟨[(0,[.c (.ints .i64 l),.c (.i .i64 k)])],[],[]⟩,[.bx 0 0]=>okSd l k ∧ (OkA (atV l k) → okSd l (atK l k) → K (atH l (atK l k) (atV l k)) [.g (vC (atV l k))])
 | _,_=>False
def h5a : Cfg:=addT 46 atomCT cf0
theorem h5a_ok : TblOk Try.prog h5a:=ctg_ok cf0_ok Try.func46 fun H al K h=>by
 split at h
 ·rename_i l k
  have t:=at_spec h.1
  exact ⟨_,_,t.2,h.2 t.1.1 t.1.2⟩
 ·exact h.elim
end Go.Proofs.Ytncededjmcmidaa

namespace Go.Proofs.Ytncededjmcmidaa
set_option linter.unusedSimpArgs false
set_option linter.unusedVariables false
open Go.Abs Go.Proofs.NatL

abbrev refV (r : Int) : Vl:=⟨6,false,[],false,[],ByteArray.empty,r⟩
noncomputable def vaV (l : List Int) (k n f : Int) : Vl:=if 0 < n - f then (if nxV l k 2 = 1 then refV (f + nxV l (nxK l k) (n - f)) else atV l (nxK l k)) else atV l k
noncomputable def vaK (l : List Int) (k n f : Int) : Int:=if 0 < n - f then (if nxV l k 2 = 1 then nxK l (nxK l k) else atK l (nxK l k)) else atK l k
def OkV (n f : Int) (v : Vl) : Prop:=OkA v ∨ (v = refV v.r ∧ f ≤ v.r ∧ v.r < n)
attribute [go_sem] atomCT
abbrev vaH (l : List Int) (k : Int) (v : Vl) : Hp:=⟨[(0,sB l k),(2,vA v)],[],[]⟩
def ha3 : Cfg:=listT [(13,nextCT),(46,atomCT)] [39]
theorem ha3_ok : TblOk Try.prog ha3:=listE_ok (by simp only [List.mem_singleton,forall_eq]; exact flt) ⟨⟨h1t,h1t_ok,rfl⟩,⟨h5a,h5a_ok,rfl⟩,trivial⟩
attribute [go_sem] ha3
set_option maxRecDepth 100000 in
set_option maxHeartbeats 4000000 in
theorem value_ret (l : List Int) (k : Int) (os : List (List C)) (f : Int) (h : okSd l k) (hf : 0 ≤ f ∧ f ≤ 100000) (hn : os.length ≤ 100000) : RetG Try.prog 12 (sH l k) [.bx 0 0,.gt [.ln (.sl 10 os)],.c (.i .i64 f)] (vaH l (vaK l k os.length f) (vaV l k os.length f)) [.g (vC (vaV l k os.length f))]:=by
 have h2:=nxK_ok h
 unfold vaV vaK
 by_cases h3 : (0:Int) < os.length - f
 ·rw [if_pos h3,if_pos h3]
  by_cases hx : nxV l k 2 = 1
  ·rw [if_pos hx,if_pos hx]
   (refine ret_ge Try.func12 (fun F bs=>?_); simp only [avSl,ancs,hnx,Nat.reduceAdd,Nat.reduceLeDiff,if_true,if_false,List.length_cons,List.length_nil,List.cons_append,List.nil_append,Try.ntmps12,Try.results12])
   repeat' (first|with_reducible refine q_0 ?_|((with_reducible first|refine q_q ha3_ok fun K hK=>?_|refine q_r ha3_ok fun K hK=>?_);simp (maxSteps:=2000000) only [go_sem,↓reduceIte,reduceCtorEq,Nat.reduceLeDiff,Nat.reduceLT,Nat.reduceBEq,Nat.reduceAdd,hx,h3];(repeat1' with_reducible first|apply And.intro|(intro _;try exact q_v)|(refine hK _ ?_;clear hK K))<;>(try (clear hK K;exact q_u)))|(with_reducible refine q_s ?_;(first|apply q_J|apply q_K|apply q_L|apply q_M|apply q_N|apply q_O)<;>try (intro _;try exact q_v)))
   all_goals first | omega | contradiction | assumption | rfl | (exact ends_g [(6,.bx 2 0)] 3 (by exact q_D) rfl) | skip
  ·rw [if_neg hx,if_neg hx]
   (refine ret_ge Try.func12 (fun F bs=>?_); simp only [avSl,ancs,hnx,Nat.reduceAdd,Nat.reduceLeDiff,if_true,if_false,List.length_cons,List.length_nil,List.cons_append,List.nil_append,Try.ntmps12,Try.results12])
   repeat' (first|with_reducible refine q_0 ?_|((with_reducible first|refine q_q ha3_ok fun K hK=>?_|refine q_r ha3_ok fun K hK=>?_);simp (maxSteps:=2000000) only [go_sem,↓reduceIte,reduceCtorEq,Nat.reduceLeDiff,Nat.reduceLT,Nat.reduceBEq,Nat.reduceAdd,hx,h3];(repeat1' with_reducible first|apply And.intro|(intro _;try exact q_v)|(refine hK _ ?_;clear hK K))<;>(try (clear hK K;exact q_u)))|(with_reducible refine q_s ?_;(first|apply q_J|apply q_K|apply q_L|apply q_M|apply q_N|apply q_O)<;>try (intro _;try exact q_v)))
   all_goals first | omega | contradiction | assumption | rfl | (exact ends_g [(6,.bx 2 0)] 3 (by exact q_D) rfl) | skip
 ·rw [if_neg h3,if_neg h3]
  (refine ret_ge Try.func12 (fun F bs=>?_); simp only [avSl,ancs,hnx,Nat.reduceAdd,Nat.reduceLeDiff,if_true,if_false,List.length_cons,List.length_nil,List.cons_append,List.nil_append,Try.ntmps12,Try.results12])
  repeat' (first|with_reducible refine q_0 ?_|((with_reducible first|refine q_q ha3_ok fun K hK=>?_|refine q_r ha3_ok fun K hK=>?_);simp (maxSteps:=2000000) only [go_sem,↓reduceIte,reduceCtorEq,Nat.reduceLeDiff,Nat.reduceLT,Nat.reduceBEq,Nat.reduceAdd,h3];(repeat1' with_reducible first|apply And.intro|(intro _;try exact q_v)|(refine hK _ ?_;clear hK K))<;>(try (clear hK K;exact q_u)))|(with_reducible refine q_s ?_;(first|apply q_J|apply q_K|apply q_L|apply q_M|apply q_N|apply q_O)<;>try (intro _;try exact q_v)))
  all_goals first | omega | contradiction | assumption | rfl | (exact ends_g [(6,.bx 2 0)] 3 (by exact q_D) rfl) | skip
set_option maxRecDepth 100000 in
set_option maxHeartbeats 4000000 in
theorem value_ret2 (l : List Int) (k : Int) (p : Option Addr) (n c : Nat) (f : Int) (h : okSd l k) (hf : 0 ≤ f ∧ f ≤ 100000) (hn : n ≤ 100000) : RetG Try.prog 12 (sH l k) [.bx 0 0,.g [.a (.slice p n c)],.c (.i .i64 f)] (vaH l (vaK l k n f) (vaV l k n f)) [.g (vC (vaV l k n f))]:=by
 have h2:=nxK_ok h
 unfold vaV vaK
 by_cases h3 : (0:Int) < n - f
 ·rw [if_pos h3,if_pos h3]
  by_cases hx : nxV l k 2 = 1
  ·rw [if_pos hx,if_pos hx]
   (refine ret_ge Try.func12 (fun F bs=>?_); simp only [avSl,ancs,hnx,Nat.reduceAdd,Nat.reduceLeDiff,if_true,if_false,List.length_cons,List.length_nil,List.cons_append,List.nil_append,Try.ntmps12,Try.results12])
   repeat' (first|with_reducible refine q_0 ?_|((with_reducible first|refine q_q ha3_ok fun K hK=>?_|refine q_r ha3_ok fun K hK=>?_);simp (maxSteps:=2000000) only [go_sem,↓reduceIte,reduceCtorEq,Nat.reduceLeDiff,Nat.reduceLT,Nat.reduceBEq,Nat.reduceAdd,hx,h3];(repeat1' with_reducible first|apply And.intro|(intro _;try exact q_v)|(refine hK _ ?_;clear hK K))<;>(try (clear hK K;exact q_u)))|(with_reducible refine q_s ?_;(first|apply q_J|apply q_K|apply q_L|apply q_M|apply q_N|apply q_O)<;>try (intro _;try exact q_v)))
   all_goals first | omega | contradiction | assumption | rfl | (exact ends_g [(6,.bx 2 0)] 3 (by exact q_D) rfl) | skip
  ·rw [if_neg hx,if_neg hx]
   (refine ret_ge Try.func12 (fun F bs=>?_); simp only [avSl,ancs,hnx,Nat.reduceAdd,Nat.reduceLeDiff,if_true,if_false,List.length_cons,List.length_nil,List.cons_append,List.nil_append,Try.ntmps12,Try.results12])
   repeat' (first|with_reducible refine q_0 ?_|((with_reducible first|refine q_q ha3_ok fun K hK=>?_|refine q_r ha3_ok fun K hK=>?_);simp (maxSteps:=2000000) only [go_sem,↓reduceIte,reduceCtorEq,Nat.reduceLeDiff,Nat.reduceLT,Nat.reduceBEq,Nat.reduceAdd,hx,h3];(repeat1' with_reducible first|apply And.intro|(intro _;try exact q_v)|(refine hK _ ?_;clear hK K))<;>(try (clear hK K;exact q_u)))|(with_reducible refine q_s ?_;(first|apply q_J|apply q_K|apply q_L|apply q_M|apply q_N|apply q_O)<;>try (intro _;try exact q_v)))
   all_goals first | omega | contradiction | assumption | rfl | (exact ends_g [(6,.bx 2 0)] 3 (by exact q_D) rfl) | skip
 ·rw [if_neg h3,if_neg h3]
  (refine ret_ge Try.func12 (fun F bs=>?_); simp only [avSl,ancs,hnx,Nat.reduceAdd,Nat.reduceLeDiff,if_true,if_false,List.length_cons,List.length_nil,List.cons_append,List.nil_append,Try.ntmps12,Try.results12])
  repeat' (first|with_reducible refine q_0 ?_|((with_reducible first|refine q_q ha3_ok fun K hK=>?_|refine q_r ha3_ok fun K hK=>?_);simp (maxSteps:=2000000) only [go_sem,↓reduceIte,reduceCtorEq,Nat.reduceLeDiff,Nat.reduceLT,Nat.reduceBEq,Nat.reduceAdd,h3];(repeat1' with_reducible first|apply And.intro|(intro _;try exact q_v)|(refine hK _ ?_;clear hK K))<;>(try (clear hK K;exact q_u)))|(with_reducible refine q_s ?_;(first|apply q_J|apply q_K|apply q_L|apply q_M|apply q_N|apply q_O)<;>try (intro _;try exact q_v)))
  all_goals first | omega | contradiction | assumption | rfl | (exact ends_g [(6,.bx 2 0)] 3 (by exact q_D) rfl) | skip
theorem vaV_ok {l : List Int} {k n f : Int} (h : okSd l k) : OkV n f (vaV l k n f) ∧ okSd l (vaK l k n f):=by
 have h2:=nxK_ok h
 unfold vaV vaK
 split
 ·rename_i h3
  have hr:=nxV_in l (nxK l k) h3
  split
  ·exact ⟨.inr ⟨rfl,by show f ≤ f + nxV l (nxK l k) (n - f); omega,by show f + nxV l (nxK l k) (n - f) < n; omega⟩,nxK_ok h2⟩
  ·exact ⟨.inl (at_spec h2).1.1,(at_spec h2).1.2⟩
 ·exact ⟨.inl (at_spec h).1.1,(at_spec h).1.2⟩
def valueCT : CT:=mkCTG fun H al K=>match H,al with
 | ⟨[(0,[.c (.ints .i64 l),.c (.i .i64 k)])],[],[]⟩,[.bx 0 0,.gt [.ln (.sl 10 os)],.c (.i .i64 f)]=>(okSd l k ∧ (0 ≤ f ∧ f ≤ 100000) ∧ os.length ≤ 100000) ∧ (OkV os.length f (vaV l k os.length f) → okSd l (vaK l k os.length f) → K (vaH l (vaK l k os.length f) (vaV l k os.length f)) [.g (vC (vaV l k os.length f))])
 | ⟨[(0,[.c (.ints .i64 l),.c (.i .i64 k)])],[],[]⟩,[.bx 0 0,.g [.a (.slice _ n _)],.c (.i .i64 f)]=>(okSd l k ∧ (0 ≤ f ∧ f ≤ 100000) ∧ n ≤ 100000) ∧ (OkV n f (vaV l k n f) → okSd l (vaK l k n f) → K (vaH l (vaK l k n f) (vaV l k n f)) [.g (vC (vaV l k n f))])
 | _,_=>False
def h6a : Cfg:=addT 12 valueCT cf0
theorem h6a_ok : TblOk Try.prog h6a:=ctg_ok cf0_ok Try.func12 fun H al K h=>by
 split at h
 ·rename_i l k os f
  obtain ⟨⟨h1,h2,h3⟩,hK⟩:=h
  have t:=vaV_ok (n:=os.length) (f:=f) h1
  exact ⟨_,_,value_ret l k os f h1 h2 h3,hK t.1 t.2⟩
 ·rename_i l k p n c f
  obtain ⟨⟨h1,h2,h3⟩,hK⟩:=h
  have t:=vaV_ok (n:=(n : Int)) (f:=f) h1
  exact ⟨_,_,value_ret2 l k p n c f h1 h2 h3,hK t.1 t.2⟩
 ·exact h.elim
end Go.Proofs.Ytncededjmcmidaa

namespace Go.Proofs.Ytncededjmcmidaa
set_option linter.unusedSimpArgs false
set_option linter.unusedVariables false
open Go.Abs Go.Proofs.NatL

def hdg (xs : List Int) (i : Nat) : Int:=if i % 2 = 0 then xs.getD (i / 2) 0 % 65536 else xs.getD (i / 2) 0 / 65536
def hbs (xs : List Int) : Nat → List Int
 | 0=>[]
 | i + 1=>hbs xs i ++ [hdg xs i % 256,hdg xs i / 256]
theorem hbs_len (xs : List Int) : ∀ i,(hbs xs i).length = 2 * i
 | 0=>rfl
 | i + 1=>by simp only [hbs,List.length_append,hbs_len xs i,List.length_cons,List.length_nil]; omega
theorem hdg_in {xs : List Int} (h : InB 4294967296 xs) (i : Nat) : 0 ≤ hdg xs i ∧ hdg xs i < 65536:=by
 have:=InB_getD (by omega) h (i / 2)
 unfold hdg
 split <;> omega
theorem dg_digit (N i : Nat) : (dg 65536 N).getD i 0 = ((N / 65536 ^ i % 65536 : Nat) : Int):=by
 have h:=V_digit 65536 (by omega) (dg 65536 N) (InB_dg _ (by omega) N) i
 rw [V_dg 65536 (by omega)] at h
 have:=InB_getD (by omega) (InB_dg 65536 (by omega) N) i
 omega
theorem dg_hdg {xs : List Int} (h : InB 4294967296 xs) (i : Nat) : (dg 65536 (V 4294967296 xs)).getD i 0 = hdg xs i:=by
 rw [dg_digit]
 have hv:=V_digit 4294967296 (by omega) xs h (i / 2)
 have hb:=InB_getD (by omega) h (i / 2)
 have e : (4294967296 : Nat) ^ (i / 2) = 65536 ^ (2 * (i / 2)):=by rw [Nat.pow_mul]
 rw [e] at hv
 unfold hdg
 generalize V 4294967296 xs = N at *
 generalize xs.getD (i / 2) 0 = x at *
 by_cases hi : i % 2 = 0
 ·have e2 : 2 * (i / 2) = i:=by omega
  rw [if_pos hi]
  rw [e2] at hv
  generalize N / 65536 ^ i = q at *
  omega
 ·have e2 : i = 2 * (i / 2) + 1:=by omega
  rw [if_neg hi]
  have e3 : N / 65536 ^ i = N / 65536 ^ (2 * (i / 2)) / 65536:=by
   conv=>lhs; rw [e2,Nat.pow_succ]
   rw [Nat.div_div_eq_div_mul]
  rw [e3]
  generalize N / 65536 ^ (2 * (i / 2)) = q at *
  omega
def intB (a : Bool) (xs : List Int) : List Int:=[if a then 1 else 0,(xs.length : Int) % 256] ++ hbs xs (2 * xs.length)
theorem intB_len (a : Bool) (xs : List Int) : (intB a xs).length = 2 + 4 * xs.length:=by
 simp only [intB,List.length_append,List.length_cons,List.length_nil,hbs_len]; omega
def ha4 : Cfg:=listT [(93,ofCT)] [39]
theorem ha4_ok : TblOk Try.prog ha4:=listE_ok (by simp only [List.mem_singleton,forall_eq]; exact flt) ⟨⟨rf2,rf2_ok,rfl⟩,trivial⟩
attribute [go_sem] ha4
set_option maxRecDepth 100000 in
set_option maxHeartbeats 4000000 in
theorem bytesOf_ret (a : Bool) (xs : List Int) (hx : xs.length ≤ 100) (bx : InB 4294967296 xs) : Ret Try.prog 79 false [.inr [.b a,.ints .u32 xs]] (.c (.ints .u8 (intB a xs))):=by
 have hl:=dg_len_le (B:=65536) (by omega) (V 4294967296 xs) 200 (by
  refine Nat.lt_of_lt_of_le (V_lt _ (by omega) xs bx) ?_
  rw [show (4294967296 : Nat) = 65536 ^ 2 by omega,← Nat.pow_mul]
  exact Nat.pow_le_pow_right (by omega) (by omega))
 (refine q_H Try.func79 (fun F=>?_); simp only [q_z,q_y,Try.ntmps79,Try.results79])
 repeat' (first|with_reducible refine q_0 ?_|((with_reducible first|refine q_q (loT_ok ha4_ok) fun K hK=>?_|refine q_r (loT_ok ha4_ok) fun K hK=>?_);simp (maxSteps:=2000000) only [go_sem,↓reduceIte,reduceCtorEq,Nat.reduceLeDiff,Nat.reduceLT,Nat.reduceBEq,Nat.reduceAdd];(repeat1' with_reducible first|apply And.intro|(intro _;try exact q_v)|(refine hK _ ?_;clear hK K))<;>(try (clear hK K;exact q_u)))|(with_reducible refine q_s ?_;(first|apply q_J|apply q_K|apply q_L|apply q_M|apply q_N|apply q_O)<;>try (intro _;try exact q_v)))
 all_goals first | omega | skip
 all_goals
  refine q_G (ι:={ i : Nat // i ≤ 2 * xs.length }) (fun p=>⟨45,[(1,.bx 0 0),(3,.own 1 0),(4,.c (.ints .i64 (dg 65536 (V 4294967296 xs)))),(5,.c (.i .i64 p.1))],⟨[(0,[.c (.b a),.c (.ints .u32 xs)])],[(1,⟨0,5,1,.ints .u8 ([if a then 1 else 0,(xs.length : Int) % 256] ++ hbs xs p.1)⟩)],[]⟩,2⟩) (fun p=>2 * xs.length - p.1) ⟨0,by omega⟩ ?_ ?_
  ·simp only [*,hbs,List.append_nil,if_true,if_false,Bool.false_eq_true]; exact q_D
  rintro ⟨i,g1⟩
  simp only at g1 ⊢
  have b1:=hdg_in bx i
  have b2:=dg_hdg bx i
  have b3 : (dg 65536 (V 4294967296 xs)).length ≤ i → hdg xs i = 0:=fun h=>by rw [← b2]; exact getD_ge _ _ h
  have b4:=hbs_len xs i
  have b5 : hbs xs (i + 1) = hbs xs i ++ [hdg xs i % 256,hdg xs i / 256]:=rfl
  generalize hh : hdg xs i = h at *
  have e1 : h.tmod 256 % 256 = h % 256:=by rw [Int.tmod_eq_emod_of_nonneg b1.1]; omega
  have e2 : h.tdiv 256 % 256 = h / 256:=by rw [Int.tdiv_eq_ediv_of_nonneg b1.1]; omega
  repeat' (first|with_reducible refine q_0 ?_|((with_reducible first|refine q_q (loT_ok ha4_ok) fun K hK=>?_|refine q_r (loT_ok ha4_ok) fun K hK=>?_);simp (maxSteps:=2000000) only [go_sem,↓reduceIte,reduceCtorEq,Nat.reduceLeDiff,Nat.reduceLT,Nat.reduceBEq,Nat.reduceAdd,b2,b4,e1,e2];(repeat1' with_reducible first|apply And.intro|(intro _;try exact q_v)|(refine hK _ ?_;clear hK K))<;>(try (clear hK K;exact q_u)))|(with_reducible refine q_s ?_;(first|apply q_J|apply q_K|apply q_L|apply q_M|apply q_N|apply q_O)<;>try (intro _;try exact q_v)))
  all_goals first | omega | skip
  ·refine q_F ⟨i + 1,by omega⟩ ?_ ?_
   ·simp only [b5]; exact q_D
   ·show 2 * xs.length - (i + 1) < 2 * xs.length - i
    omega
  ·obtain rfl:=b3 (by omega)
   refine q_F ⟨i + 1,by omega⟩ ?_ ?_
   ·simp only [b5]; exact q_D
   ·show 2 * xs.length - (i + 1) < 2 * xs.length - i
    omega
  ·obtain rfl : i = 2 * xs.length:=by omega
   exact q_A rfl
theorem strB_len (t : ByteArray) : (bytesOf t).length = t.size:=by simp [bytesOf]
def txtB (k : Int) (t : ByteArray) : List Int:=[k,(t.size : Int) % 256,(t.size : Int) / 256] ++ bytesOf t
set_option maxRecDepth 100000 in
set_option maxHeartbeats 4000000 in
theorem named_ret (k : Int) (t : ByteArray) (hk : 0 ≤ k ∧ k < 256) (ht : t.size ≤ 60000) : Ret Try.prog 80 false [.inl (.i .u8 k),.inl (.str t)] (.c (.ints .u8 (txtB k t))):=by
 have e1 : (t.size : Int).tmod 256 % 256 = (t.size : Int) % 256:=by rw [Int.tmod_eq_emod_of_nonneg (by omega)]; omega
 have e2 : (t.size : Int).tdiv 256 % 256 = (t.size : Int) / 256:=by rw [Int.tdiv_eq_ediv_of_nonneg (by omega)]; omega
 have e3:=strB_len t
 (refine q_H Try.func80 (fun F=>?_); simp only [q_z,q_y,Try.ntmps80,Try.results80])
 repeat' (first|with_reducible refine q_0 ?_|((with_reducible first|refine q_q (loT_ok ha4_ok) fun K hK=>?_|refine q_r (loT_ok ha4_ok) fun K hK=>?_);simp (maxSteps:=2000000) only [go_sem,↓reduceIte,reduceCtorEq,Nat.reduceLeDiff,Nat.reduceLT,Nat.reduceBEq,Nat.reduceAdd,e1,e2,e3];(repeat1' with_reducible first|apply And.intro|(intro _;try exact q_v)|(refine hK _ ?_;clear hK K))<;>(try (clear hK K;exact q_u)))|(with_reducible refine q_s ?_;(first|apply q_J|apply q_K|apply q_L|apply q_M|apply q_N|apply q_O)<;>try (intro _;try exact q_v)))
 all_goals first | omega | (unfold maxLen; omega) | exact q_A rfl | skip
def plB (v : Vl) : List Int:=if v.k = 0 then [0] else if v.k = 1 then [1,v.r % 256] else if v.k = 2 then 2 :: intB v.a v.x else if v.k = 3 then 3 :: (intB v.a v.x ++ intB v.b v.y) else if v.k = 4 then txtB 4 v.t else if v.k = 5 then txtB 5 v.t else if v.k = 7 then txtB 8 v.t else [9]
abbrev nInt : Option C ⊕ List (Option C):=.inr [none,some (.ints .u32 [])]
def bytesOfCT : CT:=mkCT [nInt] false fun l K=>match l with
 | [.inr [.b a,.ints .u32 xs]]=>(xs.length ≤ 100 ∧ InB 4294967296 xs) ∧ ((hbs xs (2 * xs.length)).length = 4 * xs.length → K (.c (.ints .u8 ((if a then 1 else 0) :: ((xs.length : Int) % 256) :: hbs xs (2 * xs.length)))))
 | _=>False
def h7a : Cfg:=addT 79 bytesOfCT cf0
theorem h7a_ok : TblOk Try.prog h7a:=q_I cf0_ok Try.func79 fun l K h=>by
 split at h
 ·exact ⟨_,bytesOf_ret _ _ h.1.1 h.1.2,h.2 (by rw [hbs_len]; omega)⟩
 ·exact h.elim
def namedCT : CT:=mkCT [] false fun l K=>match l with
 | [.inl (.i .u8 k),.inl (.str t)]=>((0 ≤ k ∧ k < 256) ∧ t.size ≤ 60000) ∧ K (.c (.ints .u8 (txtB k t)))
 | _=>False
def h7b : Cfg:=addT 80 namedCT cf0
theorem h7b_ok : TblOk Try.prog h7b:=q_I cf0_ok Try.func80 fun l K h=>by
 split at h
 ·exact ⟨_,named_ret _ _ h.1.1 h.1.2,h.2⟩
 ·exact h.elim
attribute [go_sem] bytesOfCT namedCT
def OkP (v : Vl) : Prop:=(v.x.length ≤ 50 ∧ InB 4294967296 v.x) ∧ (v.y.length ≤ 50 ∧ InB 4294967296 v.y) ∧ v.t.size ≤ 60000 ∧ 0 ≤ v.k ∧ v.k ≤ 9
def ha5 : Cfg:=listT [(79,bytesOfCT),(80,namedCT)] [39]
theorem ha5_ok : TblOk Try.prog ha5:=listE_ok (by simp only [List.mem_singleton,forall_eq]; exact flt) ⟨⟨h7a,h7a_ok,rfl⟩,⟨h7b,h7b_ok,rfl⟩,trivial⟩
attribute [go_sem] ha5
set_option maxRecDepth 100000 in
set_option maxHeartbeats 4000000 in
theorem plain_ret (k : Int) (a : Bool) (x : List Int) (b : Bool) (y : List Int) (t : ByteArray) (r : Int) (h : OkP ⟨k,a,x,b,y,t,r⟩) : Ret Try.prog 49 false [.inr (vC ⟨k,a,x,b,y,t,r⟩)] (.c (.ints .u8 (plB ⟨k,a,x,b,y,t,r⟩))):=by
 obtain ⟨h1,h2,h3,_⟩:=h
 simp only at h1 h2 h3
 unfold vC
 (refine q_H Try.func49 (fun F=>?_); simp only [q_z,q_y,Try.ntmps49,Try.results49])
 repeat' (first|with_reducible refine q_0 ?_|((with_reducible first|refine q_q (lvT_ok ha5_ok) fun K hK=>?_|refine q_r (lvT_ok ha5_ok) fun K hK=>?_);simp (maxSteps:=2000000) only [go_sem,↓reduceIte,reduceCtorEq,Nat.reduceLeDiff,Nat.reduceLT,Nat.reduceBEq,Nat.reduceAdd];(repeat1' with_reducible first|apply And.intro|(intro _;try exact q_v)|(refine hK _ ?_;clear hK K))<;>(try (clear hK K;exact q_u)))|(with_reducible refine q_s ?_;(first|apply q_J|apply q_K|apply q_L|apply q_M|apply q_N|apply q_O)<;>try (intro _;try exact q_v)))
 all_goals first | omega | exact h1.2 | exact h2.2 | exact q_A (by simp [resAV,q_y,plB,intB, *]) | skip
def plainCT : CT:=mkCT [nVal] false fun l K=>match l with
 | [.inr [.i .i64 k,.b a,.ints .u32 x,.b b,.ints .u32 y,.str t,.i .i64 r]]=>OkP ⟨k,a,x,b,y,t,r⟩ ∧ K (.c (.ints .u8 (plB ⟨k,a,x,b,y,t,r⟩)))
 | _=>False
def h7c : Cfg:=addT 49 plainCT cf0
theorem h7c_ok : TblOk Try.prog h7c:=q_I cf0_ok Try.func49 fun l K h=>by
 split at h
 ·exact ⟨_,plain_ret _ _ _ _ _ _ _ h.1,h.2⟩
 ·exact h.elim
attribute [go_sem] plainCT
theorem plB_len (v : Vl) (h : OkP v) : (plB v).length ≤ 60003:=by
 obtain ⟨⟨h1,_⟩,⟨h2,_⟩,h3,_⟩:=h
 have e1:=intB_len v.a v.x
 have e2:=intB_len v.b v.y
 have e3:=strB_len v.t
 unfold plB
 repeat' split
 all_goals simp only [List.length_cons,List.length_nil,List.length_append,txtB,e3,e1,e2]
 all_goals omega
end Go.Proofs.Ytncededjmcmidaa

namespace Go.Proofs.Ytncededjmcmidaa
set_option linter.unusedSimpArgs false
set_option linter.unusedVariables false
open Go.Abs Go.Proofs.NatL

structure Ob where
 k : Int
 nm : ByteArray
 cl : Int
 rf : List Int
 od : List Int
 raw : Option Value
 it : List Vl
 ks : List Vl
def itC (o : Ob) : C:=match o.raw with | some v=>.a v | none=>.sl 7 (o.it.map vC)
def obC (o : Ob) : List C:=[.i .i64 o.k,.str o.nm,.i .i64 o.cl,.ints .i64 o.rf,.ints .i64 o.od,.sl 1 [],itC o,.sl 7 (o.ks.map vC),.i .i64 0,.i .i64 0]
def ob0 : Ob:=⟨0,ByteArray.empty,0,[],[],none,[],[]⟩
def OkW (n : Nat) (v : Vl) : Prop:=OkP v ∧ (v.k = 6 → 0 ≤ v.r ∧ v.r < n)
def HOk (os : List Ob) : Prop:=os.length ≤ 1000 ∧ ∀ o ∈ os,o.k = 1 → o.raw = none ∧ o.it.length ≤ 1000 ∧ ∀ v ∈ o.it,OkW os.length v
def refB (r : Int) : List Int:=[7,r % 256,r / 256 % 256,r / 65536 % 256,r / 65536 / 256 % 256]
def keyG (os : List Ob) : Nat → List Vl → List Int → List Int × Int × Int
  | _, [], out => (out, 0, 0)
  | 0, _ :: _, _ => ([], 14, -2)
  | p + 1, x :: t, out =>
    if x.k = 9 then ([], 27, -2) else if x.k = 6 then
      (let o := os.getD x.r.toNat ob0
       if o.k = 2 ∨ o.k = 3 ∨ o.k = 4 ∨ o.k = 5 then ([], 27, x.r)
       else if o.k = 1 then keyG os p (o.it ++ t) (out ++ [6, (o.it.length : Int) % 256, (o.it.length : Int) / 256])
       else keyG os p t (out ++ refB x.r))
    else keyG os p t (out ++ plB x)
theorem obC_at (os : List Ob) {r : Int} (h : 0 ≤ r ∧ r < os.length) : (os.map obC).getD r.toNat [] = obC (os.getD r.toNat ob0):=by
 have hl : r.toNat < os.length:=by omega
 simp [List.getD_eq_getElem?_getD,List.getElem?_eq_getElem hl]
theorem ob_mem (os : List Ob) {r : Int} (h : 0 ≤ r ∧ r < os.length) : os.getD r.toNat ob0 ∈ os:=by
 have hl : r.toNat < os.length:=by omega
 simp [List.getD_eq_getElem?_getD,List.getElem?_eq_getElem hl]
def ha6 : Cfg:=listT [(25,atCT),(49,plainCT)] [39]
theorem ha6_ok : TblOk Try.prog ha6:=listE_ok (by simp only [List.mem_singleton,forall_eq]; exact flt) ⟨⟨cf2,cf2_ok,rfl⟩,⟨h7c,h7c_ok,rfl⟩,trivial⟩
attribute [go_sem] ha6
set_option maxRecDepth 100000 in
set_option maxHeartbeats 8000000 in
theorem key_ret (os : List Ob) (v : Vl) (ho : HOk os) (hv : OkW os.length v) : Ret Try.prog 17 false [.inr [.sl 10 (os.map obC)],.inr (vC v)] (.t [.inl (.ints .u8 (keyG os 1000 [v] []).1),.inr [.i .i64 (keyG os 1000 [v] []).2.1,.i .i64 (keyG os 1000 [v] []).2.2]]):=by
 obtain ⟨ho1,ho2⟩:=ho
 generalize hR : keyG os 1000 [v] [] = R
 (refine q_H Try.func17 (fun F=>?_); simp only [q_z,q_y,Try.ntmps17,Try.results17])
 simp only [vC]
 repeat' (first|with_reducible refine q_0 ?_|((with_reducible first|refine q_q ha6_ok fun K hK=>?_|refine q_r ha6_ok fun K hK=>?_);simp (maxSteps:=2000000) only [go_sem,↓reduceIte,reduceCtorEq,Nat.reduceLeDiff,Nat.reduceLT,Nat.reduceBEq,Nat.reduceAdd];(repeat1' with_reducible first|apply And.intro|(intro _;try exact q_v)|(refine hK _ ?_;clear hK K))<;>(try (clear hK K;exact q_u)))|(with_reducible refine q_s ?_;(first|apply q_J|apply q_K|apply q_L|apply q_M|apply q_N|apply q_O)<;>try (intro _;try exact q_v)))
 all_goals first | omega | skip
 refine q_G (ι:={ p : Nat × List Vl × List Int // p.1 ≤ 1000 ∧ (∀ x ∈ p.2.1,OkW os.length x) ∧ p.2.1.length ≤ 1 + p.1 * 1000 ∧ p.2.2.length ≤ p.1 * 60003 ∧ keyG os (1000 - p.1) p.2.1 p.2.2 = R }) (fun p=>⟨96,[(2,.bx 0 0),(5,.bx 2 0),(6,.c (.sl 7 (p.1.2.1.map vC))),(7,.own 5 0),(8,.c (.i .i64 p.1.1))],⟨[(0,[.c (.sl 10 (os.map obC))]),(2,[.c (.i .i64 0),.c (.i .i64 0)])],[(5,⟨0,5,1,.ints .u8 p.1.2.2⟩)],[]⟩,6⟩) (fun p=>1000 - p.1.1 + 1) ⟨(0,[v],[]),by simp,by simpa using hv,by simp,by simp,hR⟩ ?_ ?_
 ·simp only [List.map_cons,List.map_nil,vC]; exact q_D
 rintro ⟨⟨i,td,out⟩,g1,g2,g3,g4,g5⟩
 simp only at g1 g2 g3 g4 g5 ⊢
 have g6 : (td.map vC).length = td.length:=List.length_map ..
 cases td with
 | nil =>
  rw [show keyG os (1000 - i) [] out = (out,0,0) by cases 1000 - i <;> rfl] at g5
  subst g5
  repeat' (first|with_reducible refine q_0 ?_|((with_reducible first|refine q_q ha6_ok fun K hK=>?_|refine q_r ha6_ok fun K hK=>?_);simp (maxSteps:=2000000) only [go_sem,↓reduceIte,reduceCtorEq,Nat.reduceLeDiff,Nat.reduceLT,Nat.reduceBEq,Nat.reduceAdd];(repeat1' with_reducible first|apply And.intro|(intro _;try exact q_v)|(refine hK _ ?_;clear hK K))<;>(try (clear hK K;exact q_u)))|(with_reducible refine q_s ?_;(first|apply q_J|apply q_K|apply q_L|apply q_M|apply q_N|apply q_O)<;>try (intro _;try exact q_v)))
  all_goals first | omega | exact q_A rfl | skip
 | cons x t =>
  have hx:=g2 x (List.mem_cons_self ..)
  have ht : ∀ y ∈ t,OkW os.length y:=fun y hy=>g2 y (List.mem_cons_of_mem _ hy)
  obtain ⟨k,a,xs,b,ys,tx,r⟩:=x
  obtain ⟨hx1,hx2⟩:=hx
  have hbl:=plB_len _ hx1
  have htk : List.take t.length (List.map vC t) = List.map vC t:=List.take_of_length_le (by simp)
  have hd1 : ∀ (y : List C) (l : List (List C)),List.drop (Int.toNat 1) (y :: l) = l:=fun _ _=>rfl
  simp only [List.map_cons,List.length_cons,vC] at g1 g3 g4 g6 hx2 ⊢
  by_cases hi : i = 1000
  ·subst hi
   obtain rfl : R = ([],14, -2):=g5.symm
   repeat' (first|with_reducible refine q_0 ?_|((with_reducible first|refine q_q ha6_ok fun K hK=>?_|refine q_r ha6_ok fun K hK=>?_);simp (maxSteps:=2000000) only [go_sem,↓reduceIte,reduceCtorEq,Nat.reduceLeDiff,Nat.reduceLT,Nat.reduceBEq,Nat.reduceAdd,hd1,List.getD_cons_zero];(repeat1' with_reducible first|apply And.intro|(intro _;try exact q_v)|(refine hK _ ?_;clear hK K))<;>(try (clear hK K;exact q_u)))|(with_reducible refine q_s ?_;(first|apply q_J|apply q_K|apply q_L|apply q_M|apply q_N|apply q_O)<;>try (intro _;try exact q_v)))
   all_goals first | omega | exact q_B [.inl (some (.ints .u8 [])),.inr []] rfl rfl | skip
  obtain ⟨p,hp⟩ : ∃ p,1000 - i = p + 1:=⟨999 - i,by omega⟩
  have hp2 : 1000 - (i + 1) = p:=by omega
  rw [hp] at g5
  by_cases h9 : k = 9
  ·subst h9
   obtain rfl : R = ([],27, -2):=by rw [← g5]; simp [keyG]
   repeat' (first|with_reducible refine q_0 ?_|((with_reducible first|refine q_q ha6_ok fun K hK=>?_|refine q_r ha6_ok fun K hK=>?_);simp (maxSteps:=2000000) only [go_sem,↓reduceIte,reduceCtorEq,Nat.reduceLeDiff,Nat.reduceLT,Nat.reduceBEq,Nat.reduceAdd,hd1,List.getD_cons_zero];(repeat1' with_reducible first|apply And.intro|(intro _;try exact q_v)|(refine hK _ ?_;clear hK K))<;>(try (clear hK K;exact q_u)))|(with_reducible refine q_s ?_;(first|apply q_J|apply q_K|apply q_L|apply q_M|apply q_N|apply q_O)<;>try (intro _;try exact q_v)))
   all_goals first | omega | exact q_B [.inl (some (.ints .u8 [])),.inr []] rfl rfl | skip
  by_cases h6 : k = 6
  ·subst h6
   obtain ⟨r0,r1⟩:=hx2 rfl
   have hat:=obC_at os ⟨r0,r1⟩
   have hmem:=ob_mem os ⟨r0,r1⟩
   simp only [keyG] at g5
   generalize os.getD r.toNat ob0 = o at *
   obtain ⟨ok,onm,ocl,orf,ood,oraw,oit,oks⟩:=o
   have hT:=ho2 _ hmem
   simp only [obC,itC] at hat hT g5
   by_cases h1 : ok = 1
   ·obtain ⟨hT1,hT2,hT3⟩:=hT h1
    subst hT1; subst h1
    simp only at hat
    have m1 : ((oit.length : Nat) : Int).tmod 256 = (oit.length : Int) % 256:=Int.tmod_eq_emod_of_nonneg (by omega)
    have m2 : ((oit.length : Nat) : Int).tdiv 256 = (oit.length : Int) / 256:=Int.tdiv_eq_ediv_of_nonneg (by omega)
    have m3 : (oit.length : Int) % 256 % 256 = (oit.length : Int) % 256:=by omega
    have m4 : (oit.length : Int) / 256 % 256 = (oit.length : Int) / 256:=by omega
    simp only [show ¬ ((6 : Int) = 9) by omega,show ¬ ((1 : Int) = 2 ∨ (1 : Int) = 3 ∨ (1 : Int) = 4 ∨ (1 : Int) = 5) by omega,if_false,if_true] at g5
    repeat' (first|with_reducible refine q_0 ?_|((with_reducible first|refine q_q ha6_ok fun K hK=>?_|refine q_r ha6_ok fun K hK=>?_);simp (maxSteps:=2000000) only [go_sem,↓reduceIte,reduceCtorEq,Nat.reduceLeDiff,Nat.reduceLT,Nat.reduceBEq,Nat.reduceAdd,hd1,List.getD_cons_zero,hat,htk,List.length_map,m1,m2,m3,m4];(repeat1' with_reducible first|apply And.intro|(intro _;try exact q_v)|(refine hK _ ?_;clear hK K))<;>(try (clear hK K;exact q_u)))|(with_reducible refine q_s ?_;(first|apply q_J|apply q_K|apply q_L|apply q_M|apply q_N|apply q_O)<;>try (intro _;try exact q_v)))
    all_goals first | omega | skip
    refine q_F ⟨(i + 1,oit ++ t,out ++ [6,(oit.length : Int) % 256,(oit.length : Int) / 256]),by simp only; omega,fun y hy=>(List.mem_append.1 hy).elim (hT3 y) (ht y),by simp only [List.length_append]; omega,by simp only [List.length_append,List.length_cons,List.length_nil]; omega,by simp only [hp2]; exact g5⟩ ?_ ?_
    ·simp only [List.map_append]; exact q_D
    ·show 1000 - (i + 1) + 1 < 1000 - i + 1
     omega
   ·simp only [if_neg h1,show ¬ ((6 : Int) = 9) by omega,if_false,if_true] at g5
    have d1 : r.tdiv 256 = r / 256:=Int.tdiv_eq_ediv_of_nonneg r0
    have d2 : r.tdiv 65536 = r / 65536:=Int.tdiv_eq_ediv_of_nonneg r0
    have d3 : (r / 65536).tdiv 256 = r / 65536 / 256:=Int.tdiv_eq_ediv_of_nonneg (by omega)
    repeat' (first|with_reducible refine q_0 ?_|((with_reducible first|refine q_q ha6_ok fun K hK=>?_|refine q_r ha6_ok fun K hK=>?_);simp (maxSteps:=2000000) only [go_sem,↓reduceIte,reduceCtorEq,Nat.reduceLeDiff,Nat.reduceLT,Nat.reduceBEq,Nat.reduceAdd,hd1,List.getD_cons_zero,hat,htk,List.length_map,d1,d2,d3];(repeat1' with_reducible first|apply And.intro|(intro _;try exact q_v)|(refine hK _ ?_;clear hK K))<;>(try (clear hK K;exact q_u)))|(with_reducible refine q_s ?_;(first|apply q_J|apply q_K|apply q_L|apply q_M|apply q_N|apply q_O)<;>try (intro _;try exact q_v)))
    all_goals first | omega | contradiction | ((obtain rfl : R = ([],27,r):=by rw [← g5]; simp [*]); exact q_B [.inl (some (.ints .u8 [])),.inr []] rfl rfl) | skip
    rw [if_neg (by omega)] at g5
    refine q_F ⟨(i + 1,t,out ++ refB r),by simp only; omega,ht,by simp only; omega,by simp only [List.length_append,refB,List.length_cons,List.length_nil]; omega,by simp only [hp2]; exact g5⟩ ?_ ?_
    ·simp only [refB]; exact q_D
    ·show 1000 - (i + 1) + 1 < 1000 - i + 1
     omega
  ·simp only [keyG,if_neg h9,if_neg h6] at g5
   repeat' (first|with_reducible refine q_0 ?_|((with_reducible first|refine q_q ha6_ok fun K hK=>?_|refine q_r ha6_ok fun K hK=>?_);simp (maxSteps:=2000000) only [go_sem,↓reduceIte,reduceCtorEq,Nat.reduceLeDiff,Nat.reduceLT,Nat.reduceBEq,Nat.reduceAdd,hd1,List.getD_cons_zero,htk,List.length_map];(repeat1' with_reducible first|apply And.intro|(intro _;try exact q_v)|(refine hK _ ?_;clear hK K))<;>(try (clear hK K;exact q_u)))|(with_reducible refine q_s ?_;(first|apply q_J|apply q_K|apply q_L|apply q_M|apply q_N|apply q_O)<;>try (intro _;try exact q_v)))
   all_goals first | omega | contradiction | skip
   refine q_F ⟨(i + 1,t,out ++ plB ⟨k,a,xs,b,ys,tx,r⟩),by simp only; omega,ht,by simp only; omega,by simp only [List.length_append]; omega,by simp only [hp2]; exact g5⟩ ?_ ?_
   ·exact q_D
   ·show 1000 - (i + 1) + 1 < 1000 - i + 1
    omega
def keyF (os : List Ob) (v : Vl) : List Int × Int × Int:=keyG os 1000 [v] []
end Go.Proofs.Ytncededjmcmidaa

namespace Go.Proofs.Ytncededjmcmidaa
set_option linter.unusedSimpArgs false
set_option linter.unusedVariables false
open Go.Abs Go.Proofs.NatL

def deV : List C → Vl
 | [.i _ k,.b a,.ints _ x,.b b,.ints _ y,.str t,.i _ r]=>⟨k,a,x,b,y,t,r⟩
 | _=>refV 0
def deO : List C → Ob
 | [.i _ k,.str n,.i _ c,.ints _ rf,.ints _ od,_,.a v,.sl _ ks,_,_]=>⟨k,n,c,rf,od,some v,[],ks.map deV⟩
 | [.i _ k,.str n,.i _ c,.ints _ rf,.ints _ od,_,.sl _ it,.sl _ ks,_,_]=>⟨k,n,c,rf,od,none,it.map deV,ks.map deV⟩
 | _=>ob0
def Pr (o : Ob) : Prop:=o.raw = none ∨ o.it = []
def dV (l : List (List C)) : List Vl:=l.map deV
def dO (l : List (List C)) : List Ob:=l.map deO
theorem deV_vC (v : Vl) : deV (vC v) = v:=rfl
theorem dV_map (l : List Vl) : dV (l.map vC) = l:=by
 unfold dV
 rw [List.map_map]
 exact List.map_id'' deV_vC l
theorem deO_obC {o : Ob} (h : Pr o) : deO (obC o) = o:=by
 obtain ⟨k,n,c,rf,od,raw,it,ks⟩:=o
 have h1:=dV_map it
 have h2:=dV_map ks
 unfold dV at h1 h2
 cases raw with
 | none=>simp only [obC,itC,deO,h1,h2]
 | some v =>
  rcases h with h | h
  ·cases h
  ·simp only at h; subst h; simp only [obC,itC,deO,h2]
theorem dO_map {l : List Ob} (h : ∀ o ∈ l,Pr o) : dO (l.map obC) = l:=by
 unfold dO
 rw [List.map_map]
 conv=>rhs; rw [← List.map_id l]
 exact List.map_congr_left fun o ho=>deO_obC (h o ho)
theorem hbs_in {xs : List Int} (h : InB 4294967296 xs) : ∀ i,InB 256 (hbs xs i)
 | 0=>inB_nil _
 | i + 1=>by
  have:=hdg_in h i
  exact InB_app (hbs_in h i) (InB_two (by omega) (by omega))
theorem intB_in (a : Bool) {xs : List Int} (h : InB 4294967296 xs) : InB 256 (intB a xs):=by
 refine InB_app (InB_two ?_ (by omega)) (hbs_in h _)
 cases a <;> simp
theorem inB_cons {B : Nat} {x : Int} {xs : List Int} (h : 0 ≤ x ∧ x < B) (hx : InB B xs) : InB B (x :: xs):=fun z hz=>by
 rcases List.mem_cons.1 hz with rfl | hz
 ·exact h
 ·exact hx z hz
theorem bytesOf_in (t : ByteArray) : InB 256 (bytesOf t):=fun x hx=>by
 unfold bytesOf at hx
 obtain ⟨b,_,rfl⟩:=List.mem_map.1 hx
 have:=b.toNat_lt
 omega
theorem txtB_in {k : Int} (hk : 0 ≤ k ∧ k < 256) {t : ByteArray} (h : t.size ≤ 60000) : InB 256 (txtB k t) :=
 InB_app (inB_cons hk (InB_two (by omega) (by omega))) (bytesOf_in t)
theorem plB_in {v : Vl} (h : OkP v) : InB 256 (plB v):=by
 obtain ⟨⟨h1,h2⟩,⟨h3,h4⟩,h5,_⟩:=h
 have b:=inB_nil 256
 unfold plB
 repeat' split
 ·exact inB_cons (by omega) b
 ·exact InB_two (by omega) (by omega)
 ·exact inB_cons (by omega) (intB_in _ h2)
 ·exact inB_cons (by omega) (InB_app (intB_in _ h2) (intB_in _ h4))
 ·exact txtB_in (by omega) h5
 ·exact txtB_in (by omega) h5
 ·exact txtB_in (by omega) h5
 ·exact inB_cons (by omega) b
theorem keyG_in {os : List Ob} (ho : HOk os) : ∀ (p : Nat) (td : List Vl) (out : List Int),(∀ x ∈ td,OkW os.length x) → InB 256 out → InB 256 (keyG os p td out).1 ∧ (keyG os p td out).1.length ≤ out.length + p * 60003
 | p,[],out,_,h=>by cases p <;> exact ⟨h,by simp [keyG]⟩
 | 0,_ :: _,out,_,_=>⟨inB_nil _,by simp [keyG]⟩
 | p + 1,x :: t,out,ht,h=>by
  have hx:=ht x (List.mem_cons_self ..)
  have ht' : ∀ y ∈ t,OkW os.length y:=fun y hy=>ht y (List.mem_cons_of_mem _ hy)
  have hb:=plB_len x hx.1
  unfold keyG
  split
  ·exact ⟨inB_nil _,by simp⟩
  split
  ·rename_i h6
   have hr:=hx.2 h6
   have hmem:=ob_mem os hr
   have hT:=ho.2 _ hmem
   simp only
   generalize os.getD x.r.toNat ob0 = o at *
   split
   ·exact ⟨inB_nil _,by simp⟩
   split
   ·rename_i h1
    obtain ⟨_,hT2,hT3⟩:=hT h1
    have:=keyG_in ho p (o.it ++ t) (out ++ [6,(o.it.length : Int) % 256,(o.it.length : Int) / 256]) (fun y hy=>(List.mem_append.1 hy).elim (hT3 y) (ht' y)) (InB_app h (inB_cons (by omega) (InB_two (by omega) (by omega))))
    refine ⟨this.1,?_⟩
    have h2:=this.2
    simp only [List.length_append,List.length_cons,List.length_nil] at h2
    omega
   ·have:=keyG_in ho p t (out ++ refB x.r) ht' (InB_app h (inB_cons (by omega) (inB_cons (by omega) (inB_cons (by omega) (InB_two (by omega) (by omega))))))
    refine ⟨this.1,?_⟩
    have h2:=this.2
    have hrl : (refB x.r).length = 5:=rfl
    simp only [List.length_append,hrl] at h2
    omega
  ·have:=keyG_in ho p t (out ++ plB x) ht' (InB_app h (plB_in hx.1))
   refine ⟨this.1,?_⟩
   have h2:=this.2
   simp only [List.length_append] at h2
   omega
theorem keyF_in {os : List Ob} {v : Vl} (ho : HOk os) (hv : OkW os.length v) : InB 256 (keyF os v).1 ∧ (keyF os v).1.length ≤ 60003000:=by
 have:=keyG_in ho 1000 [v] [] (by simpa using hv) (inB_nil _)
 exact ⟨this.1,by have:=this.2; simp at this; exact this⟩
def keyCT : CT:=mkCT [] false fun l K=>match l with
 | [.inr [.sl 10 rows],.inr [.i .i64 k,.b a,.ints .u32 x,.b b,.ints .u32 y,.str t,.i .i64 r]]=>(rows = (dO rows).map obC ∧ HOk (dO rows) ∧ OkW (dO rows).length ⟨k,a,x,b,y,t,r⟩) ∧ K (.t [.inl (.ints .u8 (keyF (dO rows) ⟨k,a,x,b,y,t,r⟩).1),.inr [.i .i64 (keyF (dO rows) ⟨k,a,x,b,y,t,r⟩).2.1,.i .i64 (keyF (dO rows) ⟨k,a,x,b,y,t,r⟩).2.2]])
 | _=>False
def h9a : Cfg:=addT 17 keyCT ha6
theorem h9a_ok : TblOk Try.prog h9a:=q_I ha6_ok Try.func17 fun l K h=>by
 split at h
 ·rename_i rows k a x b y t r
  obtain ⟨⟨h1,h2,h3⟩,hK⟩:=h
  refine ⟨_,?_,hK⟩
  have:=key_ret (dO rows) ⟨k,a,x,b,y,t,r⟩ h2 h3
  rw [← h1] at this
  exact this
 ·exact h.elim
attribute [go_sem] keyCT
def posF (os : List Ob) (c : List Int) : List Vl → Nat → Int
 | [],_ => -1
 | k :: t,i=>if (keyF os k).1 = c then i else posF os c t (i + 1)
def plO (os : List Ob) (ks : List Vl) (v : Vl) : Int × Int × Int:=if (keyF os v).2.1 = 0 then (posF os (keyF os v).1 ks 0,0,0) else (0,(keyF os v).2.1,(keyF os v).2.2)
theorem bytes_strOf : ∀ xs : List Int,InB 256 xs → bytesOf (strOf xs) = xs:=by
 intro xs hx
 have go : ∀ (xs : List Int) (r : ByteArray),InB 256 xs → bytesOf (xs.foldl (fun r n=>r.push (UInt8.ofNat n.toNat)) r) = bytesOf r ++ xs:=by
  intro xs
  induction xs with
  | nil=>intro r _; simp
  | cons x xs ih =>
   intro r h
   have hx:=h x (List.mem_cons_self ..)
   rw [List.foldl_cons,ih _ fun y hy=>h y (List.mem_cons_of_mem _ hy)]
   unfold bytesOf
   simp only [ByteArray.push,Array.toList_push,List.map_append,List.map_cons,List.map_nil,List.append_assoc,List.cons_append,List.nil_append]
   congr 2
   simp only [UInt8.toNat_ofNat']
   omega
 unfold strOf
 rw [go xs _ hx]
 rfl
theorem strOf_cmp {a b : List Int} (ha : InB 256 a) (hb : InB 256 b) : ((strOf a).toList == (strOf b).toList) = decide (a = b):=by
 rw [str_eq,bytes_strOf a ha,bytes_strOf b hb]
theorem posF_skip {os : List Ob} {c : List Int} {ks : List Vl} {i : Nat} (hi : i < ks.length) : posF os c (ks.drop i) i = if (keyF os (ks.getD i (refV 0))).1 = c then (i : Int) else posF os c (ks.drop (i + 1)) (i + 1):=by
 rw [List.drop_eq_getElem_cons hi]
 simp only [posF,List.getD_eq_getElem?_getD,List.getElem?_eq_getElem hi,Option.getD_some]
theorem vC_at (ks : List Vl) {i : Nat} (h : i < ks.length) : (ks.map vC).getD i [] = vC (ks.getD i (refV 0)):=by
 simp [List.getD_eq_getElem?_getD,List.getElem?_eq_getElem h]
theorem v_mem (ks : List Vl) {i : Nat} (h : i < ks.length) : ks.getD i (refV 0) ∈ ks:=by
 simp [List.getD_eq_getElem?_getD,List.getElem?_eq_getElem h]
def ha7 : Cfg:=listT [(17,keyCT)] [39]
theorem ha7_ok : TblOk Try.prog ha7:=listE_ok (by simp only [List.mem_singleton,forall_eq]; exact flt) ⟨⟨h9a,h9a_ok,rfl⟩,trivial⟩
attribute [go_sem] ha7
set_option maxRecDepth 100000 in
set_option maxHeartbeats 8000000 in
theorem placeOf_ret (os : List Ob) (ks : List Vl) (v : Vl) (hp : ∀ o ∈ os,Pr o) (ho : HOk os) (hk : ks.length ≤ 100000 ∧ ∀ x ∈ ks,OkW os.length x) (hv : OkW os.length v) : Ret Try.prog 26 false [.inr [.sl 10 (os.map obC)],.inl (.sl 7 (ks.map vC)),.inr (vC v)] (.t [.inl (.i .i64 (plO os ks v).1),.inr [.i .i64 (plO os ks v).2.1,.i .i64 (plO os ks v).2.2]]):=by
 have hd:=dO_map hp
 have hc:=keyF_in ho hv
 unfold plO
 obtain ⟨k,a,xs,b,ys,tx,r⟩:=v
 generalize hKF : keyF os ⟨k,a,xs,b,ys,tx,r⟩ = R at *
 obtain ⟨c,cd,ix⟩:=R
 simp only at hc
 obtain ⟨hk1,hk2⟩:=hk
 (refine q_H Try.func26 (fun F=>?_); simp only [q_z,q_y,Try.ntmps26,Try.results26])
 simp only [vC]
 by_cases h0 : cd = 0
 ·subst h0
  rw [if_pos rfl]
  repeat' (first|with_reducible refine q_0 ?_|((with_reducible first|refine q_q ha7_ok fun K hK=>?_|refine q_r ha7_ok fun K hK=>?_);simp (maxSteps:=2000000) only [go_sem,↓reduceIte,reduceCtorEq,Nat.reduceLeDiff,Nat.reduceLT,Nat.reduceBEq,Nat.reduceAdd,hd,hKF];(repeat1' with_reducible first|apply And.intro|(intro _;try exact q_v)|(refine hK _ ?_;clear hK K))<;>(try (clear hK K;exact q_u)))|(with_reducible refine q_s ?_;(first|apply q_J|apply q_K|apply q_L|apply q_M|apply q_N|apply q_O)<;>try (intro _;try exact q_v)))
  all_goals first | omega | skip
  refine q_G (ι:={ i : Nat // i ≤ ks.length ∧ posF os c (ks.drop i) i = posF os c ks 0 }) (fun p=>⟨46,[(1,.c (.sl 7 (ks.map vC))),(3,.bx 0 0),(7,.bx 2 0),(8,.c (.ints .u8 c)),(10,.c (.i .i64 p.1))],⟨[(0,[.c (.sl 10 (os.map obC))]),(2,[.c (.i .i64 0),.c (.i .i64 0)])],[],[]⟩,4⟩) (fun p=>ks.length - p.1) ⟨0,by simp,by simp⟩ ?_ ?_
  ·exact q_D
  rintro ⟨i,g1,g2⟩
  simp only at g1 g2 ⊢
  by_cases hi : i < ks.length
  ·have hs:=posF_skip (os:=os) (c:=c) hi
   have hat:=vC_at ks hi
   have hmem:=hk2 _ (v_mem ks hi)
   have hin:=keyF_in ho hmem
   generalize ks.getD i (refV 0) = x at *
   obtain ⟨xk,xa,xx,xb,xy,xt,xr⟩:=x
   generalize hX : keyF os ⟨xk,xa,xx,xb,xy,xt,xr⟩ = X at *
   have hinj:=strOf_cmp hin.1 hc.1
   simp only [vC] at hat
   repeat' (first|with_reducible refine q_0 ?_|((with_reducible first|refine q_q ha7_ok fun K hK=>?_|refine q_r ha7_ok fun K hK=>?_);simp (maxSteps:=2000000) only [go_sem,↓reduceIte,reduceCtorEq,Nat.reduceLeDiff,Nat.reduceLT,Nat.reduceBEq,Nat.reduceAdd,hd,hX,hat,List.length_map,hinj];(repeat1' with_reducible first|apply And.intro|(intro _;try exact q_v)|(refine hK _ ?_;clear hK K))<;>(try (clear hK K;exact q_u)))|(with_reducible refine q_s ?_;(first|apply q_J|apply q_K|apply q_L|apply q_M|apply q_N|apply q_O)<;>try (intro _;try exact q_v)))
   all_goals first | omega | skip
   ·refine q_A ?_
    rename_i he
    rw [← g2,hs,if_pos he]; rfl
   ·rename_i he
    rw [if_neg he] at hs
    refine q_F ⟨i + 1,by omega,by rw [← hs]; exact g2⟩ ?_ ?_
    ·exact q_D
    ·show ks.length - (i + 1) < ks.length - i
     omega
  ·repeat' (first|with_reducible refine q_0 ?_|((with_reducible first|refine q_q ha7_ok fun K hK=>?_|refine q_r ha7_ok fun K hK=>?_);simp (maxSteps:=2000000) only [go_sem,↓reduceIte,reduceCtorEq,Nat.reduceLeDiff,Nat.reduceLT,Nat.reduceBEq,Nat.reduceAdd,List.length_map];(repeat1' with_reducible first|apply And.intro|(intro _;try exact q_v)|(refine hK _ ?_;clear hK K))<;>(try (clear hK K;exact q_u)))|(with_reducible refine q_s ?_;(first|apply q_J|apply q_K|apply q_L|apply q_M|apply q_N|apply q_O)<;>try (intro _;try exact q_v)))
   all_goals first | omega | skip
   refine q_A ?_
   have e : ks.drop i = []:=List.drop_eq_nil_of_le (by omega)
   rw [← g2,e]; rfl
 ·rw [if_neg h0]
  repeat' (first|with_reducible refine q_0 ?_|((with_reducible first|refine q_q ha7_ok fun K hK=>?_|refine q_r ha7_ok fun K hK=>?_);simp (maxSteps:=2000000) only [go_sem,↓reduceIte,reduceCtorEq,Nat.reduceLeDiff,Nat.reduceLT,Nat.reduceBEq,Nat.reduceAdd,hd,hKF];(repeat1' with_reducible first|apply And.intro|(intro _;try exact q_v)|(refine hK _ ?_;clear hK K))<;>(try (clear hK K;exact q_u)))|(with_reducible refine q_s ?_;(first|apply q_J|apply q_K|apply q_L|apply q_M|apply q_N|apply q_O)<;>try (intro _;try exact q_v)))
  all_goals first | omega | contradiction | exact q_A rfl | skip
def placeCT : CT:=mkCT [.inr [none],.inl (some (.sl 7 [])),nVal] true fun l K=>match l with
 | [.inr [.sl 10 rows],.inl (.sl 7 kr),.inr [.i .i64 k,.b a,.ints .u32 x,.b b,.ints .u32 y,.str t,.i .i64 r]]=>((rows = (dO rows).map obC ∧ ∀ o ∈ dO rows,Pr o) ∧ kr = (dV kr).map vC ∧ HOk (dO rows) ∧ ((dV kr).length ≤ 100000 ∧ ∀ x ∈ dV kr,OkW (dO rows).length x) ∧ OkW (dO rows).length ⟨k,a,x,b,y,t,r⟩) ∧ K (.t [.inl (.i .i64 (plO (dO rows) (dV kr) ⟨k,a,x,b,y,t,r⟩).1),.inr [.i .i64 (plO (dO rows) (dV kr) ⟨k,a,x,b,y,t,r⟩).2.1,.i .i64 (plO (dO rows) (dV kr) ⟨k,a,x,b,y,t,r⟩).2.2]])
 | _=>False
def h9b : Cfg:=addT 26 placeCT h9a
theorem h9b_ok : TblOk Try.prog h9b:=q_I h9a_ok Try.func26 fun l K h=>by
 split at h
 ·rename_i rows kr k a x b y t r
  obtain ⟨⟨⟨h1,h2⟩,h3,h4,h5,h6⟩,hK⟩:=h
  refine ⟨_,Ret.plain ?_ rfl,hK⟩
  have:=placeOf_ret (dO rows) (dV kr) ⟨k,a,x,b,y,t,r⟩ h2 h4 h5 h6
  rw [← h1,← h3] at this
  exact this
 ·exact h.elim
attribute [go_sem] placeCT
end Go.Proofs.Ytncededjmcmidaa

namespace Go.Proofs.Ytncededjmcmidaa
set_option linter.unusedSimpArgs false
set_option linter.unusedVariables false
open Go.Abs Go.Proofs.NatL

abbrev rowB (out : List Int) : Hp:=⟨[],[(0,⟨0,5,1,.ints .u8 out⟩)],[]⟩
theorem hat_ret (c i : Int) : Ret Try.prog 76 false [.inl (.i .i64 c),.inl (.i .i64 i)] (.g [.i .i64 c,.i .i64 i]):=by
 (refine q_H Try.func76 (fun F=>?_); simp only [q_z,q_y,Try.ntmps76,Try.results76])
 repeat' (first|with_reducible refine q_0 ?_|((with_reducible first|refine q_q cf0_ok fun K hK=>?_|refine q_r cf0_ok fun K hK=>?_);simp (maxSteps:=2000000) only [go_sem,↓reduceIte,reduceCtorEq,Nat.reduceLeDiff,Nat.reduceLT,Nat.reduceBEq,Nat.reduceAdd];(repeat1' with_reducible first|apply And.intro|(intro _;try exact q_v)|(refine hK _ ?_;clear hK K))<;>(try (clear hK K;exact q_u)))|(with_reducible refine q_s ?_;(first|apply q_J|apply q_K|apply q_L|apply q_M|apply q_N|apply q_O)<;>try (intro _;try exact q_v)))
 all_goals exact q_A rfl
theorem pair_ret (n : Int) (hn : 0 ≤ n) : Ret Try.prog 77 false [.inl (.i .i64 n)] (.c (.ints .u8 [n % 256,n / 256 % 256])):=by
 have s8 : shrI .i64 n 8 = n / 256:=shrI_lit .i64 n 8 (by decide)
 (refine q_H Try.func77 (fun F=>?_); simp only [q_z,q_y,Try.ntmps77,Try.results77])
 repeat' (first|with_reducible refine q_0 ?_|((with_reducible first|refine q_q cf0_ok fun K hK=>?_|refine q_r cf0_ok fun K hK=>?_);simp (maxSteps:=2000000) only [go_sem,↓reduceIte,reduceCtorEq,Nat.reduceLeDiff,Nat.reduceLT,Nat.reduceBEq,Nat.reduceAdd,s8];(repeat1' with_reducible first|apply And.intro|(intro _;try exact q_v)|(refine hK _ ?_;clear hK K))<;>(try (clear hK K;exact q_u)))|(with_reducible refine q_s ?_;(first|apply q_J|apply q_K|apply q_L|apply q_M|apply q_N|apply q_O)<;>try (intro _;try exact q_v)))
 all_goals first | omega | exact q_A rfl | skip
def h16a : Cfg:=addT 76 atCT h9b
theorem h16a_ok : TblOk Try.prog h16a:=q_I h9b_ok Try.func76 fun l K h=>by
 split at h
 ·exact ⟨_,(hat_ret _ _).plain rfl,h⟩
 ·exact h.elim
def pairCT : CT:=mkCT [] false fun l K=>match l with
 | [.inl (.i .i64 n)]=>0 ≤ n ∧ K (.c (.ints .u8 [n % 256,n / 256 % 256]))
 | _=>False
def h16b : Cfg:=addT 77 pairCT h16a
theorem h16b_ok : TblOk Try.prog h16b:=q_I h16a_ok Try.func77 fun l K h=>by
 split at h
 ·exact ⟨_,pair_ret _ h.1,h.2⟩
 ·exact h.elim
attribute [go_sem] pairCT rowB
def ha11 : Cfg:=listT [(76,atCT),(77,pairCT)] [39]
theorem ha11_ok : TblOk Try.prog ha11:=listE_ok (by simp only [List.mem_singleton,forall_eq]; exact flt) ⟨⟨h16a,h16a_ok,rfl⟩,⟨h16b,h16b_ok,rfl⟩,trivial⟩
attribute [go_sem] ha11
theorem hbs_two {xs : List Int} (j : Nat) : hbs xs (2 * (j + 1)) = hbs xs (2 * j) ++ [xs.getD j 0 % 65536 % 256,xs.getD j 0 % 65536 / 256,xs.getD j 0 / 65536 % 256,xs.getD j 0 / 65536 / 256]:=by
 have e1 : hdg xs (2 * j) = xs.getD j 0 % 65536:=by unfold hdg; rw [if_pos (by omega),show 2 * j / 2 = j by omega]
 have e2 : hdg xs (2 * j + 1) = xs.getD j 0 / 65536:=by unfold hdg; rw [if_neg (by omega),show (2 * j + 1) / 2 = j by omega]
 show hbs xs (2 * j + 1 + 1) = _
 simp only [hbs,e1,e2,List.append_assoc,List.cons_append,List.nil_append]
set_option maxRecDepth 100000 in
set_option maxHeartbeats 4000000 in
theorem hnumber_ret (out : List Int) (a : Bool) (xs : List Int) (hx : xs.length ≤ 100) (bx : InB 4294967296 xs) (ho : out.length ≤ 100000000) : RetG Try.prog 91 (rowB out) [.own 0 0,.g [.b a,.ints .u32 xs]] (rowB (out ++ intB a xs)) [.own 0 0]:=by
 (refine ret_ge Try.func91 (fun F bs=>?_); simp only [avSl,ancs,hnx,Nat.reduceAdd,Nat.reduceLeDiff,if_true,if_false,List.length_cons,List.length_nil,List.cons_append,List.nil_append,Try.ntmps91,Try.results91])
 repeat' (first|with_reducible refine q_0 ?_|((with_reducible first|refine q_q ha11_ok fun K hK=>?_|refine q_r ha11_ok fun K hK=>?_);simp (maxSteps:=2000000) only [go_sem,↓reduceIte,reduceCtorEq,Nat.reduceLeDiff,Nat.reduceLT,Nat.reduceBEq,Nat.reduceAdd];(repeat1' with_reducible first|apply And.intro|(intro _;try exact q_v)|(refine hK _ ?_;clear hK K))<;>(try (clear hK K;exact q_u)))|(with_reducible refine q_s ?_;(first|apply q_J|apply q_K|apply q_L|apply q_M|apply q_N|apply q_O)<;>try (intro _;try exact q_v)))
 all_goals first | omega | skip
 all_goals
  refine q_G (ι:={ j : Nat // j ≤ xs.length }) (fun p=>⟨41,[(0,.own 0 0),(19,.c (.ints .u32 xs)),(20,.c (.i .i64 xs.length)),(21,.c (.i .i64 p.1))],⟨[],[(0,⟨0,5,1,.ints .u8 (out ++ ([if a then 1 else 0,(xs.length : Int) % 256] ++ hbs xs (2 * p.1)))⟩)],[]⟩,10⟩) (fun p=>xs.length - p.1) ⟨0,by omega⟩ ?_ ?_
  ·simp only [*,hbs,Nat.mul_zero,List.append_nil,if_true,if_false,Bool.false_eq_true]; exact q_D
  rintro ⟨j,g1⟩
  simp only at g1 ⊢
  have b1:=InB_getD (by omega) bx j
  have b4:=hbs_len xs (2 * j)
  have b5:=hbs_two (xs:=xs) j
  generalize hh : xs.getD j 0 = x at *
  have s8 : shrI .u32 x 8 = x / 256:=shrI_lit .u32 x 8 (by decide)
  have s16 : shrI .u32 x 16 = x / 65536:=shrI_lit .u32 x 16 (by decide)
  have s24 : shrI .u32 x 24 = x / 16777216:=shrI_lit .u32 x 24 (by decide)
  repeat' (first|with_reducible refine q_0 ?_|((with_reducible first|refine q_q ha11_ok fun K hK=>?_|refine q_r ha11_ok fun K hK=>?_);simp (maxSteps:=2000000) only [go_sem,↓reduceIte,reduceCtorEq,Nat.reduceLeDiff,Nat.reduceLT,Nat.reduceBEq,Nat.reduceAdd,b4,hh,s8,s16,s24];(repeat1' with_reducible first|apply And.intro|(intro _;try exact q_v)|(refine hK _ ?_;clear hK K))<;>(try (clear hK K;exact q_u)))|(with_reducible refine q_s ?_;(first|apply q_J|apply q_K|apply q_L|apply q_M|apply q_N|apply q_O)<;>try (intro _;try exact q_v)))
  all_goals first | omega | skip
  ·refine q_F ⟨j + 1,by omega⟩ ?_ ?_
   ·simp only [b5]
    have e0 : x % 65536 % 256 = x % 256:=by omega
    have e1 : x % 65536 / 256 = x / 256 % 256:=by omega
    have e2 : x / 65536 / 256 = x / 16777216 % 256:=by omega
    simp only [e0,e1,e2,List.append_assoc]
    exact q_D
   ·show xs.length - (j + 1) < xs.length - j
    omega
  ·obtain rfl : j = xs.length:=by omega
   exact ends_g [(4,.own 0 0)] 11 (by simp only [intB]; exact q_D) rfl
set_option maxRecDepth 100000 in
set_option maxHeartbeats 4000000 in
theorem htext_ret (out : List Int) (k : Int) (s : ByteArray) (hk : 0 ≤ k ∧ k < 256) (hs : s.size ≤ 60000) (ho : out.length ≤ 100000000) : RetG Try.prog 92 (rowB out) [.own 0 0,.c (.i .u8 k),.c (.str s)] (rowB (out ++ txtB k s)) [.own 0 0]:=by
 have e : (s.size : Int) / 256 % 256 = (s.size : Int) / 256:=by omega
 (refine ret_ge Try.func92 (fun F bs=>?_); simp only [avSl,ancs,hnx,Nat.reduceAdd,Nat.reduceLeDiff,if_true,if_false,List.length_cons,List.length_nil,List.cons_append,List.nil_append,Try.ntmps92,Try.results92])
 repeat' (first|with_reducible refine q_0 ?_|((with_reducible first|refine q_q ha11_ok fun K hK=>?_|refine q_r ha11_ok fun K hK=>?_);simp (maxSteps:=2000000) only [go_sem,↓reduceIte,reduceCtorEq,Nat.reduceLeDiff,Nat.reduceLT,Nat.reduceBEq,Nat.reduceAdd,e];(repeat1' with_reducible first|apply And.intro|(intro _;try exact q_v)|(refine hK _ ?_;clear hK K))<;>(try (clear hK K;exact q_u)))|(with_reducible refine q_s ?_;(first|apply q_J|apply q_K|apply q_L|apply q_M|apply q_N|apply q_O)<;>try (intro _;try exact q_v)))
 all_goals first | omega | (unfold maxLen; omega) | (with_unfolding_all rfl) | exact ends_g [(6,.own 0 0)] 10 (by simp only [txtB,List.append_assoc,List.cons_append,List.nil_append]; exact q_D) rfl | skip
def numberHCT : CT:=mkCTG fun H al K=>match H,al with
 | ⟨[],[(0,⟨0,5,1,.ints .u8 out⟩)],[]⟩,[.own 0 0,.g [.b a,.ints .u32 xs]]=>(xs.length ≤ 100 ∧ InB 4294967296 xs ∧ out.length ≤ 100000000) ∧ ((intB a xs).length = 2 + 4 * xs.length → K (rowB (out ++ intB a xs)) [.own 0 0])
 | _,_=>False
def h16c : Cfg:=addT 91 numberHCT cf0
theorem h16c_ok : TblOk Try.prog h16c:=ctg_ok cf0_ok Try.func91 fun H al K h=>by
 split at h
 ·exact ⟨_,_,hnumber_ret _ _ _ h.1.1 h.1.2.1 h.1.2.2,h.2 (intB_len _ _)⟩
 ·exact h.elim
def textHCT : CT:=mkCTG fun H al K=>match H,al with
 | ⟨[],[(0,⟨0,5,1,.ints .u8 out⟩)],[]⟩,[.own 0 0,.c (.i .u8 k),.c (.str s)]=>((0 ≤ k ∧ k < 256) ∧ s.size ≤ 60000 ∧ out.length ≤ 100000000) ∧ K (rowB (out ++ txtB k s)) [.own 0 0]
 | _,_=>False
def h16d : Cfg:=addT 92 textHCT cf0
theorem h16d_ok : TblOk Try.prog h16d:=ctg_ok cf0_ok Try.func92 fun H al K h=>by
 split at h
 ·exact ⟨_,_,htext_ret _ _ _ h.1.1 h.1.2.1 h.1.2.2,h.2⟩
 ·exact h.elim
attribute [go_sem] numberHCT textHCT
end Go.Proofs.Ytncededjmcmidaa
