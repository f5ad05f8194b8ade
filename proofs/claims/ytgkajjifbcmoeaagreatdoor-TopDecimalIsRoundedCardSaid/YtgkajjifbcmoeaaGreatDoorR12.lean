import Derived.Test.YtgkajjifbcmoeaaGreatDoorR10
namespace Go.Proofs.NatL
set_option linter.unusedSimpArgs false
set_option linter.unusedVariables false
theorem RT_parts {z : Int} {d : Nat} (h : RT z d) : 0 < d ∧ (dg 4294967296 z.natAbs).length ≤ 128 ∧ (dg 4294967296 d).length ≤ 128:=⟨h.1,h.2.2.1,h.2.2.2⟩
theorem sg_mul3 (x y : Int) : sg (decide (x < 0) != decide (y < 0)) (x.natAbs * y.natAbs) = x * y:=by rw [sg_mul,sg_self,sg_self]
def tn (y : Int) (d : Nat) : Int:=sg (decide (y < 0)) d
theorem sg_tn (x y : Int) (d : Nat) : sg (decide (x < 0) != decide (y < 0)) (x.natAbs * d) = x * tn y d:=by rw [sg_mul,sg_self]; rfl
end Go.Proofs.NatL
namespace Go.Proofs.YtgkajjifbcmoeaaGreatDoor
set_option linter.unusedSimpArgs false
set_option linter.unusedVariables false
open Go.Abs Go.Proofs.NatL

abbrev zQ : C ⊕ List C:=.inr [.b false,.ints .u32 [],.b false,.ints .u32 []]
abbrev fltQ (c i : Int) : C ⊕ List C:=.inr [.i .i64 c,.i .i64 i]
def qb5 : Cfg:=listT [(90,atCT),(86,qcheckCT),(87,qplusCT),(89,reducedCT),(88,(natCT tr2 rMulN)),(164,(natCT tr2 rCmpN)),(143,ivalidCT)] [34]
theorem qb5_ok : TblOk Tryz.prog qb5:=listE_ok (by simp only [List.mem_singleton,forall_eq]; exact flt) ⟨⟨qt2,qt2_ok,rfl⟩,⟨qt3,qt3_ok,rfl⟩,⟨qt5,qt5_ok,rfl⟩,⟨qt4,qt4_ok,rfl⟩,⟨qn2,qn2_ok,rfl⟩,⟨qn4,qn4_ok,rfl⟩,⟨it2,it2_ok,rfl⟩,trivial⟩
attribute [go_sem] qb5
set_option maxHeartbeats 1600000 in
theorem qAdd_ok (x y : Int) (c d : Nat) (hx : RT x c) (hy : RT y d) : Ret Tryz.prog 20 false [.inr (gQ x c),.inr (gQ y d)] (rQ (x * d + y * c) (c * d)):=by
 have o1:=okQ_g hx
 have o2:=okQ_g hy
 obtain ⟨hc,lx,lc⟩:=RT_parts hx
 obtain ⟨hd,ly,ld⟩:=RT_parts hy
 have l1:=mul_len (B:=4294967296) (by omega) lx ly
 have l3:=mul_len (B:=4294967296) (by omega) lc ld
 have hcd:=Nat.mul_pos hc hd
 have m1:=sg_mul3 x y
 clear hx hy
 (refine q_H Tryz.func20 (fun F=>?_); simp only [q_z,q_y,Tryz.ntmps20,Tryz.results20])
 repeat' (first|with_reducible refine q_0 ?_|((with_reducible first|refine q_q qb5_ok fun K hK=>?_|refine q_r qb5_ok fun K hK=>?_);simp (maxSteps:=2000000) only [go_sem,↓reduceIte,reduceCtorEq,Nat.reduceLeDiff,Nat.reduceLT,Nat.reduceBEq,Nat.reduceAdd,o1,o2,sv32,sv32d,V32,m1,sg_self];(repeat1' with_reducible first|apply And.intro|(intro _;try exact q_v)|(refine hK _ ?_;clear hK K))<;>(try (clear hK K;exact q_u)))|(with_reducible refine q_s ?_;(first|apply q_J|apply q_K|apply q_L|apply q_M|apply q_N|apply q_O)<;>try (intro _;try exact q_v)))
 all_goals first | omega | exact q_A rfl | skip
set_option maxHeartbeats 1600000 in
theorem qSub_ok (x y : Int) (c d : Nat) (hx : RT x c) (hy : RT y d) : Ret Tryz.prog 21 false [.inr (gQ x c),.inr (gQ y d)] (rQ (x * d - y * c) (c * d)):=by
 have o1:=okQ_g hx
 have o2:=okQ_g hy
 obtain ⟨hc,lx,lc⟩:=RT_parts hx
 obtain ⟨hd,ly,ld⟩:=RT_parts hy
 have l1:=mul_len (B:=4294967296) (by omega) lx ly
 have l3:=mul_len (B:=4294967296) (by omega) lc ld
 have hcd:=Nat.mul_pos hc hd
 have m1:=sg_mul3 x y
 clear hx hy
 (refine q_H Tryz.func21 (fun F=>?_); simp only [q_z,q_y,Tryz.ntmps21,Tryz.results21])
 repeat' (first|with_reducible refine q_0 ?_|((with_reducible first|refine q_q qb5_ok fun K hK=>?_|refine q_r qb5_ok fun K hK=>?_);simp (maxSteps:=2000000) only [go_sem,↓reduceIte,reduceCtorEq,Nat.reduceLeDiff,Nat.reduceLT,Nat.reduceBEq,Nat.reduceAdd,o1,o2,sv32,sv32d,V32,m1,sg_self];(repeat1' with_reducible first|apply And.intro|(intro _;try exact q_v)|(refine hK _ ?_;clear hK K))<;>(try (clear hK K;exact q_u)))|(with_reducible refine q_s ?_;(first|apply q_J|apply q_K|apply q_L|apply q_M|apply q_N|apply q_O)<;>try (intro _;try exact q_v)))
 all_goals first | omega | exact q_A rfl | skip
set_option maxHeartbeats 1600000 in
theorem qMul_ok (x y : Int) (c d : Nat) (hx : RT x c) (hy : RT y d) : Ret Tryz.prog 22 false [.inr (gQ x c),.inr (gQ y d)] (rQ (x * y) (c * d)):=by
 have o1:=okQ_g hx
 have o2:=okQ_g hy
 obtain ⟨hc,lx,lc⟩:=RT_parts hx
 obtain ⟨hd,ly,ld⟩:=RT_parts hy
 have l1:=mul_len (B:=4294967296) (by omega) lx ly
 have l3:=mul_len (B:=4294967296) (by omega) lc ld
 have hcd:=Nat.mul_pos hc hd
 have m1:=sg_mul3 x y
 clear hx hy
 (refine q_H Tryz.func22 (fun F=>?_); simp only [q_z,q_y,Tryz.ntmps22,Tryz.results22])
 repeat' (first|with_reducible refine q_0 ?_|((with_reducible first|refine q_q qb5_ok fun K hK=>?_|refine q_r qb5_ok fun K hK=>?_);simp (maxSteps:=2000000) only [go_sem,↓reduceIte,reduceCtorEq,Nat.reduceLeDiff,Nat.reduceLT,Nat.reduceBEq,Nat.reduceAdd,o1,o2,sv32,sv32d,V32,m1,sg_self];(repeat1' with_reducible first|apply And.intro|(intro _;try exact q_v)|(refine hK _ ?_;clear hK K))<;>(try (clear hK K;exact q_u)))|(with_reducible refine q_s ?_;(first|apply q_J|apply q_K|apply q_L|apply q_M|apply q_N|apply q_O)<;>try (intro _;try exact q_v)))
 all_goals first | omega | exact q_A rfl | skip
set_option maxHeartbeats 1600000 in
theorem qDiv_ok (x y : Int) (c d : Nat) (hx : RT x c) (hy : RT y d) (h0 : y ≠ 0) : Ret Tryz.prog 23 false [.inr (gQ x c),.inr (gQ y d)] (rQ (x * tn y d) (c * y.natAbs)):=by
 have o1:=okQ_g hx
 have o2:=okQ_g hy
 obtain ⟨hc,lx,lc⟩:=RT_parts hx
 obtain ⟨hd,ly,ld⟩:=RT_parts hy
 have l1:=mul_len (B:=4294967296) (by omega) lx ld
 have l3:=mul_len (B:=4294967296) (by omega) lc ly
 have hcd:=Nat.mul_pos hc (show 0 < y.natAbs by omega)
 have hp:=(dg_len_pos 4294967296 y.natAbs (by omega)).2 (by omega)
 have m1:=sg_tn x y d
 clear hx hy
 (refine q_H Tryz.func23 (fun F=>?_); simp only [q_z,q_y,Tryz.ntmps23,Tryz.results23])
 repeat' (first|with_reducible refine q_0 ?_|((with_reducible first|refine q_q qb5_ok fun K hK=>?_|refine q_r qb5_ok fun K hK=>?_);simp (maxSteps:=2000000) only [go_sem,↓reduceIte,reduceCtorEq,Nat.reduceLeDiff,Nat.reduceLT,Nat.reduceBEq,Nat.reduceAdd,o1,o2,sv32,sv32d,V32,m1];(repeat1' with_reducible first|apply And.intro|(intro _;try exact q_v)|(refine hK _ ?_;clear hK K))<;>(try (clear hK K;exact q_u)))|(with_reducible refine q_s ?_;(first|apply q_J|apply q_K|apply q_L|apply q_M|apply q_N|apply q_O)<;>try (intro _;try exact q_v)))
 all_goals first | omega | exact q_A rfl | skip
set_option maxHeartbeats 1600000 in
theorem qDiv_zero (x : Int) (c d : Nat) (hx : RT x c) (hy : RT 0 d) : Ret Tryz.prog 23 false [.inr (gQ x c),.inr (gQ 0 d)] (.t [zQ,fltQ 22 (-2)]):=by
 have o1:=okQ_g hx
 have o2:=okQ_g hy
 obtain ⟨hc,lx,lc⟩:=RT_parts hx
 obtain ⟨hd,ly,ld⟩:=RT_parts hy
 have e0 : (dg 4294967296 (0 : Int).natAbs) = []:=dg_zeroA _
 clear hx hy
 simp only [gQ,e0] at o2 ⊢
 (refine q_H Tryz.func23 (fun F=>?_); simp only [q_z,q_y,Tryz.ntmps23,Tryz.results23])
 repeat' (first|with_reducible refine q_0 ?_|((with_reducible first|refine q_q qb5_ok fun K hK=>?_|refine q_r qb5_ok fun K hK=>?_);simp (maxSteps:=2000000) only [go_sem,↓reduceIte,reduceCtorEq,Nat.reduceLeDiff,Nat.reduceLT,Nat.reduceBEq,Nat.reduceAdd,o1,o2,sv32,sv32d,V32];(repeat1' with_reducible first|apply And.intro|(intro _;try exact q_v)|(refine hK _ ?_;clear hK K))<;>(try (clear hK K;exact q_u)))|(with_reducible refine q_s ?_;(first|apply q_J|apply q_K|apply q_L|apply q_M|apply q_N|apply q_O)<;>try (intro _;try exact q_v)))
 all_goals first | omega | exact q_B [nQ] rfl rfl | skip
set_option maxHeartbeats 1600000 in
theorem qAdd_bad (s p t q : Bool) (xs zs ys ws : List Int) (h1 : xs.length ≤ 140737488355328) (h2 : zs.length ≤ 140737488355328) (h3 : ys.length ≤ 140737488355328) (h4 : ws.length ≤ 140737488355328) (b1 : InB 4294967296 xs) (b2 : InB 4294967296 zs) (b3 : InB 4294967296 ys) (b4 : InB 4294967296 ws)
  (h : okQ s xs p zs = false ∨ okQ s xs p zs = true ∧ okQ t ys q ws = false) :
  Ret Tryz.prog 20 false [.inr [.b s,.ints .u32 xs,.b p,.ints .u32 zs],.inr [.b t,.ints .u32 ys,.b q,.ints .u32 ws]] (.t [zQ,fltQ 6 (if okQ s xs p zs then -2 else -1)]):=by
 rcases h with h | ⟨h,h'⟩
 ·simp only [h,Bool.false_eq_true,if_false]
  (refine q_H Tryz.func20 (fun F=>?_); simp only [q_z,q_y,Tryz.ntmps20,Tryz.results20])
  repeat' (first|with_reducible refine q_0 ?_|((with_reducible first|refine q_q qb5_ok fun K hK=>?_|refine q_r qb5_ok fun K hK=>?_);simp (maxSteps:=2000000) only [go_sem,↓reduceIte,reduceCtorEq,Nat.reduceLeDiff,Nat.reduceLT,Nat.reduceBEq,Nat.reduceAdd,h];(repeat1' with_reducible first|apply And.intro|(intro _;try exact q_v)|(refine hK _ ?_;clear hK K))<;>(try (clear hK K;exact q_u)))|(with_reducible refine q_s ?_;(first|apply q_J|apply q_K|apply q_L|apply q_M|apply q_N|apply q_O)<;>try (intro _;try exact q_v)))
  all_goals first | omega | assumption | exact q_B [nQ] rfl rfl | skip
 ·simp only [h,if_true]
  (refine q_H Tryz.func20 (fun F=>?_); simp only [q_z,q_y,Tryz.ntmps20,Tryz.results20])
  repeat' (first|with_reducible refine q_0 ?_|((with_reducible first|refine q_q qb5_ok fun K hK=>?_|refine q_r qb5_ok fun K hK=>?_);simp (maxSteps:=2000000) only [go_sem,↓reduceIte,reduceCtorEq,Nat.reduceLeDiff,Nat.reduceLT,Nat.reduceBEq,Nat.reduceAdd,h,h'];(repeat1' with_reducible first|apply And.intro|(intro _;try exact q_v)|(refine hK _ ?_;clear hK K))<;>(try (clear hK K;exact q_u)))|(with_reducible refine q_s ?_;(first|apply q_J|apply q_K|apply q_L|apply q_M|apply q_N|apply q_O)<;>try (intro _;try exact q_v)))
  all_goals first | omega | assumption | exact q_B [nQ] rfl rfl | skip
set_option maxHeartbeats 1600000 in
theorem qSub_bad (s p t q : Bool) (xs zs ys ws : List Int) (h1 : xs.length ≤ 140737488355328) (h2 : zs.length ≤ 140737488355328) (h3 : ys.length ≤ 140737488355328) (h4 : ws.length ≤ 140737488355328) (b1 : InB 4294967296 xs) (b2 : InB 4294967296 zs) (b3 : InB 4294967296 ys) (b4 : InB 4294967296 ws)
  (h : okQ s xs p zs = false ∨ okQ s xs p zs = true ∧ okQ t ys q ws = false) :
  Ret Tryz.prog 21 false [.inr [.b s,.ints .u32 xs,.b p,.ints .u32 zs],.inr [.b t,.ints .u32 ys,.b q,.ints .u32 ws]] (.t [zQ,fltQ 6 (if okQ s xs p zs then -2 else -1)]):=by
 rcases h with h | ⟨h,h'⟩
 ·simp only [h,Bool.false_eq_true,if_false]
  (refine q_H Tryz.func21 (fun F=>?_); simp only [q_z,q_y,Tryz.ntmps21,Tryz.results21])
  repeat' (first|with_reducible refine q_0 ?_|((with_reducible first|refine q_q qb5_ok fun K hK=>?_|refine q_r qb5_ok fun K hK=>?_);simp (maxSteps:=2000000) only [go_sem,↓reduceIte,reduceCtorEq,Nat.reduceLeDiff,Nat.reduceLT,Nat.reduceBEq,Nat.reduceAdd,h];(repeat1' with_reducible first|apply And.intro|(intro _;try exact q_v)|(refine hK _ ?_;clear hK K))<;>(try (clear hK K;exact q_u)))|(with_reducible refine q_s ?_;(first|apply q_J|apply q_K|apply q_L|apply q_M|apply q_N|apply q_O)<;>try (intro _;try exact q_v)))
  all_goals first | omega | assumption | exact q_B [nQ] rfl rfl | skip
 ·simp only [h,if_true]
  (refine q_H Tryz.func21 (fun F=>?_); simp only [q_z,q_y,Tryz.ntmps21,Tryz.results21])
  repeat' (first|with_reducible refine q_0 ?_|((with_reducible first|refine q_q qb5_ok fun K hK=>?_|refine q_r qb5_ok fun K hK=>?_);simp (maxSteps:=2000000) only [go_sem,↓reduceIte,reduceCtorEq,Nat.reduceLeDiff,Nat.reduceLT,Nat.reduceBEq,Nat.reduceAdd,h,h'];(repeat1' with_reducible first|apply And.intro|(intro _;try exact q_v)|(refine hK _ ?_;clear hK K))<;>(try (clear hK K;exact q_u)))|(with_reducible refine q_s ?_;(first|apply q_J|apply q_K|apply q_L|apply q_M|apply q_N|apply q_O)<;>try (intro _;try exact q_v)))
  all_goals first | omega | assumption | exact q_B [nQ] rfl rfl | skip
set_option maxHeartbeats 1600000 in
theorem qMul_bad (s p t q : Bool) (xs zs ys ws : List Int) (h1 : xs.length ≤ 140737488355328) (h2 : zs.length ≤ 140737488355328) (h3 : ys.length ≤ 140737488355328) (h4 : ws.length ≤ 140737488355328) (b1 : InB 4294967296 xs) (b2 : InB 4294967296 zs) (b3 : InB 4294967296 ys) (b4 : InB 4294967296 ws)
  (h : okQ s xs p zs = false ∨ okQ s xs p zs = true ∧ okQ t ys q ws = false) :
  Ret Tryz.prog 22 false [.inr [.b s,.ints .u32 xs,.b p,.ints .u32 zs],.inr [.b t,.ints .u32 ys,.b q,.ints .u32 ws]] (.t [zQ,fltQ 6 (if okQ s xs p zs then -2 else -1)]):=by
 rcases h with h | ⟨h,h'⟩
 ·simp only [h,Bool.false_eq_true,if_false]
  (refine q_H Tryz.func22 (fun F=>?_); simp only [q_z,q_y,Tryz.ntmps22,Tryz.results22])
  repeat' (first|with_reducible refine q_0 ?_|((with_reducible first|refine q_q qb5_ok fun K hK=>?_|refine q_r qb5_ok fun K hK=>?_);simp (maxSteps:=2000000) only [go_sem,↓reduceIte,reduceCtorEq,Nat.reduceLeDiff,Nat.reduceLT,Nat.reduceBEq,Nat.reduceAdd,h];(repeat1' with_reducible first|apply And.intro|(intro _;try exact q_v)|(refine hK _ ?_;clear hK K))<;>(try (clear hK K;exact q_u)))|(with_reducible refine q_s ?_;(first|apply q_J|apply q_K|apply q_L|apply q_M|apply q_N|apply q_O)<;>try (intro _;try exact q_v)))
  all_goals first | omega | assumption | exact q_B [nQ] rfl rfl | skip
 ·simp only [h,if_true]
  (refine q_H Tryz.func22 (fun F=>?_); simp only [q_z,q_y,Tryz.ntmps22,Tryz.results22])
  repeat' (first|with_reducible refine q_0 ?_|((with_reducible first|refine q_q qb5_ok fun K hK=>?_|refine q_r qb5_ok fun K hK=>?_);simp (maxSteps:=2000000) only [go_sem,↓reduceIte,reduceCtorEq,Nat.reduceLeDiff,Nat.reduceLT,Nat.reduceBEq,Nat.reduceAdd,h,h'];(repeat1' with_reducible first|apply And.intro|(intro _;try exact q_v)|(refine hK _ ?_;clear hK K))<;>(try (clear hK K;exact q_u)))|(with_reducible refine q_s ?_;(first|apply q_J|apply q_K|apply q_L|apply q_M|apply q_N|apply q_O)<;>try (intro _;try exact q_v)))
  all_goals first | omega | assumption | exact q_B [nQ] rfl rfl | skip
set_option maxHeartbeats 1600000 in
theorem qDiv_bad (s p t q : Bool) (xs zs ys ws : List Int) (h1 : xs.length ≤ 140737488355328) (h2 : zs.length ≤ 140737488355328) (h3 : ys.length ≤ 140737488355328) (h4 : ws.length ≤ 140737488355328) (b1 : InB 4294967296 xs) (b2 : InB 4294967296 zs) (b3 : InB 4294967296 ys) (b4 : InB 4294967296 ws)
  (h : okQ s xs p zs = false ∨ okQ s xs p zs = true ∧ okQ t ys q ws = false) :
  Ret Tryz.prog 23 false [.inr [.b s,.ints .u32 xs,.b p,.ints .u32 zs],.inr [.b t,.ints .u32 ys,.b q,.ints .u32 ws]] (.t [zQ,fltQ 6 (if okQ s xs p zs then -2 else -1)]):=by
 rcases h with h | ⟨h,h'⟩
 ·simp only [h,Bool.false_eq_true,if_false]
  (refine q_H Tryz.func23 (fun F=>?_); simp only [q_z,q_y,Tryz.ntmps23,Tryz.results23])
  repeat' (first|with_reducible refine q_0 ?_|((with_reducible first|refine q_q qb5_ok fun K hK=>?_|refine q_r qb5_ok fun K hK=>?_);simp (maxSteps:=2000000) only [go_sem,↓reduceIte,reduceCtorEq,Nat.reduceLeDiff,Nat.reduceLT,Nat.reduceBEq,Nat.reduceAdd,h];(repeat1' with_reducible first|apply And.intro|(intro _;try exact q_v)|(refine hK _ ?_;clear hK K))<;>(try (clear hK K;exact q_u)))|(with_reducible refine q_s ?_;(first|apply q_J|apply q_K|apply q_L|apply q_M|apply q_N|apply q_O)<;>try (intro _;try exact q_v)))
  all_goals first | omega | assumption | exact q_B [nQ] rfl rfl | skip
 ·simp only [h,if_true]
  (refine q_H Tryz.func23 (fun F=>?_); simp only [q_z,q_y,Tryz.ntmps23,Tryz.results23])
  repeat' (first|with_reducible refine q_0 ?_|((with_reducible first|refine q_q qb5_ok fun K hK=>?_|refine q_r qb5_ok fun K hK=>?_);simp (maxSteps:=2000000) only [go_sem,↓reduceIte,reduceCtorEq,Nat.reduceLeDiff,Nat.reduceLT,Nat.reduceBEq,Nat.reduceAdd,h,h'];(repeat1' with_reducible first|apply And.intro|(intro _;try exact q_v)|(refine hK _ ?_;clear hK K))<;>(try (clear hK K;exact q_u)))|(with_reducible refine q_s ?_;(first|apply q_J|apply q_K|apply q_L|apply q_M|apply q_N|apply q_O)<;>try (intro _;try exact q_v)))
  all_goals first | omega | assumption | exact q_B [nQ] rfl rfl | skip
def qtot2 (good : Int → Nat → Int → Nat → (AV → Prop) → Prop) (bad : List (C ⊕ List C)) : CT:=mkCT [nQ,nQ] false fun l K=>match l with
 | [.inr [.b s,.ints .u32 xs,.b p,.ints .u32 zs],.inr [.b t,.ints .u32 ys,.b q,.ints .u32 ws]] =>
   (xs.length ≤ 140737488355328 ∧ zs.length ≤ 140737488355328 ∧ ys.length ≤ 140737488355328 ∧ ws.length ≤ 140737488355328 ∧ InB 4294967296 xs ∧ InB 4294967296 zs ∧ InB 4294967296 ys ∧ InB 4294967296 ws) ∧
   (if okQ s xs p zs = true then (if okQ t ys q ws = true then good (sv 4294967296 s xs) (V 4294967296 zs) (sv 4294967296 t ys) (V 4294967296 ws) K else K (.t (bad ++ [fltQ 6 (-2)]))) else K (.t (bad ++ [fltQ 6 (-1)])))
 | _=>False
theorem gQ_of {s t : Bool} {xs ys : List Int} (h1 : okQ s xs t ys = true) (b1 : InB 4294967296 xs) (b2 : InB 4294967296 ys) : [.b s,.ints .u32 xs,.b t,.ints .u32 ys] = gQ (sv 4294967296 s xs) (V 4294967296 ys) ∧ RT (sv 4294967296 s xs) (V 4294967296 ys):=by
 obtain ⟨z,d,e1,e2,e3,e4,e5,e6,h⟩:=okQ_eq h1 b1 b2
 rw [e1,e2]
 refine ⟨?_,h⟩
 rw [gQ,← e3,← e4,← e6,e5]
theorem qtot2_tr {F : FuncId} {good : Int → Nat → Int → Nat → (AV → Prop) → Prop} {bad : List (C ⊕ List C)} (hg : ∀ (x y : Int) (c d : Nat),RT x c → RT y d → ∀ K,good x c y d K → ∃ r,Ret Tryz.prog F false [.inr (gQ x c),.inr (gQ y d)] r ∧ K r)
  (hb : ∀ (s p t q : Bool) (xs zs ys ws : List Int),xs.length ≤ 140737488355328 → zs.length ≤ 140737488355328 → ys.length ≤ 140737488355328 → ws.length ≤ 140737488355328 → InB 4294967296 xs → InB 4294967296 zs → InB 4294967296 ys → InB 4294967296 ws → (okQ s xs p zs = false ∨ okQ s xs p zs = true ∧ okQ t ys q ws = false) → Ret Tryz.prog F false [.inr [.b s,.ints .u32 xs,.b p,.ints .u32 zs],.inr [.b t,.ints .u32 ys,.b q,.ints .u32 ws]] (.t (bad ++ [fltQ 6 (if okQ s xs p zs then -2 else -1)])))
  (l : List (C ⊕ List C)) (K : AV → Prop) (hk : match l with
   | [.inr [.b s,.ints .u32 xs,.b p,.ints .u32 zs],.inr [.b t,.ints .u32 ys,.b q,.ints .u32 ws]] =>
    (xs.length ≤ 140737488355328 ∧ zs.length ≤ 140737488355328 ∧ ys.length ≤ 140737488355328 ∧ ws.length ≤ 140737488355328 ∧ InB 4294967296 xs ∧ InB 4294967296 zs ∧ InB 4294967296 ys ∧ InB 4294967296 ws) ∧
    (if okQ s xs p zs = true then (if okQ t ys q ws = true then good (sv 4294967296 s xs) (V 4294967296 zs) (sv 4294967296 t ys) (V 4294967296 ws) K else K (.t (bad ++ [fltQ 6 (-2)]))) else K (.t (bad ++ [fltQ 6 (-1)])))
   | _=>False) : ∃ r,Ret Tryz.prog F false l r ∧ K r:=by
 split at hk
 ·rename_i s xs p zs t ys q ws
  obtain ⟨⟨h1,h2,h3,h4,b1,b2,b3,b4⟩,h⟩:=hk
  split at h
  ·rename_i o1
   split at h
   ·rename_i o2
    obtain ⟨e1,r1⟩:=gQ_of o1 b1 b2
    obtain ⟨e2,r2⟩:=gQ_of o2 b3 b4
    rw [e1,e2]
    exact hg _ _ _ _ r1 r2 K h
   ·rename_i o2
    have:=hb s p t q xs zs ys ws h1 h2 h3 h4 b1 b2 b3 b4 (.inr ⟨o1,by simpa using o2⟩)
    rw [if_pos o1] at this
    exact ⟨_,this,h⟩
  ·rename_i o1
   have:=hb s p t q xs zs ys ws h1 h2 h3 h4 b1 b2 b3 b4 (.inl (by simpa using o1))
   rw [if_neg o1] at this
   exact ⟨_,this,h⟩
 ·exact hk.elim
def qgAdd (x : Int) (c : Nat) (y : Int) (d : Nat) (K : AV → Prop) : Prop:=K (rQ (x * d + y * c) (c * d))
def qgSub (x : Int) (c : Nat) (y : Int) (d : Nat) (K : AV → Prop) : Prop:=K (rQ (x * d - y * c) (c * d))
def qgMul (x : Int) (c : Nat) (y : Int) (d : Nat) (K : AV → Prop) : Prop:=K (rQ (x * y) (c * d))
def qgDiv (x : Int) (c : Nat) (y : Int) (d : Nat) (K : AV → Prop) : Prop:=(y = 0 → K (.t [zQ,fltQ 22 (-2)])) ∧ (¬ y = 0 → K (rQ (x * tn y d) (c * y.natAbs)))
def qt6 : Cfg:=addT 20 (qtot2 qgAdd [zQ]) cf0
theorem qt6_ok : TblOk Tryz.prog qt6:=q_I cf0_ok Tryz.func20 fun l K h =>
 qtot2_tr (good:=qgAdd) (bad:=[zQ]) (fun x y c d hx hy K h=>⟨_,qAdd_ok x y c d hx hy,h⟩) (fun s p t q xs zs ys ws h1 h2 h3 h4 b1 b2 b3 b4 h=>qAdd_bad s p t q xs zs ys ws h1 h2 h3 h4 b1 b2 b3 b4 h) l K h
def qt7 : Cfg:=addT 21 (qtot2 qgSub [zQ]) cf0
theorem qt7_ok : TblOk Tryz.prog qt7:=q_I cf0_ok Tryz.func21 fun l K h =>
 qtot2_tr (good:=qgSub) (bad:=[zQ]) (fun x y c d hx hy K h=>⟨_,qSub_ok x y c d hx hy,h⟩) (fun s p t q xs zs ys ws h1 h2 h3 h4 b1 b2 b3 b4 h=>qSub_bad s p t q xs zs ys ws h1 h2 h3 h4 b1 b2 b3 b4 h) l K h
def qt8 : Cfg:=addT 22 (qtot2 qgMul [zQ]) cf0
theorem qt8_ok : TblOk Tryz.prog qt8:=q_I cf0_ok Tryz.func22 fun l K h =>
 qtot2_tr (good:=qgMul) (bad:=[zQ]) (fun x y c d hx hy K h=>⟨_,qMul_ok x y c d hx hy,h⟩) (fun s p t q xs zs ys ws h1 h2 h3 h4 b1 b2 b3 b4 h=>qMul_bad s p t q xs zs ys ws h1 h2 h3 h4 b1 b2 b3 b4 h) l K h
def qt10 : Cfg:=addT 23 (qtot2 qgDiv [zQ]) cf0
theorem qt10_ok : TblOk Tryz.prog qt10:=q_I cf0_ok Tryz.func23 fun l K h =>
 qtot2_tr (good:=qgDiv) (bad:=[zQ]) (fun x y c d hx hy K h=>by
  by_cases hy0 : y = 0
  ·subst hy0; exact ⟨_,qDiv_zero x c d hx hy,h.1 rfl⟩
  ·exact ⟨_,qDiv_ok x y c d hx hy hy0,h.2 hy0⟩) (fun s p t q xs zs ys ws h1 h2 h3 h4 b1 b2 b3 b4 h=>qDiv_bad s p t q xs zs ys ws h1 h2 h3 h4 b1 b2 b3 b4 h) l K h
attribute [go_sem] qtot2 qgAdd qgSub qgMul qgDiv zQ fltQ
end Go.Proofs.YtgkajjifbcmoeaaGreatDoor

namespace Go.Proofs.YtgkajjifbcmoeaaGreatDoor
set_option linter.unusedSimpArgs false
set_option linter.unusedVariables false
open Go.Abs Go.Proofs.NatL

theorem sv65d (s : Bool) (m : Nat) : sv 65536 s (dg 65536 m) = sg s m:=sv_d (by omega) s m
theorem sg_sgz (z : Int) (c : Bool) : sg (sgz z c) z.natAbs = z:=by rw [← sv65d,svz65]
attribute [go_sem] sv65d sg_self sg_sgz
end Go.Proofs.YtgkajjifbcmoeaaGreatDoor

namespace Go.Proofs.NatL
set_option linter.unusedSimpArgs false
set_option linter.unusedVariables false
end Go.Proofs.NatL
namespace Go.Proofs.YtgkajjifbcmoeaaGreatDoor
set_option linter.unusedSimpArgs false
set_option linter.unusedVariables false
open Go.Abs Go.Proofs.NatL

def dpos (_ : Int) (d : Nat) : Prop:=0 < d
theorem dpos_d (z : Int) (d : Nat) : dpos z d = (0 < d):=rfl
attribute [go_sem] dpos_d
def dpos2 (_ : Int) (c : Nat) (_ : Int) (d : Nat) : Prop:=0 < c ∧ 0 < d
def dany2 (_ : Int) (_ : Nat) (_ : Int) (_ : Nat) : Prop:=True
theorem dpos2_d (x : Int) (c : Nat) (y : Int) (d : Nat) : dpos2 x c y d = (0 < c ∧ 0 < d):=rfl
theorem dany2_d (x : Int) (c : Nat) (y : Int) (d : Nat) : dany2 x c y d = True:=rfl
attribute [go_sem] dpos2_d dany2_d
end Go.Proofs.YtgkajjifbcmoeaaGreatDoor
