import Derived.Test.YtgkajjifbcmoeaaGreatDoorM63
namespace Go.Proofs.YtgkajjifbcmoeaaGreatDoor
set_option linter.unusedSimpArgs false
set_option linter.unusedVariables false
open Go.Abs Go.Proofs.NatL Go.ChangeShapes Go.WideShapes Go.ChangeAt Go.RowKit

set_option maxRecDepth 100000 in
theorem open_Context {H : Type} {enc : TypeId × Value → H} {W : World} {base : Nat} {v : Value} {d : DataW H} {p : List MemPlace} (hval : Value.okWide Tryz.prog W .any base 28 v) (h : DataW.Trod enc Tryz.prog W 0 (fun _=>true) true 28 v d p) :
  ∃ (k l m n : Int),RdS W Top (.inr [.i .i64 k,.i .i64 l,.i .i64 m,.i .i64 n]) v:=by
 obtain ⟨cs,rfl,hcs⟩:=okWide_struct Tryz.underlying28 hval
 obtain ⟨fuel,hf⟩:=h
 obtain ⟨ys,n,_,hy,hl,hlen,hfs⟩:=DataW.trod_struct Tryz.underlying28 hf
 cases hy
 match ys,hlen with
 | [y0,y1,y2,y3],_ =>
 have f0 : DataW.trod enc Tryz.prog W 0 (fun _=>true) true n 3 ((cs.toList.drop 0).take (Tryz.prog.cellsOf 3)) = some y0:=hfs 0 _ rfl
 rw [cells_int] at f0
 have f1 : DataW.trod enc Tryz.prog W 0 (fun _=>true) true n 3 ((cs.toList.drop 1).take (Tryz.prog.cellsOf 3)) = some y1:=hfs 1 _ rfl
 rw [cells_int] at f1
 have f2 : DataW.trod enc Tryz.prog W 0 (fun _=>true) true n 3 ((cs.toList.drop 2).take (Tryz.prog.cellsOf 3)) = some y2:=hfs 2 _ rfl
 rw [cells_int] at f2
 have f3 : DataW.trod enc Tryz.prog W 0 (fun _=>true) true n 3 ((cs.toList.drop 3).take (Tryz.prog.cellsOf 3)) = some y3:=hfs 3 _ rfl
 rw [cells_int] at f3
 have hl : cs.toList.length = Tryz.prog.cellsOf 28:=hl
 obtain ⟨k0,e0,_,_⟩:=DataW.trod_int Tryz.underlying3 f0
 obtain ⟨k1,e1,_,_⟩:=DataW.trod_int Tryz.underlying3 f1
 obtain ⟨k2,e2,_,_⟩:=DataW.trod_int Tryz.underlying3 f2
 obtain ⟨k3,e3,_,_⟩:=DataW.trod_int Tryz.underlying3 f3
 refine ⟨k0,k1,k2,k3,⟨cs,rfl,?_⟩⟩
 have hlen : cs.toList.length = 4:=by rw [hl]; kernel_rfl
 match hq : cs.toList,hlen with
 | [a0,a1,a2,a3],_ =>
 rw [hq] at e0 e1 e2 e3
 simp only [List.drop_zero,List.drop_succ_cons,List.take_succ_cons,List.take_zero,List.cons.injEq,and_true] at e0 e1 e2 e3
 subst e0; subst e1; subst e2; subst e3
 exact rdL_append (rdL_one (.i .i64 _)) (rdL_append (rdL_one (.i .i64 _)) (rdL_append (rdL_one (.i .i64 _)) (rdL_one (.i .i64 _))))
end Go.Proofs.YtgkajjifbcmoeaaGreatDoor
