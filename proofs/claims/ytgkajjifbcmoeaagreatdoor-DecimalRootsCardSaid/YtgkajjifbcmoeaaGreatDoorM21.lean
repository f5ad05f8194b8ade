import Derived.Test.YtgkajjifbcmoeaaGreatDoorM18
import Derived.Test.YtgkajjifbcmoeaaGreatDoorM20
namespace Go.Proofs.YtgkajjifbcmoeaaGreatDoor
set_option linter.unusedSimpArgs false
set_option linter.unusedVariables false
open Go.Abs Go.Proofs.NatL

def gcGoodCT : CT:=mkCT [.inl (some (.ints .u32 [])),.inl (some (.ints .u32 []))] false fun l K=>match l with
 | [.inl (.ints .u32 xs),.inl (.ints .u32 ys)]=>(okN xs = true ∧ okN ys = true ∧ InB 4294967296 xs ∧ InB 4294967296 ys) ∧ K (.t [.inl (.ints .u32 (dg 4294967296 (Nat.gcd (V 4294967296 xs) (V 4294967296 ys)))),.inr [.i .i64 0,.i .i64 0]])
 | _=>False
def nt7 : Cfg:=addT 15 smallCT cf0
theorem nt7_ok : TblOk Tryz.prog nt7:=q_I cf0_ok Tryz.func15 fun l K h=>by
 split at h
 ·rename_i n
  obtain ⟨m,rfl⟩ : ∃ m : Nat,n = m:=⟨n.toNat,by omega⟩
  exact ⟨_,small_ret m (by omega),by simpa using h.2⟩
 ·exact h.elim
def nt8 : Cfg:=addT 180 onesCT cf0
theorem nt8_ok : TblOk Tryz.prog nt8:=q_I cf0_ok Tryz.func180 fun l K h=>by
 split at h
 ·rename_i xs
  obtain ⟨⟨h1,h2,h3⟩,h⟩:=h
  have e:=dg_V 65536 (by omega) xs h2 h3
  have:=ones_ret (V 65536 xs) (by rw [e]; exact h1)
  rw [e] at this
  exact ⟨_,this,h⟩
 ·exact h.elim
def nt9 : Cfg:=addT 137 binaryCT cf0
theorem nt9_ok : TblOk Tryz.prog nt9:=q_I cf0_ok Tryz.func137 fun l K h=>by
 split at h
 ·exact ⟨_,binary_ret _ h.1,h.2⟩
 ·exact h.elim
attribute [go_sem] gcGoodCT
end Go.Proofs.YtgkajjifbcmoeaaGreatDoor

namespace Go.Proofs.NatL
set_option linter.unusedSimpArgs false
set_option linter.unusedVariables false

theorem B2_nil : B2 [] = 0:=rfl
theorem B2_cons (b : Bool) (l : List Bool) : B2 (b :: l) = 2 * B2 l + (if b then 1 else 0):=by
 have h:=group_step (b :: l) 0 l.length (by simp)
 simpa using h
theorem set_zeros (k : Nat) (ls : List Bool) (hk : 0 < k) (b : Bool) : (List.replicate k false ++ ls).set (k - 1) b = List.replicate (k - 1) false ++ b :: ls:=by
 obtain ⟨j,rfl⟩ : ∃ j,k = j + 1:=⟨k - 1,by omega⟩
 rw [show j + 1 - 1 = j by omega,List.replicate_succ',List.append_assoc]
 rw [List.set_append_right _ _ (by simp)]
 simp
theorem drop_bit (l : List Bool) (k : Nat) (hk : 0 < k) (hl : k ≤ l.length) : B2 (l.drop (k - 1)) = 2 * B2 (l.drop k) + (if l.getD (k - 1) false then 1 else 0):=by
 rw [List.drop_eq_getElem_cons (i:=k - 1) (by omega),B2_cons,show k - 1 + 1 = k by omega]
 simp [List.getD_eq_getElem?_getD,List.getElem?_eq_getElem (show k - 1 < l.length by omega)]
theorem drop_bs (m : Nat) : B2 ((bs m).drop 0) = m:=by rw [List.drop_zero,B2_bs]
end Go.Proofs.NatL
