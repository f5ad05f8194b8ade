import Derived.Below
import Derived.Calls
import Derived.Carry
import Derived.Deep.MidRow
import Derived.Laws.AppendOwn
import Derived.Laws.BytesString
import Derived.Laws.CopyRow
import Derived.Laws.IdiomCopy
import Derived.Laws.MakeOwn
import Derived.Laws.OwnMore
import Derived.Laws.Rows
import Derived.Laws.Tables
import Derived.Lib.AppendStr
import Derived.Lib.ConvBytes
import Derived.MapKept
import Derived.Orders
namespace Go
set_option linter.unusedSimpArgs false
set_option linter.unusedVariables false
def okF (fz : Nat × Nat) (n : Nat) : Prop:=fz.2 ≤ fz.1 ∨ n ≤ fz.1
def World.ownsR (w : World) (base : Nat) (e : TypeId) (size : Nat) (v : Value) (n : Nat) (xs : List Value) : Prop :=
  xs.length = n * size ∧
  ((v = .slice none 0 0 ∧ n = 0) ∨
   ∃ g cap cur, v = .slice (some ⟨g, 0, none⟩) n cap ∧ base ≤ g ∧ (∃ fz, w.heap[g]? = some (.cells cur e fz) ∧ okF fz cur.size) ∧ n ≤ cap ∧ cap ≤ maxLen ∧ cur.size = cap * size ∧ cur.toList.take (n * size) = xs)
section
variable {w : World} {base : Nat} {e : TypeId} {size : Nat} {v : Value} {n : Nat} {xs : List Value}
theorem World.ownsRow.r (h : w.ownsRow base e size v n xs) : w.ownsR base e size v n xs:=by
 refine ⟨h.1,?_⟩
 rcases h.2 with h | ⟨g,cap,cur,h1,h2,h3,h4⟩
 ·exact .inl h
 ·exact .inr ⟨g,cap,cur,h1,h2,⟨_,h3,.inl (Nat.le_refl _)⟩,h4⟩
theorem World.ownsR_nil (w : World) (base : Nat) (e : TypeId) (size : Nat) : w.ownsR base e size (.slice none 0 0) 0 []:=⟨by simp,.inl ⟨rfl,rfl⟩⟩
theorem World.ownsR.lt (h : w.ownsR base e size v n xs) : ∀ k,v.ownBlock = some k → base ≤ k ∧ k < w.heap.size:=by
 intro k hk
 rcases h.2 with ⟨rfl,_⟩ | ⟨g,cap,cur,rfl,hb,⟨_,hg,_⟩,_⟩
 ·simp [Value.ownBlock] at hk
 ·simp [Value.ownBlock] at hk
  subst hk
  exact ⟨hb,(Array.getElem?_eq_some_iff.1 hg).1⟩
theorem World.ownsR.kept {w' : World} {row : Option Nat} (h : w.ownsR base e size v n xs) (hg : w.grownBy w' row) (hne : v.ownBlock = none ∨ v.ownBlock ≠ row) : w'.ownsR base e size v n xs:=by
 refine ⟨h.1,?_⟩
 rcases h.2 with hn | ⟨g,cap,cur,rfl,hb,⟨fz,hgg,hok⟩,rest⟩
 ·exact .inl hn
 ·refine .inr ⟨g,cap,cur,rfl,hb,⟨fz,?_,hok⟩,rest⟩
  rw [hg.block g (Array.getElem?_eq_some_iff.1 hgg).1 (by simpa [Value.ownBlock] using hne)]
  exact hgg
theorem World.ownsR.alloc (h : w.ownsR base e size v n xs) (o : Obj) : (w.alloc o).ownsR base e size v n xs :=
 h.kept (World.grownBy_alloc w o none) (by cases hv : v.ownBlock <;> simp)
theorem World.ownsR.cells (h : w.ownsR base e size v n xs) {g : Nat} (hg : v.ownBlock = some g) : ∀ j u,xs[j]? = some u → w.cell? ((⟨g,0,none⟩ : Addr).add j) = some u:=by
 intro j u hu
 rcases h.2 with ⟨rfl,_⟩ | ⟨g',cap,cur,rfl,_,⟨fz,hgg,_⟩,_,_,_,htake⟩
 ·simp [Value.ownBlock] at hg
 ·simp [Value.ownBlock] at hg
  subst hg
  have hadd : (⟨g',0,none⟩ : Addr).add j = ⟨g',j,none⟩:=by unfold Addr.add; split <;> simp_all
  rw [hadd,cell_of_row w g' j cur e fz hgg]
  rw [← htake,List.getElem?_take] at hu
  split at hu
  ·simpa using hu
  ·cases hu
end
theorem World.ownsR.cellAt {w : World} {base : Nat} {e : TypeId} {size g n cap : Nat} {xs : List Value} (h : w.ownsR base e size (.slice (some ⟨g,0,none⟩) n cap) n xs) (j : Nat) (hj : j < n * size) : w.cell? ⟨g,j,none⟩ = xs[j]?:=by
 rcases h.2 with ⟨h',_⟩ | ⟨g',cap',cur,h',_,⟨fz,hg,_⟩,_,_,_,htake⟩
 ·simp at h'
 ·simp only [Value.slice.injEq,Option.some.injEq,Addr.mk.injEq,and_true,true_and] at h'
  obtain ⟨rfl,rfl⟩:=h'
  rw [cell_of_row w g j cur e fz hg,← htake,List.getElem?_take,if_pos hj]
  simp
theorem frozen_okF {w : World} {g j : Nat} {cur : Array Value} {e : TypeId} {fz : Nat × Nat} (hg : w.heap[g]? = some (.cells cur e fz)) (hok : okF fz cur.size) (hj : j < cur.size) : w.frozen? ⟨g,j,none⟩ = false:=by
 obtain ⟨lo,hi'⟩:=fz
 simp only [World.frozen?,hg]
 unfold okF at hok
 simp only at hok
 simp only [Bool.and_eq_false_iff,decide_eq_false_iff_not]
 omega
theorem World.ownsR.frozenAt {w : World} {base : Nat} {e : TypeId} {size g n cap : Nat} {xs : List Value} (h : w.ownsR base e size (.slice (some ⟨g,0,none⟩) n cap) n xs) (j : Nat) (hj : j < n * size) : w.frozen? ⟨g,j,none⟩ = false:=by
 rcases h.2 with ⟨h',_⟩ | ⟨g',cap',cur,h',_,⟨fz,hg,hok⟩,hnc,_,hcs,_⟩
 ·simp at h'
 ·simp only [Value.slice.injEq,Option.some.injEq,Addr.mk.injEq,and_true,true_and] at h'
  obtain ⟨rfl,rfl⟩:=h'
  exact frozen_okF hg hok (by rw [hcs]; exact Nat.lt_of_lt_of_le hj (Nat.mul_le_mul_right _ hnc))
theorem World.ownsR.stored {w : World} {base : Nat} {e : TypeId} {size g n cap : Nat} {xs : List Value} (h : w.ownsR base e size (.slice (some ⟨g,0,none⟩) n cap) n xs) (j : Nat) (u : Value) :
  (w.setCell ⟨g,j,none⟩ u).ownsR base e size (.slice (some ⟨g,0,none⟩) n cap) n (xs.set j u) ∧ w.grownBy (w.setCell ⟨g,j,none⟩ u) (some g):=by
 rcases h.2 with ⟨h',_⟩ | ⟨g',cap',cur,h',hb,⟨fz,hg,hok⟩,hnc,hcm,hcs,htake⟩
 ·simp at h'
 ·simp only [Value.slice.injEq,Option.some.injEq,Addr.mk.injEq,and_true,true_and] at h'
  obtain ⟨rfl,rfl⟩:=h'
  refine ⟨⟨by simpa using h.1,.inr ⟨g,cap,cur.setIfInBounds j u,rfl,hb,⟨fz,by simp [World.setCell,Array.getElem?_modify,hg],by simpa using hok⟩,hnc,hcm,by simpa using hcs,?_⟩⟩,
   ⟨rfl,rfl,rfl,by simp,fun k _ hk=>heap_setCell_other w ⟨g,j,none⟩ k u (fun e=>hk (by simp [e]))⟩⟩
  rw [Array.toList_setIfInBounds,← htake,List.take_set]
section
variable {P : Program}
theorem run_storeCells_okF (g o : Nat) (t : TypeId) (fz : Nat × Nat) : ∀ (vs : List Value) (i : Nat) (cur : Array Value) (w : World),w.heap[g]? = some (.cells cur t fz) → okF fz cur.size → o + i + vs.length ≤ cur.size → (∀ v ∈ vs,v.oneCell' = true) →
  (storeCells ⟨g,o,none⟩ vs i).run P w = .ok () (w.setRow g (cur.toList.take (o + i) ++ vs ++ cur.toList.drop (o + i + vs.length)).toArray)
 | [],i,cur,w,hg,_,_,_=>by
  simp only [storeCells,List.append_nil,List.length_nil,Nat.add_zero,List.take_append_drop,Array.toArray_toList]
  rw [setRow_self w g cur t fz hg]
  rfl
 | v :: rest,i,cur,w,hg,hok,hl,h1=>by
  have hi : o + i < cur.size:=by simp at hl; omega
  have hadd : (⟨g,o,none⟩ : Addr).add i = ⟨g,o + i,none⟩:=by unfold Addr.add; split <;> simp_all
  have hcell : w.cell? ⟨g,o + i,none⟩ = some cur[o + i]:=by simp [World.cell?,hg,hi]
  have hfro : w.frozen? ⟨g,o + i,none⟩ = false:=by
   obtain ⟨lo,hi'⟩:=fz
   simp only [World.frozen?,hg]
   unfold okF at hok
   simp only at hok
   simp only [Bool.and_eq_false_iff,decide_eq_false_iff_not]
   omega
  have hst : (store ((⟨g,o,none⟩ : Addr).add i) v).run P w = .ok () (w.setRow g (cur.setIfInBounds (o + i) v)):=by
   rw [hadd,run_store P w _ v _ (h1 v (by simp)),hcell]
   simp [hfro,setCell_eq_setRow w g (o + i) cur t fz v hg]
  have ih:=run_storeCells_okF g o t fz rest (i + 1) (cur.setIfInBounds (o + i) v) (w.setRow g (cur.setIfInBounds (o + i) v)) (setRow_heap w g cur _ t _ hg) (by simpa using hok) (by simp at hl ⊢; omega) (fun x hx=>h1 x (by simp [hx]))
  simp only [storeCells,Sem.run_bind,hst,Result.andThen_ok,ih,setRow_setRow]
  congr 3
  simp only [Array.toList_setIfInBounds]
  have:=list_seg_step cur.toList (o + i) v rest (by simpa using (by simp at hl; omega : o + i + (rest.length + 1) ≤ cur.size))
  simpa [Nat.add_assoc] using this
theorem run_copy_row' (w : World) (dT sT ty elem : TypeId) (g o dLen dCap : Nat) (a : Addr) (sLen sCap : Nat) (cur : Array Value) (t : TypeId) (fz : Nat × Nat) (cs : List Value)
  (hu : P.underlying dT = some (.slice elem)) (hs : (P.info? elem).map (·.size) = some 1)
  (hg : w.heap[g]? = some (.cells cur t fz)) (hok : okF fz cur.size) (hn : cs.length = Nat.min sLen dLen)
  (hsrc : ∀ j v,cs[j]? = some v → w.cell? (a.add j) = some v) (hfit : o + cs.length ≤ cur.size) (h1 : ∀ v ∈ cs,v.oneCell' = true) :
  (Builtin.copy_ #[dT,sT] ty #[.slice (some ⟨g,o,none⟩) dLen dCap,.slice (some a) sLen sCap]).run P w =
   .ok (goInt cs.length) (w.setRow g (cur.toList.take o ++ cs ++ cur.toList.drop (o + cs.length)).toArray):=by
 have hl:=run_loadCells_list (P:=P) w a cs hsrc
 have hst:=run_storeCells_okF (P:=P) g o t fz cs 0 cur w hg hok (by simpa using hfit) h1
 cases hq : P.info? elem with
 | none=>simp [hq] at hs
 | some i =>
  have hi : i.size = 1:=by simpa [hq] using hs
  simp [Builtin.copy_,run_underlying hu,Builtin.lenOf,Builtin.firstCells,sizeOf,typeInfo,hq,hi,← hn,hl,hst]
theorem run_append_room' (w : World) (t ty e : TypeId) (i : TypeInfo) (ht : P.underlying t = some (.slice e)) (hi : P.info? e = some i)
  (g sLen sCap : Nat) (cur : Array Value) (fz : Nat × Nat) (hg : w.heap[g]? = some (.cells cur e fz)) (hok : okF fz cur.size)
  (a : Addr) (m c : Nat) (news : List Value) (hl : news.length = m * i.size) (hnews : ∀ j u,news[j]? = some u → w.cell? (a.add j) = some u) (h1 : ∀ u ∈ news,u.oneCell' = true)
  (hroom : sLen + m ≤ sCap) (hfit : sLen * i.size + news.length ≤ cur.size) :
  (Builtin.append_ #[t,t] ty #[.slice (some ⟨g,0,none⟩) sLen sCap,.slice (some a) m c]).run P w =
   .ok (.slice (some ⟨g,0,none⟩) (sLen + m) sCap) (w.setRow g (cur.toList.take (sLen * i.size) ++ news ++ cur.toList.drop (sLen * i.size + news.length)).toArray):=by
 have hf:=run_firstCells_some (P:=P) w i.size m a m c news hl hnews
 have hst:=run_storeCells_okF (P:=P) g (sLen * i.size) e fz news 0 cur w hg hok (by simpa using hfit) h1
 simp only [Nat.add_zero] at hst
 simp [Builtin.append_,run_underlying ht,sizeOf,typeInfo,hi,Builtin.lenOf,hroom,hf,Addr.add_lit,hst]
theorem run_append_ownR (w : World) (base : Nat) (t ty e : TypeId) (i : TypeInfo) (z : Value) (size bytes : Nat) (ht : P.underlying t = some (.slice e)) (hi : P.info? e = some i) (hz : i.zero = some z)
  (hsize : i.size = size) (hby : i.bytes = bytes) (hzs : z.cells.size = size) (hsz : 0 < size)
  (v : Value) (n : Nat) (xs : List Value) (hown : w.ownsR base e size v n xs)
  (a : Addr) (m c : Nat) (news : List Value) (hl : news.length = m * size) (hnews : ∀ j u,news[j]? = some u → w.cell? (a.add j) = some u) (h1 : ∀ u ∈ news,u.oneCell' = true)
  (h63 : n + m ≤ maxLen) (hbytes : (n + m) * bytes ≤ 140737488355328) (hbase : base ≤ w.heap.size) :
  ∃ v' w',(Builtin.append_ #[t,t] ty #[v,.slice (some a) m c]).run P w = .ok v' w' ∧ w'.ownsR base e size v' (n + m) (xs ++ news) ∧ w.grownBy w' v.ownBlock ∧
   (∀ g,v'.ownBlock = some g → v.ownBlock = some g ∨ w.heap.size ≤ g):=by
 rcases hown.2 with ⟨rfl,rfl⟩ | ⟨g,cap,cur,rfl,hbg,⟨fz,hg,hok⟩,hnc,hcm,hcs,htake⟩
 ·have hx : xs = []:=List.eq_nil_of_length_eq_zero (by simpa using hown.1)
  subst hx
  obtain ⟨v',w',h1',h2',h3',h4'⟩:=run_append_own (P:=P) w base t ty e i z size bytes ht hi hz hsize hby hzs hsz (.slice none 0 0) 0 [] (World.ownsRow_nil w base e size) a m c news hl hnews h1 h63 hbytes hbase
  refine ⟨v',w',h1',h2'.r,h3',fun g hg=>?_⟩
  by_cases hm : m = 0
  ·have:=h4'.2 ⟨rfl,hm⟩
   subst this; simp [Value.ownBlock] at hg
  ·have hr:=run_append_nil (P:=P) w t ty e i z ht hi hz a m c news (by rw [hsize]; exact hl) hnews (by omega) (by simp only [maxLen] at h63; omega) (by rw [hby]; have hb:=hbytes; simp only [Nat.zero_add] at hb; omega)
   rw [hr] at h1'
   cases h1'
   simp [Value.ownBlock] at hg
   omega
 ·subst hsize
  subst hby
  have hlen : (xs ++ news).length = (n + m) * i.size:=by rw [List.length_append,hown.1,hl,Nat.add_mul]
  have hsmall : n + m ≤ 9223372036854775807:=by simp only [maxLen] at h63; omega
  by_cases hroom : n + m ≤ cap
  ·have hfit : n * i.size + news.length ≤ cur.size:=by rw [hl,hcs,← Nat.add_mul]; exact Nat.mul_le_mul_right _ hroom
   have hr:=run_append_room' (P:=P) w t ty e i ht hi g n cap cur fz hg hok a m c news hl hnews h1 hroom hfit
   have hsz' : ((cur.toList.take (n * i.size) ++ news ++ cur.toList.drop (n * i.size + news.length)).toArray).size = cur.size:=by
    simp only [List.size_toArray,List.length_append,List.length_take,List.length_drop,Array.length_toList]
    omega
   refine ⟨_,_,hr,⟨hlen,.inr ⟨g,cap,_,rfl,hbg,⟨fz,setRow_heap w g cur _ e _ hg,by rw [hsz']; exact hok⟩,hroom,hcm,by rw [hsz',hcs],?_⟩⟩,⟨rfl,rfl,rfl,by simp,fun k _ hk=>setRow_other w g k _ (fun e=>hk (by simp [Value.ownBlock,e]))⟩,fun g hg=>.inl hg⟩
   rw [htake,← hlen]
   exact List.take_left
  ·have holds : ∀ j u,xs[j]? = some u → w.cell? ((⟨g,0,none⟩ : Addr).add j) = some u:=hown.cells (g:=g) rfl
   have hr:=run_append_grow (P:=P) w t ty e i z ht hi hz ⟨g,0,none⟩ n cap xs hown.1 holds a m c news hl hnews (by omega) (by omega) (growslice_fits (by omega) hbytes)
   have hge:=grownCap_ge w (n + m) cap e
   have hcm' : grownCap w (n + m) cap e ≤ maxLen:=grownCap_le_maxLen w (n + m) cap e h63
   refine ⟨_,_,hr,⟨hlen,.inr ⟨w.heap.size,_,_,rfl,hbase,⟨_,heap_alloc_new w.drew _,.inl (Nat.le_refl _)⟩,hge,hcm',?_,?_⟩⟩,⟨rfl,rfl,rfl,by simp,fun k hk _=>heap_alloc_old w.drew _ k hk⟩,fun g' hg'=>by simp [Value.ownBlock] at hg'; right; omega⟩
   ·simp only [Array.size_append,List.size_toArray,size_zeroCells,hzs,hown.1,hl,← Nat.add_mul]
    congr 1
    omega
   ·simp only [Array.toList_append,List.append_assoc]
    rw [← List.append_assoc,← hlen]
    exact List.take_left
theorem run_append_ownR_none (w : World) (base : Nat) (t ty e : TypeId) (i : TypeInfo) (size : Nat) (ht : P.underlying t = some (.slice e)) (hi : P.info? e = some i)
  (v : Value) (n : Nat) (xs : List Value) (hown : w.ownsR base e size v n xs) :
  (Builtin.append_ #[t,t] ty #[v,.slice none 0 0]).run P w = .ok v w:=by
 rcases hown.2 with ⟨rfl,rfl⟩ | ⟨g,cap,cur,rfl,_,_,hnc,_⟩
 ·simp [Builtin.append_,run_underlying ht,sizeOf,typeInfo,hi,Builtin.lenOf,Builtin.firstCells]
 ·simp [Builtin.append_,run_underlying ht,sizeOf,typeInfo,hi,Builtin.lenOf,Builtin.firstCells,hnc,storeCells]
end
end Go

namespace Go.Abs
set_option linter.unusedSimpArgs false
set_option linter.unusedVariables false
open Go.RowKit

inductive C where
 | a (x : Value)
 | i (k : IntKind) (n : Int)
 | b (x : Bool)
 | str (s : ByteArray)
 | nil
 | e0
 | ints (k : IntKind) (xs : List Int)
 | bools (xs : List Bool)
 | sl (z : Nat) (xs : List (List C))
 | ptr (xs : List C)
 | m (f : ByteArray → Option C) (n : Nat)

def C.z : C → Nat
 | .sl z _=>z
 | _=>1

def C.rows : C → Option (Nat × List (List C))
 | .ints k xs=>some (1,xs.map fun x=>[.i k x])
 | .bools xs=>some (1,xs.map fun x=>[.b x])
 | .sl z xs=>some (z,xs)
 | _=>none

def at2 (rs : List (List C)) (i j : Nat) : Option C:=(rs[i]?).bind (·[j]?)

abbrev oneCell (v : Value) : Bool:=v.oneCell'

inductive Rd (w : World) (S : Nat → Prop) : C → Value → Prop where
 | a (x : Value) (h : oneCell x = true) : Rd w S (.a x) x
 | i (k : IntKind) (n : Int) : Rd w S (.i k n) (.int k n)
 | b (x : Bool) : Rd w S (.b x) (.bool x)
 | str (s : ByteArray) : Rd w S (.str s) (.string s)
 | nil : Rd w S .nil (.slice none 0 0)
 | e0 (a : Addr) (cap : Nat) : Rd w S .e0 (.slice (some a) 0 cap)
 | emp (c : C) (z : Nat) (p : Option Addr) (cap : Nat) (h : c.rows = some (z,[])) (hp : p = none → cap = 0) : Rd w S c (.slice p 0 cap)
 | sl (c : C) (z : Nat) (rs : List (List C)) (b off cap : Nat) (us : Nat → Nat → Value) (h : c.rows = some (z,rs)) (hne : rs ≠ []) (hz : 0 < z)
   (hm : rs.length ≤ maxLen) (hcap : rs.length ≤ cap) (hr : ∀ r ∈ rs,r.length = z) (hS : S b)
   (hc : ∀ i j y,at2 rs i j = some y → w.cell? ⟨b,off + (i * z + j),none⟩ = some (us i j))
   (hd : ∀ i j y,at2 rs i j = some y → Rd w S y (us i j)) : Rd w S c (.slice (some ⟨b,off,none⟩) rs.length cap)
 | ptr (xs : List C) (b off : Nat) (us : Nat → Value) (hS : S b) (hb : b < w.heap.size) (hc : ∀ j y,xs[j]? = some y → w.cell? ⟨b,off + j,none⟩ = some (us j)) (hd : ∀ j y,xs[j]? = some y → Rd w S y (us j)) : Rd w S (.ptr xs) (.pointer (some ⟨b,off,none⟩))
 | m (f : ByteArray → Option C) (n b : Nat) (es : Array MapEntry) (ck : Nat) (cs : Nat → C) (qs : Nat → ByteArray) (hS : S b) (hh : w.heap[b]? = some (.map es ck)) (hn : es.size = n)
   (hk : ∀ i e,es[i]? = some e → e.key = .string (qs i) ∧ f (qs i) = some (cs i)) (hd : ∀ i e,es[i]? = some e → Rd w S (cs i) e.val)
   (ha : ∀ q c,f q = some c → ∃ e ∈ es.toList,e.key = .string q) (hp : es.toList.Pairwise (fun a b=>a.key ≠ b.key)) : Rd w S (.m f n) (.map (some b))

theorem block_lt {w : World} {a : Addr} {v : Value} (h : w.cell? a = some v) : a.block < w.heap.size:=World.block_lt_of_cell? w a h

theorem at2_00 {rs : List (List C)} {z : Nat} (hne : rs ≠ []) (hz : 0 < z) (hr : ∀ r ∈ rs,r.length = z) : ∃ y,at2 rs 0 0 = some y:=by
 cases rs with
 | nil=>exact absurd rfl hne
 | cons r rs =>
  have:=hr r (List.mem_cons_self ..)
  cases r with
  | nil=>simp at this; omega
  | cons y r=>exact ⟨y,rfl⟩

theorem at2_in {rs : List (List C)} {z i j : Nat} (hr : ∀ r ∈ rs,r.length = z) (hi : i < rs.length) (hj : j < z) : ∃ y,at2 rs i j = some y:=by
 have h1 : rs[i]? = some rs[i]:=List.getElem?_eq_getElem hi
 have h2 : rs[i].length = z:=hr _ (List.getElem_mem hi)
 exact ⟨(rs[i])[j]'(by omega),by simp [at2,h1,List.getElem?_eq_getElem (show j < rs[i].length by omega)]⟩

theorem at2_lt {rs : List (List C)} {z i j : Nat} {y : C} (hr : ∀ r ∈ rs,r.length = z) (h : at2 rs i j = some y) : i < rs.length ∧ j < z:=by
 unfold at2 at h
 cases hi : rs[i]? with
 | none=>simp [hi] at h
 | some r =>
  simp [hi] at h
  have hm : r ∈ rs:=List.mem_of_getElem? hi
  have hl:=hr r hm
  have h1:=(List.getElem?_eq_some_iff.1 hi).1
  have h2:=(List.getElem?_eq_some_iff.1 h).1
  exact ⟨h1,by omega⟩

def Stays (S S' : Nat → Prop) (w w' : World) : Prop:=∀ b,S b → b < w.heap.size → S' b ∧ w'.heap[b]? = w.heap[b]?

theorem Stays.cell {S S' : Nat → Prop} {w w' : World} (h : Stays S S' w w') {a : Addr} {v : Value} (hS : S a.block) (hc : w.cell? a = some v) : w'.cell? a = some v :=
 (World.cell?_of_block (h a.block hS (block_lt hc)).2).trans hc

theorem Rd.mono {w w' : World} {S S' : Nat → Prop} {c : C} {v : Value} (hst : Stays S S' w w') (h : Rd w S c v) : Rd w' S' c v:=by
 induction h with
 | a x h=>exact .a x h
 | i k n=>exact .i k n
 | b x=>exact .b x
 | str s=>exact .str s
 | nil=>exact .nil
 | e0 a cap=>exact .e0 a cap
 | emp c z p cap h hp=>exact .emp c z p cap h hp
 | sl c z rs b off cap us h hne hz hm hcap hr hS hc hd ih =>
  obtain ⟨y,hy⟩:=at2_00 hne hz hr
  have hb:=block_lt (hc 0 0 y hy)
  exact .sl c z rs b off cap us h hne hz hm hcap hr (hst b hS hb).1 (fun i j y hy=>hst.cell hS (hc i j y hy)) ih
 | ptr xs b off us hS hb hc hd ih =>
  obtain ⟨h1,h2⟩:=hst b hS hb
  refine .ptr xs b off us h1 ?_ (fun j y hy=>hst.cell hS (hc j y hy)) ih
  have : w.heap[b]? = some (w.heap[b]'hb):=Array.getElem?_eq_getElem hb
  rw [← h2] at this
  exact (Array.getElem?_eq_some_iff.1 this).1
 | m f n b es ck cs qs hS hh hn hk hd ha hp ih =>
  obtain ⟨h1,h2⟩:=hst b hS (Array.getElem?_eq_some_iff.1 hh).1
  exact .m f n b es ck cs qs h1 (h2.trans hh) hn hk ih ha hp

inductive Key where
 | i (k : IntKind) (x : Int)
 | s (b : ByteArray)
def Key.val : Key → Value
 | .i k x=>.int k x
 | .s b=>.string b
inductive MC where
 | i (k : IntKind) (f : Int → Option C) (n : Nat)
 | s (f : ByteArray → Option C) (n : Nat)
def MC.n : MC → Nat
 | .i _ _ n=>n
 | .s _ n=>n
def MC.fn : MC → Key → Option C
 | .i k f _,.i k' x=>if k' = k then f x else none
 | .s f _,.s b=>f b
 | _,_=>none
def MapRep (w : World) (S : Nat → Prop) (con : MC) (es : Array MapEntry) : Prop :=
 es.size = con.n ∧ (∀ e ∈ es.toList,∃ q c,e.key = q.val ∧ con.fn q = some c ∧ Rd w S c e.val) ∧ (∀ q c,con.fn q = some c → ∃ e ∈ es.toList,e.key = q.val) ∧ es.toList.Pairwise (fun a b=>a.key ≠ b.key)
theorem MapRep.mono {w w' : World} {S S' : Nat → Prop} {con : MC} {es : Array MapEntry} (hst : Stays S S' w w') (h : MapRep w S con es) : MapRep w' S' con es :=
 ⟨h.1,fun e he=>let ⟨q,c,h1,h2,h3⟩:=h.2.1 e he; ⟨q,c,h1,h2,h3.mono hst⟩,h.2.2⟩

theorem Rd.one {w : World} {S : Nat → Prop} {c : C} {v : Value} (h : Rd w S c v) : oneCell v = true:=by
 cases h <;> first | rfl | assumption

inductive TE where
 | s (x : C ⊕ List C)
 | own (id ver : Nat)
 | bx (id off : Nat)
 | mp (id : Nat)
 | ln (x : C)
 | u

inductive AV where
 | c (x : C)
 | g (xs : List C)
 | t (vs : List (C ⊕ List C))
 | bx (id off : Nat)
 | own (id ver : Nat)
 | oel (id ver i off : Nat)
 | win (id ver lo len : Nat)
 | bw (k lo len : Nat)
 | bel (k i off : Nat)
 | el (xs : List C)
 | mp (id : Nat)
 | mc (con : MC)
 | fn (f : FuncId) (caps : List TE)
 | tt (l : List TE)
 | gt (l : List TE)
 | lw (l : List (C ⊕ (Nat × Nat × Nat × Nat)))
 | anc (id b : Nat)
 | ln (x : C)
 | lk (id ver : Nat) (v : Value)
 | vf (c : C)
 | u

structure Buf where
 ver : Nat
 e : TypeId
 z : Nat
 con : C

structure Bor where
 e : TypeId
 con : C

structure Hp where
 box : List (Nat × List AV)
 buf : List (Nat × Buf)
 bor : List (Nat × Bor)

def look {α : Type} : List (Nat × α) → Nat → Option α
 | [],_=>none
 | (i,x) :: l,j=>if i == j then some x else look l j

theorem look_cons {α : Type} (i : Nat) (x : α) (l : List (Nat × α)) (j : Nat) : look ((i,x) :: l) j = if i == j then some x else look l j:=rfl

structure Mp where
 bx : Nat → Option Nat
 bf : Nat → Option Value

structure Fr where
 w0 : World
 S0 : Nat → Prop
 B0 : List Nat
 G0 : List Nat
 br : Nat → Option Value

def Own (m : Mp) (b : Nat) : Prop:=(∃ i,m.bx i = some b) ∨ (∃ i v,m.bf i = some v ∧ v.ownBlock = some b)

def Fr.S (F : Fr) (m : Mp) (b : Nat) : Prop:=(F.S0 b ∧ b < F.w0.heap.size ∧ b ∉ F.B0) ∨ ((F.w0.heap.size ≤ b ∨ b ∈ F.G0) ∧ ¬ Own m b)

def RdL (w : World) (S : Nat → Prop) (xs : List C) (vs : List Value) : Prop :=
 vs.length = xs.length ∧ ∀ (j : Nat) y u,xs[j]? = some y → vs[j]? = some u → Rd w S y u

def RdS (w : World) (S : Nat → Prop) : C ⊕ List C → Value → Prop
 | .inl x,v=>Rd w S x v
 | .inr xs,v=>∃ vs,v = .agg vs ∧ RdL w S xs vs.toList

def Fr.Lent (F : Fr) (x : C) (v : Value) : Prop:=∃ T : Nat → Prop,(∀ b,T b → b < F.w0.heap.size ∧ b ∉ F.B0) ∧ Rd F.w0 T x v

def RepT (F : Fr) (H : Hp) (m : Mp) (w : World) : TE → Value → Prop
 | .s x,v=>RdS w (F.S m) x v
 | .own id ver,v=>oneCell v = true ∧ ∃ B,look H.buf id = some B ∧ ver ≤ B.ver ∧ (B.ver = ver → m.bf id = some v)
 | .bx id off,v=>∃ b,m.bx id = some b ∧ v = .pointer (some ⟨b,off,none⟩)
 | .mp id,v=>∃ b,m.bx id = some b ∧ v = .map (some b)
 | .ln x,v=>F.Lent x v
 | .u,_=>True

def RepW (F : Fr) (H : Hp) (m : Mp) (w : World) : C ⊕ (Nat × Nat × Nat × Nat) → Value → Prop
 | .inl x,v=>Rd w (F.S m) x v
 | .inr (id,ver,lo,len),v=>oneCell v = true ∧ ∃ B,look H.buf id = some B ∧ ver ≤ B.ver ∧ (B.ver = ver → ∃ p n cap,m.bf id = some (.slice p n cap) ∧ lo + len ≤ n ∧
   v = .slice (if cap = lo then p else p.map (·.add (lo * B.z))) len (cap - lo))

def RepA (F : Fr) (H : Hp) (m : Mp) (w : World) : AV → Value → Prop
 | .c x,v=>Rd w (F.S m) x v
 | .g xs,v=>∃ vs,v = .agg vs ∧ RdL w (F.S m) xs vs.toList
 | .t l,v=>∃ vs,v = .tuple vs ∧ vs.size = l.length ∧ ∀ (j : Nat) y u,l[j]? = some y → vs[j]? = some u → RdS w (F.S m) y u
 | .bx id off,v=>∃ b,m.bx id = some b ∧ v = .pointer (some ⟨b,off,none⟩)
 | .own id ver,v=>oneCell v = true ∧ ∃ B,look H.buf id = some B ∧ ver ≤ B.ver ∧ (B.ver = ver → m.bf id = some v)
 | .oel id ver i off,v=>(∃ b o,v = .pointer (some ⟨b,o,none⟩)) ∧ ∃ B,look H.buf id = some B ∧ ver ≤ B.ver ∧ (B.ver = ver → ∃ g n cap,m.bf id = some (.slice (some ⟨g,0,none⟩) n cap) ∧ i < n ∧ v = .pointer (some ⟨g,i * B.z + off,none⟩))
 | .win id ver lo len,v=>oneCell v = true ∧ ∃ B,look H.buf id = some B ∧ ver ≤ B.ver ∧ (B.ver = ver → ∃ p n cap,m.bf id = some (.slice p n cap) ∧ lo + len ≤ n ∧
   v = .slice (if cap = lo then p else p.map (·.add (lo * B.z))) len (cap - lo))
 | .bw k lo len,v=>oneCell v = true ∧ ∃ B p n cap,look H.bor k = some B ∧ F.br k = some (.slice p n cap) ∧ lo + len ≤ n ∧
   v = .slice (if cap = lo then p else p.map (·.add (lo * B.con.z))) len (cap - lo)
 | .bel k i off,v=>∃ B g n cap,look H.bor k = some B ∧ F.br k = some (.slice (some ⟨g,0,none⟩) n cap) ∧ i < n ∧ off < B.con.z ∧ v = .pointer (some ⟨g,i * B.con.z + off,none⟩)
 | .el xs,v=>∃ b off,v = .pointer (some ⟨b,off,none⟩) ∧ (xs ≠ [] → F.S m b) ∧ ∀ (j : Nat) y,xs[j]? = some y → ∃ u,w.cell? ⟨b,off + j,none⟩ = some u ∧ Rd w (F.S m) y u
 | .mp id,v=>∃ b,m.bx id = some b ∧ v = .map (some b)
 | .mc _,_=>False
 | .fn f caps,v=>∃ vs,v = .func (.func f) #[] vs ∧ vs.size = caps.length ∧ ∀ (j : Nat) y u,caps[j]? = some y → vs[j]? = some u → RepT F H m w y u
 | .tt l,v=>∃ vs,v = .tuple vs ∧ vs.size = l.length ∧ ∀ (j : Nat) y u,l[j]? = some y → vs[j]? = some u → RepT F H m w y u
 | .gt l,v=>∃ vs,v = .agg vs ∧ vs.size = l.length ∧ ∀ (j : Nat) y u,l[j]? = some y → vs[j]? = some u → RepT F H m w y u
 | .lw l,v=>∃ b cap,v = .slice (some ⟨b,0,none⟩) l.length cap ∧ (l ≠ [] ∧ l.length ≤ cap ∧ l.length ≤ maxLen) ∧ F.S m b ∧ ∀ (j : Nat) y,l[j]? = some y → ∃ u,w.cell? ⟨b,j,none⟩ = some u ∧ RepW F H m w y u
 | .anc id b,_=>m.bx id = some b
 | .ln x,v=>F.Lent x v
 | .vf c,v=>∃ p n,v = .slice (some p) n n ∧ Rd w (F.S m) c v
 | .lk id ver v,_=>oneCell v = true ∧ ∃ B,look H.buf id = some B ∧ ver ≤ B.ver ∧ (B.ver = ver → m.bf id = some v)
 | .u,_=>True

def BoxIs (F : Fr) (H : Hp) (m : Mp) (w : World) (b : Nat) (cs : List AV) : Prop:=match cs with
 | [.mc con]=>∃ es ck,w.heap[b]? = some (.map es ck) ∧ MapRep w (F.S m) con es
 | cs=>∃ arr e,w.heap[b]? = some (.cells arr e (0,0)) ∧ arr.size = cs.length ∧ ∀ (j : Nat) x u,cs[j]? = some x → arr[j]? = some u → oneCell u = true ∧ RepA F H m w x u
def isMc : AV → Bool
 | .mc _=>true
 | .c _=>false
 | .g _=>false
 | .t _=>false
 | .bx _ _=>false
 | .own _ _=>false
 | .oel _ _ _ _=>false
 | .win _ _ _ _=>false
 | .bw _ _ _=>false
 | .bel _ _ _=>false
 | .el _=>false
 | .mp _=>false
 | .fn _ _=>false
 | .tt _=>false
 | .gt _=>false
 | .lw _=>false
 | .anc _ _=>false
 | .ln _=>false
 | .lk _ _ _=>false
 | .vf _=>false
 | .u=>false
def isM : List AV → Bool
 | []=>false
 | [x]=>isMc x
 | _ :: _ :: _=>false
section
variable {F : Fr} {H : Hp} {m : Mp} {w : World} {b : Nat} {cs : List AV}
theorem BoxIs.cells (h : BoxIs F H m w b cs) (hm : isM cs = false) : ∃ arr e,w.heap[b]? = some (.cells arr e (0,0)) ∧ arr.size = cs.length ∧ ∀ (j : Nat) x u,cs[j]? = some x → arr[j]? = some u → oneCell u = true ∧ RepA F H m w x u:=by
 unfold BoxIs at h
 split at h
 ·simp [isM,isMc] at hm
 ·exact h
theorem isM_some (h : isM cs = true) : ∃ con,cs = [.mc con]:=by
 match cs,h with
 | [x],h=>cases x <;> simp [isM,isMc] at h; exact ⟨_,rfl⟩
 | [],h=>simp [isM] at h
 | _ :: _ :: _,h=>simp [isM] at h
theorem BoxIs.lt (h : BoxIs F H m w b cs) : b < w.heap.size:=by
 unfold BoxIs at h
 split at h
 ·obtain ⟨_,_,h,_⟩:=h; exact (Array.getElem?_eq_some_iff.1 h).1
 ·obtain ⟨_,_,h,_⟩:=h; exact (Array.getElem?_eq_some_iff.1 h).1
theorem BoxIs.of {arr : Array Value} {e : TypeId} (h : w.heap[b]? = some (.cells arr e (0,0))) (hs : arr.size = cs.length)
  (hr : ∀ (j : Nat) x u,cs[j]? = some x → arr[j]? = some u → oneCell u = true ∧ RepA F H m w x u) : BoxIs F H m w b cs:=by
 unfold BoxIs
 split
 ·rename_i con
  have h1 : ∃ u,arr[0]? = some u:=⟨arr[0]'(by simp at hs; omega),by simp⟩
  obtain ⟨u,hu⟩:=h1
  exact ((hr 0 (.mc con) u rfl hu).2 : False).elim
 ·exact ⟨arr,e,h,hs,hr⟩
end

def RdRow (w : World) (S : Nat → Prop) (z : Nat) (rs : List (List C)) (xs : List Value) : Prop :=
 ∀ i j y,at2 rs i j = some y → ∃ u,xs[i * z + j]? = some u ∧ Rd w S y u

structure HRep (F : Fr) (H : Hp) (m : Mp) (w : World) : Prop where
 os : w.os = F.w0.os
 tape : w.tape = F.w0.tape
 output : w.output = F.w0.output
 size : F.w0.heap.size ≤ w.heap.size
 block : ∀ k,k < F.w0.heap.size → k ∉ F.B0 → w.heap[k]? = F.w0.heap[k]?
 fresh : ∀ b,Own m b → F.w0.heap.size ≤ b ∨ b ∈ F.G0
 gB : ∀ b,b ∈ F.G0 → b ∈ F.B0 ∧ b < F.w0.heap.size
 brB : ∀ k v b,F.br k = some v → v.ownBlock = some b → b ∈ F.B0 ∧ b < F.w0.heap.size ∧ b ∉ F.G0
 bri : ∀ i j b u v,F.br i = some u → F.br j = some v → u.ownBlock = some b → v.ownBlock = some b → i = j
 ibb : ∀ i j b,m.bx i = some b → m.bx j = some b → i = j
 ibf : ∀ i j b v,m.bx i = some b → m.bf j = some v → v.ownBlock ≠ some b
 iff : ∀ i j b u v,m.bf i = some u → m.bf j = some v → u.ownBlock = some b → v.ownBlock = some b → i = j
 box : ∀ i b,m.bx i = some b → ∃ cs,look H.box i = some cs ∧ BoxIs F H m w b cs
 buf : ∀ i v,m.bf i = some v → ∃ B rs xs,look H.buf i = some B ∧ B.con.rows = some (B.z,rs) ∧ 0 < B.z ∧ (∀ r ∈ rs,r.length = B.z) ∧ w.ownsR 0 B.e B.z v rs.length xs ∧ RdRow w (F.S m) B.z rs xs
 bor : ∀ k v,F.br k = some v → ∃ B rs xs,look H.bor k = some B ∧ B.con.rows = some (B.con.z,rs) ∧ 0 < B.con.z ∧ (∀ r ∈ rs,r.length = B.con.z) ∧ w.ownsR 0 B.e B.con.z v rs.length xs ∧ RdRow w (F.S m) B.con.z rs xs

end Go.Abs

namespace Go.Abs
set_option linter.unusedSimpArgs false
set_option linter.unusedVariables false
open Go.RowKit

structure Later (F : Fr) (H : Hp) (m : Mp) (w : World) (H' : Hp) (m' : Mp) (w' : World) : Prop where
 st : Stays (F.S m) (F.S m') w w'
 bx : ∀ i b,m.bx i = some b → m'.bx i = some b
 bf : ∀ id B,look H.buf id = some B → ∃ B',look H'.buf id = some B' ∧ B.ver ≤ B'.ver ∧ (B'.ver = B.ver → (∀ v,m.bf id = some v → m'.bf id = some v) ∧ B'.z = B.z)
 bo : ∀ k B,look H.bor k = some B → ∃ B',look H'.bor k = some B' ∧ B'.con.z = B.con.z

theorem RdL.mono {w w' : World} {S S' : Nat → Prop} {xs : List C} {vs : List Value} (hst : Stays S S' w w') (h : RdL w S xs vs) : RdL w' S' xs vs :=
 ⟨h.1,fun j y u hy hu=>(h.2 j y u hy hu).mono hst⟩

theorem RdS.mono {w w' : World} {S S' : Nat → Prop} {x : C ⊕ List C} {v : Value} (hst : Stays S S' w w') (h : RdS w S x v) : RdS w' S' x v:=by
 cases x with
 | inl x=>exact Rd.mono hst h
 | inr xs=>obtain ⟨vs,rfl,h⟩:=h; exact ⟨vs,rfl,h.mono hst⟩

theorem Later.repT {F : Fr} {H H' : Hp} {m m' : Mp} {w w' : World} (hl : Later F H m w H' m' w') {x : TE} {v : Value} (h : RepT F H m w x v) : RepT F H' m' w' x v:=by
 cases x with
 | s x=>exact RdS.mono hl.st h
 | own id ver =>
  obtain ⟨h1,B,hB,hv,h⟩:=h
  obtain ⟨B',hB',hle,hk⟩:=hl.bf id B hB
  refine ⟨h1,B',hB',by omega,fun e=>?_⟩
  have e2 : B'.ver = B.ver:=by omega
  exact (hk e2).1 v (h (by omega))
 | bx id off=>obtain ⟨b,hb,rfl⟩:=h; exact ⟨b,hl.bx _ _ hb,rfl⟩
 | mp id=>obtain ⟨b,hb,rfl⟩:=h; exact ⟨b,hl.bx _ _ hb,rfl⟩
 | ln x=>exact h
 | u=>trivial
theorem Later.repW {F : Fr} {H H' : Hp} {m m' : Mp} {w w' : World} (hl : Later F H m w H' m' w') {x : C ⊕ (Nat × Nat × Nat × Nat)} {v : Value} (h : RepW F H m w x v) : RepW F H' m' w' x v:=by
 rcases x with x | ⟨id,ver,lo,len⟩
 ·exact Rd.mono hl.st h
 ·obtain ⟨h1,B,hB,hv,h⟩:=h
  obtain ⟨B',hB',hle,hk⟩:=hl.bf id B hB
  refine ⟨h1,B',hB',by omega,fun e=>?_⟩
  have e2 : B'.ver = B.ver:=by omega
  obtain ⟨p,n,cap,hm,hn,hh⟩:=h (by omega)
  refine ⟨p,n,cap,(hk e2).1 _ hm,hn,?_⟩
  rw [(hk e2).2]; exact hh
theorem Later.rep {F : Fr} {H H' : Hp} {m m' : Mp} {w w' : World} (hl : Later F H m w H' m' w') {av : AV} {v : Value} (h : RepA F H m w av v) : RepA F H' m' w' av v:=by
 cases av with
 | c x=>exact Rd.mono hl.st h
 | g xs=>obtain ⟨vs,rfl,h⟩:=h; exact ⟨vs,rfl,h.mono hl.st⟩
 | t l=>obtain ⟨vs,rfl,hs,h⟩:=h; exact ⟨vs,rfl,hs,fun j y u hy hu=>(h j y u hy hu).mono hl.st⟩
 | bx id off=>obtain ⟨b,hb,rfl⟩:=h; exact ⟨b,hl.bx _ _ hb,rfl⟩
 | own id ver=>exact hl.repT (x:=.own id ver) h
 | oel id ver i off =>
  obtain ⟨hp,B,hB,hv,h⟩:=h
  obtain ⟨B',hB',hle,hk⟩:=hl.bf id B hB
  refine ⟨hp,B',hB',by omega,fun e=>?_⟩
  have e2 : B'.ver = B.ver:=by omega
  obtain ⟨g,n,cap,hg,hi,rfl⟩:=h (by omega)
  refine ⟨g,n,cap,(hk e2).1 _ hg,hi,?_⟩
  rw [(hk e2).2]
 | win id ver lo len =>
  obtain ⟨h1,B,hB,hv,h⟩:=h
  obtain ⟨B',hB',hle,hk⟩:=hl.bf id B hB
  refine ⟨h1,B',hB',by omega,fun e=>?_⟩
  have e2 : B'.ver = B.ver:=by omega
  obtain ⟨p,n,cap,hm,hn,hh⟩:=h (by omega)
  refine ⟨p,n,cap,(hk e2).1 _ hm,hn,?_⟩
  rw [(hk e2).2]; exact hh
 | bw k lo len =>
  obtain ⟨h1,B,p,n,cap,hB,hF,hn,hh⟩:=h
  obtain ⟨B',hB',hz⟩:=hl.bo k B hB
  exact ⟨h1,B',p,n,cap,hB',hF,hn,by rw [hz]; exact hh⟩
 | bel k i off =>
  obtain ⟨B,g,n,cap,hB,hF,hn,ho,hh⟩:=h
  obtain ⟨B',hB',hz⟩:=hl.bo k B hB
  exact ⟨B',g,n,cap,hB',hF,hn,by rw [hz]; exact ho,by rw [hz]; exact hh⟩
 | el xs =>
  obtain ⟨b,off,rfl,hS,h⟩:=h
  by_cases he : xs = []
  ·subst he
   exact ⟨b,off,rfl,fun h=>absurd rfl h,fun j y hy=>by simp at hy⟩
  ·have hS2:=hS he
   clear hS
   obtain ⟨y,ys,rfl⟩:=List.exists_cons_of_ne_nil he
   obtain ⟨u,hu,_⟩:=h 0 y rfl
   have hb:=(hl.st b hS2 (block_lt hu)).1
   exact ⟨b,off,rfl,fun _=>hb,fun j y hy=>let ⟨u,hu,hr⟩:=h j y hy; ⟨u,hl.st.cell (a:=⟨b,off + j,none⟩) hS2 hu,hr.mono hl.st⟩⟩
 | mp id=>obtain ⟨b,hb,rfl⟩:=h; exact ⟨b,hl.bx _ _ hb,rfl⟩
 | mc con=>exact h
 | fn f caps=>obtain ⟨vs,rfl,hs,h⟩:=h; exact ⟨vs,rfl,hs,fun j y u hy hu=>hl.repT (h j y u hy hu)⟩
 | tt l=>obtain ⟨vs,rfl,hs,h⟩:=h; exact ⟨vs,rfl,hs,fun j y u hy hu=>hl.repT (h j y u hy hu)⟩
 | gt l=>obtain ⟨vs,rfl,hs,h⟩:=h; exact ⟨vs,rfl,hs,fun j y u hy hu=>hl.repT (h j y u hy hu)⟩
 | lw l =>
  obtain ⟨b,cap,rfl,hcap,hS,h⟩:=h
  by_cases he : l = []
  ·exact absurd he hcap.1
  ·obtain ⟨y0,ys,rfl⟩:=List.exists_cons_of_ne_nil he
   obtain ⟨u0,hu0,_⟩:=h 0 y0 rfl
   obtain ⟨g1,g2⟩:=hl.st b hS (block_lt hu0)
   exact ⟨b,cap,rfl,hcap,g1,fun j y hy=>let ⟨u,hu,hr⟩:=h j y hy; ⟨u,(World.cell?_of_block g2).trans hu,hl.repW hr⟩⟩
 | anc id b=>exact hl.bx _ _ h
 | ln x=>exact h
 | lk id ver v=>exact hl.repT (x:=.own id ver) (v:=v) h
 | vf c=>obtain ⟨p,n,rfl,h⟩:=h; exact ⟨p,n,rfl,Rd.mono hl.st h⟩
 | u=>trivial
theorem BoxIs.mono {F : Fr} {H H' : Hp} {m m' : Mp} {w w' : World} {b : Nat} {cs : List AV} (h : BoxIs F H m w b cs) (hl : Later F H m w H' m' w') (hb : w'.heap[b]? = w.heap[b]?) : BoxIs F H' m' w' b cs:=by
 unfold BoxIs at h ⊢
 split at h
 ·obtain ⟨es,ck,h1,h2⟩:=h
  exact ⟨es,ck,hb.trans h1,h2.mono hl.st⟩
 ·obtain ⟨arr,e,h1,h2,h3⟩:=h
  exact ⟨arr,e,hb.trans h1,h2,fun j x u hx hu=>⟨(h3 j x u hx hu).1,hl.rep (h3 j x u hx hu).2⟩⟩

abbrev Ext (w w' : World) : Prop:=Below w.heap.size w w'

theorem Ext.trans {a b c : World} (h : Ext a b) (k : Ext b c) : Ext a c:=Below.trans h (k.mono h.size)

theorem HRep.ext_later {F : Fr} {H : Hp} {m : Mp} {w w' : World} (he : Ext w w') : Later F H m w H m w' where
 st b hS hb:=⟨hS,he.block b hb⟩
 bx i b h:=h
 bf id B h:=⟨B,h,Nat.le_refl _,fun _=>⟨fun _ h=>h,rfl⟩⟩
 bo k B h:=⟨B,h,rfl⟩

theorem own_lt {F : Fr} {H : Hp} {m : Mp} {w : World} (h : HRep F H m w) {b : Nat} (ho : Own m b) : b < w.heap.size:=by
 rcases ho with ⟨i,hi⟩ | ⟨i,v,hv,hb⟩
 ·obtain ⟨cs,_,hh⟩:=h.box i b hi
  exact hh.lt
 ·obtain ⟨B,rs,xs,_,_,_,_,ho,_⟩:=h.buf i v hv
  exact (ho.lt b hb).2

theorem HRep.ext {F : Fr} {H : Hp} {m : Mp} {w w' : World} (h : HRep F H m w) (he : Ext w w') : HRep F H m w' where
 os:=he.os.trans h.os
 tape:=he.tape.trans h.tape
 output:=he.output.trans h.output
 size:=Nat.le_trans h.size he.size
 block k hk hb:=(he.block k (Nat.lt_of_lt_of_le hk h.size)).trans (h.block k hk hb)
 fresh:=h.fresh
 gB:=h.gB
 brB:=h.brB
 bri:=h.bri
 ibb:=h.ibb
 ibf:=h.ibf
 iff:=h.iff
 box i b hb:=by
  obtain ⟨cs,h1,h2⟩:=h.box i b hb
  exact ⟨cs,h1,h2.mono (HRep.ext_later he) (he.block b h2.lt)⟩
 buf i v hv:=by
  obtain ⟨B,rs,xs,h1,h2,h3,h4,h5,h6⟩:=h.buf i v hv
  refine ⟨B,rs,xs,h1,h2,h3,h4,h5.kept (row:=none) ⟨he.os,he.tape,he.output,he.size,fun k hk _=>he.block k hk⟩ (by cases v.ownBlock <;> simp),?_⟩
  intro i j y hy
  obtain ⟨u,hu,hr⟩:=h6 i j y hy
  exact ⟨u,hu,hr.mono (HRep.ext_later (H:=H) he).st⟩
 bor k v hv:=by
  obtain ⟨B,rs,xs,h1,h2,h3,h4,h5,h6⟩:=h.bor k v hv
  refine ⟨B,rs,xs,h1,h2,h3,h4,h5.kept (row:=none) ⟨he.os,he.tape,he.output,he.size,fun k hk _=>he.block k hk⟩ (by cases v.ownBlock <;> simp),?_⟩
  intro i j y hy
  obtain ⟨u,hu,hr⟩:=h6 i j y hy
  exact ⟨u,hu,hr.mono (HRep.ext_later (H:=H) he).st⟩

theorem HRep.hp {F : Fr} {H H' : Hp} {m : Mp} {w : World} (h : HRep F H m w) (hb : ∀ i b,m.bx i = some b → look H'.box i = look H.box i)
  (hf : ∀ i B,look H.buf i = some B → look H'.buf i = some B) (hbo : H'.bor = H.bor) : HRep F H' m w ∧ Later F H m w H' m w:=by
 have hl : Later F H m w H' m w:=⟨fun b hS _=>⟨hS,rfl⟩,fun _ _ h=>h,fun id B hB=>⟨B,hf id B hB,Nat.le_refl _,fun _=>⟨fun _ h=>h,rfl⟩⟩,fun k B hB=>⟨B,by rw [hbo]; exact hB,rfl⟩⟩
 refine ⟨⟨h.os,h.tape,h.output,h.size,h.block,h.fresh,h.gB,h.brB,h.bri,h.ibb,h.ibf,h.iff,?_,?_,?_⟩,hl⟩
 ·intro i b hi
  obtain ⟨cs,h1,h2⟩:=h.box i b hi
  exact ⟨cs,(hb i b hi).trans h1,h2.mono hl rfl⟩
 ·intro i v hv
  obtain ⟨B,rs,xs,h1,h2⟩:=h.buf i v hv
  exact ⟨B,rs,xs,hf i B h1,h2⟩
 ·intro k v hv
  obtain ⟨B,rs,xs,h1,h2⟩:=h.bor k v hv
  exact ⟨B,rs,xs,by rw [hbo]; exact h1,h2⟩

def Mp.addBx (m : Mp) (id b : Nat) : Mp:={ m with bx:=fun i=>if i = id then some b else m.bx i }
def Mp.addBf (m : Mp) (id : Nat) (v : Option Value) : Mp:={ m with bf:=fun i=>if i = id then v else m.bf i }

theorem alloc_ext (w : World) (o : Obj) : Ext w (w.alloc o):=(Below.refl _ _).alloc (Nat.le_refl _) o

theorem HRep.newObj {F : Fr} {H : Hp} {m : Mp} {w : World} (h : HRep F H m w) (id : Nat) (hid : m.bx id = none) (o : Obj) (cs : List AV) (hl : look H.box id = some cs)
  (hbx : ∀ m',Later F H m w H m' (w.alloc o) → BoxIs F H m' (w.alloc o) w.heap.size cs) :
  HRep F H (m.addBx id w.heap.size) (w.alloc o) ∧ Later F H m w H (m.addBx id w.heap.size) (w.alloc o):=by
 have hlt : ∀ b,Own m b → b < w.heap.size:=fun b ho=>own_lt h ho
 have hown : ∀ b,Own (m.addBx id w.heap.size) b → Own m b ∨ b = w.heap.size:=by
  rintro b (⟨i,hi⟩ | ⟨i,v,hv,hb⟩)
  ·simp only [Mp.addBx] at hi
   split at hi
   ·simp at hi; exact .inr hi.symm
   ·exact .inl (.inl ⟨i,hi⟩)
  ·exact .inl (.inr ⟨i,v,hv,hb⟩)
 have hlat : Later F H m w H (m.addBx id w.heap.size) (w.alloc o):=by
  refine ⟨fun b hS hb=>⟨?_,Below.heap_alloc w _ b hb⟩,?_,fun id B h=>⟨B,h,Nat.le_refl _,fun _=>⟨fun _ h=>h,rfl⟩⟩,fun k B h=>⟨B,h,rfl⟩⟩
  ·rcases hS with hS | ⟨h1,h2⟩
   ·exact .inl hS
   ·refine .inr ⟨h1,fun ho=>?_⟩
    rcases hown b ho with ho | rfl
    ·exact h2 ho
    ·omega
  ·intro i b hi
   simp only [Mp.addBx]
   split
   ·subst i; rw [hid] at hi; cases hi
   ·exact hi
 have hext:=h.ext (alloc_ext w o)
 refine ⟨?_,hlat⟩
 refine ⟨hext.os,hext.tape,hext.output,hext.size,hext.block,?_,h.gB,h.brB,h.bri,?_,?_,?_,?_,?_,?_⟩
 ·intro b ho
  rcases hown b ho with ho | rfl
  ·exact h.fresh b ho
  ·exact .inl h.size
 ·intro i j b hi hj
  simp only [Mp.addBx] at hi hj
  split at hi <;> split at hj
  ·omega
  ·simp at hi; subst hi; have:=hlt _ (.inl ⟨j,hj⟩); omega
  ·simp at hj; subst hj; have:=hlt _ (.inl ⟨i,hi⟩); omega
  ·exact h.ibb i j b hi hj
 ·intro i j b v hi hj hv
  simp only [Mp.addBx] at hi
  split at hi
  ·simp at hi; subst hi; have:=hlt _ (.inr ⟨j,v,hj,hv⟩); omega
  ·exact h.ibf i j b v hi hj hv
 ·exact h.iff
 ·intro i b hi
  simp only [Mp.addBx] at hi
  split at hi
  ·subst i; simp at hi; subst hi
   exact ⟨cs,hl,hbx _ hlat⟩
  ·obtain ⟨cs',h1,h2⟩:=h.box i b hi
   exact ⟨cs',h1,h2.mono hlat (Below.heap_alloc w _ b h2.lt)⟩
 ·intro i v hv
  obtain ⟨B,rs,xs,h1,h2,h3,h4,h5,h6⟩:=h.buf i v hv
  exact ⟨B,rs,xs,h1,h2,h3,h4,h5.alloc _,fun i j y hy=>let ⟨u,hu,hr⟩:=h6 i j y hy; ⟨u,hu,hr.mono hlat.st⟩⟩
 ·intro k v hv
  obtain ⟨B,rs,xs,h1,h2,h3,h4,h5,h6⟩:=h.bor k v hv
  exact ⟨B,rs,xs,h1,h2,h3,h4,h5.alloc _,fun i j y hy=>let ⟨u,hu,hr⟩:=h6 i j y hy; ⟨u,hu,hr.mono hlat.st⟩⟩

theorem HRep.newBox {F : Fr} {H : Hp} {m : Mp} {w : World} (h : HRep F H m w) (id : Nat) (hid : m.bx id = none) (arr : Array Value) (e : TypeId) (cs : List AV) (hl : look H.box id = some cs)
  (hs : arr.size = cs.length) (hr : ∀ (j : Nat) x u,cs[j]? = some x → arr[j]? = some u → oneCell u = true ∧ RepA F H m w x u) :
  HRep F H (m.addBx id w.heap.size) (w.alloc (.cells arr e)) ∧ Later F H m w H (m.addBx id w.heap.size) (w.alloc (.cells arr e)) :=
 h.newObj id hid _ cs hl fun m' hlat=>.of (heap_alloc_new w _) hs fun j x u hx hu=>⟨(hr j x u hx hu).1,hlat.rep (hr j x u hx hu).2⟩

theorem own_not_S {F : Fr} {H : Hp} {m : Mp} {w : World} (h : HRep F H m w) {b : Nat} (ho : Own m b) : ¬ F.S m b:=by
 rintro (⟨_,h1,h2⟩ | ⟨_,h2⟩)
 ·rcases h.fresh b ho with h3 | h3
  ·omega
  ·exact h2 (h.gB b h3).1
 ·exact h2 ho
theorem own_out {F : Fr} {H : Hp} {m : Mp} {w : World} (h : HRep F H m w) {b : Nat} (ho : Own m b) (hb : b < F.w0.heap.size) : b ∈ F.B0:=by
 rcases h.fresh b ho with h3 | h3
 ·omega
 ·exact (h.gB b h3).1

theorem br_not_S {F : Fr} {H : Hp} {m : Mp} {w : World} (h : HRep F H m w) {k b : Nat} {v : Value} (hk : F.br k = some v) (hb : v.ownBlock = some b) : ¬ F.S m b ∧ ¬ Own m b:=by
 obtain ⟨h1,h2,h4⟩:=h.brB k v b hk hb
 refine ⟨?_,fun ho=>by rcases h.fresh b ho with h3 | h3 <;> first | omega | exact h4 h3⟩
 rintro (⟨_,_,h3⟩ | ⟨h3 | h3,_⟩)
 ·exact h3 h1
 ·omega
 ·exact h4 h3

theorem HRep.setObj {F : Fr} {H H' : Hp} {m : Mp} {w w' : World} (h : HRep F H m w) {id b : Nat} {cs' : List AV} (hb : m.bx id = some b)
  (ho : w'.os = w.os ∧ w'.tape = w.tape ∧ w'.output = w.output ∧ w'.heap.size = w.heap.size) (hother : ∀ k,k ≠ b → w'.heap[k]? = w.heap[k]?)
  (hbx : Later F H m w H' m w' → BoxIs F H' m w' b cs') (hid : look H'.box id = some cs') (hne : ∀ i,i ≠ id → look H'.box i = look H.box i) (hbuf : H'.buf = H.buf) (hbo : H'.bor = H.bor) :
  HRep F H' m w' ∧ Later F H m w H' m w':=by
 obtain ⟨ho1,ho2,ho3,hsz⟩:=ho
 have hlat : Later F H m w H' m w':=by
  refine ⟨fun k hS _=>⟨hS,hother k (fun e=>?_)⟩,fun _ _ h=>h,fun id B hB=>⟨B,by rw [hbuf]; exact hB,Nat.le_refl _,fun _=>⟨fun _ h=>h,rfl⟩⟩,fun k B hB=>⟨B,by rw [hbo]; exact hB,rfl⟩⟩
  subst e
  exact own_not_S h (.inl ⟨id,hb⟩) hS
 refine ⟨⟨ho1.trans h.os,ho2.trans h.tape,ho3.trans h.output,by rw [hsz]; exact h.size,?_,h.fresh,h.gB,h.brB,h.bri,h.ibb,h.ibf,h.iff,?_,?_,?_⟩,hlat⟩
 ·intro k hk hkB
  rw [hother k (fun e=>?_)]
  ·exact h.block k hk hkB
  ·subst e
   exact hkB (own_out h (.inl ⟨id,hb⟩) hk)
 ·intro i b' hi
  by_cases hii : i = id
  ·subst hii
   rw [hb] at hi; cases hi
   exact ⟨cs',hid,hbx hlat⟩
  ·obtain ⟨cs2,h2,h3⟩:=h.box i b' hi
   exact ⟨cs2,by rw [hne i hii]; exact h2,h3.mono hlat (hother b' (fun e=>hii (by subst e; exact h.ibb i id _ hi hb)))⟩
 ·intro i v' hv
  obtain ⟨B,rs,xs,h2,h3,h4,h5,h6,h7⟩:=h.buf i v' hv
  refine ⟨B,rs,xs,by rw [hbuf]; exact h2,h3,h4,h5,?_,fun i j y hy=>let ⟨u,hu,hr⟩:=h7 i j y hy; ⟨u,hu,hr.mono hlat.st⟩⟩
  refine h6.kept (row:=some b) ⟨ho1,ho2,ho3,by rw [hsz]; exact Nat.le_refl _,fun k _ hk=>hother k (fun e=>hk (by rw [e]))⟩ ?_
  cases hob : v'.ownBlock with
  | none=>exact .inl rfl
  | some g=>exact .inr (fun e=>by cases e; exact h.ibf id i b v' hb hv hob)
 ·intro i v' hv
  obtain ⟨B,rs,xs,h2,h3,h4,h5,h6,h7⟩:=h.bor i v' hv
  refine ⟨B,rs,xs,by rw [hbo]; exact h2,h3,h4,h5,?_,fun i j y hy=>let ⟨u,hu,hr⟩:=h7 i j y hy; ⟨u,hu,hr.mono hlat.st⟩⟩
  refine h6.kept (row:=some b) ⟨ho1,ho2,ho3,by rw [hsz]; exact Nat.le_refl _,fun k _ hk=>hother k (fun e=>hk (by rw [e]))⟩ ?_
  cases hob : v'.ownBlock with
  | none=>exact .inl rfl
  | some g=>exact .inr (fun e=>by cases e; exact (br_not_S h hv hob).2 (.inl ⟨id,hb⟩))
theorem HRep.setBox {F : Fr} {H H' : Hp} {m : Mp} {w : World} (h : HRep F H m w) {id b : Nat} {cs cs' : List AV} {arr arr' : Array Value} {e : TypeId} (hb : m.bx id = some b) (_ : look H.box id = some cs)
  (harr : w.heap[b]? = some (.cells arr e (0,0))) (hlen : arr'.size = cs'.length) (hx : ∀ (j : Nat) x u,cs'[j]? = some x → arr'[j]? = some u → oneCell u = true ∧ RepA F H m w x u)
  (hid : look H'.box id = some cs') (hne : ∀ i,i ≠ id → look H'.box i = look H.box i) (hbuf : H'.buf = H.buf) (hbo : H'.bor = H.bor) :
  HRep F H' m (w.setRow b arr') ∧ Later F H m w H' m (w.setRow b arr') :=
 h.setObj hb ⟨rfl,rfl,rfl,setRow_size w b arr'⟩ (fun k hk=>setRow_other w b k arr' hk) (fun hlat=>.of (setRow_heap w b arr arr' e (0,0) harr) hlen fun j y u hy hu=>⟨(hx j y u hy hu).1,hlat.rep (hx j y u hy hu).2⟩) hid hne hbuf hbo

theorem HRep.bufStep {F : Fr} {H H' : Hp} {m : Mp} {w w' : World} (h : HRep F H m w) {id : Nat} {row : Option Nat} {B' : Buf} {v' : Value} {rs : List (List C)} {xs : List Value}
  (hg : w.grownBy w' row) (hrow : ∀ g,row = some g → ∃ v,m.bf id = some v ∧ v.ownBlock = some g) 
  (hnew : ∀ g,v'.ownBlock = some g → row = some g ∨ w.heap.size ≤ g)
  (hB : ∀ B,look H.buf id = some B → B.ver < B'.ver ∨ (B'.ver = B.ver ∧ m.bf id = some v' ∧ B'.z = B.z))
  (hid : look H'.buf id = some B') (hne : ∀ i,i ≠ id → look H'.buf i = look H.buf i) (hbox : H'.box = H.box) (hbo : H'.bor = H.bor)
  (hc : B'.con.rows = some (B'.z,rs)) (hz : 0 < B'.z) (hr : ∀ r ∈ rs,r.length = B'.z) (ho : w'.ownsR 0 B'.e B'.z v' rs.length xs) (hx : RdRow w (F.S m) B'.z rs xs) :
  HRep F H' (m.addBf id (some v')) w' ∧ Later F H m w H' (m.addBf id (some v')) w':=by
 have hrowOwn : ∀ g,row = some g → Own m g:=fun g hgr=>let ⟨v,hv,hb⟩:=hrow g hgr; .inr ⟨id,v,hv,hb⟩
 have hown : ∀ b,Own (m.addBf id (some v')) b → Own m b ∨ w.heap.size ≤ b:=by
  rintro b (⟨i,hi⟩ | ⟨i,v,hv,hb⟩)
  ·exact .inl (.inl ⟨i,hi⟩)
  ·simp only [Mp.addBf] at hv
   split at hv
   ·cases hv
    rcases hnew b hb with h1 | h1
    ·exact .inl (hrowOwn b h1)
    ·exact .inr h1
   ·exact .inl (.inr ⟨i,v,hv,hb⟩)
 have hlat : Later F H m w H' (m.addBf id (some v')) w':=by
  refine ⟨fun k hS hk=>⟨?_,hg.block k hk (fun e=>own_not_S h (hrowOwn k e.symm) hS)⟩,fun _ _ h=>h,fun i B hiB=>?_,fun k B hB=>⟨B,by rw [hbo]; exact hB,rfl⟩⟩
  ·rcases hS with hS | ⟨h1,h2⟩
   ·exact .inl hS
   ·exact .inr ⟨h1,fun hoo=>by rcases hown k hoo with h3 | h3 <;> first | exact h2 h3 | omega⟩
  ·by_cases hi : i = id
   ·subst hi
    refine ⟨B',hid,by rcases hB B hiB with h1 | h1 <;> omega,fun e=>?_⟩
    rcases hB B hiB with h1 | ⟨_,h2,h3⟩
    ·omega
    ·exact ⟨fun v hv=>by simp [Mp.addBf]; rw [h2] at hv; exact Option.some.inj hv,h3⟩
   ·exact ⟨B,by rw [hne i hi]; exact hiB,Nat.le_refl _,fun _=>⟨fun v hv=>by simp [Mp.addBf,hi]; exact hv,rfl⟩⟩
 have hblk : ∀ k,k < w.heap.size → row ≠ some k → w'.heap[k]? = w.heap[k]?:=fun k hk hn=>hg.block k hk (fun e=>hn e.symm)
 refine ⟨⟨hg.os.trans h.os,hg.tape.trans h.tape,hg.output.trans h.output,Nat.le_trans h.size hg.size,?_,?_,h.gB,h.brB,h.bri,h.ibb,?_,?_,?_,?_,?_⟩,hlat⟩
 ·intro k hk hkB
  rw [hblk k (Nat.lt_of_lt_of_le hk h.size) (fun e=>hkB (own_out h (hrowOwn k e) hk))]
  exact h.block k hk hkB
 ·intro b hob
  rcases hown b hob with h1 | h1
  ·exact h.fresh b h1
  ·exact .inl (Nat.le_trans h.size h1)
 ·intro i j b v hi hj hv
  simp only [Mp.addBf] at hi hj
  split at hj
  ·cases hj
   rcases hnew b hv with h1 | h1
   ·obtain ⟨v0,hv0,hb0⟩:=hrow b h1
    exact h.ibf i id b v0 hi hv0 hb0
   ·have:=own_lt h (.inl ⟨i,hi⟩ : Own m b); omega
  ·exact h.ibf i j b v hi hj hv
 ·intro i j b u v hi hj hu hv
  simp only [Mp.addBf] at hi hj
  split at hi <;> split at hj
  ·omega
  ·cases hi
   rcases hnew b hu with h1 | h1
   ·obtain ⟨v0,hv0,hb0⟩:=hrow b h1
    have:=h.iff j id b v v0 hj hv0 hv hb0; omega
   ·have:=own_lt h (.inr ⟨j,v,hj,hv⟩ : Own m b); omega
  ·cases hj
   rcases hnew b hv with h1 | h1
   ·obtain ⟨v0,hv0,hb0⟩:=hrow b h1
    have:=h.iff i id b u v0 hi hv0 hu hb0; omega
   ·have:=own_lt h (.inr ⟨i,u,hi,hu⟩ : Own m b); omega
  ·exact h.iff i j b u v hi hj hu hv
 ·intro i b hi
  obtain ⟨cs,h2,h3⟩:=h.box i b hi
  exact ⟨cs,by rw [hbox]; exact h2,h3.mono hlat (hblk b h3.lt fun e=>let ⟨v0,hv0,hb0⟩:=hrow b e; h.ibf i id b v0 hi hv0 hb0)⟩
 ·intro i v hv
  simp only [Mp.addBf] at hv
  split at hv
  ·subst i
   cases hv
   exact ⟨B',rs,xs,hid,hc,hz,hr,ho,fun i j y hy=>let ⟨u,hu,hrd⟩:=hx i j y hy; ⟨u,hu,hrd.mono hlat.st⟩⟩
  ·rename_i hi
   obtain ⟨B,rs2,xs2,h2,h3,h4,h5,h6,h7⟩:=h.buf i v hv
   refine ⟨B,rs2,xs2,by rw [hne i hi]; exact h2,h3,h4,h5,?_,fun i j y hy=>let ⟨u,hu,hrd⟩:=h7 i j y hy; ⟨u,hu,hrd.mono hlat.st⟩⟩
   refine h6.kept (row:=row) hg ?_
   cases hob : v.ownBlock with
   | none=>exact .inl rfl
   | some g =>
    refine .inr (fun e=>?_)
    obtain ⟨v0,hv0,hb0⟩:=hrow g e.symm
    exact hi (h.iff i id g v v0 hv hv0 hob hb0)
 ·intro i v hv
  obtain ⟨B,rs2,xs2,h2,h3,h4,h5,h6,h7⟩:=h.bor i v hv
  refine ⟨B,rs2,xs2,by rw [hbo]; exact h2,h3,h4,h5,?_,fun i j y hy=>let ⟨u,hu,hrd⟩:=h7 i j y hy; ⟨u,hu,hrd.mono hlat.st⟩⟩
  refine h6.kept (row:=row) hg ?_
  cases hob : v.ownBlock with
  | none=>exact .inl rfl
  | some g=>exact .inr (fun e=>(br_not_S h hv hob).2 (hrowOwn g e.symm))

theorem HRep.borStep {F : Fr} {H H' : Hp} {m : Mp} {w w' : World} (h : HRep F H m w) {k : Nat} {B B' : Bor} {v : Value} {rs : List (List C)} {xs : List Value}
  (hk : F.br k = some v) (hg : w.grownBy w' v.ownBlock) (hB : look H.bor k = some B) (hz' : B'.con.z = B.con.z)
  (hid : look H'.bor k = some B') (hne : ∀ i,i ≠ k → look H'.bor i = look H.bor i) (hbox : H'.box = H.box) (hbuf : H'.buf = H.buf)
  (hc : B'.con.rows = some (B'.con.z,rs)) (hz : 0 < B'.con.z) (hr : ∀ r ∈ rs,r.length = B'.con.z) (ho : w'.ownsR 0 B'.e B'.con.z v rs.length xs) (hx : RdRow w (F.S m) B'.con.z rs xs) :
  HRep F H' m w' ∧ Later F H m w H' m w':=by
 have hblk : ∀ j,j < w.heap.size → v.ownBlock ≠ some j → w'.heap[j]? = w.heap[j]?:=fun j hj hn=>hg.block j hj (fun e=>hn e.symm)
 have hlat : Later F H m w H' m w':=by
  refine ⟨fun j hS hj=>⟨hS,hblk j hj (fun e=>(br_not_S h hk e).1 hS)⟩,fun _ _ h=>h,fun i B hiB=>⟨B,by rw [hbuf]; exact hiB,Nat.le_refl _,fun _=>⟨fun _ h=>h,rfl⟩⟩,fun i B2 hiB=>?_⟩
  by_cases hi : i = k
  ·subst hi
   rw [hB] at hiB; cases hiB
   exact ⟨B',hid,hz'⟩
  ·exact ⟨B2,by rw [hne i hi]; exact hiB,rfl⟩
 refine ⟨⟨hg.os.trans h.os,hg.tape.trans h.tape,hg.output.trans h.output,Nat.le_trans h.size hg.size,?_,h.fresh,h.gB,h.brB,h.bri,h.ibb,h.ibf,h.iff,?_,?_,?_⟩,hlat⟩
 ·intro j hj hjB
  rw [hblk j (Nat.lt_of_lt_of_le hj h.size) (fun e=>hjB (h.brB k v j hk e).1)]
  exact h.block j hj hjB
 ·intro i b hi
  obtain ⟨cs,h2,h3⟩:=h.box i b hi
  exact ⟨cs,by rw [hbox]; exact h2,h3.mono hlat (hblk b h3.lt fun e=>(br_not_S h hk e).2 (.inl ⟨i,hi⟩))⟩
 ·intro i v2 hv2
  obtain ⟨B2,rs2,xs2,h2,h3,h4,h5,h6,h7⟩:=h.buf i v2 hv2
  refine ⟨B2,rs2,xs2,by rw [hbuf]; exact h2,h3,h4,h5,?_,fun i j y hy=>let ⟨u,hu,hrd⟩:=h7 i j y hy; ⟨u,hu,hrd.mono hlat.st⟩⟩
  refine h6.kept hg ?_
  cases hob : v2.ownBlock with
  | none=>exact .inl rfl
  | some g=>exact .inr (fun e=>(br_not_S h hk e.symm).2 (.inr ⟨i,v2,hv2,hob⟩))
 ·intro i v2 hv2
  by_cases hi : i = k
  ·subst hi
   rw [hk] at hv2; cases hv2
   exact ⟨B',rs,xs,hid,hc,hz,hr,ho,fun i j y hy=>let ⟨u,hu,hrd⟩:=hx i j y hy; ⟨u,hu,hrd.mono hlat.st⟩⟩
  ·obtain ⟨B2,rs2,xs2,h2,h3,h4,h5,h6,h7⟩:=h.bor i v2 hv2
   refine ⟨B2,rs2,xs2,by rw [hne i hi]; exact h2,h3,h4,h5,?_,fun i j y hy=>let ⟨u,hu,hrd⟩:=h7 i j y hy; ⟨u,hu,hrd.mono hlat.st⟩⟩
   refine h6.kept hg ?_
   cases hob : v2.ownBlock with
   | none=>exact .inl rfl
   | some g=>exact .inr (fun e=>hi (h.bri i k g v2 v hv2 hk hob e.symm))

theorem HRep.dropBuf {F : Fr} {H H' : Hp} {m : Mp} {w : World} (h : HRep F H m w) {id : Nat} {B B' : Buf} {v : Value} (hv : m.bf id = some v) (hB : look H.buf id = some B) (hver : B.ver < B'.ver)
  (hid : look H'.buf id = some B') (hne : ∀ i,i ≠ id → look H'.buf i = look H.buf i) (hbox : H'.box = H.box) (hbo : H'.bor = H.bor) :
  HRep F H' (m.addBf id none) w ∧ Later F H m w H' (m.addBf id none) w ∧ Rd w (F.S (m.addBf id none)) B.con v:=by
 have hown : ∀ b,Own (m.addBf id none) b → Own m b:=by
  rintro b (⟨i,hi⟩ | ⟨i,v,hv,hb⟩)
  ·exact .inl ⟨i,hi⟩
  ·simp only [Mp.addBf] at hv
   split at hv
   ·cases hv
   ·exact .inr ⟨i,v,hv,hb⟩
 have hlat : Later F H m w H' (m.addBf id none) w:=by
  refine ⟨fun k hS hk=>⟨?_,rfl⟩,fun _ _ h=>h,fun i B2 hiB=>?_,fun k B hB=>⟨B,by rw [hbo]; exact hB,rfl⟩⟩
  ·rcases hS with hS | ⟨h1,h2⟩
   ·exact .inl hS
   ·exact .inr ⟨h1,fun hoo=>h2 (hown k hoo)⟩
  ·by_cases hi : i = id
   ·subst hi
    rw [hB] at hiB; cases hiB
    exact ⟨B',hid,by omega,fun e=>by omega⟩
   ·exact ⟨B2,by rw [hne i hi]; exact hiB,Nat.le_refl _,fun _=>⟨fun v hv=>by simp [Mp.addBf,hi]; exact hv,rfl⟩⟩
 refine ⟨⟨h.os,h.tape,h.output,h.size,h.block,fun b ho=>h.fresh b (hown b ho),h.gB,h.brB,h.bri,h.ibb,?_,?_,?_,?_,?_⟩,hlat,?_⟩
 ·intro i j b v2 hi hj
  simp only [Mp.addBf] at hj
  split at hj
  ·cases hj
  ·exact h.ibf i j b v2 hi hj
 ·intro i j b u v2 hi hj
  simp only [Mp.addBf] at hi hj
  split at hi
  ·cases hi
  ·split at hj
   ·cases hj
   ·exact h.iff i j b u v2 hi hj
 ·intro i b hi
  obtain ⟨cs,h2,h3⟩:=h.box i b hi
  exact ⟨cs,by rw [hbox]; exact h2,h3.mono hlat rfl⟩
 ·intro i v2 hv2
  simp only [Mp.addBf] at hv2
  split at hv2
  ·cases hv2
  ·rename_i hi
   obtain ⟨B2,rs2,xs2,h2,h3,h4,h5,h6,h7⟩:=h.buf i v2 hv2
   exact ⟨B2,rs2,xs2,by rw [hne i hi]; exact h2,h3,h4,h5,h6,fun i j y hy=>let ⟨u,hu,hrd⟩:=h7 i j y hy; ⟨u,hu,hrd.mono hlat.st⟩⟩
 ·intro i v2 hv2
  obtain ⟨B2,rs2,xs2,h2,h3,h4,h5,h6,h7⟩:=h.bor i v2 hv2
  exact ⟨B2,rs2,xs2,by rw [hbo]; exact h2,h3,h4,h5,h6,fun i j y hy=>let ⟨u,hu,hrd⟩:=h7 i j y hy; ⟨u,hu,hrd.mono hlat.st⟩⟩
 ·obtain ⟨B2,rs,xs,h2,h3,h4,h5,h6,h7⟩:=h.buf id v hv
  rw [hB] at h2; cases h2
  rcases h6.2 with ⟨rfl,h0⟩ | ⟨g,cap,cur,rfl,hbg,hgg,hnc,hcm,hcs,htake⟩
  ·have : rs = []:=List.eq_nil_of_length_eq_zero h0
   subst this
   exact .emp _ _ none 0 h3 (fun _=>rfl)
  ·by_cases he : rs = []
   ·subst he
    exact .emp _ _ _ cap h3 (fun h=>by cases h)
   ·have hcell : ∀ i j y,at2 rs i j = some y → ∃ u,w.cell? ⟨g,0 + (i * B.z + j),none⟩ = some u ∧ Rd w (F.S m) y u:=by
     intro i j y hy
     obtain ⟨u,hu,hrd⟩:=h7 i j y hy
     have:=h6.cells (g:=g) rfl (i * B.z + j) u hu
     refine ⟨u,?_,hrd⟩
     rw [← this]
     unfold Addr.add
     split
     ·rename_i hz0; simp [hz0]
     ·rfl
    refine .sl B.con B.z rs g 0 cap (fun i j=>(xs[i * B.z + j]?).getD undef) h3 he h4 (Nat.le_trans hnc hcm) hnc h5 ?_ ?_ ?_
    ·refine .inr ⟨h.fresh g (.inr ⟨id,_,hv,rfl⟩),fun hoo=>?_⟩
     rcases hoo with ⟨i,hi⟩ | ⟨i,v2,hv2,hb2⟩
     ·exact h.ibf i id g _ hi hv rfl
     ·simp only [Mp.addBf] at hv2
      split at hv2
      ·cases hv2
      ·rename_i hi
       exact hi (h.iff i id g v2 _ hv2 hv hb2 rfl)
    ·intro i j y hy
     obtain ⟨u,hu,hrd⟩:=hcell i j y hy
     obtain ⟨u2,hu2,_⟩:=h7 i j y hy
     have:=h6.cells (g:=g) rfl (i * B.z + j) u2 hu2
     simp only [hu2,Option.getD_some]
     rw [← this]
     unfold Addr.add
     split
     ·rename_i hz0; simp [hz0]
     ·simp
    ·intro i j y hy
     obtain ⟨u2,hu2,hrd⟩:=h7 i j y hy
     simp only [hu2,Option.getD_some]
     exact hrd.mono hlat.st

end Go.Abs

namespace Go.Abs
set_option linter.unusedSimpArgs false
set_option linter.unusedVariables false
open Go.RowKit

def szO (P : Program) (t : TypeId) : Option Nat:=(P.info? t).map (·.size)
def byO (P : Program) (t : TypeId) : Option Nat:=(P.info? t).map (·.bytes)
def zeroO (P : Program) (t : TypeId) : Option (List Value):=(P.info? t).bind fun i=>i.zero.map fun z=>z.cells.toList
def aggO (P : Program) (t : TypeId) : Option Bool:=(P.underlying t).map fun d=>match d with | .struct _ | .array _ _=>true | _=>false
def elO (P : Program) (t : TypeId) : Option TypeId:=match P.underlying t with | some (.slice e)=>some e | _=>none
def fldO (P : Program) (t : TypeId) (f : Nat) : Option (Nat × TypeId):=match P.underlying t with | some (.struct fs)=>(fs[f]?).map fun x=>(x.offset,x.type) | _=>none
def intO (P : Program) (t : TypeId) : Option IntKind:=match P.underlying t with | some (.int k)=>some k | _=>none
def emptyO (P : Program) (e : TypeId) : Option C:=match P.underlying e with | some (.int k)=>some (.ints k []) | some .bool=>some (.bools []) | some _=>(szO P e).map fun z=>.sl z [] | none=>none

def ofC : Value → C
 | .int k n=>.i k n
 | .bool b=>.b b
 | .string s=>.str s
 | .slice none 0 0=>.nil
 | v=>.a v

def ofV : Value → AV
 | .agg cs=>if cs.toList.all oneCell then .g (cs.toList.map ofC) else .u
 | .tuple _=>.u
 | v=>.c (ofC v)

structure St where
 n : Nat
 sl : List (Nat × AV)
 H : Hp
 nx : Nat

def St.get (st : St) (t : Nat) : AV:=match look st.sl t with | some x=>x | none=>.u
def St.put (st : St) (d : Nat) (r : AV) : St:=if d < st.n then { st with sl:=(d,r) :: st.sl } else st
def St.ev (st : St) : Operand → AV
 | .tmp t=>st.get t
 | .const v=>ofV v
 | .global _=>.u
 | .func f=>.c (.a (.func (.func f) #[] #[]))

def C.len : C → Option Nat
 | .nil=>some 0
 | .e0=>some 0
 | .ints _ xs=>some xs.length
 | .bools xs=>some xs.length
 | .sl _ xs=>some xs.length
 | _=>none
def C.row : C → Nat → List C
 | .ints k xs,q=>[.i k (xs.getD q 0)]
 | .bools xs,q=>[.b (xs.getD q false)]
 | .sl _ xs,q=>xs.getD q []
 | _,_=>[]
def C.sub : C → Nat → Nat → C
 | .ints k xs,l,h=>.ints k ((xs.take h).drop l)
 | .bools xs,l,h=>.bools ((xs.take h).drop l)
 | .sl z xs,l,h=>.sl z ((xs.take h).drop l)
 | c,_,_=>c
def C.app : C → C → Option C
 | .ints k xs,.ints k' ys=>if k = k' then some (.ints k (xs ++ ys)) else none
 | .bools xs,.bools ys=>some (.bools (xs ++ ys))
 | .sl z xs,.sl z' ys=>if z = z' then some (.sl z (xs ++ ys)) else none
 | .ints k xs,.nil=>some (.ints k xs)
 | .bools xs,.nil=>some (.bools xs)
 | .sl z xs,.nil=>some (.sl z xs)
 | .ints k xs,.e0=>some (.ints k xs)
 | .bools xs,.e0=>some (.bools xs)
 | .sl z xs,.e0=>some (.sl z xs)
 | .ints .u8 xs,.str s=>some (.ints .u8 (xs ++ s.data.toList.map fun b=>(b.toNat : Int)))
 | _,_=>none
def C.put : C → Nat → Nat → C → Option C
 | .ints k xs,q,0,.i k' n=>if k = k' then some (.ints k (xs.set q n)) else none
 | .bools xs,q,0,.b x=>some (.bools (xs.set q x))
 | .sl z xs,q,j,x=>some (.sl z (xs.set q ((xs.getD q []).set j x)))
 | _,_,_,_=>none

def cellsOf : AV → Option (List C)
 | .c x=>some [x]
 | .g xs=>some xs
 | _=>none
def allC : List AV → Option (List C)
 | []=>some []
 | .c x :: l=>(allC l).map (x :: ·)
 | _ :: _=>none

def InK (k : IntKind) (n : Int) : Prop:=k.min ≤ n ∧ n ≤ k.max
def modK : IntKind → Int
 | .u8=>256 | .u16=>65536 | .u32=>4294967296 | .u64=>18446744073709551616
 | .i8=>256 | .i16=>65536 | .i32=>4294967296 | .i64=>18446744073709551616
def arT (k : IntKind) (n : Int) (K : AV → Prop) : Prop:=match k.signed with
 | true=>InK k n ∧ K (.c (.i k n))
 | false=>K (.c (.i k (n % modK k)))

def curB (H : Hp) (id ver : Nat) : Option Buf:=match look H.buf id with | some B=>if B.ver == ver then some B else none | none=>none

def bitI (op : BinOp) (k : IntKind) (x y : Int) : Int:=match op with
 | .and=>k.wrap (BitVec.ofInt k.bits x &&& BitVec.ofInt k.bits y).toNat
 | .or=>k.wrap (BitVec.ofInt k.bits x ||| BitVec.ofInt k.bits y).toNat
 | .xor=>k.wrap (BitVec.ofInt k.bits x ^^^ BitVec.ofInt k.bits y).toNat
 | _=>k.wrap (BitVec.ofInt k.bits x &&& ~~~ BitVec.ofInt k.bits y).toNat
def shlI (k : IntKind) (x y : Int) : Int:=k.wrap (x * 2 ^ (Nat.min y.toNat k.bits))
def shrI (k : IntKind) (x y : Int) : Int:=x.fdiv (2 ^ (Nat.min y.toNat k.bits))

def intT (op : BinOp) (k : IntKind) (a b : Int) (K : AV → Prop) : Prop:=match op with
 | .add=>arT k (a + b) K
 | .sub=>arT k (a - b) K
 | .mul=>arT k (a * b) K
 | .quo=>match k.signed with
  | true=>b ≠ 0 ∧ InK k (a.tdiv b) ∧ K (.c (.i k (a.tdiv b)))
  | false=>(0 ≤ a ∧ a < modK k ∧ 0 < b) ∧ K (.c (.i k (a / b)))
 | .rem=>match k.signed with
  | true=>b ≠ 0 ∧ K (.c (.i k (a.tmod b)))
  | false=>(0 ≤ a ∧ 0 < b) ∧ K (.c (.i k (a % b)))
 | .eql=>K (.c (.b (decide (a = b))))
 | .neq=>K (.c (.b (decide (a ≠ b))))
 | .lss=>K (.c (.b (decide (a < b))))
 | .leq=>K (.c (.b (decide (a ≤ b))))
 | .gtr=>K (.c (.b (decide (b < a))))
 | .geq=>K (.c (.b (decide (b ≤ a))))
 | .and=>K (.c (.i k (bitI .and k a b)))
 | .or=>K (.c (.i k (bitI .or k a b)))
 | .xor=>K (.c (.i k (bitI .xor k a b)))
 | .andNot=>K (.c (.i k (bitI .andNot k a b)))
 | _=>False

structure CT where
 fresh : Bool
 own : Option (TypeId × Nat):=none
 win : Option TypeId:=none
 cut : Option TypeId:=none
 tr : List (C ⊕ List C) → (AV → Prop) → Prop
 ctr : C → (C → Prop) → Prop:=fun _ _=>False
 g : Option (Hp → List AV → (Hp → List AV → Prop) → Prop):=none
structure Cfg where
 tbl : FuncId → Option CT
 flt : List TypeId
 cv : Bool:=false
 wn : Bool:=false
 mq : Bool:=false
 lq : Bool:=false
 vq : Bool:=false
 aq : Bool:=false

def nonNil (c : C) : Prop:=match c with
 | .e0=>True
 | .ints _ xs=>xs ≠ []
 | .bools xs=>xs ≠ []
 | .sl _ xs=>xs ≠ []
 | _=>False

def binT (P : Program) (cf : Cfg) (op : BinOp) (t : TypeId) (x y : AV) (K : AV → Prop) : Prop:=match op,x,y with
 | .shl,.c (.i k a),.c (.i _ b)=>0 ≤ b ∧ K (.c (.i k (shlI k a b)))
 | .shr,.c (.i k a),.c (.i _ b)=>0 ≤ b ∧ K (.c (.i k (shrI k a b)))
 | op,.c (.i k a),.c (.i k' b)=>k = k' ∧ intT op k a b K
 | .eql,.c (.b a),.c (.b b)=>P.underlying t = some .bool ∧ K (.c (.b (a == b)))
 | .neq,.c (.b a),.c (.b b)=>P.underlying t = some .bool ∧ K (.c (.b (a != b)))
 | .eql,.c (.str a),.c (.str b)=>K (.c (.b (a.toList == b.toList)))
 | .neq,.c (.str a),.c (.str b)=>K (.c (.b (!(a.toList == b.toList))))
 | .eql,.c .nil,.c .nil=>(elO P t).isSome = true ∧ K (.c (.b true))
 | .neq,.c .nil,.c .nil=>(elO P t).isSome = true ∧ K (.c (.b false))
 | .eql,.c c,.c .nil=>(elO P t).isSome = true ∧ nonNil c ∧ K (.c (.b false))
 | .neq,.c c,.c .nil=>(elO P t).isSome = true ∧ nonNil c ∧ K (.c (.b true))
 | .add,.c (.str a),.c (.str b)=>a.size + b.size ≤ 9223372036854775807 ∧ K (.c (.str (a ++ b)))
 | .eql,.g [.i .i64 a,.i .i64 b],.g [.i .i64 c,.i .i64 d]=>t ∈ cf.flt ∧ K (.c (.b (decide (a = c ∧ b = d))))
 | .neq,.g [.i .i64 a,.i .i64 b],.g [.i .i64 c,.i .i64 d]=>t ∈ cf.flt ∧ K (.c (.b (!decide (a = c ∧ b = d))))
 | _,_,_=>False

def arW (k : IntKind) (n : Int) (K : AV → Prop) : Prop:=match k.signed with
 | true=>(InK k n → K (.c (.i k n))) ∧ (¬ InK k n → K (.c (.i k (k.wrap n))))
 | false=>K (.c (.i k (n % modK k)))
def unT (op : UnOp) (x : AV) (K : AV → Prop) : Prop:=match op,x with
 | .not,.c (.b a)=>K (.c (.b (!a)))
 | .neg,.c (.i k a)=>arW k (0 - a) K
 | .xor,.c (.i k a)=>K (.c (.i k (bitI .xor k (if k.signed then -1 else k.max) a)))
 | _,_=>False

def convT (P : Program) (d : TypeId) (x : AV) (K : AV → Prop) : Prop:=match intO P d,x with
 | some .i64,.c (.i .u64 n)=>arW .i64 n K
 | some k,.c (.i _ n)=>arT k n K
 | _,_=>False

def pickT (c : AV) (Ka Kb : Prop) : Prop:=match c with
 | .c (.b true)=>Ka
 | .c (.b false)=>Kb
 | _=>False

def allG : List AV → Option (List TE)
 | []=>some []
 | .c x :: l=>(allG l).map (TE.s (.inl x) :: ·)
 | .own id ver :: l=>(allG l).map (TE.own id ver :: ·)
 | .ln x :: l=>(allG l).map (TE.ln x :: ·)
 | _ :: _=>none
def loadT (P : Program) (H : Hp) (t : TypeId) (x : AV) (K : AV → Prop) : Prop:=match aggO P t,szO P t,x with
 | some false,_,.bx id off=>match look H.box id with
  | some cs=>isM cs = false ∧ (match cs[off]? with | some y=>K y | none=>False)
  | none=>False
 | some false,_,.el xs=>match xs with | y :: _=>K (.c y) | []=>False
 | some false,_,.oel id ver i off=>match curB H id ver with
  | some B=>match (B.con.row i)[off]? with | some y=>K (.c y) | none=>False
  | none=>False
 | some false,_,.bel k i off=>match look H.bor k with
  | some B=>match (B.con.row i)[off]? with | some y=>K (.c y) | none=>False
  | none=>False
 | some true,some z,.bx id off=>match look H.box id with
  | some cs=>isM cs = false ∧ (match allC ((cs.drop off).take z) with | some l=>l.length = z ∧ K (.g l) | none=>match allG ((cs.drop off).take z) with | some l=>l.length = z ∧ K (.gt l) | none=>False)
  | none=>False
 | some true,some z,.el xs=>(xs.take z).length = z ∧ K (.g (xs.take z))
 | some true,some z,.oel id ver i off=>match curB H id ver with
  | some B=>(((B.con.row i).drop off).take z).length = z ∧ K (.g (((B.con.row i).drop off).take z))
  | none=>False
 | _,_,_=>False

def arrO (P : Program) (t : TypeId) : Option (Nat × TypeId):=match P.underlying t with | some (.array n e)=>some (n,e) | _=>none
def indexAddrT (P : Program) (H : Hp) (t : TypeId) (x i : AV) (K : AV → Prop) : Prop:=match elO P t,x,i with
 | some e,.c c,.c (.i _ n)=>match c.len with
  | some l=>szO P e = some c.z ∧ (0 ≤ n ∧ n < (l : Int)) ∧ K (.el (c.row n.toNat))
  | none=>False
 | some e,.own id ver,.c (.i _ n)=>match curB H id ver with
  | some B=>match B.con.len with
   | some l=>szO P e = some B.z ∧ (0 ≤ n ∧ n < (l : Int)) ∧ K (.oel id ver n.toNat 0)
   | none=>False
  | none=>False
 | some e,.bw k lo len,.c (.i _ n)=>match look H.bor k with
  | some B=>szO P e = some B.con.z ∧ (0 ≤ n ∧ n < (len : Int)) ∧ K (.bel k (lo + n.toNat) 0)
  | none=>False
 | some e,.win id ver lo len,.c (.i _ n)=>match curB H id ver with
  | some B=>szO P e = some B.z ∧ (0 ≤ n ∧ n < (len : Int)) ∧ K (.oel id ver (lo + n.toNat) 0)
  | none=>False
 | none,.el xs,.c (.i _ n)=>match arrO P t with
  | some (l,e)=>match szO P e with
   | some z=>(0 ≤ n ∧ n < (l : Int)) ∧ K (.el (xs.drop (n.toNat * z)))
   | none=>False
  | none=>False
 | none,.bx id off,.c (.i _ n)=>match arrO P t with
  | some (l,e)=>match szO P e with
   | some z=>(0 ≤ n ∧ n < (l : Int)) ∧ K (.bx id (off + n.toNat * z))
   | none=>False
  | none=>False
 | _,_,_=>False

def fieldAddrT (P : Program) (s : TypeId) (x : AV) (f : Nat) (K : AV → Prop) : Prop:=match fldO P s f with
 | some (o,ft)=>match szO P ft with
  | some (_ + 1)=>match x with
   | .bx id off=>K (.bx id (off + o))
   | .oel id ver i off=>K (.oel id ver i (off + o))
   | .el xs=>K (.el (xs.drop o))
   | .c (.ptr xs)=>K (.el (xs.drop o))
   | .c (.a (.pointer (some ⟨g,k,none⟩)))=>K (.c (.a (.pointer (some ⟨g,k + o,none⟩))))
   | _=>False
  | _=>False
 | none=>False
def indexQ (P : Program) (t : TypeId) (x i : AV) (K : AV → Prop) : Prop:=match elO P t,x,i with
 | some e,.c (.a (.slice (some ⟨g,o,none⟩) l _)),.c (.i _ n)=>match szO P e with
  | some z=>(0 ≤ n ∧ n < (l : Int)) ∧ K (.c (.a (.pointer (some ⟨g,o + n.toNat * z,none⟩))))
  | none=>False
 | _,_,_=>False

def fieldT (P : Program) (s : TypeId) (x : AV) (f : Nat) (K : AV → Prop) : Prop:=match fldO P s f,x with
 | some (o,ft),.g xs=>match aggO P ft,szO P ft with
  | some false,_=>match xs[o]? with | some y=>K (.c y) | none=>False
  | some true,some z=>K (.g ((xs.drop o).take z))
  | _,_=>False
 | _,_=>False

def q_y : C ⊕ List C → AV
 | .inl x=>.c x
 | .inr xs=>.g xs
def teAV : TE → AV
 | .s x=>q_y x
 | .own id ver=>.own id ver
 | .bx id off=>.bx id off
 | .mp id=>.mp id
 | .ln x=>.ln x
 | .u=>.u
def extractT (x : AV) (i : Nat) (K : AV → Prop) : Prop:=match x with
 | .t vs=>match vs[i]? with | some y=>K (q_y y) | none=>False
 | .tt vs=>match vs[i]? with | some y=>K (teAV y) | none=>False
 | _=>False

def lenT (H : Hp) (x : AV) (K : AV → Prop) : Prop:=match x with
 | .c (.str s)=>K (.c (.i .i64 s.size))
 | .c (.a (.slice _ n _))=>K (.c (.i .i64 n))
 | .c c=>match c.len with | some l=>K (.c (.i .i64 l)) | none=>False
 | .own id ver=>match curB H id ver with
  | some B=>match B.con.len with | some l=>K (.c (.i .i64 l)) | none=>False
  | none=>False
 | .win id ver _ len=>match curB H id ver with
  | some _=>K (.c (.i .i64 len))
  | none=>False
 | .bw _ _ len=>K (.c (.i .i64 len))
 | .ln c=>match c.len with | some l=>K (.c (.i .i64 l)) | none=>False
 | _=>False

def sliceT (P : Program) (t : TypeId) (x : AV) (lo hi : Option AV) (K : AV → Prop) : Prop:=match elO P t,x with
 | some e,.c c=>match c.len with
  | some l=>match lo,hi with
   | none,none=>szO P e = some c.z ∧ K (.c (c.sub 0 l))
   | some (.c (.i _ a)),none=>szO P e = some c.z ∧ (0 ≤ a ∧ a ≤ (l : Int)) ∧ K (.c (c.sub a.toNat l))
   | none,some (.c (.i _ b))=>szO P e = some c.z ∧ (0 ≤ b ∧ b ≤ (l : Int)) ∧ K (.c (c.sub 0 b.toNat))
   | some (.c (.i _ a)),some (.c (.i _ b))=>szO P e = some c.z ∧ (0 ≤ a ∧ a ≤ b ∧ b ≤ (l : Int)) ∧ K (.c (c.sub a.toNat b.toNat))
   | _,_=>False
  | none=>False
 | _,_=>False

def plO (P : Program) (t : TypeId) : Option (List (Nat × Nat)):=match P.underlying t with
 | some (.struct fs)=>fs.toList.mapM fun f=>(P.info? f.type).map fun i=>(f.offset,i.size)
 | some (.array n e)=>(szO P e).map fun z=>(List.range n).map fun i=>(i * z,z)
 | _=>none
def fillC (pl : List (Nat × Nat)) : List (Nat × AV) → List C → Option (List C)
 | [],cs=>some cs
 | (f,x) :: ps,cs=>match pl[f]?,cellsOf x with
  | some (o,z),some ys=>if ys.length = z ∧ o + z ≤ cs.length then fillC pl ps (cs.take o ++ ys ++ cs.drop (o + z)) else none
  | _,_=>none
def tesOf : AV → Option (List TE)
 | .c x=>some [.s (.inl x)]
 | .g xs=>some (xs.map fun x=>.s (.inl x))
 | .bx id off=>some [.bx id off]
 | .mp id=>some [.mp id]
 | .own id ver=>some [.own id ver]
 | _=>none
def fillT (pl : List (Nat × Nat)) : List (Nat × AV) → List TE → Option (List TE)
 | [],cs=>some cs
 | (f,x) :: ps,cs=>match pl[f]?,tesOf x with
  | some (o,z),some ys=>if ys.length = z ∧ o + z ≤ cs.length then fillT pl ps (cs.take o ++ ys ++ cs.drop (o + z)) else none
  | _,_=>none
def buildT (P : Program) (t : TypeId) (ps : List (Nat × AV)) (K : AV → Prop) : Prop:=match zeroO P t,plO P t with
 | some zs,some pl=>match fillC pl ps (zs.map ofC) with
  | some cs=>zs.all oneCell = true ∧ K (.g cs)
  | none=>match fillT pl ps (zs.map fun v=>.s (.inl (ofC v))) with
   | some ts=>zs.all oneCell = true ∧ K (.gt ts)
   | none=>False
 | _,_=>False

def intsOf (k : IntKind) : List AV → Option (List Int)
 | []=>some []
 | .c (.i k' n) :: l=>if k = k' then (intsOf k l).map (n :: ·) else none
 | _ :: _=>none
def boolsOf : List AV → Option (List Bool)
 | []=>some []
 | .c (.b n) :: l=>(boolsOf l).map (n :: ·)
 | _ :: _=>none
def rowsOf (z : Nat) : List AV → Option (List (List C))
 | []=>some []
 | x :: l=>match cellsOf x with
  | some r=>if r.length = z then (rowsOf z l).map (r :: ·) else none
  | none=>none
def litO (P : Program) (e : TypeId) (xs : List AV) : Option C:=match P.underlying e with
 | some (.int k)=>(intsOf k xs).map (.ints k)
 | some .bool=>(boolsOf xs).map .bools
 | _=>match szO P e with | some z=>(rowsOf z xs).map (.sl z) | none=>none

end Go.Abs

namespace Go.Abs
set_option linter.unusedSimpArgs false
set_option linter.unusedVariables false
open Go.RowKit

section rd
variable {w : World} {S : Nat → Prop} {v : Value}
theorem rd_i {k : IntKind} {n : Int} (h : Rd w S (.i k n) v) : v = .int k n:=by cases h <;> first | rfl | (rename_i h; simp [C.rows] at h)
theorem rd_b {x : Bool} (h : Rd w S (.b x) v) : v = .bool x:=by cases h <;> first | rfl | (rename_i h; simp [C.rows] at h)
theorem rd_str {x : ByteArray} (h : Rd w S (.str x) v) : v = .string x:=by cases h <;> first | rfl | (rename_i h; simp [C.rows] at h)
theorem rd_nil (h : Rd w S .nil v) : v = .slice none 0 0:=by cases h <;> first | rfl | (rename_i h; simp [C.rows] at h)
theorem rd_a {x : Value} (h : Rd w S (.a x) v) : v = x:=by cases h <;> first | rfl | (rename_i h; simp [C.rows] at h)
theorem rd_ptr {xs : List C} (h : Rd w S (.ptr xs) v) : ∃ (b off : Nat) (us : Nat → Value),v = .pointer (some ⟨b,off,none⟩) ∧ S b ∧ b < w.heap.size ∧ (∀ (j : Nat) y,xs[j]? = some y → w.cell? ⟨b,off + j,none⟩ = some (us j)) ∧ ∀ (j : Nat) y,xs[j]? = some y → Rd w S y (us j):=by
 cases h with
 | emp c z p cap h=>simp [C.rows] at h
 | sl c z rs b off cap us h=>simp [C.rows] at h
 | ptr xs b off us hS hb hc hd=>exact ⟨b,off,us,rfl,hS,hb,hc,hd⟩
theorem rd_m {f : ByteArray → Option C} {n : Nat} (h : Rd w S (.m f n) v) : ∃ (b : Nat) (es : Array MapEntry) (ck : Nat),v = .map (some b) ∧ S b ∧ w.heap[b]? = some (.map es ck) ∧ MapRep w S (.s f n) es:=by
 cases h with
 | emp c z p cap h=>simp [C.rows] at h
 | sl c z rs b off cap us h=>simp [C.rows] at h
 | m f n b es ck cs qs hS hh hn hk hd ha hp =>
  refine ⟨b,es,ck,rfl,hS,hh,hn,fun e he=>?_,fun q c hq=>?_,hp⟩
  ·obtain ⟨i,hi⟩:=List.getElem?_of_mem he
   have hi' : es[i]? = some e:=by simpa using hi
   exact ⟨.s (qs i),cs i,(hk i e hi').1,(hk i e hi').2,hd i e hi'⟩
  ·cases q with
   | i k x=>simp [MC.fn] at hq
   | s b=>exact ha b c hq
theorem m_rd {f : ByteArray → Option C} {n b : Nat} {es : Array MapEntry} {ck : Nat} (hS : S b) (hh : w.heap[b]? = some (.map es ck)) (h : MapRep w S (.s f n) es) : Rd w S (.m f n) (.map (some b)):=by
 obtain ⟨h1,h2,h3,h4⟩:=h
 have key : ∀ i : Nat,∃ (q : ByteArray) (c : C),∀ e,es[i]? = some e → e.key = .string q ∧ f q = some c ∧ Rd w S c e.val:=by
  intro i
  cases hi : es[i]? with
  | none=>exact ⟨ByteArray.empty,.nil,fun e he=>by cases he⟩
  | some e =>
   obtain ⟨q,c,g1,g2,g3⟩:=h2 e (List.mem_of_getElem? (by simpa using hi))
   cases q with
   | i k x=>simp [MC.fn] at g2
   | s q=>exact ⟨q,c,fun e' he=>by cases he; exact ⟨g1,g2,g3⟩⟩
 exact .m f n b es ck (fun i=>(key i).choose_spec.choose) (fun i=>(key i).choose) hS hh h1
  (fun i e he=>let h:=(key i).choose_spec.choose_spec e he; ⟨h.1,h.2.1⟩) (fun i e he=>((key i).choose_spec.choose_spec e he).2.2) (fun q c hq=>h3 (.s q) c hq) h4
theorem rd_e0 (h : Rd w S .e0 v) : ∃ a cap,v = .slice (some a) 0 cap:=by cases h <;> first | exact ⟨_,_,rfl⟩ | (rename_i h; simp [C.rows] at h)
end rd

theorem rd_ofC (w : World) (S : Nat → Prop) (v : Value) (h : oneCell v = true) : Rd w S (ofC v) v:=by
 unfold ofC
 split
 ·exact .i _ _
 ·exact .b _
 ·exact .str _
 ·exact .nil
 ·exact .a _ h

def Yl (P : Program) (F : Fr) (H : Hp) (m : Mp) (w : World) (s : Sem Value) (r : AV) : Prop:=∃ v,s.run P w = .ok v w ∧ RepA F H m w r v

theorem wrap_signed {k : IntKind} {n : Int} (hs : k.signed = true) (h : InK k n) : k.wrap n = n:=by
 cases k <;> simp [IntKind.signed] at hs <;> simp [InK,IntKind.min,IntKind.max,IntKind.signed,IntKind.bits] at h <;> simp [IntKind.wrap,IntKind.signed,IntKind.bits] <;> omega

theorem wrap_unsigned {k : IntKind} {n : Int} (hs : k.signed = false) : k.wrap n = n % modK k:=by
 cases k <;> simp [IntKind.signed] at hs <;> simp [IntKind.wrap,IntKind.signed,IntKind.bits,modK]

variable {P : Program}

theorem arT_sound {k : IntKind} {n : Int} {K : AV → Prop} (h : arT k n K) : ∃ r,K r ∧ r = .c (.i k (k.wrap n)):=by
 unfold arT at h
 split at h
 ·rename_i hs; exact ⟨_,h.2,by rw [wrap_signed hs h.1]⟩
 ·rename_i hs; exact ⟨_,h,by rw [wrap_unsigned hs]⟩

theorem rep_int (F : Fr) (H : Hp) (m : Mp) (w : World) (k : IntKind) (n : Int) : RepA F H m w (.c (.i k n)) (.int k n):=Rd.i k n
theorem rep_bool (F : Fr) (H : Hp) (m : Mp) (w : World) (x : Bool) : RepA F H m w (.c (.b x)) (.bool x):=Rd.b x

theorem intT_sound {op : BinOp} {k : IntKind} {a b : Int} {K : AV → Prop} (h : intT op k a b K) :
  ∃ r,K r ∧ ∀ (F : Fr) (H : Hp) (m : Mp) (w : World) (t : TypeId),Yl P F H m w (binOp op t (.int k a) (.int k b)) r:=by
 cases op <;> simp only [intT] at h
 case add=>obtain ⟨r,hK,rfl⟩:=arT_sound h; exact ⟨_,hK,fun F H m w t=>⟨_,by simp [binOp,Op.intArith],rep_int ..⟩⟩
 case sub=>obtain ⟨r,hK,rfl⟩:=arT_sound h; exact ⟨_,hK,fun F H m w t=>⟨_,by simp [binOp,Op.intArith],rep_int ..⟩⟩
 case mul=>obtain ⟨r,hK,rfl⟩:=arT_sound h; exact ⟨_,hK,fun F H m w t=>⟨_,by simp [binOp,Op.intArith],rep_int ..⟩⟩
 case quo =>
  split at h
  ·rename_i hs; obtain ⟨hb,hi,hK⟩:=h; exact ⟨_,hK,fun F H m w t=>⟨_,by simp [binOp,Op.intDiv,hb,wrap_signed hs hi],rep_int ..⟩⟩
  ·rename_i hs; obtain ⟨⟨ha,ha2,hb⟩,hK⟩:=h
   refine ⟨_,hK,fun F H m w t=>⟨_,?_,rep_int ..⟩⟩
   have e1 : a.tdiv b = a / b:=Int.tdiv_eq_ediv_of_nonneg ha
   have h0 : 0 ≤ a / b:=Int.ediv_nonneg ha (by omega)
   have h1 : a / b ≤ a:=Int.ediv_le_self b ha
   have e2 : a / b % modK k = a / b:=Int.emod_eq_of_lt h0 (by omega)
   have hb0 : b ≠ 0:=by omega
   simp [binOp,Op.intDiv,hb0,e1,wrap_unsigned hs,e2]
 case rem =>
  split at h
  ·obtain ⟨hb,hK⟩:=h; exact ⟨_,hK,fun F H m w t=>⟨_,by simp [binOp,Op.intDiv,hb],rep_int ..⟩⟩
  ·obtain ⟨⟨ha,hb⟩,hK⟩:=h
   refine ⟨_,hK,fun F H m w t=>⟨_,?_,rep_int ..⟩⟩
   have e1 : a.tmod b = a % b:=Int.tmod_eq_emod_of_nonneg ha
   have hb0 : b ≠ 0:=by omega
   simp [binOp,Op.intDiv,hb0,e1]
 case eql=>exact ⟨_,h,fun F H m w t=>⟨.bool (a == b),by simp [binOp,Op.intCmp],by have : (a == b) = decide (a = b):=rfl; rw [this]; exact rep_bool ..⟩⟩
 case neq =>
  have e : (a != b) = decide (a ≠ b):=by rw [Bool.eq_iff_iff]; simp
  exact ⟨_,h,fun F H m w t=>⟨.bool (a != b),by simp [binOp,Op.intCmp],by rw [e]; exact rep_bool ..⟩⟩
 case lss=>exact ⟨_,h,fun F H m w t=>⟨_,by simp [binOp,Op.intCmp],rep_bool ..⟩⟩
 case leq=>exact ⟨_,h,fun F H m w t=>⟨_,by simp [binOp,Op.intCmp],rep_bool ..⟩⟩
 case gtr=>exact ⟨_,h,fun F H m w t=>⟨_,by simp [binOp,Op.intCmp],rep_bool ..⟩⟩
 case geq=>exact ⟨_,h,fun F H m w t=>⟨_,by simp [binOp,Op.intCmp],rep_bool ..⟩⟩
 case and=>exact ⟨_,h,fun F H m w t=>⟨_,by simp [binOp,Op.intBits]; rfl,rep_int ..⟩⟩
 case or=>exact ⟨_,h,fun F H m w t=>⟨_,by simp [binOp,Op.intBits]; rfl,rep_int ..⟩⟩
 case xor=>exact ⟨_,h,fun F H m w t=>⟨_,by simp [binOp,Op.intBits]; rfl,rep_int ..⟩⟩
 case andNot=>exact ⟨_,h,fun F H m w t=>⟨_,by simp only [binOp,Op.intBits,ne_eq,not_true_eq_false,if_false]; rfl,rep_int ..⟩⟩

theorem rep_i {F : Fr} {H : Hp} {m : Mp} {w : World} {k : IntKind} {n : Int} {v : Value} (h : RepA F H m w (.c (.i k n)) v) : v = .int k n:=rd_i h
theorem rep_b {F : Fr} {H : Hp} {m : Mp} {w : World} {x : Bool} {v : Value} (h : RepA F H m w (.c (.b x)) v) : v = .bool x:=rd_b h

theorem eqGuard_int (op : BinOp) (t : TypeId) (x y : Operand) (k k' : IntKind) (a b : Int) (w : World) : (eqGuard op t x y (.int k a) (.int k' b)).run P w = .ok () w:=by
 cases op <;> simp [eqGuard]
theorem eqGuard_bool (op : BinOp) (t : TypeId) (x y : Operand) (a b : Bool) (w : World) : (eqGuard op t x y (.bool a) (.bool b)).run P w = .ok () w:=by
 cases op <;> simp [eqGuard]

theorem eqGuard_str (op : BinOp) (t : TypeId) (x y : Operand) (a b : ByteArray) (w : World) : (eqGuard op t x y (.string a) (.string b)).run P w = .ok () w:=by
 cases op <;> simp [eqGuard]

def FltOk (P : Program) (t : TypeId) : Prop:=∀ (op : BinOp) (a b c d : Int) (x y : Operand) (w : World),op = .eql ∨ op = .neq →
 (do eqGuard op t x y (.agg #[.int .i64 a,.int .i64 b]) (.agg #[.int .i64 c,.int .i64 d]); binOp op t (.agg #[.int .i64 a,.int .i64 b]) (.agg #[.int .i64 c,.int .i64 d])).run P w =
  .ok (.bool (if op = .eql then decide (a = c ∧ b = d) else !decide (a = c ∧ b = d))) w

theorem rep_two {F : Fr} {H : Hp} {m : Mp} {w : World} {a b : Int} {v : Value} (h : RepA F H m w (.g [.i .i64 a,.i .i64 b]) v) : v = .agg #[.int .i64 a,.int .i64 b]:=by
 obtain ⟨vs,rfl,hl,h⟩:=h
 obtain ⟨l⟩:=vs
 match l,hl with
 | [x,y],_ =>
  have h0:=rd_i (h 0 _ x rfl rfl)
  have h1:=rd_i (h 1 _ y rfl rfl)
  subst h0; subst h1; rfl

theorem equal_bool {t : TypeId} (ht : P.underlying t = some .bool) (a b : Bool) (w : World) : (Op.equal t (.bool a) (.bool b)).run P w = .ok (a == b) w:=by
 obtain ⟨d,hd⟩ : ∃ d,Op.maxDepth = d + 1:=⟨9999,rfl⟩
 rw [Op.equal,hd]
 simp [Op.equalIn,run_underlying ht]

theorem eqGuard_sl (op : BinOp) (t : TypeId) (x y : Operand) (a b : Option Addr) (l l' c c' : Nat) (w : World) : (eqGuard op t x y (.slice a l c) (.slice b l' c')).run P w = .ok () w:=by
 cases op <;> simp [eqGuard]
theorem equal_sl_nil {t : TypeId} (ht : (elO P t).isSome = true) (a : Option Addr) (l c : Nat) (w : World) : (Op.equal t (.slice a l c) (.slice none 0 0)).run P w = .ok a.isNone w:=by
 obtain ⟨e,he⟩:=Option.isSome_iff_exists.1 ht
 have hu : P.underlying t = some (.slice e):=by
  unfold elO at he
  split at he
  ·rename_i e' he'; cases he; exact he'
  ·cases he
 obtain ⟨d,hd⟩ : ∃ d,Op.maxDepth = d + 1:=⟨9999,rfl⟩
 rw [Op.equal,hd]
 cases a <;> simp [Op.equalIn,run_underlying hu]
theorem rd_nonNil {w : World} {S : Nat → Prop} {c : C} {v : Value} (hn : nonNil c) (h : Rd w S c v) : ∃ a l cap,v = .slice (some a) l cap:=by
 cases h with
 | e0 a cap=>exact ⟨a,0,cap,rfl⟩
 | emp c z p cap h hp=>cases c <;> simp_all [nonNil,C.rows]
 | sl c z rs b off cap us h=>exact ⟨_,_,_,rfl⟩
 | ptr=>exact hn.elim
 | m=>exact hn.elim
 | a=>exact hn.elim
 | i=>exact hn.elim
 | b=>exact hn.elim
 | str=>exact hn.elim
 | nil=>exact hn.elim

theorem binT_sound {cf : Cfg} (hcf : ∀ t ∈ cf.flt,FltOk P t) {op : BinOp} {t : TypeId} {x y : AV} {K : AV → Prop} (h : binT P cf op t x y K) :
  ∃ r,K r ∧ ∀ (F : Fr) (H : Hp) (m : Mp) (w : World) (u v : Value) (ox oy : Operand),RepA F H m w x u → RepA F H m w y v → Yl P F H m w (do eqGuard op t ox oy u v; binOp op t u v) r:=by
 unfold binT at h
 split at h
 ·obtain ⟨hb,hK⟩:=h
  refine ⟨_,hK,fun F H m w u v ox oy hu hv=>⟨_,?_,rep_int ..⟩⟩
  rename_i k a k' b
  obtain rfl:=rep_i hu
  obtain rfl:=rep_i hv
  have : ¬ b < 0:=by omega
  simp [eqGuard_int,binOp,Op.shift,this]
  rfl
 ·obtain ⟨hb,hK⟩:=h
  refine ⟨_,hK,fun F H m w u v ox oy hu hv=>⟨_,?_,rep_int ..⟩⟩
  rename_i k a k' b
  obtain rfl:=rep_i hu
  obtain rfl:=rep_i hv
  have : ¬ b < 0:=by omega
  simp [eqGuard_int,binOp,Op.shift,this]
  rfl
 ·obtain ⟨rfl,h⟩:=h
  obtain ⟨r,hK,hr⟩:=intT_sound (P:=P) h
  refine ⟨r,hK,fun F H m w u v ox oy hu hv=>?_⟩
  obtain rfl:=rep_i hu
  obtain rfl:=rep_i hv
  obtain ⟨v,hv,hrep⟩:=hr F H m w t
  exact ⟨v,by simp [eqGuard_int,hv],hrep⟩
 ·refine ⟨_,h.2,fun F H m w u v ox oy hu hv=>⟨_,?_,rep_bool ..⟩⟩
  obtain rfl:=rep_b hu
  obtain rfl:=rep_b hv
  simp [eqGuard_bool,binOp,equal_bool h.1]
 ·refine ⟨_,h.2,fun F H m w u v ox oy hu hv=>⟨_,?_,rep_bool ..⟩⟩
  obtain rfl:=rep_b hu
  obtain rfl:=rep_b hv
  simp only [Sem.run_bind,eqGuard_bool,Result.andThen_ok,binOp,equal_bool h.1]
  rfl
 ·refine ⟨_,h,fun F H m w u v ox oy hu hv=>⟨_,?_,rep_bool ..⟩⟩
  obtain rfl:=rd_str hu
  obtain rfl:=rd_str hv
  simp [eqGuard_str,binOp,Op.stringOp]
 ·refine ⟨_,h,fun F H m w u v ox oy hu hv=>⟨_,?_,rep_bool ..⟩⟩
  obtain rfl:=rd_str hu
  obtain rfl:=rd_str hv
  simp [eqGuard_str,binOp,Op.stringOp]
 ·refine ⟨_,h.2,fun F H m w u v ox oy hu hv=>⟨_,?_,rep_bool ..⟩⟩
  obtain rfl:=rd_nil hu
  obtain rfl:=rd_nil hv
  simp [eqGuard_sl,binOp,equal_sl_nil h.1]
 ·refine ⟨_,h.2,fun F H m w u v ox oy hu hv=>⟨_,?_,rep_bool ..⟩⟩
  obtain rfl:=rd_nil hu
  obtain rfl:=rd_nil hv
  simp [eqGuard_sl,binOp,equal_sl_nil h.1]
 ·refine ⟨_,h.2.2,fun F H m w u v ox oy hu hv=>⟨_,?_,rep_bool ..⟩⟩
  obtain ⟨a,l,cap,rfl⟩:=rd_nonNil h.2.1 hu
  obtain rfl:=rd_nil hv
  simp [eqGuard_sl,binOp,equal_sl_nil h.1]
 ·refine ⟨_,h.2.2,fun F H m w u v ox oy hu hv=>⟨_,?_,rep_bool ..⟩⟩
  obtain ⟨a,l,cap,rfl⟩:=rd_nonNil h.2.1 hu
  obtain rfl:=rd_nil hv
  simp [eqGuard_sl,binOp,equal_sl_nil h.1]
 ·obtain ⟨hle,h⟩:=h
  refine ⟨_,h,fun F H m w u v ox oy hu hv=>⟨_,?_,Rd.str _⟩⟩
  obtain rfl:=rd_str hu
  obtain rfl:=rd_str hv
  rename_i a b
  have : ¬ (((a.size + b.size : Nat) : Int) > IntKind.i64.max):=by simp [IntKind.max,IntKind.signed,IntKind.bits]; omega
  simp only [Sem.run_bind,eqGuard_str,Result.andThen_ok,binOp,Op.stringOp,this,if_false]
  rfl
 ·refine ⟨_,h.2,fun F H m w u v ox oy hu hv=>⟨_,?_,rep_bool ..⟩⟩
  obtain rfl:=rep_two hu
  obtain rfl:=rep_two hv
  rename_i a b c d
  have:=hcf t h.1 .eql a b c d ox oy w (.inl rfl)
  simpa using this
 ·refine ⟨_,h.2,fun F H m w u v ox oy hu hv=>⟨_,?_,rep_bool ..⟩⟩
  obtain rfl:=rep_two hu
  obtain rfl:=rep_two hv
  rename_i a b c d
  have:=hcf t h.1 .neq a b c d ox oy w (.inr rfl)
  simpa using this
 ·exact h.elim

theorem arW_sound {k : IntKind} {n : Int} {K : AV → Prop} (h : arW k n K) : ∃ r,K r ∧ r = .c (.i k (k.wrap n)):=by
 unfold arW at h
 split at h
 ·rename_i hs
  by_cases hi : InK k n
  ·exact ⟨_,h.1 hi,by rw [wrap_signed hs hi]⟩
  ·exact ⟨_,h.2 hi,rfl⟩
 ·rename_i hs; exact ⟨_,h,by rw [wrap_unsigned hs]⟩

theorem unT_sound {op : UnOp} {x : AV} {K : AV → Prop} (h : unT op x K) :
  ∃ r,K r ∧ ∀ (F : Fr) (H : Hp) (m : Mp) (w : World) (u : Value),RepA F H m w x u → Yl P F H m w (Op.unary op u) r:=by
 unfold unT at h
 split at h
 ·exact ⟨_,h,fun F H m w u hu=>by obtain rfl:=rep_b hu; exact ⟨_,by simp [Op.unary],rep_bool ..⟩⟩
 ·obtain ⟨r,hK,rfl⟩:=arW_sound h
  exact ⟨_,hK,fun F H m w u hu=>by obtain rfl:=rep_i hu; exact ⟨_,by simp only [Op.unary,Op.intArith]; rfl,rep_int ..⟩⟩
 ·exact ⟨_,h,fun F H m w u hu=>by obtain rfl:=rep_i hu; exact ⟨_,by simp only [Op.unary,Op.intBits]; rfl,rep_int ..⟩⟩
 ·exact h.elim

theorem intO_some {t : TypeId} {k : IntKind} (h : intO P t = some k) : P.underlying t = some (.int k):=by
 unfold intO at h
 split at h
 ·rename_i e; cases h; exact e
 ·cases h

theorem convT_sound {s d : TypeId} (hs : (P.underlying s).isSome = true) {x : AV} {K : AV → Prop} (h : convT P d x K) :
  ∃ r,K r ∧ ∀ (F : Fr) (H : Hp) (m : Mp) (w : World) (u : Value),RepA F H m w x u → Yl P F H m w (convert s d u) r:=by
 unfold convT at h
 split at h
 ·rename_i n hk
  obtain ⟨r,hK,rfl⟩:=arW_sound h
  refine ⟨_,hK,fun F H m w u hu=>?_⟩
  obtain rfl:=rep_i hu
  obtain ⟨ds,hds⟩:=Option.isSome_iff_exists.1 hs
  refine ⟨_,?_,rep_int ..⟩
  simp only [convert,Sem.run_bind,run_underlying hds,run_underlying (intO_some hk),Result.andThen_ok]
  rfl
 ·rename_i k k' n _ hk
  obtain ⟨r,hK,rfl⟩:=arT_sound h
  refine ⟨_,hK,fun F H m w u hu=>?_⟩
  obtain rfl:=rep_i hu
  obtain ⟨ds,hds⟩:=Option.isSome_iff_exists.1 hs
  refine ⟨_,?_,rep_int ..⟩
  simp only [convert,Sem.run_bind,run_underlying hds,run_underlying (intO_some hk),Result.andThen_ok]
  rfl
 ·exact h.elim

end Go.Abs

namespace Go.Abs
set_option linter.unusedSimpArgs false
set_option linter.unusedVariables false
open Go.RowKit

def Sup (H' H : Hp) : Prop:=((∀ i cs,look H.box i = some cs → look H'.box i = some cs) ∧ H'.bor = H.bor) ∧ H'.buf = H.buf

variable {P : Program}

theorem aggO_run {t : TypeId} {b : Bool} (h : aggO P t = some b) (w : World) : (isAgg t).run P w = .ok b w:=by
 unfold aggO at h
 obtain ⟨d,hd,rfl⟩:=Option.map_eq_some_iff.1 h
 simp only [isAgg,Sem.run_bind,run_underlying hd,Result.andThen_ok]
 cases d <;> rfl

theorem aggO_row {t : TypeId} (h : aggO P t = some true) : ∃ d,P.underlying t = some d ∧ d.isRow = true:=by
 unfold aggO at h
 obtain ⟨d,hd,hb⟩:=Option.map_eq_some_iff.1 h
 refine ⟨d,hd,?_⟩
 cases d <;> simp_all [TypeDesc.isRow]

theorem allC_spec : ∀ {l : List AV} {cs : List C},allC l = some cs → l = cs.map AV.c
 | [],cs,h=>by simp [allC] at h; subst h; rfl
 | .c x :: l,cs,h=>by
  simp only [allC,Option.map_eq_some_iff] at h
  obtain ⟨cs',h1,rfl⟩:=h
  rw [allC_spec h1]; rfl
 | .g _ :: l,cs,h=>by simp [allC] at h
 | .t _ :: l,cs,h=>by simp [allC] at h
 | .bx _ _ :: l,cs,h=>by simp [allC] at h
 | .own _ _ :: l,cs,h=>by simp [allC] at h
 | .oel _ _ _ _ :: l,cs,h=>by simp [allC] at h
 | .el _ :: l,cs,h=>by simp [allC] at h
 | .u :: l,cs,h=>by simp [allC] at h

theorem loadAt_one {t : TypeId} (h : aggO P t = some false) {w : World} {b off : Nat} {v : Value} (hc : w.cell? ⟨b,off,none⟩ = some v) :
  (Instr.loadAt t (.pointer (some ⟨b,off,none⟩))).run P w = .ok v w:=by
 simp [Instr.loadAt,Instr.sureAddr,loadVar,aggO_run h,hc]

theorem curB_spec {H : Hp} {id ver : Nat} {B : Buf} (h : curB H id ver = some B) : look H.buf id = some B ∧ B.ver = ver:=by
 unfold curB at h
 split at h
 ·split at h
  ·rename_i B' hb hv; cases h; exact ⟨hb,by simpa using hv⟩
  ·cases h
 ·cases h

theorem row_at2 {c : C} {z : Nat} {rs : List (List C)} (h : c.rows = some (z,rs)) {i : Nat} (hi : i < rs.length) : rs[i]? = some (c.row i):=by
 cases c <;> simp [C.rows] at h
 ·obtain ⟨rfl,rfl⟩:=h; simp at hi; simp [C.row,List.getElem?_eq_getElem hi]
 ·obtain ⟨rfl,rfl⟩:=h; simp at hi; simp [C.row,List.getElem?_eq_getElem hi]
 ·obtain ⟨rfl,rfl⟩:=h; simp [C.row,List.getElem?_eq_getElem hi]

theorem rows_z {c : C} {z : Nat} {rs : List (List C)} (h : c.rows = some (z,rs)) : c.z = z ∧ c.len = some rs.length:=by
 cases c <;> simp [C.rows] at h
 ·obtain ⟨rfl,rfl⟩:=h; simp [C.z,C.len]
 ·obtain ⟨rfl,rfl⟩:=h; simp [C.z,C.len]
 ·obtain ⟨rfl,rfl⟩:=h; simp [C.z,C.len]

theorem oel_cell {F : Fr} {H : Hp} {m : Mp} {w : World} (h : HRep F H m w) {id ver i off : Nat} {B : Buf} {u : Value} (hB : look H.buf id = some B) (hv : B.ver = ver) (hu : RepA F H m w (.oel id ver i off) u) :
  ∃ g n cap rs xs,m.bf id = some (.slice (some ⟨g,0,none⟩) n cap) ∧ u = .pointer (some ⟨g,i * B.z + off,none⟩) ∧ B.con.rows = some (B.z,rs) ∧ (∀ r ∈ rs,r.length = B.z) ∧ n = rs.length ∧ i < rs.length ∧ 0 < B.z ∧
   w.ownsR 0 B.e B.z (.slice (some ⟨g,0,none⟩) n cap) rs.length xs ∧ RdRow w (F.S m) B.z rs xs ∧
   ∀ j y,(B.con.row i)[j]? = some y → ∃ q,w.cell? ⟨g,i * B.z + j,none⟩ = some q ∧ Rd w (F.S m) y q:=by
 obtain ⟨-,B',hB',hle,hk⟩:=hu
 rw [hB] at hB'; cases hB'
 obtain ⟨g,n,cap,hg,hi,rfl⟩:=hk hv
 obtain ⟨B2,rs,xs,h1,h2,h3,h4,h5,h6⟩:=h.buf id _ hg
 rw [hB] at h1; cases h1
 have hn : n = rs.length:=by
  rcases h5.2 with ⟨h7,_⟩ | ⟨g',cap',cur,h7,_⟩
  ·cases h7
  ·cases h7; rfl
 subst hn
 refine ⟨g,_,cap,rs,xs,hg,rfl,h2,h4,rfl,hi,h3,h5,h6,fun j y hy=>?_⟩
 have hrow:=row_at2 h2 hi
 have hat : at2 rs i j = some y:=by simp [at2,hrow,hy]
 obtain ⟨q,hq,hr⟩:=h6 i j y hat
 have hc:=h5.cells (g:=g) rfl (i * B.z + j) q hq
 refine ⟨q,?_,hr⟩
 rw [← hc]
 unfold Addr.add
 split
 ·rename_i hz0; simp [hz0]
 ·simp

theorem bel_cell {F : Fr} {H : Hp} {m : Mp} {w : World} (h : HRep F H m w) {k i off : Nat} {B : Bor} {u : Value} (hB : look H.bor k = some B) (hu : RepA F H m w (.bel k i off) u) :
  ∃ g n cap rs xs,F.br k = some (.slice (some ⟨g,0,none⟩) n cap) ∧ u = .pointer (some ⟨g,i * B.con.z + off,none⟩) ∧ B.con.rows = some (B.con.z,rs) ∧ (∀ r ∈ rs,r.length = B.con.z) ∧ n = rs.length ∧ i < rs.length ∧ off < B.con.z ∧ 0 < B.con.z ∧
   w.ownsR 0 B.e B.con.z (.slice (some ⟨g,0,none⟩) n cap) rs.length xs ∧ RdRow w (F.S m) B.con.z rs xs ∧
   ∀ j y,(B.con.row i)[j]? = some y → ∃ q,w.cell? ⟨g,i * B.con.z + j,none⟩ = some q ∧ Rd w (F.S m) y q:=by
 obtain ⟨B',g,n,cap,hB',hg,hi,ho,rfl⟩:=hu
 rw [hB] at hB'; cases hB'
 obtain ⟨B2,rs,xs,h1,h2,h3,h4,h5,h6⟩:=h.bor k _ hg
 rw [hB] at h1; cases h1
 have hn : n = rs.length:=by
  rcases h5.2 with ⟨h7,_⟩ | ⟨g',cap',cur,h7,_⟩
  ·cases h7
  ·cases h7; rfl
 subst hn
 refine ⟨g,_,cap,rs,xs,hg,rfl,h2,h4,rfl,hi,ho,h3,h5,h6,fun j y hy=>?_⟩
 have hrow:=row_at2 h2 hi
 have hat : at2 rs i j = some y:=by simp [at2,hrow,hy]
 obtain ⟨q,hq,hr⟩:=h6 i j y hat
 have hc:=h5.cells (g:=g) rfl (i * B.con.z + j) q hq
 refine ⟨q,?_,hr⟩
 rw [← hc]
 unfold Addr.add
 split
 ·rename_i hz0; simp [hz0]
 ·simp

theorem allG_spec : ∀ {l : List AV} {ts : List TE},allG l = some ts → ts.length = l.length ∧ ∀ (j : Nat) x y,l[j]? = some x → ts[j]? = some y → (∃ c,x = .c c ∧ y = .s (.inl c)) ∨ (∃ id ver,x = .own id ver ∧ y = .own id ver) ∨ ∃ c,x = .ln c ∧ y = .ln c
 | [],ts,h=>by simp [allG] at h; subst h; simp
 | x :: l,ts,h=>by
  cases x <;> simp only [allG] at h <;> try cases h
  ·rename_i c
   obtain ⟨ts',h1,rfl⟩:=Option.map_eq_some_iff.1 h
   obtain ⟨g1,g2⟩:=allG_spec h1
   refine ⟨by simp [g1],fun j x y hx hy=>?_⟩
   match j with
   | 0=>simp at hx hy; subst hx; subst hy; exact .inl ⟨c,rfl,rfl⟩
   | j + 1=>exact g2 j x y (by simpa using hx) (by simpa using hy)
  ·rename_i id ver
   obtain ⟨ts',h1,rfl⟩:=Option.map_eq_some_iff.1 h
   obtain ⟨g1,g2⟩:=allG_spec h1
   refine ⟨by simp [g1],fun j x y hx hy=>?_⟩
   match j with
   | 0=>simp at hx hy; subst hx; subst hy; exact .inr (.inl ⟨id,ver,rfl,rfl⟩)
   | j + 1=>exact g2 j x y (by simpa using hx) (by simpa using hy)
  ·rename_i c
   obtain ⟨ts',h1,rfl⟩:=Option.map_eq_some_iff.1 h
   obtain ⟨g1,g2⟩:=allG_spec h1
   refine ⟨by simp [g1],fun j x y hx hy=>?_⟩
   match j with
   | 0=>simp at hx hy; subst hx; subst hy; exact .inr (.inr ⟨c,rfl,rfl⟩)
   | j + 1=>exact g2 j x y (by simpa using hx) (by simpa using hy)
theorem loadT_sound {H : Hp} {t : TypeId} {x : AV} {K : AV → Prop} (h : loadT P H t x K) :
  ∃ r,K r ∧ ∀ (F : Fr) (H' : Hp) (m : Mp) (w : World) (u : Value),Sup H' H → HRep F H' m w → RepA F H' m w x u → Yl P F H' m w (Instr.loadAt t u) r:=by
 unfold loadT at h
 split at h
 ·rename_i z id off hag
  split at h
  ·rename_i cs hcs
   obtain ⟨hm,h⟩:=h
   split at h
   ·rename_i y hy
    refine ⟨y,h,fun F H' m w u hsup hrep hu=>?_⟩
    obtain ⟨b,hb,rfl⟩:=hu
    obtain ⟨cs',h1,hbox⟩:=hrep.box id b hb
    rw [hsup.1.1 id cs hcs] at h1; cases h1
    obtain ⟨arr,e,h2,h3,h4⟩:=hbox.cells hm
    have hlt:=(List.getElem?_eq_some_iff.1 hy).1
    have harr : arr[off]? = some arr[off]:=Array.getElem?_eq_getElem (by omega)
    exact ⟨arr[off],loadAt_one hag (by simp [World.cell?,h2,harr]),(h4 off y _ hy harr).2⟩
   ·exact h.elim
  ·exact h.elim
 ·rename_i z xs hag
  split at h
  ·rename_i y ys
   refine ⟨_,h,fun F H' m w u hsup hrep hu=>?_⟩
   obtain ⟨b,off,rfl,hS,hc⟩:=hu
   obtain ⟨q,hq,hr⟩:=hc 0 y rfl
   exact ⟨q,loadAt_one hag hq,hr⟩
  ·exact h.elim
 ·rename_i z id ver i off hag
  split at h
  ·rename_i B hB
   split at h
   ·rename_i y hy
    refine ⟨_,h,fun F H' m w u hsup hrep hu=>?_⟩
    obtain ⟨hB1,hB2⟩:=curB_spec hB
    rw [← hsup.2] at hB1
    obtain ⟨g,n,cap,rs,xs,_,rfl,_,_,_,_,_,_,_,hcell⟩:=oel_cell hrep hB1 hB2 hu
    obtain ⟨q,hq,hr⟩:=hcell off y hy
    exact ⟨q,loadAt_one hag hq,hr⟩
   ·exact h.elim
  ·exact h.elim
 ·rename_i z k i off hag
  split at h
  ·rename_i B hB
   split at h
   ·rename_i y hy
    refine ⟨_,h,fun F H' m w u hsup hrep hu=>?_⟩
    rw [← hsup.1.2] at hB
    obtain ⟨g,n,cap,rs,xs,_,rfl,_,_,_,_,_,_,_,_,hcell⟩:=bel_cell hrep hB hu
    obtain ⟨q,hq,hr⟩:=hcell off y hy
    exact ⟨q,loadAt_one hag hq,hr⟩
   ·exact h.elim
  ·exact h.elim
 ·rename_i z id off hag hsz
  split at h
  ·rename_i cs hcs
   obtain ⟨hm,h⟩:=h
   split at h
   ·rename_i l hl
    obtain ⟨hlen,hK⟩:=h
    refine ⟨_,hK,fun F H' m w u hsup hrep hu=>?_⟩
    obtain ⟨b,hb,rfl⟩:=hu
    obtain ⟨cs',h1,hbox⟩:=hrep.box id b hb
    rw [hsup.1.1 id cs hcs] at h1; cases h1
    obtain ⟨arr,e,h2,h3,h4⟩:=hbox.cells hm
    obtain ⟨d,hd,hrow⟩:=aggO_row hag
    have hal:=allC_spec hl
    have hlen2 : ((cs.drop off).take z).length = z:=by rw [hal]; simp [hlen]
    have hvl : ((arr.toList.drop off).take z).length = z:=by
     simp only [List.length_take,List.length_drop,Array.length_toList] at hlen2 ⊢
     omega
    have hget : ∀ (j : Nat) v,((arr.toList.drop off).take z)[j]? = some v → j < z ∧ arr[off + j]? = some v:=by
     intro j v hj
     have hjz:=(List.getElem?_eq_some_iff.1 hj).1
     rw [hvl] at hjz
     rw [List.getElem?_take,if_pos hjz,List.getElem?_drop] at hj
     exact ⟨hjz,by simpa using hj⟩
    refine ⟨.agg ((arr.toList.drop off).take z).toArray,run_loadAt_mid w b off t _ d ?_ hd hrow ?_,_,rfl,by simp only; rw [hvl,hlen],?_⟩
    ·intro j v hj
     obtain ⟨_,hj⟩:=hget j v hj
     simp [World.cell?,h2,hj]
    ·rw [hvl]; exact hsz
    ·intro j y q hy hq
     obtain ⟨hjz,hq⟩:=hget j q hq
     have : ((cs.drop off).take z)[j]? = some (.c y):=by rw [hal]; simp [hy]
     rw [List.getElem?_take,if_pos hjz,List.getElem?_drop] at this
     exact (h4 (off + j) _ q this hq).2
   ·split at h
    ·rename_i l hl
     obtain ⟨hlen,hK⟩:=h
     refine ⟨_,hK,fun F H' m w u hsup hrep hu=>?_⟩
     obtain ⟨b,hb,rfl⟩:=hu
     obtain ⟨cs',h1,hbox⟩:=hrep.box id b hb
     rw [hsup.1.1 id cs hcs] at h1; cases h1
     obtain ⟨arr,e,h2,h3,h4⟩:=hbox.cells hm
     obtain ⟨d,hd,hrow⟩:=aggO_row hag
     obtain ⟨hal1,hal2⟩:=allG_spec hl
     have hlen2 : ((cs.drop off).take z).length = z:=by rw [← hal1]; exact hlen
     have hvl : ((arr.toList.drop off).take z).length = z:=by
      simp only [List.length_take,List.length_drop,Array.length_toList] at hlen2 ⊢
      omega
     have hget : ∀ (j : Nat) v,((arr.toList.drop off).take z)[j]? = some v → j < z ∧ arr[off + j]? = some v:=by
      intro j v hj
      have hjz:=(List.getElem?_eq_some_iff.1 hj).1
      rw [hvl] at hjz
      rw [List.getElem?_take,if_pos hjz,List.getElem?_drop] at hj
      exact ⟨hjz,by simpa using hj⟩
     refine ⟨.agg ((arr.toList.drop off).take z).toArray,run_loadAt_mid w b off t _ d ?_ hd hrow ?_,_,rfl,by rw [List.size_toArray,hvl,hlen],?_⟩
     ·intro j v hj
      obtain ⟨_,hj⟩:=hget j v hj
      simp [World.cell?,h2,hj]
     ·rw [hvl]; exact hsz
     ·intro j y q hy hq
      obtain ⟨hjz,hq⟩:=hget j q (by simpa using hq)
      have hjc : j < ((cs.drop off).take z).length:=by rw [hlen2]; exact hjz
      have hx:=List.getElem?_eq_getElem hjc
      have hx2:=hx
      rw [List.getElem?_take,if_pos hjz,List.getElem?_drop] at hx2
      have hr:=(h4 (off + j) _ q hx2 hq).2
      rcases hal2 j _ y hx hy with ⟨c,h5,rfl⟩ | ⟨id',ver',h5,rfl⟩ | ⟨c,h5,rfl⟩
      ·rw [h5] at hr; exact hr
      ·rw [h5] at hr; exact hr
      ·rw [h5] at hr; exact hr
    ·exact h.elim
  ·exact h.elim
 ·rename_i z xs hag hsz
  obtain ⟨hlen,hK⟩:=h
  refine ⟨_,hK,fun F H' m w u hsup hrep hu=>?_⟩
  obtain ⟨b,off,rfl,hS,hc⟩:=hu
  obtain ⟨d,hd,hrow⟩:=aggO_row hag
  have hzx : z ≤ xs.length:=by simp at hlen; omega
  have hex : ∀ j,∃ q,j < z → ∃ y,xs[j]? = some y ∧ w.cell? ⟨b,off + j,none⟩ = some q ∧ Rd w (F.S m) y q:=by
   intro j
   by_cases hj : j < z
   ·obtain ⟨q,hq,hr⟩:=hc j xs[j] (List.getElem?_eq_getElem (by omega))
    exact ⟨q,fun _=>⟨_,List.getElem?_eq_getElem (by omega),hq,hr⟩⟩
   ·exact ⟨undef,fun h=>absurd h hj⟩
  let f : Nat → Value:=fun j=>(hex j).choose
  have hf : ∀ j,j < z → ∃ y,xs[j]? = some y ∧ w.cell? ⟨b,off + j,none⟩ = some (f j) ∧ Rd w (F.S m) y (f j):=fun j hj=>(hex j).choose_spec hj
  refine ⟨.agg ((List.range z).map f).toArray,run_loadAt_mid w b off t _ d ?_ hd hrow (by simp only [List.length_map,List.length_range]; exact hsz),_,rfl,by simp; omega,?_⟩
  ·intro j v hj
   have hjz:=(List.getElem?_eq_some_iff.1 hj).1
   simp at hjz
   simp [List.getElem?_map,List.getElem?_range hjz] at hj
   subst hj
   obtain ⟨y,_,hq,_⟩:=hf j hjz
   exact hq
  ·intro j y q hy hq
   have hjz:=(List.getElem?_eq_some_iff.1 hq).1
   simp at hjz
   simp [List.getElem?_map,List.getElem?_range hjz] at hq
   subst hq
   rw [List.getElem?_take,if_pos hjz] at hy
   obtain ⟨y',hy',_,hr⟩:=hf j hjz
   rw [hy] at hy'; cases hy'
   exact hr
 ·rename_i z id ver i off hag hsz
  split at h
  ·rename_i B hB
   obtain ⟨hlen,hK⟩:=h
   refine ⟨_,hK,fun F H' m w u hsup hrep hu=>?_⟩
   obtain ⟨hB1,hB2⟩:=curB_spec hB
   rw [← hsup.2] at hB1
   obtain ⟨g,n,cap,rs,xs,_,rfl,hrows,hrl,_,hirs,_,_,_,hcell⟩:=oel_cell hrep hB1 hB2 hu
   obtain ⟨d,hd,hrow⟩:=aggO_row hag
   have hex : ∀ j,∃ q,j < z → ∃ y,(B.con.row i)[off + j]? = some y ∧ w.cell? ⟨g,i * B.z + off + j,none⟩ = some q ∧ Rd w (F.S m) y q:=by
    intro j
    by_cases hj : j < z
    ·have hl : off + j < (B.con.row i).length:=by simp at hlen; omega
     obtain ⟨q,hq,hr⟩:=hcell (off + j) (B.con.row i)[off + j] (List.getElem?_eq_getElem hl)
     exact ⟨q,fun _=>⟨_,List.getElem?_eq_getElem hl,by rw [Nat.add_assoc]; exact hq,hr⟩⟩
    ·exact ⟨undef,fun h=>absurd h hj⟩
   let f : Nat → Value:=fun j=>(hex j).choose
   have hf : ∀ j,j < z → ∃ y,(B.con.row i)[off + j]? = some y ∧ w.cell? ⟨g,i * B.z + off + j,none⟩ = some (f j) ∧ Rd w (F.S m) y (f j):=fun j hj=>(hex j).choose_spec hj
   refine ⟨.agg ((List.range z).map f).toArray,run_loadAt_mid w g (i * B.z + off) t _ d ?_ hd hrow (by simp only [List.length_map,List.length_range]; exact hsz),_,rfl,by rw [hlen]; simp,?_⟩
   ·intro j v hj
    have hjz:=(List.getElem?_eq_some_iff.1 hj).1
    simp at hjz
    simp [List.getElem?_map,List.getElem?_range hjz] at hj
    subst hj
    obtain ⟨y,_,hq,_⟩:=hf j hjz
    exact hq
   ·intro j y q hy hq
    have hjz:=(List.getElem?_eq_some_iff.1 hq).1
    simp at hjz
    simp [List.getElem?_map,List.getElem?_range hjz] at hq
    subst hq
    rw [List.getElem?_take,if_pos hjz,List.getElem?_drop] at hy
    obtain ⟨y',hy',_,hr⟩:=hf j hjz
    rw [hy] at hy'; cases hy'
    exact hr
  ·exact h.elim
 ·exact h.elim

theorem szO_run {t : TypeId} {z : Nat} (h : szO P t = some z) (w : World) : (sizeOf t).run P w = .ok z w:=by
 unfold szO at h
 obtain ⟨i,hi,rfl⟩:=Option.map_eq_some_iff.1 h
 simp [sizeOf,typeInfo,hi]

theorem elO_some {t e : TypeId} (h : elO P t = some e) : P.underlying t = some (.slice e):=by
 unfold elO at h
 split at h
 ·rename_i e' he; cases h; exact he
 ·cases h

theorem addr_add (b off n : Nat) : (⟨b,off,none⟩ : Addr).add n = ⟨b,off + n,none⟩:=by
 unfold Addr.add
 split
 ·rename_i h; simp [h]
 ·rfl

theorem rd_slice {w : World} {S : Nat → Prop} {c : C} {v : Value} {l : Nat} (h : Rd w S c v) (hl : c.len = some l) :
  ∃ p cap,v = .slice p l cap ∧ l ≤ cap ∧ l ≤ maxLen ∧ (p = none → cap = 0) ∧ (l = 0 ∨ ∃ z rs b off,c.rows = some (z,rs) ∧ 0 < z ∧ rs.length = l ∧ p = some ⟨b,off,none⟩ ∧ S b ∧ (∀ r ∈ rs,r.length = z) ∧
   ∀ i j y,at2 rs i j = some y → ∃ q,w.cell? ⟨b,off + (i * z + j),none⟩ = some q ∧ Rd w S y q):=by
 cases h with
 | a x h=>simp [C.len] at hl
 | i k n=>simp [C.len] at hl
 | b x=>simp [C.len] at hl
 | str s=>simp [C.len] at hl
 | ptr xs b off us=>simp [C.len] at hl
 | m=>simp [C.len] at hl
 | e0 a cap=>simp [C.len] at hl; subst hl; exact ⟨some a,cap,rfl,Nat.zero_le _,Nat.zero_le _,fun h=>(by cases h),.inl rfl⟩
 | nil=>simp [C.len] at hl; subst hl; exact ⟨none,0,rfl,Nat.le_refl _,Nat.zero_le _,fun _=>rfl,.inl rfl⟩
 | emp c z p cap h hp =>
  have:=(rows_z h).2
  rw [hl] at this; simp at this; subst this
  exact ⟨p,cap,rfl,Nat.zero_le _,Nat.zero_le _,hp,.inl rfl⟩
 | sl c z rs b off cap us h hne hz hm hcap hr hS hc hd =>
  have:=(rows_z h).2
  rw [hl] at this; simp at this; subst this
  exact ⟨_,cap,rfl,hcap,hm,fun h=>(by cases h),.inr ⟨z,rs,b,off,h,hz,rfl,rfl,hS,hr,fun i j y hy=>⟨us i j,hc i j y hy,hd i j y hy⟩⟩⟩

theorem own_slice {F : Fr} {H : Hp} {m : Mp} {w : World} (h : HRep F H m w) {id ver : Nat} {B : Buf} {u : Value} (hB : look H.buf id = some B) (hv : B.ver = ver) (hu : RepA F H m w (.own id ver) u) :
  ∃ rs xs,m.bf id = some u ∧ B.con.rows = some (B.z,rs) ∧ 0 < B.z ∧ (∀ r ∈ rs,r.length = B.z) ∧ w.ownsR 0 B.e B.z u rs.length xs ∧ RdRow w (F.S m) B.z rs xs:=by
 obtain ⟨_,B',hB',hle,hk⟩:=hu
 rw [hB] at hB'; cases hB'
 have hu:=hk hv
 obtain ⟨B2,rs,xs,h1,h2,h3,h4,h5,h6⟩:=h.buf id _ hu
 rw [hB] at h1; cases h1
 exact ⟨rs,xs,hu,h2,h3,h4,h5,h6⟩

theorem ownsRow_val {w : World} {base : Nat} {e : TypeId} {z n : Nat} {u : Value} {xs : List Value} (h : w.ownsR base e z u n xs) : ∃ p cap,u = .slice p n cap ∧ n ≤ cap ∧ n ≤ maxLen ∧ (n ≠ 0 → ∃ g,p = some ⟨g,0,none⟩ ∧ u.ownBlock = some g):=by
 rcases h.2 with ⟨rfl,rfl⟩ | ⟨g,cap,cur,rfl,_,_,h1,h2,_⟩
 ·exact ⟨none,0,rfl,Nat.le_refl _,Nat.zero_le _,fun h=>absurd rfl h⟩
 ·exact ⟨_,cap,rfl,h1,Nat.le_trans h1 h2,fun _=>⟨g,rfl,rfl⟩⟩

theorem indexAt_run {t e : TypeId} {z : Nat} (he : elO P t = some e) (hz : szO P e = some z) (k : IntKind) (n : Int) (b off l cap : Nat) (h0 : 0 ≤ n) (hn : n < (l : Int)) (w : World) :
  (Instr.indexAt t (.slice (some ⟨b,off,none⟩) l cap) (.int k n)).run P w = .ok (.pointer (some ⟨b,off + n.toNat * z,none⟩)) w:=by
 simp [Instr.indexAt,asIntOf,run_underlying (elO_some he),h0,hn,szO_run hz,addr_add]

theorem arrO_some {t : TypeId} {n : Nat} {e : TypeId} (h : arrO P t = some (n,e)) : P.underlying t = some (.array n e):=by
 unfold arrO at h
 split at h
 ·rename_i hu; cases h; exact hu
 ·cases h
theorem arrAt_run {t e : TypeId} {z l : Nat} (ha : arrO P t = some (l,e)) (hz : szO P e = some z) (k : IntKind) (n : Int) (b off : Nat) (h0 : 0 ≤ n) (hn : n < (l : Int)) (w : World) :
  (Instr.indexAt t (.pointer (some ⟨b,off,none⟩)) (.int k n)).run P w = .ok (.pointer (some ⟨b,off + n.toNat * z,none⟩)) w:=by
 simp [Instr.indexAt,asIntOf,Instr.sureAddr,run_underlying (arrO_some ha),h0,hn,szO_run hz,addr_add]

theorem indexAddrT_sound {H : Hp} {t : TypeId} {x i : AV} {K : AV → Prop} (h : indexAddrT P H t x i K) :
  ∃ r,K r ∧ ∀ (F : Fr) (H' : Hp) (m : Mp) (w : World) (u v : Value),Sup H' H → HRep F H' m w → RepA F H' m w x u → RepA F H' m w i v → Yl P F H' m w (Instr.indexAt t u v) r:=by
 unfold indexAddrT at h
 split at h
 ·rename_i e c k n he
  split at h
  ·rename_i l hl
   obtain ⟨hz,⟨h0,hn⟩,hK⟩:=h
   refine ⟨_,hK,fun F H' m w u v hsup hrep hu hv=>?_⟩
   obtain rfl:=rep_i hv
   obtain ⟨p,cap,rfl,_,_,_,hor⟩:=rd_slice hu hl
   rcases hor with rfl | ⟨z,rs,b,off,hrows,hz0,hlen,rfl,hS,hr,hc⟩
   ·omega
   ·have hzz:=(rows_z hrows).1
    rw [hzz] at hz
    refine ⟨_,indexAt_run he hz k n b off l cap h0 hn w,b,off + n.toNat * z,rfl,fun _=>hS,fun j y hy=>?_⟩
    have hi : n.toNat < rs.length:=by omega
    have hat : at2 rs n.toNat j = some y:=by simp [at2,row_at2 hrows hi,hy]
    obtain ⟨q,hq,hr⟩:=hc _ _ _ hat
    exact ⟨q,by rw [Nat.add_assoc]; exact hq,hr⟩
  ·exact h.elim
 ·rename_i e id ver k n he
  split at h
  ·rename_i B hB
   split at h
   ·rename_i l hl
    obtain ⟨hz,⟨h0,hn⟩,hK⟩:=h
    refine ⟨_,hK,fun F H' m w u v hsup hrep hu hv=>?_⟩
    obtain rfl:=rep_i hv
    obtain ⟨hB1,hB2⟩:=curB_spec hB
    rw [← hsup.2] at hB1
    obtain ⟨rs,xs,hm,hrows,hz0,hr,hown,hrd⟩:=own_slice hrep hB1 hB2 hu
    have hl2:=(rows_z hrows).2
    rw [hl] at hl2; simp at hl2; subst hl2
    obtain ⟨p,cap,rfl,_,_,hp⟩:=ownsRow_val hown
    obtain ⟨g,rfl,_⟩:=hp (by omega)
    refine ⟨_,indexAt_run he hz k n g 0 _ cap h0 hn w,⟨_,_,rfl⟩,B,hB1,by omega,fun _=>⟨g,_,cap,hm,by omega,by simp⟩⟩
   ·exact h.elim
  ·exact h.elim
 ·rename_i e kk lo len k n he
  split at h
  ·rename_i B hB
   obtain ⟨hz,⟨h0,hn⟩,hK⟩:=h
   refine ⟨_,hK,fun F H' m w u v hsup hrep hu hv=>?_⟩
   obtain rfl:=rep_i hv
   rw [← hsup.1.2] at hB
   obtain ⟨_,B2,p,l,cap,hB3,hF,hll,hor⟩:=hu
   rw [hB] at hB3; cases hB3
   obtain ⟨B3,rs,xs,hB4,hrows,hz0,hr,hown,hrd⟩:=hrep.bor kk _ hF
   rw [hB] at hB4; cases hB4
   obtain ⟨p2,cap2,hsv,hcap,_,hp⟩:=ownsRow_val hown
   cases hsv
   obtain ⟨g,rfl,_⟩:=hp (by omega)
   rw [if_neg (by omega)] at hor
   simp only [Option.map_some,addr_add,Nat.zero_add] at hor
   subst hor
   exact ⟨_,indexAt_run he hz k n g (lo * B.con.z) _ _ h0 hn w,B,g,_,cap,hB,hF,by omega,hz0,by simp [Nat.add_mul]⟩
  ·exact h.elim
 ·rename_i e id ver lo len k n he
  split at h
  ·rename_i B hB
   obtain ⟨hz,⟨h0,hn⟩,hK⟩:=h
   refine ⟨_,hK,fun F H' m w u v hsup hrep hu hv=>?_⟩
   obtain rfl:=rep_i hv
   obtain ⟨hB1,hB2⟩:=curB_spec hB
   rw [← hsup.2] at hB1
   obtain ⟨_,B2,hB3,hv2,hcur⟩:=hu
   rw [hB1] at hB3; cases hB3
   obtain ⟨p,l,cap,hm,hll,hor⟩:=hcur hB2
   obtain ⟨B3,rs,xs,hB4,hrows,hz0,hr,hown,hrd⟩:=hrep.buf id _ hm
   rw [hB1] at hB4; cases hB4
   obtain ⟨p2,cap2,hsv,hcap,_,hp⟩:=ownsRow_val hown
   cases hsv
   obtain ⟨g,rfl,_⟩:=hp (by omega)
   rw [if_neg (by omega)] at hor
   simp only [Option.map_some,addr_add,Nat.zero_add] at hor
   subst hor
   exact ⟨_,indexAt_run he hz k n g (lo * B.z) _ _ h0 hn w,⟨_,_,rfl⟩,B,hB1,by omega,fun _=>⟨g,_,cap,hm,by omega,by simp [Nat.add_mul]⟩⟩
  ·exact h.elim
 ·rename_i xs k n he
  split at h
  ·rename_i l e ha
   split at h
   ·rename_i z hz
    obtain ⟨⟨h0,hn⟩,hK⟩:=h
    refine ⟨_,hK,fun F H' m w u v hsup hrep hu hv=>?_⟩
    obtain rfl:=rep_i hv
    obtain ⟨b,off,rfl,hS,hc⟩:=hu
    refine ⟨_,arrAt_run ha hz k n b off h0 hn w,b,_,rfl,fun hne=>hS (fun e=>hne (by subst e; simp)),fun j y hy=>?_⟩
    rw [List.getElem?_drop] at hy
    obtain ⟨q,hq,hr⟩:=hc _ y hy
    exact ⟨q,by rw [Nat.add_assoc]; exact hq,hr⟩
   ·exact h.elim
  ·exact h.elim
 ·rename_i id off k n he
  split at h
  ·rename_i l e ha
   split at h
   ·rename_i z hz
    obtain ⟨⟨h0,hn⟩,hK⟩:=h
    refine ⟨_,hK,fun F H' m w u v hsup hrep hu hv=>?_⟩
    obtain rfl:=rep_i hv
    obtain ⟨b,hb,rfl⟩:=hu
    exact ⟨_,arrAt_run ha hz k n b off h0 hn w,b,hb,rfl⟩
   ·exact h.elim
  ·exact h.elim
 ·exact h.elim

theorem fldO_some {t : TypeId} {f o : Nat} {ft : TypeId} (h : fldO P t f = some (o,ft)) : ∃ fs x,P.underlying t = some (.struct fs) ∧ fs[f]? = some x ∧ x.offset = o ∧ x.type = ft:=by
 unfold fldO at h
 split at h
 ·rename_i fs hu
  obtain ⟨x,hx,he⟩:=Option.map_eq_some_iff.1 h
  cases he
  exact ⟨fs,x,hu,hx,rfl,rfl⟩
 ·cases h

theorem indexQ_sound {t : TypeId} {x i : AV} {K : AV → Prop} (h : indexQ P t x i K) :
  ∃ r,K r ∧ ∀ (F : Fr) (H : Hp) (m : Mp) (w : World) (u v : Value),RepA F H m w x u → RepA F H m w i v → Yl P F H m w (Instr.indexAt t u v) r:=by
 unfold indexQ at h
 split at h
 ·rename_i e g o l cap k n he
  split at h
  ·rename_i z hz
   obtain ⟨⟨h0,hn⟩,hK⟩:=h
   refine ⟨_,hK,fun F H m w u v hu hv=>?_⟩
   obtain rfl:=rep_i hv
   obtain rfl:=rd_a hu
   exact ⟨_,indexAt_run he hz k n g o l cap h0 hn w,.a _ rfl⟩
  ·exact h.elim
 ·exact h.elim
theorem fieldAddrT_sound {s : TypeId} {x : AV} {f : Nat} {K : AV → Prop} (h : fieldAddrT P s x f K) :
  ∃ r,K r ∧ ∀ (F : Fr) (H : Hp) (m : Mp) (w : World) (u : Value),RepA F H m w x u → Yl P F H m w (Instr.fieldAt s u f) r:=by
 unfold fieldAddrT at h
 split at h
 ·rename_i o ft hf
  obtain ⟨fs,x',hu,hx',rfl,rfl⟩:=fldO_some hf
  split at h
  ·rename_i z hz
   have hrun : ∀ (w : World) (b off : Nat),(Instr.fieldAt s (.pointer (some ⟨b,off,none⟩)) f).run P w = .ok (.pointer (some ⟨b,off + x'.offset,none⟩)) w:=fun w b off=>by
    simp [Instr.fieldAt,run_underlying hu,hx',Instr.sureAddr,fieldPlace,szO_run hz,addr_add]
   split at h
   ·refine ⟨_,h,fun F H m w u hu=>?_⟩
    obtain ⟨b,hb,rfl⟩:=hu
    exact ⟨_,hrun w b _,b,hb,rfl⟩
   ·rename_i id ver i off
    refine ⟨_,h,fun F H m w u hu=>?_⟩
    obtain ⟨⟨b0,o0,rfl⟩,B,hB,hle,hk⟩:=hu
    refine ⟨_,hrun w b0 o0,⟨b0,_,rfl⟩,B,hB,hle,fun hv=>?_⟩
    obtain ⟨g,n,cap,hg,hi,he⟩:=hk hv
    simp only [Value.pointer.injEq,Option.some.injEq,Addr.mk.injEq,and_true] at he
    obtain ⟨e1,e2⟩:=he
    exact ⟨g,n,cap,hg,hi,by rw [e1,e2,Nat.add_assoc]⟩
   ·refine ⟨_,h,fun F H m w u hu=>?_⟩
    obtain ⟨b,off,rfl,hS,hc⟩:=hu
    refine ⟨_,hrun w b off,b,_,rfl,fun hne=>hS (fun e=>hne (by subst e; simp)),fun j y hy=>?_⟩
    rw [List.getElem?_drop] at hy
    obtain ⟨q,hq,hr⟩:=hc _ y hy
    exact ⟨q,by rw [Nat.add_assoc]; exact hq,hr⟩
   ·refine ⟨_,h,fun F H m w u hu=>?_⟩
    obtain ⟨b,off,us,rfl,hS,hb,hc,hd⟩:=rd_ptr hu
    refine ⟨_,hrun w b off,b,_,rfl,fun _=>hS,fun j y hy=>?_⟩
    rw [List.getElem?_drop] at hy
    exact ⟨_,by rw [Nat.add_assoc]; exact hc _ y hy,hd _ y hy⟩
   ·refine ⟨_,h,fun F H m w u hu=>?_⟩
    obtain rfl:=rd_a hu
    exact ⟨_,hrun w _ _,.a _ rfl⟩
   ·exact h.elim
  ·exact h.elim
 ·exact h.elim

theorem fieldT_sound {s : TypeId} {x : AV} {f : Nat} {K : AV → Prop} (h : fieldT P s x f K) :
  ∃ r,K r ∧ ∀ (F : Fr) (H : Hp) (m : Mp) (w : World) (u : Value),RepA F H m w x u → Yl P F H m w (Instr.field s u f) r:=by
 unfold fieldT at h
 split at h
 ·rename_i o ft xs hf
  obtain ⟨fs,x',hu,hx',rfl,rfl⟩:=fldO_some hf
  split at h
  ·rename_i hag
   split at h
   ·rename_i y hy
    refine ⟨_,h,fun F H m w u hrep=>?_⟩
    obtain ⟨vs,rfl,hl,hc⟩:=hrep
    have hlt:=(List.getElem?_eq_some_iff.1 hy).1
    obtain ⟨q,hv⟩ : ∃ q,vs[x'.offset]? = some q:=⟨_,Array.getElem?_eq_getElem (by simp at hl; omega)⟩
    refine ⟨q,?_,hc x'.offset y q hy (by simpa using hv)⟩
    simp [Instr.field,run_underlying hu,hx',asAgg,part,aggO_run hag,hv]
   ·exact h.elim
  ·rename_i z hag hsz
   refine ⟨_,h,fun F H m w u hrep=>?_⟩
   obtain ⟨vs,rfl,hl,hc⟩:=hrep
   refine ⟨.agg (vs.extract x'.offset (x'.offset + z)),?_,_,rfl,?_,fun j y q hy hq=>?_⟩
   ·simp [Instr.field,run_underlying hu,hx',asAgg,part,aggO_run hag,szO_run hsz]
   ·simp at hl ⊢
    omega
   ·simp only [Array.toList_extract,List.extract] at hq
    have e1 : x'.offset + z - x'.offset = z:=by omega
    rw [e1] at hq
    have hjz : j < z:=by have:=(List.getElem?_eq_some_iff.1 hy).1; simp at this; omega
    rw [List.getElem?_take,if_pos hjz,List.getElem?_drop] at hy hq
    exact hc _ y q hy hq
  ·exact h.elim
 ·exact h.elim

theorem teAV_rep {F : Fr} {H : Hp} {m : Mp} {w : World} {x : TE} {v : Value} (h : RepT F H m w x v) : RepA F H m w (teAV x) v:=by
 cases x with
 | s x=>cases x <;> exact h
 | _=>exact h
theorem extractT_sound {x : AV} {i : Nat} {K : AV → Prop} (h : extractT x i K) :
  ∃ r,K r ∧ ∀ (F : Fr) (H : Hp) (m : Mp) (w : World) (u : Value),RepA F H m w x u → Yl P F H m w (Instr.extract u i) r:=by
 unfold extractT at h
 split at h
 ·rename_i vs
  split at h
  ·rename_i y hy
   refine ⟨_,h,fun F H m w u hrep=>?_⟩
   obtain ⟨us,rfl,hl,hc⟩:=hrep
   have hlt:=(List.getElem?_eq_some_iff.1 hy).1
   obtain ⟨q,hv⟩ : ∃ q,us[i]? = some q:=⟨_,Array.getElem?_eq_getElem (by omega)⟩
   have hr:=hc i y q hy hv
   refine ⟨q,by simp [Instr.extract,hv],?_⟩
   cases y with
   | inl y=>exact hr
   | inr ys=>exact hr
  ·exact h.elim
 ·rename_i vs
  split at h
  ·rename_i y hy
   refine ⟨_,h,fun F H m w u hrep=>?_⟩
   obtain ⟨us,rfl,hl,hc⟩:=hrep
   have hlt:=(List.getElem?_eq_some_iff.1 hy).1
   obtain ⟨q,hv⟩ : ∃ q,us[i]? = some q:=⟨_,Array.getElem?_eq_getElem (by omega)⟩
   exact ⟨q,by simp [Instr.extract,hv],teAV_rep (hc i y q hy hv)⟩
  ·exact h.elim
 ·exact h.elim

def indexT (P : Program) (t : TypeId) (x i : AV) (K : AV → Prop) : Prop:=match x,i with
 | .c (.str s),.c (.i _ n)=>P.underlying t = some .string ∧ (0 ≤ n ∧ n < (s.size : Int)) ∧ K (.c (.i .u8 (s.data.toList.getD n.toNat 0).toNat))
 | _,_=>False

theorem indexT_sound {t : TypeId} {x i : AV} {K : AV → Prop} (h : indexT P t x i K) :
  ∃ r,K r ∧ ∀ (F : Fr) (H : Hp) (m : Mp) (w : World) (u v : Value),RepA F H m w x u → RepA F H m w i v → Yl P F H m w (Instr.index t u v) r:=by
 unfold indexT at h
 split at h
 ·rename_i s k n
  obtain ⟨hu,⟨h0,h1⟩,hK⟩:=h
  refine ⟨_,hK,fun F H m w u v hx hi=>?_⟩
  have hi:=rep_i hi
  have hx:=rd_str hx
  subst hi; subst hx
  have hlt : n.toNat < s.size:=by omega
  refine ⟨_,?_,rep_int ..⟩
  have hg : s[n.toNat]? = some s[n.toNat]:=getElem?_pos s n.toNat hlt
  have hd : s.data.toList.getD n.toNat 0 = s[n.toNat]:=by
   have hlt2 : n.toNat < s.data.toList.length:=by simpa using hlt
   rw [List.getD_eq_getElem?_getD,List.getElem?_eq_getElem hlt2]
   rfl
  rw [hd]
  simp [Instr.index,asIntOf,run_underlying hu,h0,hg]
 ·exact h.elim

theorem lenT_sound {H : Hp} {t : TypeId} (ht : (elO P t).isSome = true ∨ P.underlying t = some .string) {x : AV} {K : AV → Prop} (h : lenT H x K) :
  ∃ r,K r ∧ ∀ (F : Fr) (H' : Hp) (m : Mp) (w : World) (u : Value) (ty : TypeId),Sup H' H → HRep F H' m w → RepA F H' m w x u →
   (P.underlying t = some .string → ∃ s,x = .c (.str s)) → ((elO P t).isSome = true → ∀ s,x ≠ .c (.str s)) → Yl P F H' m w (Builtin.len_ #[t] ty #[u]) r:=by
 unfold lenT at h
 split at h
 ·rename_i s
  refine ⟨_,h,fun F H' m w u ty hsup hrep hu h1 h2=>?_⟩
  obtain rfl:=rd_str hu
  have ht : P.underlying t = some .string:=by
   rcases ht with ht | ht
   ·exact absurd rfl (h2 ht s)
   ·exact ht
  exact ⟨_,by simp [Builtin.len_,run_underlying ht,goInt],rep_int ..⟩
 ·rename_i p n cap
  refine ⟨_,h,fun F H' m w u ty hsup hrep hu h1 h2=>?_⟩
  obtain rfl : u = .slice p n cap:=by
   have h0 : Rd w (F.S m) (.a (.slice p n cap)) u:=hu
   cases h0 with
   | a x h=>rfl
   | emp c z p' cap' hr=>simp [C.rows] at hr
   | sl c z rs b off cap' us hr=>simp [C.rows] at hr
  rcases ht with ht | ht
  ·obtain ⟨e,he⟩:=Option.isSome_iff_exists.1 ht
   exact ⟨_,by simp [Builtin.len_,run_underlying (elO_some he),goInt],rep_int ..⟩
  ·obtain ⟨s,hs⟩:=h1 ht
   cases hs
 ·rename_i c hns _
  split at h
  ·rename_i l hl
   refine ⟨_,h,fun F H' m w u ty hsup hrep hu h1 h2=>?_⟩
   obtain ⟨p,cap,rfl,_⟩:=rd_slice hu hl
   rcases ht with ht | ht
   ·obtain ⟨e,he⟩:=Option.isSome_iff_exists.1 ht
    exact ⟨_,by simp [Builtin.len_,run_underlying (elO_some he),goInt],rep_int ..⟩
   ·obtain ⟨s,hs⟩:=h1 ht
    cases hs
    exact absurd rfl (hns s)
  ·exact h.elim
 ·rename_i id ver
  split at h
  ·rename_i B hB
   split at h
   ·rename_i l hl
    refine ⟨_,h,fun F H' m w u ty hsup hrep hu h1 h2=>?_⟩
    obtain ⟨hB1,hB2⟩:=curB_spec hB
    rw [← hsup.2] at hB1
    obtain ⟨rs,xs,hm,hrows,hz0,hr,hown,hrd⟩:=own_slice hrep hB1 hB2 hu
    have hl2:=(rows_z hrows).2
    rw [hl] at hl2; simp at hl2; subst hl2
    obtain ⟨p,cap,rfl,_⟩:=ownsRow_val hown
    rcases ht with ht | ht
    ·obtain ⟨e,he⟩:=Option.isSome_iff_exists.1 ht
     exact ⟨_,by simp [Builtin.len_,run_underlying (elO_some he),goInt],rep_int ..⟩
    ·obtain ⟨s,hs⟩:=h1 ht
     cases hs
   ·exact h.elim
  ·exact h.elim
 ·rename_i id ver lo len
  split at h
  ·rename_i B hB
   refine ⟨_,h,fun F H' m w u ty hsup hrep hu h1 h2=>?_⟩
   obtain ⟨hB1,hB2⟩:=curB_spec hB
   rw [← hsup.2] at hB1
   obtain ⟨_,B2,hB3,hv2,hcur⟩:=hu
   rw [hB1] at hB3; cases hB3
   obtain ⟨p,l,cap,hm,hll,hor⟩:=hcur hB2
   subst hor
   rcases ht with ht | ht
   ·obtain ⟨e,he⟩:=Option.isSome_iff_exists.1 ht
    exact ⟨_,by simp [Builtin.len_,run_underlying (elO_some he),goInt],rep_int ..⟩
   ·obtain ⟨s,hs⟩:=h1 ht
    cases hs
  ·exact h.elim
 ·rename_i k lo len
  refine ⟨_,h,fun F H' m w u ty hsup hrep hu h1 h2=>?_⟩
  obtain ⟨_,B2,p,l,cap,hB3,hF,hll,hor⟩:=hu
  subst hor
  rcases ht with ht | ht
  ·obtain ⟨e,he⟩:=Option.isSome_iff_exists.1 ht
   exact ⟨_,by simp [Builtin.len_,run_underlying (elO_some he),goInt],rep_int ..⟩
  ·obtain ⟨s,hs⟩:=h1 ht
   cases hs
 ·rename_i c
  split at h
  ·rename_i l hl
   refine ⟨_,h,fun F H' m w u ty hsup hrep hu h1 h2=>?_⟩
   obtain ⟨T,_,hu⟩:=hu
   obtain ⟨p,cap,rfl,_⟩:=rd_slice hu hl
   rcases ht with ht | ht
   ·obtain ⟨e,he⟩:=Option.isSome_iff_exists.1 ht
    exact ⟨_,by simp [Builtin.len_,run_underlying (elO_some he),goInt],rep_int ..⟩
   ·obtain ⟨s,hs⟩:=h1 ht
    cases hs
  ·exact h.elim
 ·exact h.elim

end Go.Abs

namespace Go.Abs
set_option linter.unusedSimpArgs false
set_option linter.unusedVariables false
open Go.RowKit

variable {P : Program}

theorem rows_sub {c : C} {z : Nat} {rs : List (List C)} (h : c.rows = some (z,rs)) (a b : Nat) : (c.sub a b).rows = some (z,(rs.take b).drop a):=by
 cases c <;> simp [C.rows] at h
 ·obtain ⟨rfl,rfl⟩:=h; simp [C.rows,C.sub,List.map_drop,List.map_take]
 ·obtain ⟨rfl,rfl⟩:=h; simp [C.rows,C.sub,List.map_drop,List.map_take]
 ·obtain ⟨rfl,rfl⟩:=h; simp [C.rows,C.sub]

theorem at2_sub {rs : List (List C)} {a b i j : Nat} {y : C} (h : at2 ((rs.take b).drop a) i j = some y) : at2 rs (a + i) j = some y:=by
 unfold at2 at *
 rw [List.getElem?_drop] at h
 cases hx : (rs.take b)[a + i]? with
 | none=>simp [hx] at h
 | some r =>
  rw [hx] at h
  have hlt:=(List.getElem?_eq_some_iff.1 hx).1
  simp at hlt
  rw [List.getElem?_take,if_pos (by omega)] at hx
  rw [hx]; exact h

theorem rd_sub {w : World} {S : Nat → Prop} {c : C} {p : Option Addr} {l cap z a b : Nat} (h : Rd w S c (.slice p l cap)) (hl : c.len = some l) (hz : c.z = z) (hab : a ≤ b) (hbl : b ≤ l) (hcap : l ≤ cap) :
  Rd w S (c.sub a b) (.slice (if cap = a then p else p.map (·.add (a * z))) (b - a) (cap - a)):=by
 obtain ⟨p',cap',he,_,hmax,hpn,hor⟩:=rd_slice h hl
 cases he
 by_cases hn : c = .nil
 ·subst hn
  have:=rd_nil h
  cases this
  have h1 : a = 0:=by omega
  have h2 : b = 0:=by omega
  subst h1; subst h2
  exact .nil
 by_cases hn0 : c = .e0
 ·subst hn0
  simp [C.len] at hl
  subst hl
  have h1 : a = 0:=by omega
  have h2 : b = 0:=by omega
  subst h1; subst h2
  obtain ⟨a',cap',he⟩:=rd_e0 h
  cases he
  simp only [Nat.zero_mul,Nat.sub_zero]
  split <;> exact .e0 _ _
 ·have hrows : ∃ z' rs,c.rows = some (z',rs):=by
   cases c <;> simp_all [C.len,C.rows]
  obtain ⟨z',rs,hrows⟩:=hrows
  obtain ⟨hz',hlen⟩:=rows_z hrows
  rw [hz] at hz'; subst hz'
  rw [hl] at hlen; simp at hlen; subst hlen
  have hsub:=rows_sub hrows a b
  have hslen : ((rs.take b).drop a).length = b - a:=by simp; omega
  by_cases hba : b - a = 0
  ·have : (rs.take b).drop a = []:=List.eq_nil_of_length_eq_zero (by omega)
   rw [this] at hsub
   rw [hba]
   exact .emp _ _ _ _ hsub (fun hp=>by split at hp <;> simp_all)
  ·rcases hor with h0 | ⟨z',rs',b',off,hrows',hz0,hlen',rfl,hS,hr,hc⟩
   ·omega
   ·rw [hrows] at hrows'; cases hrows'
    rw [if_neg (by omega)]
    simp only [Option.map_some,addr_add]
    rw [← hslen]
    have hex : ∀ i j,∃ q,∀ y,at2 ((rs.take b).drop a) i j = some y → w.cell? ⟨b',off + a * z + (i * z + j),none⟩ = some q ∧ Rd w S y q:=by
     intro i j
     cases hat : at2 ((rs.take b).drop a) i j with
     | none=>exact ⟨undef,fun y hy=>by cases hy⟩
     | some y =>
      obtain ⟨q,hq,hrd⟩:=hc _ _ _ (at2_sub hat)
      refine ⟨q,fun y' hy'=>?_⟩
      cases hy'
      refine ⟨?_,hrd⟩
      rw [← hq]
      congr 2
      rw [Nat.add_mul]; omega
    refine .sl _ z _ b' (off + a * z) _ (fun i j=>(hex i j).choose) hsub (fun e=>by rw [e] at hslen; simp at hslen; omega) hz0 (by omega) (by omega) ?_ hS (fun i j y hy=>((hex i j).choose_spec y hy).1) (fun i j y hy=>((hex i j).choose_spec y hy).2)
    intro r hrm
    exact hr r (List.mem_of_mem_take (List.mem_of_mem_drop hrm))

theorem sliceBound_run (k : IntKind) (a y : Nat) (code : BoundsCode) (h : a ≤ y) (w : World) : (Instr.sliceBound (.int k (a : Int)) y code).run P w = .ok a w:=by
 have : (0 : Int) ≤ (a : Int) ∧ (a : Int) ≤ (y : Int):=by omega
 simp only [Instr.sliceBound,asIntOf,Sem.run_bind,Sem.run_pure,Result.andThen_ok,this,and_self,if_true]
 simp

theorem slice_run {t e : TypeId} {z : Nat} (he : elO P t = some e) (hz : szO P e = some z) (p : Option Addr) (l cap a b : Nat) (hab : a ≤ b) (hbl : b ≤ l) (hcap : l ≤ cap) (w : World)
  (lo hi : Option Value) (hlo : lo = none ∧ a = 0 ∨ ∃ k,lo = some (.int k (a : Int))) (hhi : hi = none ∧ b = l ∨ ∃ k,hi = some (.int k (b : Int))) :
  (Instr.sliceAt t (.slice p l cap) lo hi none).run P w = .ok (.slice (if cap = a then p else p.map (·.add (a * z))) (b - a) (cap - a)) w:=by
 have h1 : (Instr.sliceBounds true l cap lo hi none).run P w = .ok (a,b,cap) w:=by
  have hb:=fun (k : IntKind) (code : BoundsCode)=>sliceBound_run (P:=P) k b cap code (Nat.le_trans hbl hcap) w
  have ha:=fun (k : IntKind) (code : BoundsCode)=>sliceBound_run (P:=P) k a b code hab w
  rcases hlo with ⟨rfl,rfl⟩ | ⟨k,rfl⟩ <;> rcases hhi with ⟨rfl,rfl⟩ | ⟨k',rfl⟩ <;> simp [Instr.sliceBounds,ha,hb]
 simp [Instr.sliceAt,Instr.slice,run_underlying (elO_some he),h1,szO_run hz]

theorem sliceT_sound {t : TypeId} {x : AV} {lo hi : Option AV} {K : AV → Prop} (h : sliceT P t x lo hi K) :
  ∃ r,K r ∧ ∀ (F : Fr) (H : Hp) (m : Mp) (w : World) (u : Value) (ul uh : Option Value),RepA F H m w x u →
   (∀ y,lo = some y → ∃ v,ul = some v ∧ RepA F H m w y v) → (lo = none → ul = none) → (∀ y,hi = some y → ∃ v,uh = some v ∧ RepA F H m w y v) → (hi = none → uh = none) →
   Yl P F H m w (Instr.sliceAt t u ul uh none) r:=by
 unfold sliceT at h
 split at h
 ·rename_i e c he
  split at h
  ·rename_i l hl
   have key : ∀ a b : Nat,a ≤ b → b ≤ l → szO P e = some c.z → ∀ (F : Fr) (H : Hp) (m : Mp) (w : World) (u : Value) (ul uh : Option Value),RepA F H m w (.c c) u →
     (ul = none ∧ a = 0 ∨ ∃ k,ul = some (.int k (a : Int))) → (uh = none ∧ b = l ∨ ∃ k,uh = some (.int k (b : Int))) → Yl P F H m w (Instr.sliceAt t u ul uh none) (.c (c.sub a b)):=by
    intro a b hab hbl hz F H m w u ul uh hu h1 h2
    obtain ⟨p,cap,rfl,hcap,_,_,_⟩:=rd_slice hu hl
    exact ⟨_,slice_run he hz p l cap a b hab hbl hcap w ul uh h1 h2,rd_sub hu hl rfl hab hbl hcap⟩
   split at h
   ·obtain ⟨hz,hK⟩:=h
    refine ⟨_,hK,fun F H m w u ul uh hu h2 h3 h4 h5=>?_⟩
    exact key 0 l (by omega) (Nat.le_refl _) hz F H m w u _ _ hu (.inl ⟨h3 rfl,rfl⟩) (.inl ⟨h5 rfl,rfl⟩)
   ·rename_i k a
    obtain ⟨hz,⟨h0,h1⟩,hK⟩:=h
    refine ⟨_,hK,fun F H m w u ul uh hu h2 h3 h4 h5=>?_⟩
    obtain ⟨v,rfl,hv⟩:=h2 _ rfl
    obtain rfl:=rep_i hv
    exact key a.toNat l (by omega) (Nat.le_refl _) hz F H m w u _ _ hu (.inr ⟨k,by congr 2; omega⟩) (.inl ⟨h5 rfl,rfl⟩)
   ·rename_i k b
    obtain ⟨hz,⟨h0,h1⟩,hK⟩:=h
    refine ⟨_,hK,fun F H m w u ul uh hu h2 h3 h4 h5=>?_⟩
    obtain ⟨v,rfl,hv⟩:=h4 _ rfl
    obtain rfl:=rep_i hv
    exact key 0 b.toNat (by omega) (by omega) hz F H m w u _ _ hu (.inl ⟨h3 rfl,rfl⟩) (.inr ⟨k,by congr 2; omega⟩)
   ·rename_i k a k' b
    obtain ⟨hz,⟨h0,h1,h2'⟩,hK⟩:=h
    refine ⟨_,hK,fun F H m w u ul uh hu h2 h3 h4 h5=>?_⟩
    obtain ⟨v,rfl,hv⟩:=h2 _ rfl
    obtain rfl:=rep_i hv
    obtain ⟨v,rfl,hv⟩:=h4 _ rfl
    obtain rfl:=rep_i hv
    exact key a.toNat b.toNat (by omega) (by omega) hz F H m w u _ _ hu (.inr ⟨k,by congr 2; omega⟩) (.inr ⟨k',by congr 2; omega⟩)
   ·exact h.elim
  ·exact h.elim
 ·exact h.elim

theorem splice_foldl (off : Nat) : ∀ (l : List Value) (n : Nat) (cells : Array Value),off + n + l.length ≤ cells.size →
  (l.zipIdx n).foldl (fun cs p=>cs.setIfInBounds (off + p.2) p.1) cells = (cells.toList.take (off + n) ++ l ++ cells.toList.drop (off + n + l.length)).toArray
 | [],n,cells,h=>by simp
 | c :: l,n,cells,h=>by
  simp only [List.zipIdx_cons,List.foldl_cons]
  have hl : off + (n + 1) + l.length ≤ (cells.setIfInBounds (off + n) c).size:=by simp at h ⊢; omega
  rw [splice_foldl off l (n + 1) _ hl]
  congr 1
  simp only [Array.toList_setIfInBounds,List.length_cons]
  simp only [List.length_cons] at h
  apply List.ext_getElem?
  intro j
  simp only [List.append_assoc,List.getElem?_append,List.length_take,List.length_set,Array.length_toList,List.getElem?_take,List.getElem?_drop,List.getElem?_set,List.length_cons,List.getElem?_cons]
  repeat' split
  all_goals first | omega | rfl | (congr 1; omega)

theorem RdL.get {w : World} {S : Nat → Prop} {xs : List C} {vs : List Value} (h : RdL w S xs vs) {j : Nat} {y : C} (hy : xs[j]? = some y) : ∃ u,vs[j]? = some u ∧ Rd w S y u:=by
 have hlt:=(List.getElem?_eq_some_iff.1 hy).1
 have hv : vs[j]? = some (vs[j]'(by rw [h.1]; exact hlt)):=List.getElem?_eq_getElem _
 exact ⟨_,hv,h.2 j y _ hy hv⟩

theorem RdL.append {w : World} {S : Nat → Prop} {xs ys : List C} {us vs : List Value} (h : RdL w S xs us) (k : RdL w S ys vs) : RdL w S (xs ++ ys) (us ++ vs):=by
 refine ⟨by simp [h.1,k.1],fun j y u hy hu=>?_⟩
 by_cases hj : j < xs.length
 ·rw [List.getElem?_append_left hj] at hy
  rw [List.getElem?_append_left (by rw [h.1]; exact hj)] at hu
  exact h.2 j y u hy hu
 ·rw [List.getElem?_append_right (by omega)] at hy
  rw [List.getElem?_append_right (by rw [h.1]; omega),h.1] at hu
  exact k.2 _ y u hy hu

theorem RdL.take {w : World} {S : Nat → Prop} {xs : List C} {us : List Value} (h : RdL w S xs us) (n : Nat) : RdL w S (xs.take n) (us.take n):=by
 refine ⟨by simp [h.1],fun j y u hy hu=>?_⟩
 have hj : j < n:=by have:=(List.getElem?_eq_some_iff.1 hy).1; simp at this; omega
 rw [List.getElem?_take,if_pos hj] at hy hu
 exact h.2 j y u hy hu

theorem RdL.drop {w : World} {S : Nat → Prop} {xs : List C} {us : List Value} (h : RdL w S xs us) (n : Nat) : RdL w S (xs.drop n) (us.drop n):=by
 refine ⟨by simp [h.1],fun j y u hy hu=>?_⟩
 rw [List.getElem?_drop] at hy hu
 exact h.2 _ y u hy hu

theorem RdL.ofC {w : World} {S : Nat → Prop} {us : List Value} (h : us.all oneCell = true) : RdL w S (us.map ofC) us:=by
 refine ⟨by simp,fun j y u hy hu=>?_⟩
 simp [hu] at hy
 subst hy
 exact rd_ofC w S u (by have:=List.all_eq_true.1 h u (List.mem_of_getElem? hu); exact this)

theorem cellsOf_rep {F : Fr} {H : Hp} {m : Mp} {w : World} {x : AV} {ys : List C} {v : Value} (h : cellsOf x = some ys) (hr : RepA F H m w x v) : RdL w (F.S m) ys v.cells.toList:=by
 cases x <;> simp [cellsOf] at h
 ·subst h
  have h1 : v.cells = #[v]:=by
   have:=Rd.one hr
   cases v <;> simp_all [Value.cells,Value.oneCell']
  rw [h1]
  refine ⟨rfl,fun j y u hy hu=>?_⟩
  match j with
  | 0=>simp at hy hu; subst hy; subst hu; exact hr
  | j + 1=>simp at hy
 ·subst h
  obtain ⟨vs,rfl,hl⟩:=hr
  exact hl

theorem fill_sound {F : Fr} {H : Hp} {m : Mp} {w : World} {pl : List (Nat × Nat)} {place : Nat → Option (Nat × Nat)} (hpl : ∀ (f : Nat) p,pl[f]? = some p → place f = some p) :
  ∀ (ps : List (Nat × AV)) (vs : List (Nat × Value)) (cs cs' : List C) (cells : Array Value),vs.map (·.1) = ps.map (·.1) → (∀ (j : Nat) x v,ps[j]? = some x → vs[j]? = some v → RepA F H m w x.2 v.2) →
   RdL w (F.S m) cs cells.toList → fillC pl ps cs = some cs' → ∃ cells',Instr.fill place cells vs = some cells' ∧ RdL w (F.S m) cs' cells'.toList
 | [],vs,cs,cs',cells,hi,hr,hl,h=>by
  simp [fillC] at h; subst h
  cases vs with
  | nil=>exact ⟨cells,rfl,hl⟩
  | cons v vs=>simp at hi
 | (f,x) :: ps,[],cs,cs',cells,hi,hr,hl,h=>by simp at hi
 | (f,x) :: ps,(f',v) :: vs,cs,cs',cells,hi,hr,hl,h=>by
  simp only [List.map_cons,List.cons.injEq] at hi
  obtain ⟨rfl,hi⟩:=hi
  simp only [fillC] at h
  split at h
  ·rename_i o z ys hp hys
   split at h
   ·rename_i hc
    have hcells:=cellsOf_rep hys (hr 0 _ _ rfl rfl)
    simp only at hcells
    have hsz : v.cells.size = z:=by have:=hcells.1; simp at this; omega
    have hle : o + v.cells.size ≤ cells.size:=by have:=hl.1; simp at this; omega
    have hstep : v.cells.zipIdx.foldl (fun cs (c,j)=>cs.setIfInBounds (o + j) c) cells = (cells.toList.take o ++ v.cells.toList ++ cells.toList.drop (o + z)).toArray:=by
     have:=splice_foldl o v.cells.toList 0 cells (by simp; omega)
     simp only [Nat.add_zero,Array.length_toList,hsz] at this
     rw [← this,← Array.foldl_toList,Array.toList_zipIdx]
    have hnext : RdL w (F.S m) (cs.take o ++ ys ++ cs.drop (o + z)) (cells.toList.take o ++ v.cells.toList ++ cells.toList.drop (o + z)):=((hl.take o).append hcells).append (hl.drop (o + z))
    obtain ⟨cells',h1,h2⟩:=fill_sound hpl ps vs _ cs' (cells.toList.take o ++ v.cells.toList ++ cells.toList.drop (o + z)).toArray hi (fun j x v hx hv=>hr (j + 1) x v (by simpa using hx) (by simpa using hv)) (by simpa using hnext) h
    refine ⟨cells',?_,h2⟩
    have hne : (v.cells.size ≠ z || decide (o + v.cells.size > cells.size)) = false:=by simp [hsz]; omega
    simp only [Instr.fill,hpl f' _ hp,hne,hstep]
    simpa using h1
   ·cases h
  ·cases h

def RepTL (F : Fr) (H : Hp) (m : Mp) (w : World) (ts : List TE) (vs : List Value) : Prop :=
 vs.length = ts.length ∧ ∀ (j : Nat) y u,ts[j]? = some y → vs[j]? = some u → oneCell u = true ∧ RepT F H m w y u
section
variable {F : Fr} {H : Hp} {m : Mp} {w : World} {xs ys : List TE} {us vs : List Value}
theorem RepTL.append (h : RepTL F H m w xs us) (k : RepTL F H m w ys vs) : RepTL F H m w (xs ++ ys) (us ++ vs):=by
 refine ⟨by simp [h.1,k.1],fun j y u hy hu=>?_⟩
 by_cases hj : j < xs.length
 ·rw [List.getElem?_append_left hj] at hy
  rw [List.getElem?_append_left (by rw [h.1]; exact hj)] at hu
  exact h.2 j y u hy hu
 ·rw [List.getElem?_append_right (by omega)] at hy
  rw [List.getElem?_append_right (by rw [h.1]; omega),h.1] at hu
  exact k.2 _ y u hy hu
theorem RepTL.take (h : RepTL F H m w xs us) (n : Nat) : RepTL F H m w (xs.take n) (us.take n):=by
 refine ⟨by simp [h.1],fun j y u hy hu=>?_⟩
 have hj : j < n:=by have:=(List.getElem?_eq_some_iff.1 hy).1; simp at this; omega
 rw [List.getElem?_take,if_pos hj] at hy hu
 exact h.2 j y u hy hu
theorem RepTL.drop (h : RepTL F H m w xs us) (n : Nat) : RepTL F H m w (xs.drop n) (us.drop n):=by
 refine ⟨by simp [h.1],fun j y u hy hu=>?_⟩
 rw [List.getElem?_drop] at hy hu
 exact h.2 _ y u hy hu
end
theorem tesOf_rep {F : Fr} {H : Hp} {m : Mp} {w : World} {x : AV} {ys : List TE} {v : Value} (h : tesOf x = some ys) (hr : RepA F H m w x v) : RepTL F H m w ys v.cells.toList:=by
 have one : ∀ {y : TE},oneCell v = true → RepT F H m w y v → RepTL F H m w [y] v.cells.toList:=by
  intro y h1 h2
  have hc : v.cells = #[v]:=by cases v <;> simp_all [Value.cells,Value.oneCell']
  rw [hc]
  refine ⟨rfl,fun j y' u hy hu=>?_⟩
  match j with
  | 0=>simp at hy hu; subst hy; subst hu; exact ⟨h1,h2⟩
  | j + 1=>simp at hy
 cases x <;> simp [tesOf] at h
 ·subst h; exact one (Rd.one hr) hr
 ·subst h
  obtain ⟨vs,rfl,hl⟩:=hr
  refine ⟨by have:=hl.1; simpa [Value.cells] using this,fun j y u hy hu=>?_⟩
  simp only [List.getElem?_map,Option.map_eq_some_iff] at hy
  obtain ⟨c,hc,rfl⟩:=hy
  have:=hl.2 j c u hc (by simpa [Value.cells] using hu)
  exact ⟨this.one,this⟩
 ·subst h
  have h1 : oneCell v = true:=by obtain ⟨b,_,rfl⟩:=hr; rfl
  exact one h1 hr
 ·subst h; exact one hr.1 hr
 ·subst h
  have h1 : oneCell v = true:=by obtain ⟨b,_,rfl⟩:=hr; rfl
  exact one h1 hr
theorem fillT_sound {F : Fr} {H : Hp} {m : Mp} {w : World} {pl : List (Nat × Nat)} {place : Nat → Option (Nat × Nat)} (hpl : ∀ (f : Nat) p,pl[f]? = some p → place f = some p) :
  ∀ (ps : List (Nat × AV)) (vs : List (Nat × Value)) (cs cs' : List TE) (cells : Array Value),vs.map (·.1) = ps.map (·.1) → (∀ (j : Nat) x v,ps[j]? = some x → vs[j]? = some v → RepA F H m w x.2 v.2) →
   RepTL F H m w cs cells.toList → fillT pl ps cs = some cs' → ∃ cells',Instr.fill place cells vs = some cells' ∧ RepTL F H m w cs' cells'.toList
 | [],vs,cs,cs',cells,hi,hr,hl,h=>by
  simp [fillT] at h; subst h
  cases vs with
  | nil=>exact ⟨cells,rfl,hl⟩
  | cons v vs=>simp at hi
 | (f,x) :: ps,[],cs,cs',cells,hi,hr,hl,h=>by simp at hi
 | (f,x) :: ps,(f',v) :: vs,cs,cs',cells,hi,hr,hl,h=>by
  simp only [List.map_cons,List.cons.injEq] at hi
  obtain ⟨rfl,hi⟩:=hi
  simp only [fillT] at h
  split at h
  ·rename_i o z ys hp hys
   split at h
   ·rename_i hc
    have hcells:=tesOf_rep hys (hr 0 _ _ rfl rfl)
    simp only at hcells
    have hsz : v.cells.size = z:=by have:=hcells.1; simp at this; omega
    have hle : o + v.cells.size ≤ cells.size:=by have:=hl.1; simp at this; omega
    have hstep : v.cells.zipIdx.foldl (fun cs (c,j)=>cs.setIfInBounds (o + j) c) cells = (cells.toList.take o ++ v.cells.toList ++ cells.toList.drop (o + z)).toArray:=by
     have:=splice_foldl o v.cells.toList 0 cells (by simp; omega)
     simp only [Nat.add_zero,Array.length_toList,hsz] at this
     rw [← this,← Array.foldl_toList,Array.toList_zipIdx]
    have hnext : RepTL F H m w (cs.take o ++ ys ++ cs.drop (o + z)) (cells.toList.take o ++ v.cells.toList ++ cells.toList.drop (o + z)):=((hl.take o).append hcells).append (hl.drop (o + z))
    obtain ⟨cells',h1,h2⟩:=fillT_sound hpl ps vs _ cs' (cells.toList.take o ++ v.cells.toList ++ cells.toList.drop (o + z)).toArray hi (fun j x v hx hv=>hr (j + 1) x v (by simpa using hx) (by simpa using hv)) (by simpa using hnext) h
    refine ⟨cells',?_,h2⟩
    have hne : (v.cells.size ≠ z || decide (o + v.cells.size > cells.size)) = false:=by simp [hsz]; omega
    simp only [Instr.fill,hpl f' _ hp,hne,hstep]
    simpa using h1
   ·cases h
  ·cases h
theorem RepTL.ofC {F : Fr} {H : Hp} {m : Mp} {w : World} {us : List Value} (h : us.all oneCell = true) : RepTL F H m w (us.map fun v=>.s (.inl (ofC v))) us:=by
 refine ⟨by simp,fun j y u hy hu=>?_⟩
 simp [hu] at hy
 subst hy
 have h1 : oneCell u = true:=List.all_eq_true.1 h u (List.mem_of_getElem? hu)
 exact ⟨h1,rd_ofC w _ u h1⟩

theorem zeroO_some {t : TypeId} {zs : List Value} (h : zeroO P t = some zs) : ∃ i z,P.info? t = some i ∧ i.zero = some z ∧ z.cells.toList = zs:=by
 unfold zeroO at h
 cases hi : P.info? t with
 | none=>simp [hi] at h
 | some i =>
  simp only [hi,Option.bind_some,Option.map_eq_some_iff] at h
  obtain ⟨z,hz,rfl⟩:=h
  exact ⟨i,z,rfl,hz,rfl⟩

theorem buildT_sound {t : TypeId} {ps : List (Nat × AV)} {K : AV → Prop} (h : buildT P t ps K) :
  ∃ r,K r ∧ ∀ (F : Fr) (H : Hp) (m : Mp) (w : World) (vs : Array (Nat × Value)),vs.toList.map (·.1) = ps.map (·.1) → (∀ (j : Nat) x v,ps[j]? = some x → vs[j]? = some v → RepA F H m w x.2 v.2) →
   Yl P F H m w (Instr.build t vs) r:=by
 unfold buildT at h
 split at h
 ·rename_i zs pl hz hpl
  split at h
  ·rename_i cs hcs
   obtain ⟨h1,hK⟩:=h
   refine ⟨_,hK,fun F H m w vs hi hr=>?_⟩
   obtain ⟨it,z,hit,hzz,rfl⟩:=zeroO_some hz
   unfold plO at hpl
   split at hpl
   ·rename_i fs hu
    obtain ⟨cells',h2,h3⟩:=fill_sound (place:=(pl.toArray[·]?)) (fun f p hp=>by simpa using hp) ps vs.toList _ cs z.cells hi (fun j x v hx hv=>hr j x v hx (by simpa using hv)) (RdL.ofC h1) hcs
    exact ⟨_,run_build w t vs cells' (by simp only [Program.built,hit,hu,hzz,hpl]; exact h2),_,rfl,h3⟩
   ·rename_i n e hu
    obtain ⟨ze,hze,rfl⟩:=Option.map_eq_some_iff.1 hpl
    unfold szO at hze
    obtain ⟨ie,hie,rfl⟩:=Option.map_eq_some_iff.1 hze
    obtain ⟨cells',h2,h3⟩:=fill_sound (place:=fun i=>some (i * ie.size,ie.size)) (fun f p hp=>by
     have hlt:=(List.getElem?_eq_some_iff.1 hp).1
     simp at hlt
     simp [List.getElem?_map,List.getElem?_range hlt] at hp
     rw [hp]) ps vs.toList _ cs z.cells hi (fun j x v hx hv=>hr j x v hx (by simpa using hv)) (RdL.ofC h1) hcs
    exact ⟨_,run_build w t vs cells' (by simp only [Program.built,hit,hu,hzz,hie]; exact h2),_,rfl,h3⟩
   ·cases hpl
  split at h
  ·rename_i ts hts
   obtain ⟨h1,hK⟩:=h
   refine ⟨_,hK,fun F H m w vs hi hr=>?_⟩
   obtain ⟨it,z,hit,hzz,rfl⟩:=zeroO_some hz
   have fin : ∀ {cells' : Array Value},RepTL F H m w ts cells'.toList → RepA F H m w (.gt ts) (.agg cells'):=fun h3 =>
    ⟨_,rfl,by have:=h3.1; simpa using this,fun j y u hy hu=>(h3.2 j y u hy (by simpa using hu)).2⟩
   unfold plO at hpl
   split at hpl
   ·rename_i fs hu
    obtain ⟨cells',h2,h3⟩:=fillT_sound (place:=(pl.toArray[·]?)) (fun f p hp=>by simpa using hp) ps vs.toList _ ts z.cells hi (fun j x v hx hv=>hr j x v hx (by simpa using hv)) (RepTL.ofC h1) hts
    exact ⟨_,run_build w t vs cells' (by simp only [Program.built,hit,hu,hzz,hpl]; exact h2),fin h3⟩
   ·rename_i n e hu
    obtain ⟨ze,hze,rfl⟩:=Option.map_eq_some_iff.1 hpl
    unfold szO at hze
    obtain ⟨ie,hie,rfl⟩:=Option.map_eq_some_iff.1 hze
    obtain ⟨cells',h2,h3⟩:=fillT_sound (place:=fun i=>some (i * ie.size,ie.size)) (fun f p hp=>by
     have hlt:=(List.getElem?_eq_some_iff.1 hp).1
     simp at hlt
     simp [List.getElem?_map,List.getElem?_range hlt] at hp
     rw [hp]) ps vs.toList _ ts z.cells hi (fun j x v hx hv=>hr j x v hx (by simpa using hv)) (RepTL.ofC h1) hts
    exact ⟨_,run_build w t vs cells' (by simp only [Program.built,hit,hu,hzz,hie]; exact h2),fin h3⟩
   ·cases hpl
  ·exact h.elim
 ·exact h.elim

theorem lit_fill (z : Nat) : ∀ (vs : List Value) (n : Nat) (cells : Array Value),(∀ v ∈ vs,v.cells.size = z) → (n + vs.length) * z ≤ cells.size →
  Instr.fill (fun i=>some (i * z,z)) cells (vs.zipIdx n |>.map fun p=>(p.2,p.1)) = some (cells.toList.take (n * z) ++ vs.flatMap (fun v=>v.cells.toList) ++ cells.toList.drop ((n + vs.length) * z)).toArray
 | [],n,cells,h1,h2=>by simp [Instr.fill]
 | v :: vs,n,cells,h1,h2=>by
  have hv:=h1 v (List.mem_cons_self ..)
  simp only [List.length_cons] at h2
  have e1 : (n + (vs.length + 1)) * z = (n + 1 + vs.length) * z:=by congr 1; omega
  have e2 : (n + 1 + vs.length) * z = n * z + z + vs.length * z:=by rw [Nat.add_mul,Nat.add_mul]; omega
  have hle : n * z + v.cells.size ≤ cells.size:=by omega
  have hstep : v.cells.zipIdx.foldl (fun cs (c,j)=>cs.setIfInBounds (n * z + j) c) cells = (cells.toList.take (n * z) ++ v.cells.toList ++ cells.toList.drop (n * z + z)).toArray:=by
   have:=splice_foldl (n * z) v.cells.toList 0 cells (by simp; omega)
   simp only [Nat.add_zero,Array.length_toList,hv] at this
   rw [← this,← Array.foldl_toList,Array.toList_zipIdx]
  have hne : (v.cells.size ≠ z || decide (n * z + v.cells.size > cells.size)) = false:=by simp [hv]; omega
  simp only [List.zipIdx_cons,List.map_cons,Instr.fill,hne,hstep]
  have hsz : (cells.toList.take (n * z) ++ v.cells.toList ++ cells.toList.drop (n * z + z)).toArray.size = cells.size:=by
   simp only [List.size_toArray,List.length_append,List.length_take,List.length_drop,Array.length_toList,hv]; omega
  have ih:=lit_fill z vs (n + 1) (cells.toList.take (n * z) ++ v.cells.toList ++ cells.toList.drop (n * z + z)).toArray (fun u hu=>h1 u (List.mem_cons_of_mem _ hu)) (by rw [hsz]; omega)
  rw [if_neg (by simp),ih]
  congr 2
  simp only [List.toList_toArray,List.flatMap_cons]
  have e3 : (n + 1) * z = n * z + z:=by rw [Nat.add_mul]; omega
  have e4 : (cells.toList.take (n * z) ++ v.cells.toList).length = n * z + z:=by simp only [List.length_append,List.length_take,Array.length_toList,hv]; omega
  rw [e3,List.take_left' e4,List.length_cons,e1,e2]
  rw [List.drop_append,e4,List.drop_drop]
  have e5 : (cells.toList.take (n * z) ++ v.cells.toList).drop (n * z + z + vs.length * z) = []:=List.drop_eq_nil_of_le (by rw [e4]; omega)
  rw [e5,List.nil_append]
  have e6 : n * z + z + (n * z + z + vs.length * z - (n * z + z)) = n * z + z + vs.length * z:=by omega
  rw [e6]
  simp only [List.append_assoc]

theorem intsOf_spec {k : IntKind} : ∀ {xs : List AV} {ns : List Int},intsOf k xs = some ns → xs = ns.map fun n=>.c (.i k n)
 | [],ns,h=>by simp [intsOf] at h; subst h; rfl
 | .c x :: l,ns,h=>by
  cases x <;> simp [intsOf] at h
  obtain ⟨rfl,ns',h1,rfl⟩:=h
  simp [intsOf_spec h1]
 | .g _ :: _,_,h | .t _ :: _,_,h | .bx _ _ :: _,_,h | .own _ _ :: _,_,h | .oel _ _ _ _ :: _,_,h | .el _ :: _,_,h | .u :: _,_,h=>by simp [intsOf] at h
theorem boolsOf_spec : ∀ {xs : List AV} {ns : List Bool},boolsOf xs = some ns → xs = ns.map fun n=>.c (.b n)
 | [],ns,h=>by simp [boolsOf] at h; subst h; rfl
 | .c x :: l,ns,h=>by
  cases x <;> simp [boolsOf] at h
  obtain ⟨ns',h1,rfl⟩:=h
  simp [boolsOf_spec h1]
 | .g _ :: _,_,h | .t _ :: _,_,h | .bx _ _ :: _,_,h | .own _ _ :: _,_,h | .oel _ _ _ _ :: _,_,h | .el _ :: _,_,h | .u :: _,_,h=>by simp [boolsOf] at h
theorem rowsOf_spec {z : Nat} : ∀ {xs : List AV} {rs : List (List C)},rowsOf z xs = some rs → rs.length = xs.length ∧ ∀ (i : Nat) x,xs[i]? = some x → ∃ r,cellsOf x = some r ∧ rs[i]? = some r ∧ r.length = z
 | [],rs,h=>by simp [rowsOf] at h; subst h; simp
 | x :: l,rs,h=>by
  simp only [rowsOf] at h
  split at h
  ·rename_i r hr
   split at h
   ·rename_i hz
    obtain ⟨rs',h1,rfl⟩:=Option.map_eq_some_iff.1 h
    obtain ⟨hl,hi⟩:=rowsOf_spec h1
    refine ⟨by simp [hl],fun i y hy=>?_⟩
    match i with
    | 0=>simp at hy; subst hy; exact ⟨r,hr,rfl,hz⟩
    | i + 1=>exact hi i y (by simpa using hy)
   ·cases h
  ·cases h

theorem litO_rows {e : TypeId} {xs : List AV} {c : C} {z : Nat} (h : litO P e xs = some c) (hz : szO P e = some z) (hcz : c.z = z) :
  ∃ rs,c.rows = some (z,rs) ∧ rs.length = xs.length ∧ ∀ (i : Nat) x,xs[i]? = some x → ∃ r,cellsOf x = some r ∧ rs[i]? = some r ∧ r.length = z:=by
 unfold litO at h
 split at h
 ·obtain ⟨ns,hn,rfl⟩:=Option.map_eq_some_iff.1 h
  obtain rfl:=intsOf_spec hn
  simp [C.z] at hcz; subst hcz
  refine ⟨_,rfl,by simp,fun i x hx=>?_⟩
  simp only [List.getElem?_map,Option.map_eq_some_iff] at hx
  obtain ⟨n,hn,rfl⟩:=hx
  exact ⟨_,rfl,by simp [hn],rfl⟩
 ·obtain ⟨ns,hn,rfl⟩:=Option.map_eq_some_iff.1 h
  obtain rfl:=boolsOf_spec hn
  simp [C.z] at hcz; subst hcz
  refine ⟨_,rfl,by simp,fun i x hx=>?_⟩
  simp only [List.getElem?_map,Option.map_eq_some_iff] at hx
  obtain ⟨n,hn,rfl⟩:=hx
  exact ⟨_,rfl,by simp [hn],rfl⟩
 ·rw [hz] at h
  simp only at h
  obtain ⟨rs,hn,rfl⟩:=Option.map_eq_some_iff.1 h
  obtain ⟨h1,h2⟩:=rowsOf_spec hn
  exact ⟨rs,rfl,h1,h2⟩

end Go.Abs

namespace Go.Abs
set_option linter.unusedSimpArgs false
set_option linter.unusedVariables false
open Go.RowKit

variable {P : Program}

theorem alloc_later {F : Fr} {H : Hp} {m : Mp} (w : World) (o : Obj) : Later F H m w H m (w.alloc o):=HRep.ext_later (alloc_ext w o)

theorem newRow_run (e : TypeId) (cells : Array Value) (w : World) : (newRow e cells).run P w = .ok ⟨w.heap.size,0,none⟩ (w.alloc (.cells cells e)):=rfl

theorem new_rd {F : Fr} {H : Hp} {m : Mp} {w : World} (h : HRep F H m w) {c : C} {z : Nat} {rs : List (List C)} (hrows : c.rows = some (z,rs)) (hz : 0 < z) (hr : ∀ r ∈ rs,r.length = z) (hm : rs.length ≤ maxLen)
  (arr : Array Value) (e : TypeId) (cap : Nat) (hcap : rs.length ≤ cap) (hx : RdRow w (F.S m) z rs arr.toList) : Rd (w.alloc (.cells arr e)) (F.S m) c (.slice (some ⟨w.heap.size,0,none⟩) rs.length cap):=by
 by_cases he : rs = []
 ·subst he; exact .emp _ _ _ _ hrows (fun h=>by cases h)
 ·refine .sl c z rs w.heap.size 0 cap (fun i j=>(arr[i * z + j]?).getD undef) hrows he hz hm hcap hr (.inr ⟨.inl h.size,fun ho=>by have:=own_lt h ho; omega⟩) ?_ ?_
  ·intro i j y hy
   obtain ⟨u,hu,_⟩:=hx i j y hy
   have hu' : arr[i * z + j]? = some u:=by simpa using hu
   simp only [World.cell?,heap_alloc_new,Nat.zero_add,hu',Option.getD_some]
   rfl
  ·intro i j y hy
   obtain ⟨u,hu,hrd⟩:=hx i j y hy
   have hu' : arr[i * z + j]? = some u:=by simpa using hu
   simp only [hu',Option.getD_some]
   exact hrd.mono (alloc_later (F:=F) (H:=H) (m:=m) w _).st

theorem flatMap_get {z : Nat} : ∀ (vs : List Value) (i j : Nat) (v : Value),(∀ v ∈ vs,v.cells.size = z) → vs[i]? = some v → j < z → (vs.flatMap fun v=>v.cells.toList)[i * z + j]? = v.cells.toList[j]?
 | [],i,j,v,h,hv,hj=>by simp at hv
 | x :: vs,0,j,v,h,hv,hj=>by
  simp at hv; subst hv
  have:=h x (List.mem_cons_self ..)
  simp only [List.flatMap_cons,Nat.zero_mul,Nat.zero_add]
  rw [List.getElem?_append_left (by simp; omega)]
 | x :: vs,i + 1,j,v,h,hv,hj=>by
  have hx:=h x (List.mem_cons_self ..)
  simp only [List.flatMap_cons]
  rw [List.getElem?_append_right (by simp [hx,Nat.add_mul]; omega)]
  have e : (i + 1) * z + j - x.cells.toList.length = i * z + j:=by simp [hx,Nat.add_mul]; omega
  rw [e]
  exact flatMap_get vs i j v (fun u hu=>h u (List.mem_cons_of_mem _ hu)) (by simpa using hv) hj

def litT (P : Program) (t : TypeId) (len : Nat) (ps : List (Nat × AV)) (K : AV → Prop) : Prop:=match elO P t with
 | some e=>match litO P e (ps.map (·.2)) with
  | some c=>ps.map (·.1) = List.range len ∧ szO P e = some c.z ∧ (zeroO P e).isSome = true ∧ len * c.z ≤ 16777216 ∧ 0 < c.z ∧ K (.c c)
  | none=>False
 | none=>False

theorem lit_core {t e : TypeId} {len : Nat} {ps : List (Nat × AV)} {c : C} (he : elO P t = some e) (hc : litO P e (ps.map (·.2)) = some c) (hidx : ps.map (·.1) = List.range len) (hsz : szO P e = some c.z) (hzero : (zeroO P e).isSome = true) (hle : len * c.z ≤ 16777216) (hz0 : 0 < c.z)
  {F : Fr} {H : Hp} {m : Mp} {w : World} {vs : Array (Nat × Value)} (hi : vs.toList.map (·.1) = ps.map (·.1)) (hr : ∀ (j : Nat) x v,ps[j]? = some x → vs[j]? = some v → RepA F H m w x.2 v.2) :
  ∃ rs arr,(Instr.buildSlice t len vs).run P w = .ok (.slice (some ⟨w.heap.size,0,none⟩) rs.length rs.length) (w.alloc (.cells arr e)) ∧ c.rows = some (c.z,rs) ∧ (∀ r ∈ rs,r.length = c.z) ∧ rs.length ≤ maxLen ∧ arr.size = rs.length * c.z ∧ RdRow w (F.S m) c.z rs arr.toList:=by
   obtain ⟨rs,hrows,hlen,hrs⟩:=litO_rows hc hsz rfl
   obtain ⟨zs,hzs⟩:=Option.isSome_iff_exists.1 hzero
   obtain ⟨it,z,hit,hzz,rfl⟩:=zeroO_some hzs
   have hpl : ps.length = len:=by have:=congrArg List.length hidx; simpa using this
   have hvl : vs.size = len:=by have:=congrArg List.length hi; simp at this; omega
   have hvals : ∀ (j : Nat) v,vs[j]? = some v → RdL w (F.S m) ((rs[j]?).getD []) v.2.cells.toList ∧ v.2.cells.size = c.z:=by
    intro j v hv
    have hlt:=(Array.getElem?_eq_some_iff.1 hv).1
    have hx : ps[j]? = some (ps[j]'(by omega)):=List.getElem?_eq_getElem _
    obtain ⟨r,h1,h2,h3⟩:=hrs j (ps[j]'(by omega)).2 (by simp [hx])
    have h4:=cellsOf_rep h1 (hr j _ v hx hv)
    simp only [h2,Option.getD_some]
    exact ⟨h4,by have:=h4.1; simp at this; omega⟩
   have henum : vs.toList = ((vs.toList.map (·.2)).zipIdx 0).map fun p=>(p.2,p.1):=by
    apply List.ext_getElem?
    intro j
    simp only [List.getElem?_map,List.getElem?_zipIdx,Nat.zero_add]
    cases hj : vs.toList[j]? with
    | none=>simp
    | some v =>
     have h1 : (vs.toList.map (·.1))[j]? = some v.1:=by simp [hj]
     rw [hi,hidx] at h1
     have h2:=(List.getElem?_eq_some_iff.1 h1).1
     simp at h2
     simp [List.getElem?_range h2] at h1
     simp [h1]
   have hall : ∀ v ∈ vs.toList.map (·.2),v.cells.size = c.z:=by
    intro v hv
    obtain ⟨p,hp,rfl⟩:=List.mem_map.1 hv
    obtain ⟨j,hj⟩:=List.getElem?_of_mem hp
    exact (hvals j p (by simpa using hj)).2
   have hfill:=lit_fill c.z (vs.toList.map (·.2)) 0 ((Array.range (len * c.z)).map (z.cells[· % z.cells.size]!)) hall (by simp [hvl])
   rw [← henum] at hfill
   have e1 : (0 + (vs.toList.map (·.2)).length) * c.z = len * c.z:=by simp [hvl]
   rw [e1] at hfill
   have e2 : ((Array.range (len * c.z)).map (z.cells[· % z.cells.size]!)).toList.drop (len * c.z) = []:=List.drop_eq_nil_of_le (by simp)
   rw [e2] at hfill
   simp only [Nat.zero_mul,List.take_zero,List.nil_append,List.append_nil] at hfill
   have hnot : ¬ len * c.z > 2 ^ 24:=by omega
   have hne : ¬ len * c.z = 0 ∨ len * c.z = 0:=by omega
   have hrun : (Instr.buildSlice t len vs).run P w = .ok (.slice (some ⟨w.heap.size,0,none⟩) len len) (w.alloc (.cells ((vs.toList.map (·.2)).flatMap fun v=>v.cells.toList).toArray e)):=by
    rcases hne with hne | hne
    ·simp only [Instr.buildSlice,Sem.run_bind,run_underlying (elO_some he),Result.andThen_ok,szO_run hsz,hnot,if_false,hne]
     simp [zeroValue,typeInfo,hit,hzz,hfill,newRow_run]
    ·have hl0 : len = 0:=by
      rcases Nat.mul_eq_zero.1 hne with h | h
      ·exact h
      ·omega
     subst hl0
     have hv0 : vs = #[]:=by apply Array.eq_empty_of_size_eq_zero; exact hvl
     subst hv0
     simp only [Instr.buildSlice,Sem.run_bind,run_underlying (elO_some he),Result.andThen_ok,szO_run hsz,Nat.zero_mul]
     simp [Instr.fill,newRow_run]
     congr 2
     apply Array.eq_empty_of_size_eq_zero
     simp
   have hrl : ∀ r ∈ rs,r.length = c.z:=by
    intro r hrm
    obtain ⟨j,hj⟩:=List.getElem?_of_mem hrm
    have hlt:=(List.getElem?_eq_some_iff.1 hj).1
    have hx : ps[j]? = some (ps[j]'(by simp at hlen; omega)):=List.getElem?_eq_getElem _
    obtain ⟨r',h1,h2,h3⟩:=hrs j (ps[j]'(by simp at hlen; omega)).2 (by simp [hx])
    rw [hj] at h2; cases h2; exact h3
   have hrslen : rs.length = len:=by simp at hlen; omega
   have hmax : rs.length ≤ maxLen:=by
    have : len ≤ len * c.z:=Nat.le_mul_of_pos_right _ hz0
    unfold maxLen; omega
   have hrun2 : (Instr.buildSlice t len vs).run P w = .ok (.slice (some ⟨w.heap.size,0,none⟩) rs.length rs.length) (w.alloc (.cells ((vs.toList.map (·.2)).flatMap fun v=>v.cells.toList).toArray e)):=by
    rw [hrslen]; exact hrun
   refine ⟨rs,_,hrun2,hrows,hrl,hmax,?_,?_⟩
   ·simp only [List.size_toArray,List.length_flatMap]
    have hsum : ∀ l : List Value,(∀ v ∈ l,v.cells.size = c.z) → (l.map fun v=>v.cells.toList.length).sum = l.length * c.z:=by
     intro l
     induction l with
     | nil=>intro _; simp
     | cons v l ih =>
      intro h
      have h1:=h v (List.mem_cons_self ..)
      rw [List.map_cons,List.sum_cons,ih (fun u hu=>h u (List.mem_cons_of_mem _ hu)),List.length_cons,Nat.add_mul]
      simp only [Array.length_toList,h1]; omega
    rw [hsum _ hall,hrslen]
    simp [hvl]
   intro i j y hy
   obtain ⟨h1,h2⟩:=at2_lt hrl hy
   have hv : vs[i]? = some (vs[i]'(by omega)):=Array.getElem?_eq_getElem _
   obtain ⟨h3,h4⟩:=hvals i _ hv
   have hrow : ∃ r,rs[i]? = some r ∧ r[j]? = some y:=by
    unfold at2 at hy
    cases hr' : rs[i]? with
    | none=>simp [hr'] at hy
    | some r=>exact ⟨r,rfl,by simpa [hr'] using hy⟩
   obtain ⟨r,hr1,hr2⟩:=hrow
   rw [hr1,Option.getD_some] at h3
   obtain ⟨u,hu,hrd⟩:=h3.get hr2
   refine ⟨u,?_,hrd⟩
   simp only [List.toList_toArray]
   rw [flatMap_get _ i j (vs[i]'(by omega)).2 hall (by simp [hv]) h2]
   exact hu

theorem litT_sound {t : TypeId} {len : Nat} {ps : List (Nat × AV)} {K : AV → Prop} (h : litT P t len ps K) :
  ∃ r,K r ∧ ∀ (F : Fr) (H : Hp) (m : Mp) (w : World) (vs : Array (Nat × Value)),HRep F H m w → vs.toList.map (·.1) = ps.map (·.1) → (∀ (j : Nat) x v,ps[j]? = some x → vs[j]? = some v → RepA F H m w x.2 v.2) →
   ∃ v w',(Instr.buildSlice t len vs).run P w = .ok v w' ∧ Ext w w' ∧ RepA F H m w' r v:=by
 unfold litT at h
 split at h
 ·rename_i e he
  split at h
  ·rename_i c hc
   obtain ⟨hidx,hsz,hzero,hle,hz0,hK⟩:=h
   refine ⟨_,hK,fun F H m w vs hrep hi hr=>?_⟩
   obtain ⟨rs,arr,hrun,hrows,hrl,hmax,_,hrd⟩:=lit_core he hc hidx hsz hzero hle hz0 hi hr
   exact ⟨_,_,hrun,alloc_ext w _,new_rd hrep hrows hz0 hrl hmax _ e rs.length (Nat.le_refl _) hrd⟩
  ·exact h.elim
 ·exact h.elim

def isWin : AV → Bool
 | .win _ _ _ _=>true
 | _=>false
def wOf : AV → Option (C ⊕ (Nat × Nat × Nat × Nat))
 | .c c=>some (.inl c)
 | .win id ver lo len=>some (.inr (id,ver,lo,len))
 | _=>none
def wsOf : List AV → Option (List (C ⊕ (Nat × Nat × Nat × Nat)))
 | []=>some []
 | x :: l=>match wOf x,wsOf l with | some y,some ys=>some (y :: ys) | _,_=>none
def litWT (P : Program) (t : TypeId) (len : Nat) (ps : List (Nat × AV)) (K : AV → Prop) : Prop:=match elO P t,wsOf (ps.map (·.2)) with
 | some e,some l=>ps.map (·.1) = List.range len ∧ szO P e = some 1 ∧ (zeroO P e).isSome = true ∧ len ≤ 16777216 ∧ 0 < len ∧ K (.lw l)
 | _,_=>False
theorem wsOf_spec : ∀ {l : List AV} {ws : List (C ⊕ (Nat × Nat × Nat × Nat))},wsOf l = some ws → ws.length = l.length ∧ ∀ (j : Nat) x y,l[j]? = some x → ws[j]? = some y → wOf x = some y
 | [],ws,h=>by simp [wsOf] at h; subst h; simp
 | x :: l,ws,h=>by
  simp only [wsOf] at h
  split at h
  ·rename_i y ys h1 h2
   cases h
   obtain ⟨g1,g2⟩:=wsOf_spec h2
   refine ⟨by simp [g1],fun j a b ha hb=>?_⟩
   match j with
   | 0=>simp at ha hb; subst ha; subst hb; exact h1
   | j + 1=>exact g2 j a b (by simpa using ha) (by simpa using hb)
  ·cases h
theorem wOf_rep {F : Fr} {H : Hp} {m : Mp} {w : World} {x : AV} {y : C ⊕ (Nat × Nat × Nat × Nat)} {v : Value} (h : wOf x = some y) (hr : RepA F H m w x v) : RepW F H m w y v ∧ oneCell v = true:=by
 cases x <;> simp only [wOf] at h <;> try cases h
 ·exact ⟨hr,Rd.one hr⟩
 ·exact ⟨hr,hr.1⟩
theorem cells_one {v : Value} (h : oneCell v = true) : v.cells = #[v]:=by cases v <;> simp_all [Value.cells,Value.oneCell']
theorem litWT_sound {t : TypeId} {len : Nat} {ps : List (Nat × AV)} {K : AV → Prop} (h : litWT P t len ps K) :
  ∃ r,K r ∧ ∀ (F : Fr) (H : Hp) (m : Mp) (w : World) (vs : Array (Nat × Value)),HRep F H m w → vs.toList.map (·.1) = ps.map (·.1) → (∀ (j : Nat) x v,ps[j]? = some x → vs[j]? = some v → RepA F H m w x.2 v.2) →
   ∃ v w',(Instr.buildSlice t len vs).run P w = .ok v w' ∧ Ext w w' ∧ RepA F H m w' r v:=by
 unfold litWT at h
 split at h
 ·rename_i e l he hws
  obtain ⟨hidx,hsz,hzero,hle,hlen0,hK⟩:=h
  refine ⟨_,hK,fun F H m w vs hrep hi hr=>?_⟩
  obtain ⟨zs,hzs⟩:=Option.isSome_iff_exists.1 hzero
  obtain ⟨it,z,hit,hzz,rfl⟩:=zeroO_some hzs
  obtain ⟨hwl,hwi⟩:=wsOf_spec hws
  have hpl : ps.length = len:=by have:=congrArg List.length hidx; simpa using this
  have hvl : vs.size = len:=by have:=congrArg List.length hi; simp at this; omega
  have hll : l.length = len:=by rw [hwl]; simpa using hpl
  have hvals : ∀ (j : Nat) v y,vs[j]? = some v → l[j]? = some y → RepW F H m w y v.2 ∧ oneCell v.2 = true:=by
   intro j v y hv hy
   have hlt:=(Array.getElem?_eq_some_iff.1 hv).1
   have hx : ps[j]? = some (ps[j]'(by omega)):=List.getElem?_eq_getElem _
   exact wOf_rep (hwi j _ y (by simp [hx]) hy) (hr j _ v hx hv)
  have hone : ∀ (j : Nat) v,vs[j]? = some v → oneCell v.2 = true:=by
   intro j v hv
   have hlt:=(Array.getElem?_eq_some_iff.1 hv).1
   exact (hvals j v _ hv (List.getElem?_eq_getElem (show j < l.length by omega))).2
  have henum : vs.toList = ((vs.toList.map (·.2)).zipIdx 0).map fun p=>(p.2,p.1):=by
   apply List.ext_getElem?
   intro j
   simp only [List.getElem?_map,List.getElem?_zipIdx,Nat.zero_add]
   cases hj : vs.toList[j]? with
   | none=>simp
   | some v =>
    have h1 : (vs.toList.map (·.1))[j]? = some v.1:=by simp [hj]
    rw [hi,hidx] at h1
    have h2:=(List.getElem?_eq_some_iff.1 h1).1
    simp at h2
    simp [List.getElem?_range h2] at h1
    simp [h1]
  have hall : ∀ v ∈ vs.toList.map (·.2),v.cells.size = 1:=by
   intro v hv
   obtain ⟨p,hp,rfl⟩:=List.mem_map.1 hv
   obtain ⟨j,hj⟩:=List.getElem?_of_mem hp
   rw [cells_one (hone j p (by simpa using hj))]; rfl
  have hfill:=lit_fill 1 (vs.toList.map (·.2)) 0 ((Array.range (len * 1)).map (z.cells[· % z.cells.size]!)) hall (by simp [hvl])
  rw [← henum] at hfill
  have e1 : (0 + (vs.toList.map (·.2)).length) * 1 = len * 1:=by simp [hvl]
  rw [e1] at hfill
  have e2 : ((Array.range (len * 1)).map (z.cells[· % z.cells.size]!)).toList.drop (len * 1) = []:=List.drop_eq_nil_of_le (by simp)
  rw [e2] at hfill
  simp only [Nat.zero_mul,List.take_zero,List.nil_append,List.append_nil] at hfill
  have hnot : ¬ len * 1 > 2 ^ 24:=by omega
  have hne : ¬ len * 1 = 0:=by omega
  have hrun : (Instr.buildSlice t len vs).run P w = .ok (.slice (some ⟨w.heap.size,0,none⟩) len len) (w.alloc (.cells ((vs.toList.map (·.2)).flatMap fun v=>v.cells.toList).toArray e)):=by
   simp only [Instr.buildSlice,Sem.run_bind,run_underlying (elO_some he),Result.andThen_ok,szO_run hsz,hnot,if_false,hne]
   simp [zeroValue,typeInfo,hit,hzz,newRow_run]
   simp at hfill
   simp [hfill,newRow_run]
  refine ⟨_,_,hrun,alloc_ext w _,w.heap.size,len,by rw [hll],⟨fun h0=>by rw [h0] at hll; simp at hll; omega,by omega,by rw [hll]; unfold maxLen; omega⟩,.inr ⟨.inl hrep.size,fun ho=>by have:=own_lt hrep ho; omega⟩,fun j y hy=>?_⟩
  have hjl:=(List.getElem?_eq_some_iff.1 hy).1
  have hv : vs[j]? = some (vs[j]'(by omega)):=Array.getElem?_eq_getElem _
  obtain ⟨h3,h4⟩:=hvals j _ y hv hy
  refine ⟨(vs[j]'(by omega)).2,?_,(alloc_later (F:=F) (H:=H) (m:=m) w _).repW h3⟩
  have hg:=flatMap_get (z:=1) (vs.toList.map (·.2)) j 0 (vs[j]'(by omega)).2 hall (by simp [hv]) (by omega)
  rw [cells_one h4] at hg
  simp only [Nat.mul_one,Nat.add_zero] at hg
  simp only [World.cell?,heap_alloc_new]
  simpa using hg
 ·exact h.elim

def Exec (P : Program) (o : Oper) (ρ : Operand → Value) (w : World) (R : Value → World → Prop) : Prop :=
 match (execOp ρ o).run P w with
 | .ok (.value v) w'=>R v w'
 | .ok .skip w'=>R undef w'
 | .ok (.enter f args) w'=>Calls P f args w' fun e w''=>∃ v,e = .returned v ∧ R v w''
 | _=>False

theorem Exec.mono {o : Oper} {ρ : Operand → Value} {w : World} {R R' : Value → World → Prop} (h : Exec P o ρ w R) (hr : ∀ v w',R v w' → R' v w') : Exec P o ρ w R':=by
 unfold Exec at *
 split at h
 ·exact hr _ _ h
 ·exact hr _ _ h
 ·exact Calls.mono h fun e w' ⟨v,he,h⟩=>⟨v,he,hr _ _ h⟩
 ·exact h.elim

theorem Exec.wp {o : Oper} {a : Act} {w : World} {R : Value → World → Prop} {K : Act → World → Prop} {Q : Exit → Act → World → Prop} (h : Exec P o a.eval w R) (hk : ∀ v w',R v w' → K (a.put o.dst v) w') : o.wp P a w K Q:=by
 unfold Exec at h
 unfold Oper.wp
 generalize (execOp a.eval o).run P w = r at h
 cases r with
 | ok n w' =>
  cases n <;> simp only [Oper.upon] at h ⊢ <;> first | exact h.elim | exact hk _ _ h | skip
  exact Calls.mono h fun e w'' ⟨v,he,hr⟩=>by subst he; exact hk _ _ hr
 | halt x w'=>exact h.elim

theorem Exec.congr {o : Oper} {ρ ρ' : Operand → Value} (hs : ∀ cs b,o.op ≠ .select cs b) (h : ∀ x ∈ o.op.operands,ρ x = ρ' x) {w : World} {R : Value → World → Prop} (he : Exec P o ρ w R) : Exec P o ρ' w R:=by
 unfold Exec at *
 rw [← execOp_congr o hs h]
 exact he

def OpQ (P : Program) (F : Fr) (H : Hp) (nx nx' : Nat) (o : Oper) (ev : Operand → AV) (r : AV) : Prop :=
 ∀ (H' : Hp) (m : Mp) (w : World) (ρ : Operand → Value),Sup H' H → HRep F H' m w → (∀ i,nx ≤ i → i < nx' → m.bx i = none) → (∀ x ∈ o.op.operands,RepA F H' m w (ev x) (ρ x)) →
  Exec P o ρ w fun v w'=>∃ m',HRep F H' m' w' ∧ Later F H' m w H' m' w' ∧ m'.bf = m.bf ∧ (∀ i,¬ (nx ≤ i ∧ i < nx') → m.bx i = none → m'.bx i = none) ∧ RepA F H' m' w' r v

theorem OpQ.of_yl {F : Fr} {H : Hp} {nx : Nat} {o : Oper} {ev : Operand → AV} {r : AV}
  (h : ∀ (H' : Hp) (m : Mp) (w : World) (ρ : Operand → Value),Sup H' H → HRep F H' m w → (∀ x ∈ o.op.operands,RepA F H' m w (ev x) (ρ x)) → ∃ s,execOp ρ o = (do pure (Next.value (← s))) ∧ Yl P F H' m w s r) : OpQ P F H nx nx o ev r:=by
 intro H' m w ρ hsup hrep _ hops
 obtain ⟨s,hs,v,hrun,hr⟩:=h H' m w ρ hsup hrep hops
 unfold Exec
 rw [hs]
 simp only [Sem.run_bind,hrun,Result.andThen_ok,Sem.run_pure]
 exact ⟨m,hrep,⟨fun b h _=>⟨h,rfl⟩,fun _ _ h=>h,fun id B h=>⟨B,h,Nat.le_refl _,fun _=>⟨fun _ h=>h,rfl⟩⟩,fun _ B h=>⟨B,h,rfl⟩⟩,rfl,fun _ _ h=>h,hr⟩

theorem OpQ.of_ext {F : Fr} {H : Hp} {nx : Nat} {o : Oper} {ev : Operand → AV} {r : AV}
  (h : ∀ (H' : Hp) (m : Mp) (w : World) (ρ : Operand → Value),Sup H' H → HRep F H' m w → (∀ x ∈ o.op.operands,RepA F H' m w (ev x) (ρ x)) → Exec P o ρ w fun v w'=>Ext w w' ∧ RepA F H' m w' r v) : OpQ P F H nx nx o ev r:=by
 intro H' m w ρ hsup hrep _ hops
 exact (h H' m w ρ hsup hrep hops).mono fun v w' ⟨he,hr⟩=>⟨m,hrep.ext he,HRep.ext_later he,rfl,fun _ _ h=>h,hr⟩

def Hp.addBox (H : Hp) (id : Nat) (cs : List AV) : Hp:={ H with box:=(id,cs) :: H.box }
def Hp.addBor (H : Hp) (id : Nat) (B : Bor) : Hp:={ H with bor:=(id,B) :: H.bor }
def Hp.addBuf (H : Hp) (id : Nat) (B : Buf) : Hp:={ H with buf:=(id,B) :: H.buf }

theorem newVar_run (e : TypeId) (v : Value) (w : World) : (newVar e v).run P w = .ok ⟨w.heap.size,0,none⟩ (w.alloc (.cells v.cells e)):=rfl

theorem OpQ.alloc {F : Fr} {H : Hp} {nx : Nat} {o : Oper} {ev : Operand → AV} {e : TypeId} {zs : List Value} (ho : o.op = .alloc e) (hz : zeroO P e = some zs) (h1 : zs.all oneCell = true) :
  OpQ P F (H.addBox nx (zs.map fun v=>.c (ofC v))) nx (nx + 1) o ev (.bx nx 0):=by
 intro H' m w ρ hsup hrep hfree _
 obtain ⟨it,z,hit,hzz,rfl⟩:=zeroO_some hz
 have hl:=hsup.1.1 nx (z.cells.toList.map fun v=>.c (ofC v)) (by simp [Hp.addBox,look])
 have hnb:=hrep.newBox nx (hfree nx (Nat.le_refl _) (by omega)) z.cells e _ hl (by simp) (fun j x u hx hu=>by
  simp only [List.getElem?_map,Option.map_eq_some_iff] at hx
  obtain ⟨v,hv,rfl⟩:=hx
  have : v = u:=by simp at hv; rw [hu] at hv; exact (Option.some.inj hv).symm
  subst this
  have hone : oneCell v = true:=List.all_eq_true.1 h1 v (List.mem_of_getElem? hv)
  exact ⟨hone,rd_ofC w _ v hone⟩)
 unfold Exec
 have hrun : (execOp ρ o).run P w = .ok (.value (.pointer (some ⟨w.heap.size,0,none⟩))) (w.alloc (.cells z.cells e)):=by
  simp [execOp,ho,Instr.alloc,zeroValue,typeInfo,hit,hzz,newVar_run]
 rw [hrun]
 refine ⟨_,hnb.1,hnb.2,rfl,fun i hi h=>?_,w.heap.size,by simp [Mp.addBx],rfl⟩
 simp only [Mp.addBx]
 split
 ·omega
 ·exact h

theorem OpQ.box {F : Fr} {H : Hp} {nx : Nat} {o : Oper} {ev : Operand → AV} {e : TypeId} {x : Operand} {cs : List C} (ho : o.op = .box e x) (hc : cellsOf (ev x) = some cs) :
  OpQ P F (H.addBox nx (cs.map .c)) nx (nx + 1) o ev (.bx nx 0):=by
 intro H' m w ρ hsup hrep hfree hops
 have hx:=hops x (by simp [ho,Op.operands])
 have hcr:=cellsOf_rep hc hx
 have hl:=hsup.1.1 nx (cs.map .c) (by simp [Hp.addBox,look])
 have hnb:=hrep.newBox nx (hfree nx (Nat.le_refl _) (by omega)) (ρ x).cells e _ hl (by have:=hcr.1; simpa using this) (fun j y u hy hu=>by
  simp only [List.getElem?_map,Option.map_eq_some_iff] at hy
  obtain ⟨c,hcj,rfl⟩:=hy
  have:=hcr.2 j c u hcj (by simpa using hu)
  exact ⟨this.one,this⟩)
 unfold Exec
 have hrun : (execOp ρ o).run P w = .ok (.value (.pointer (some ⟨w.heap.size,0,none⟩))) (w.alloc (.cells (ρ x).cells e)):=by
  simp [execOp,ho,Instr.box,newVar_run]
 rw [hrun]
 refine ⟨_,hnb.1,hnb.2,rfl,fun i hi h=>?_,w.heap.size,by simp [Mp.addBx],rfl⟩
 simp only [Mp.addBx]
 split
 ·omega
 ·exact h

end Go.Abs
