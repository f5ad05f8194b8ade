import Derived.Test.YtekigfhikikgaaaG4
namespace Go.Proofs.Ytekigfhikikgaaa
set_option linter.unusedSimpArgs false
set_option linter.unusedVariables false
open Go.Abs Go.Proofs.NatL

structure En where
 code : ByteArray
 key : Int
 val : Int
 gone : Bool
def goneE : En:=⟨ByteArray.empty,0,0,true⟩
def enC (e : En) : List C:=[.str e.code,.i .i64 e.key,.i .i64 e.val,.b e.gone]
def encR (l : List En) : List (List C):=l.map enC
def decE : List C → En
 | [.str c,.i .i64 k,.i .i64 v,.b g]=>⟨c,k,v,g⟩
 | _=>goneE
def decR (l : List (List C)) : List En:=l.map decE
theorem dec_enc (l : List En) : decR (encR l) = l:=by
 induction l with
 | nil=>rfl
 | cons e l ih=>simp only [encR,decR,List.map_cons] at ih ⊢; rw [ih]; rfl
theorem encR_len (l : List En) : (encR l).length = l.length:=by simp [encR]
theorem encR_app (l m : List En) : encR (l ++ m) = encR l ++ encR m:=by simp [encR]
theorem encR_set (l : List En) (i : Nat) (e : En) : encR (l.set i e) = (encR l).set i (enC e):=by simp [encR,List.map_set]
theorem encR_at (l : List En) (i : Nat) (h : i < l.length) : (encR l).getD i [] = enC l[i]:=by simp [encR,List.getD_eq_getElem?_getD,List.getElem?_eq_getElem h]
theorem encR_take (l : List En) (i : Nat) : encR (l.take i) = (encR l).take i:=by simp [encR]
def lv (l : List En) : List En:=l.filter fun e=>!e.gone
def cnt (l : List En) : Nat:=(lv l).length
theorem lv_app (l m : List En) : lv (l ++ m) = lv l ++ lv m:=by simp [lv]
theorem mem_lv {l : List En} {e : En} : e ∈ lv l ↔ e ∈ l ∧ e.gone = false:=by simp [lv]
theorem lv_le (l : List En) : cnt l ≤ l.length:=List.length_filter_le ..
theorem lv_lv (l : List En) : lv (lv l) = lv l:=by simp [lv]
def fIdx : List En → ByteArray → Option Nat
 | [],_=>none
 | e :: l,s=>if e.gone = false ∧ e.code = s then some 0 else (fIdx l s).map (· + 1)
def idxF (l : List En) : ByteArray → Option C:=fun s=>(fIdx l s).map fun i=>.i .i64 (i : Nat)
theorem fIdx_none {l : List En} {s : ByteArray} : fIdx l s = none ↔ ∀ e ∈ l,e.gone = false → e.code ≠ s:=by
 induction l with
 | nil=>simp [fIdx]
 | cons e l ih =>
  simp only [fIdx]
  split
  ·rename_i h
   simp only [reduceCtorEq,false_iff]
   intro hc
   exact hc e (List.mem_cons_self ..) h.1 h.2
  ·rename_i h
   rw [Option.map_eq_none_iff,ih]
   constructor
   ·intro h2 x hx hg hs
    rcases List.mem_cons.1 hx with rfl | hx
    ·exact h ⟨hg,hs⟩
    ·exact h2 x hx hg hs
   ·intro h2 x hx
    exact h2 x (List.mem_cons_of_mem _ hx)
theorem fIdx_some {l : List En} {s : ByteArray} {i : Nat} (h : fIdx l s = some i) : ∃ h : i < l.length,l[i].gone = false ∧ l[i].code = s:=by
 induction l generalizing i with
 | nil=>simp [fIdx] at h
 | cons e l ih =>
  simp only [fIdx] at h
  split at h
  ·rename_i hc
   cases h
   exact ⟨by simp,hc.1,hc.2⟩
  ·obtain ⟨j,hj,rfl⟩:=Option.map_eq_some_iff.1 h
   obtain ⟨h1,h2,h3⟩:=ih hj
   exact ⟨by simp; omega,by simpa using h2,by simpa using h3⟩
def Nd (l : List En) : Prop:=(lv l).Pairwise fun a b=>a.code ≠ b.code
theorem nd_idx {l : List En} (h : Nd l) {i j : Nat} (hi : i < l.length) (hj : j < l.length) (gi : l[i].gone = false) (gj : l[j].gone = false) (hc : l[i].code = l[j].code) : i = j:=by
 have hp : l.Pairwise fun a b=>a.gone = false → b.gone = false → a.code ≠ b.code:=by
  have:=List.pairwise_filter.1 h
  exact this.imp fun h1 ha hb=>h1 (by simp [ha]) (by simp [hb])
 rcases Nat.lt_trichotomy i j with hlt | rfl | hlt
 ·exact absurd hc (List.pairwise_iff_getElem.1 hp i j hi hj hlt gi gj)
 ·rfl
 ·exact absurd hc.symm (List.pairwise_iff_getElem.1 hp j i hj hi hlt gj gi)
theorem nd_lv {l : List En} (h : Nd l) {i j : Nat} (hi : i < (lv l).length) (hj : j < (lv l).length) (hc : (lv l)[i].code = (lv l)[j].code) : i = j:=by
 rcases Nat.lt_trichotomy i j with hlt | rfl | hlt
 ·exact absurd hc (List.pairwise_iff_getElem.1 h i j hi hj hlt)
 ·rfl
 ·exact absurd hc.symm (List.pairwise_iff_getElem.1 h j i hj hi hlt)
theorem fIdx_eq {l : List En} (h : Nd l) {i : Nat} (hi : i < l.length) (g : l[i].gone = false) : fIdx l l[i].code = some i:=by
 cases hf : fIdx l l[i].code with
 | none=>exact absurd rfl (fIdx_none.1 hf _ (List.getElem_mem hi) g)
 | some j =>
  obtain ⟨h1,h2,h3⟩:=fIdx_some hf
  rw [nd_idx h hi h1 g h2 h3.symm]
theorem fIdx_app {l m : List En} {s : ByteArray} : fIdx (l ++ m) s = match fIdx l s with | some i=>some i | none=>(fIdx m s).map (· + l.length):=by
 induction l with
 | nil=>simp [fIdx]
 | cons e l ih =>
  simp only [List.cons_append,fIdx]
  split
  ·rfl
  ·rw [ih]
   cases fIdx l s with
   | some i=>rfl
   | none =>
    simp only [Option.map_map,Option.map_none,List.length_cons]
    cases fIdx m s with
    | none=>rfl
    | some i=>simp only [Option.map_some,Function.comp]; congr 1
theorem idxF_new {l : List En} {s : ByteArray} {k v : Int} (h : fIdx l s = none) : (fun y=>if y = s then some (C.i .i64 (l.length : Nat)) else idxF l y) = idxF (l ++ [⟨s,k,v,false⟩]):=by
 funext y
 unfold idxF
 rw [fIdx_app]
 by_cases hy : y = s
 ·subst hy
  rw [if_pos rfl,h]
  simp [fIdx]
 ·rw [if_neg hy]
  cases fIdx l y with
  | some i=>rfl
  | none=>simp [fIdx,Ne.symm hy]
theorem fIdx_congr : ∀ {l m : List En} {s : ByteArray},l.map (fun e=>(e.code,e.gone)) = m.map (fun e=>(e.code,e.gone)) → fIdx l s = fIdx m s
 | [],[],_,_=>rfl
 | e :: l,[],_,h=>by simp at h
 | [],f :: m,_,h=>by simp at h
 | e :: l,f :: m,s,h=>by
  simp only [List.map_cons,List.cons.injEq,Prod.mk.injEq] at h
  obtain ⟨⟨h1,h2⟩,h3⟩:=h
  simp only [fIdx,h1,h2,fIdx_congr h3]
theorem set_codes {l : List En} {i : Nat} (hi : i < l.length) (v : Int) : (l.set i { l[i] with val:=v }).map (fun e=>(e.code,e.gone)) = l.map (fun e=>(e.code,e.gone)):=by
 apply List.ext_getElem?
 intro j
 rw [List.getElem?_map,List.getElem?_map,List.getElem?_set]
 by_cases h : i = j
 ·subst h; simp [hi]
 ·rw [if_neg h]
theorem idxF_val {l : List En} {i : Nat} (hi : i < l.length) (v : Int) : idxF (l.set i { l[i] with val:=v }) = idxF l:=by
 funext y
 unfold idxF
 rw [fIdx_congr (set_codes hi v)]
theorem lv_set {l : List En} {i : Nat} (hi : i < l.length) (e : En) : lv (l.set i e) = lv (l.take i) ++ lv [e] ++ lv (l.drop (i + 1)):=by
 rw [set_splice l i e hi,lv_app,lv_app]
theorem lv_split {l : List En} {i : Nat} (hi : i < l.length) : lv l = lv (l.take i) ++ lv [l[i]] ++ lv (l.drop (i + 1)):=by
 conv=>lhs; rw [← List.take_append_drop i l,List.drop_eq_getElem_cons hi]
 rw [lv_app,show l[i] :: l.drop (i + 1) = [l[i]] ++ l.drop (i + 1) from rfl,lv_app,List.append_assoc]
theorem lv_one {e : En} (h : e.gone = false) : lv [e] = [e]:=by simp [lv,h]
theorem lv_oneg {e : En} (h : e.gone = true) : lv [e] = []:=by simp [lv,h]
theorem nd_gone {l : List En} (h : Nd l) {i : Nat} (hi : i < l.length) : Nd (l.set i goneE):=by
 unfold Nd at h ⊢
 rw [lv_set hi,lv_oneg rfl,List.append_nil]
 rw [lv_split hi] at h
 exact h.sublist (List.Sublist.append (List.sublist_append_left ..) (List.Sublist.refl _))
theorem idxF_gone {l : List En} (h : Nd l) {i : Nat} (hi : i < l.length) (g : l[i].gone = false) : (fun y=>if y = l[i].code then none else idxF l y) = idxF (l.set i goneE):=by
 funext y
 unfold idxF
 by_cases hy : y = l[i].code
 ·rw [if_pos hy]
  symm
  rw [Option.map_eq_none_iff,fIdx_none]
  intro e he hg hc
  obtain ⟨j,hj,rfl⟩:=List.getElem_of_mem he
  rw [List.length_set] at hj
  rw [List.getElem_set] at hg hc
  split at hg
  ·cases hg
  ·rename_i hne
   rw [if_neg hne] at hc
   exact hne (nd_idx h hi hj g hg (by rw [hc,hy]))
 ·rw [if_neg hy]
  congr 1
  -- both find the same place
  cases hf : fIdx l y with
  | some j =>
   obtain ⟨hj,h2,h3⟩:=fIdx_some hf
   have hne : i ≠ j:=fun e=>by subst e; exact hy h3.symm
   have hj' : j < (l.set i goneE).length:=by rw [List.length_set]; exact hj
   have:=fIdx_eq (nd_gone h hi) hj' (by rw [List.getElem_set_ne hne]; exact h2)
   rw [List.getElem_set_ne hne,h3] at this
   exact this.symm
  | none =>
   symm
   rw [fIdx_none]
   intro e he hg hc
   obtain ⟨j,hj,rfl⟩:=List.getElem_of_mem he
   rw [List.length_set] at hj
   rw [List.getElem_set] at hg hc
   split at hg
   ·cases hg
   ·rename_i hne
    rw [if_neg hne] at hc
    exact fIdx_none.1 hf _ (List.getElem_mem hj) hg hc
theorem cnt_gone {l : List En} {i : Nat} (hi : i < l.length) (g : l[i].gone = false) : cnt (l.set i goneE) + 1 = cnt l:=by
 unfold cnt
 rw [lv_set hi,lv_split hi,lv_oneg rfl,lv_one g]
 simp only [List.length_append,List.length_nil,List.length_cons]
 omega
def reIx (l : List En) (k : Nat) : ByteArray → Option C:=fun y=>match fIdx ((lv l).take k) y with | some i=>some (.i .i64 (i : Nat)) | none=>idxF l y
theorem reIx_zero (l : List En) : reIx l 0 = idxF l:=by funext y; simp [reIx,fIdx]
theorem mem_lv_gone {l : List En} {k : Nat} (h : k < (lv l).length) : (lv l)[k].gone = false:=(mem_lv.1 (List.getElem_mem h)).2
theorem reIx_succ {l : List En} (h : Nd l) {k : Nat} (hk : k < (lv l).length) : (fun y=>if y = (lv l)[k].code then some (C.i .i64 (k : Nat)) else reIx l k y) = reIx l (k + 1):=by
 funext y
 unfold reIx
 have hl : ((lv l).take k).length = k:=by rw [List.length_take]; omega
 rw [List.take_succ_eq_append_getElem hk,fIdx_app,hl]
 have hg:=mem_lv_gone hk
 by_cases hy : y = (lv l)[k].code
 ·subst hy
  rw [if_pos rfl]
  have hn : fIdx ((lv l).take k) (lv l)[k].code = none:=by
   rw [fIdx_none]
   intro e he hge hc
   obtain ⟨j,hj,rfl⟩:=List.getElem_of_mem he
   rw [hl] at hj
   rw [List.getElem_take] at hc
   exact absurd (nd_lv h (by omega) hk hc) (by omega)
  rw [hn]
  simp [fIdx,hg]
 ·rw [if_neg hy]
  cases fIdx ((lv l).take k) y with
  | some i=>rfl
  | none=>simp [fIdx,Ne.symm hy]
theorem reIx_some {l : List En} (h : Nd l) {k : Nat} (hk : k < (lv l).length) : ∃ c,reIx l k (lv l)[k].code = some c:=by
 unfold reIx
 split
 ·exact ⟨_,rfl⟩
 ·unfold idxF
  cases hf : fIdx l (lv l)[k].code with
  | some i=>exact ⟨_,rfl⟩
  | none=>exact absurd rfl (fIdx_none.1 hf _ (mem_lv.1 (List.getElem_mem hk)).1 (mem_lv_gone hk))
theorem reIx_all {l : List En} : reIx l (lv l).length = idxF (lv l):=by
 funext y
 unfold reIx idxF
 rw [List.take_length]
 cases hf : fIdx (lv l) y with
 | some i=>rfl
 | none =>
  simp only [Option.map_none]
  rw [Option.map_eq_none_iff,fIdx_none]
  intro e he hg
  exact fIdx_none.1 hf e (mem_lv.2 ⟨he,hg⟩) hg
def half (x : Int) : Int:=shrI .i64 x 1
def cdS (k : Int) : ByteArray:=strOf (textI (half k) 10)
theorem cdS_inj {a b : Int} : cdS a = cdS b ↔ half a = half b:=by
 constructor
 ·intro h
  have h1:=congrArg bytesOf h
  unfold cdS at h1
  rw [text_bytes _ 10 (by omega) (by omega),text_bytes _ 10 (by omega) (by omega)] at h1
  have h2:=congrArg (pz 10) h1
  rw [pz_text _ 10 (by omega) (by omega),pz_text _ 10 (by omega) (by omega)] at h2
  exact Option.some.inj h2
 ·intro h; unfold cdS; rw [h]
structure TI (l : List En) : Prop where
 ok : ∀ e ∈ l,e.gone = false → e.code = cdS e.key
 nd : Nd l
 sz : l.length ≤ 2 * cnt l + 8
 cn : cnt l ≤ 1000
def dropE (l : List En) (i : Nat) : List En:=if 2 * cnt (l.set i goneE) + 8 < l.length then lv (l.set i goneE) else l.set i goneE
def putE (l : List En) (k v : Int) : List En:=match fIdx l (cdS k) with
 | some i=>l.set i ⟨cdS k,(l.getD i goneE).key,v,false⟩
 | none=>if cnt l = 1000 then l else l ++ [⟨cdS k,k,v,false⟩]
def putF (l : List En) (k : Int) : Bool:=(fIdx l (cdS k)).isNone && decide (cnt l = 1000)
def delE (l : List En) (k : Int) : List En:=match fIdx l (cdS k) with
 | some i=>dropE l i
 | none=>l
def hasE (l : List En) (k : Int) : Bool:=(fIdx l (cdS k)).isSome
def moveE (l : List En) (k : Int) : List En:=match fIdx l (cdS k) with
 | some i=>dropE l i ++ [l.getD i goneE]
 | none=>l
theorem getD_E {l : List En} {i : Nat} (h : i < l.length) : l.getD i goneE = l[i]:=by simp [List.getD_eq_getElem?_getD,List.getElem?_eq_getElem h]
theorem mem_set_lv {l : List En} {i : Nat} {e x : En} (hi : i < l.length) (h : x ∈ lv (l.set i e)) : (x = e) ∨ x ∈ lv l:=by
 obtain ⟨h1,h2⟩:=mem_lv.1 h
 rcases List.mem_or_eq_of_mem_set h1 with h3 | h3
 ·exact .inr (mem_lv.2 ⟨h3,h2⟩)
 ·exact .inl h3
theorem lv_dropE {l : List En} {i : Nat} : lv (dropE l i) = lv (l.set i goneE):=by
 unfold dropE; split
 ·exact lv_lv _
 ·rfl
theorem cnt_dropE {l : List En} {i : Nat} : cnt (dropE l i) = cnt (l.set i goneE):=by unfold cnt; rw [lv_dropE]
theorem dropE_len {l : List En} {i : Nat} : (dropE l i).length ≤ 2 * cnt (dropE l i) + 8:=by
 rw [cnt_dropE]
 unfold dropE; split
 ·show cnt _ ≤ _; omega
 ·rw [List.length_set] at *; omega
theorem dropE_ti {l : List En} (h : TI l) {i : Nat} (hi : i < l.length) (g : l[i].gone = false) : TI (dropE l i):=by
 have hc:=cnt_gone hi g
 have:=h.cn
 refine ⟨fun e he hg=>?_,?_,dropE_len,by rw [cnt_dropE]; omega⟩
 ·have : e ∈ lv (dropE l i):=mem_lv.2 ⟨he,hg⟩
  rw [lv_dropE] at this
  rcases mem_set_lv hi this with rfl | h2
  ·cases hg
  ·exact h.ok e (mem_lv.1 h2).1 hg
 ·unfold Nd
  rw [lv_dropE]
  exact nd_gone h.nd hi
end Go.Proofs.Ytekigfhikikgaaa

namespace Go.Proofs.Ytekigfhikikgaaa
set_option linter.unusedSimpArgs false
set_option linter.unusedVariables false
open Go.Abs Go.Proofs.NatL

def hasH (xs : List Int) (x : Int) : Bool:=xs.any fun y=>decide (half y = half x)
theorem hasH_iff {xs : List Int} {x : Int} : hasH xs x = true ↔ ∃ y ∈ xs,half y = half x:=by simp [hasH]
theorem hasH_f {xs : List Int} {x : Int} : hasH xs x = false ↔ ∀ y ∈ xs,half y ≠ half x:=by simp [hasH]
def kl (l : List En) : List Int:=(lv l).map (·.key)
theorem kl_len (l : List En) : (kl l).length = cnt l:=by simp [kl,cnt]
theorem code_iff {l : List En} (h : TI l) {e : En} (he : e ∈ l) (g : e.gone = false) (k : Int) : e.code = cdS k ↔ half e.key = half k:=by rw [h.ok e he g,cdS_inj]
theorem fIdx_has {l : List En} (h : TI l) (k : Int) : (fIdx l (cdS k)).isSome = hasH (kl l) k:=by
 cases hb : hasH (kl l) k with
 | true =>
  obtain ⟨y,hy,hk⟩:=hasH_iff.1 hb
  obtain ⟨e,he,rfl⟩:=List.mem_map.1 hy
  obtain ⟨h1,h2⟩:=mem_lv.1 he
  cases hf : fIdx l (cdS k) with
  | some i=>rfl
  | none=>exact absurd ((code_iff h h1 h2 k).2 hk) (fIdx_none.1 hf e h1 h2)
 | false =>
  cases hf : fIdx l (cdS k) with
  | none=>rfl
  | some i =>
   obtain ⟨hi,h2,h3⟩:=fIdx_some hf
   exact absurd ((code_iff h (List.getElem_mem hi) h2 k).1 h3) (hasH_f.1 hb _ (List.mem_map.2 ⟨_,mem_lv.2 ⟨List.getElem_mem hi,h2⟩,rfl⟩))
theorem hasE_eq {l : List En} (h : TI l) (k : Int) : hasE l k = hasH (kl l) k:=fIdx_has h k
theorem putF_eq {l : List En} (h : TI l) (k : Int) : putF l k = (!hasH (kl l) k && decide (cnt l = 1000)):=by
 rw [← fIdx_has h]; unfold putF; cases fIdx l (cdS k) <;> rfl
theorem lv_setv {l : List En} {i : Nat} (hi : i < l.length) (g : l[i].gone = false) {e : En} (ge : e.gone = false) : lv (l.set i e) = lv (l.take i) ++ [e] ++ lv (l.drop (i + 1)):=by
 rw [lv_set hi,lv_one ge]
theorem put_facts {l : List En} (h : TI l) (k v : Int) : TI (putE l k v) ∧ kl (putE l k v) = (if hasH (kl l) k = true then kl l else if cnt l = 1000 then kl l else kl l ++ [k]) ∧
  ∀ e ∈ lv (putE l k v),(e.val = v ∧ half e.key = half k) ∨ e ∈ lv l:=by
 have hs:=fIdx_has h k
 unfold putE
 cases hf : fIdx l (cdS k) with
 | some i =>
  rw [hf] at hs
  obtain ⟨hi,h2,h3⟩:=fIdx_some hf
  have hc : l[i].code = cdS l[i].key:=h.ok _ (List.getElem_mem hi) h2
  obtain ⟨E,hE⟩ : ∃ E : En,(⟨cdS k,(l.getD i goneE).key,v,false⟩ : En) = E:=⟨_,rfl⟩
  have hEg : E.gone = false:=by rw [← hE]
  have hEv : E.val = v:=by rw [← hE]
  have hEk : E.key = l[i].key:=by rw [← hE,getD_E hi]
  have hEc : E.code = l[i].code:=by rw [← hE,h3]
  have hl : ∀ e : En,e.gone = false → lv (l.set i e) = lv (l.take i) ++ [e] ++ lv (l.drop (i + 1)):=fun e g=>lv_setv hi h2 g
  have hl0:=lv_split hi
  rw [lv_one h2] at hl0
  have hlen : cnt (l.set i E) = cnt l:=by
   unfold cnt; rw [hl _ hEg,hl0]; simp
  simp only
  rw [hE]
  refine ⟨⟨fun e he g=>?_,?_,?_,?_⟩,?_,fun e he=>?_⟩
  ·rcases List.mem_or_eq_of_mem_set he with h4 | h4
   ·exact h.ok e h4 g
   ·subst h4; rw [hEc,hEk]; exact hc
  ·unfold Nd
   rw [hl _ hEg]
   have:=h.nd
   unfold Nd at this
   rw [hl0] at this
   have key : ∀ (a b : List En) (x y : En),x.code = y.code → (a ++ [x] ++ b).Pairwise (fun a b=>a.code ≠ b.code) → (a ++ [y] ++ b).Pairwise (fun a b=>a.code ≠ b.code):=by
    intro a b x y hxy hp
    simp only [List.pairwise_append,List.pairwise_cons,List.mem_cons,List.not_mem_nil,or_false,List.mem_append,List.append_assoc,List.cons_append,List.nil_append] at hp ⊢
    obtain ⟨p1,⟨p2,p3⟩,p4⟩:=hp
    refine ⟨p1,⟨fun z hz=>by rw [← hxy]; exact p2 z hz,p3⟩,fun u hu z hz=>?_⟩
    rcases hz with rfl | hz
    ·rw [← hxy]; exact p4 u hu x (.inl rfl)
    ·exact p4 u hu z (.inr hz)
   exact key _ _ _ _ hEc.symm this
  ·rw [hlen,List.length_set]; exact h.sz
  ·rw [hlen]; exact h.cn
  ·rw [if_pos (by rw [← hs]; rfl)]
   unfold kl
   rw [hl _ hEg,hl0]
   simp [hEk]
  ·rcases mem_set_lv hi he with rfl | h4
   ·exact .inl ⟨hEv,by rw [hEk]; exact (code_iff h (List.getElem_mem hi) h2 k).1 h3⟩
   ·exact .inr h4
 | none =>
  rw [hf] at hs
  have hh : hasH (kl l) k = false:=by rw [← hs]; rfl
  simp only [hh,Bool.false_eq_true,if_false]
  split
  ·exact ⟨h,rfl,fun e he=>.inr he⟩
  ·rename_i hc
   have hl : lv (l ++ [⟨cdS k,k,v,false⟩]) = lv l ++ [⟨cdS k,k,v,false⟩]:=by rw [lv_app,lv_one rfl]
   have hlen : cnt (l ++ [⟨cdS k,k,v,false⟩]) = cnt l + 1:=by unfold cnt; rw [hl]; simp
   have h1:=h.cn
   have h2:=h.sz
   refine ⟨⟨fun e he g=>?_,?_,?_,?_⟩,?_,fun e he=>?_⟩
   ·rcases List.mem_append.1 he with h4 | h4
    ·exact h.ok e h4 g
    ·simp at h4; subst h4; rfl
   ·unfold Nd
    rw [hl]
    refine List.pairwise_append.2 ⟨h.nd,List.pairwise_singleton ..,fun a ha b hb=>?_⟩
    simp at hb; subst hb
    obtain ⟨h5,h6⟩:=mem_lv.1 ha
    exact fIdx_none.1 hf a h5 h6
   ·rw [hlen]; simp only [List.length_append,List.length_cons,List.length_nil]; omega
   ·rw [hlen]; omega
   ·unfold kl; rw [hl]; simp
   ·rw [hl] at he
    rcases List.mem_append.1 he with h4 | h4
    ·exact .inr h4
    ·simp at h4; subst h4; exact .inl ⟨rfl,rfl⟩
theorem filter_code {l : List En} (h : TI l) {k : Int} {i : Nat} (hf : fIdx l (cdS k) = some i) : lv (l.set i goneE) = (lv l).filter fun e=>!decide (half e.key = half k):=by
 obtain ⟨hi,h2,h3⟩:=fIdx_some hf
 rw [lv_set hi,lv_oneg rfl,List.append_nil,lv_split hi,lv_one h2]
 have hk : half l[i].key = half k:=(code_iff h (List.getElem_mem hi) h2 k).1 h3
 have hother : ∀ e ∈ lv (l.take i) ++ lv (l.drop (i + 1)),(!decide (half e.key = half k)) = true:=by
  intro e he
  simp only [Bool.not_eq_true',decide_eq_false_iff_not]
  intro hke
  have hn:=h.nd
  unfold Nd at hn
  rw [lv_split hi,lv_one h2] at hn
  simp only [List.pairwise_append,List.pairwise_cons,List.mem_cons,List.not_mem_nil,or_false,List.append_assoc,List.cons_append,List.nil_append] at hn
  obtain ⟨p1,⟨p2,p3⟩,p4⟩:=hn
  rcases List.mem_append.1 he with h5 | h5
  ·obtain ⟨h6,h7⟩:=mem_lv.1 h5
   exact p4 e h5 l[i] (.inl rfl) (by rw [h3]; exact (code_iff h (List.mem_of_mem_take h6) h7 k).2 hke)
  ·obtain ⟨h6,h7⟩:=mem_lv.1 h5
   exact p2 e h5 (by rw [h3]; exact ((code_iff h (List.mem_of_mem_drop h6) h7 k).2 hke).symm)
 have hself : (!decide (half l[i].key = half k)) = false:=by simp [hk]
 rw [List.filter_append,List.filter_append,List.filter_cons,hself,List.filter_nil,List.filter_eq_self.2 (fun e he=>hother e (List.mem_append_left _ he)),List.filter_eq_self.2 (fun e he=>hother e (List.mem_append_right _ he))]
 simp
theorem filter_all {l : List En} (h : TI l) {k : Int} (hf : fIdx l (cdS k) = none) : (lv l).filter (fun e=>!decide (half e.key = half k)) = lv l:=by
 apply List.filter_eq_self.2
 intro e he
 obtain ⟨h1,h2⟩:=mem_lv.1 he
 simp only [Bool.not_eq_true',decide_eq_false_iff_not]
 intro hk
 exact fIdx_none.1 hf e h1 h2 ((code_iff h h1 h2 k).2 hk)
theorem del_facts {l : List En} (h : TI l) (k : Int) : TI (delE l k) ∧ lv (delE l k) = (lv l).filter fun e=>!decide (half e.key = half k):=by
 unfold delE
 cases hf : fIdx l (cdS k) with
 | some i =>
  obtain ⟨hi,h2,h3⟩:=fIdx_some hf
  exact ⟨dropE_ti h hi h2,by rw [lv_dropE]; exact filter_code h hf⟩
 | none=>exact ⟨h,(filter_all h hf).symm⟩
theorem move_facts {l : List En} (h : TI l) (k : Int) (hk : hasH (kl l) k = true) : ∃ e ∈ lv l,half e.key = half k ∧ TI (moveE l k) ∧ lv (moveE l k) = ((lv l).filter fun e=>!decide (half e.key = half k)) ++ [e]:=by
 have hs:=fIdx_has h k
 unfold moveE
 cases hf : fIdx l (cdS k) with
 | none=>rw [hf,hk] at hs; cases hs
 | some i =>
  obtain ⟨hi,h2,h3⟩:=fIdx_some hf
  have hm : l[i] ∈ lv l:=mem_lv.2 ⟨List.getElem_mem hi,h2⟩
  have hhk:=(code_iff h (List.getElem_mem hi) h2 k).1 h3
  have hti:=dropE_ti h hi h2
  have hcc:=cnt_gone hi h2
  have hlv : lv (dropE l i) = (lv l).filter fun e=>!decide (half e.key = half k):=by rw [lv_dropE]; exact filter_code h hf
  refine ⟨l[i],hm,hhk,?_,?_⟩
  ·simp only [getD_E hi]
   have hl : lv (dropE l i ++ [l[i]]) = lv (dropE l i) ++ [l[i]]:=by rw [lv_app,lv_one h2]
   have hlen : cnt (dropE l i ++ [l[i]]) = cnt (dropE l i) + 1:=by unfold cnt; rw [hl]; simp
   have h5:=hti.sz
   have h6:=cnt_dropE (l:=l) (i:=i)
   have h7:=h.cn
   refine ⟨fun e he g=>?_,?_,?_,?_⟩
   ·rcases List.mem_append.1 he with h4 | h4
    ·exact hti.ok e h4 g
    ·simp at h4; subst h4; exact h.ok _ (List.getElem_mem hi) h2
   ·unfold Nd
    rw [hl]
    refine List.pairwise_append.2 ⟨hti.nd,List.pairwise_singleton ..,fun a ha b hb=>?_⟩
    simp at hb; subst hb
    rw [hlv,List.mem_filter] at ha
    simp only [Bool.not_eq_true',decide_eq_false_iff_not] at ha
    obtain ⟨h8,h9⟩:=mem_lv.1 ha.1
    rw [h3]
    intro hc
    exact ha.2 ((code_iff h h8 h9 k).1 hc)
   ·rw [hlen]; simp only [List.length_append,List.length_cons,List.length_nil]; omega
   ·rw [hlen]; omega
  ·simp only [getD_E hi]
   rw [lv_app,lv_one h2,hlv]
theorem nil_ti : TI []:=⟨fun _ h=>by simp at h,List.Pairwise.nil,by simp,by simp [cnt,lv]⟩
def plF : List En → Nat → Option Nat
 | [],_=>none
 | e :: l,k=>if e.gone = true then (plF l k).map (· + 1) else match k with
  | 0=>some 0
  | k + 1=>(plF l k).map (· + 1)
theorem plF_some {l : List En} {k : Nat} (h : k < cnt l) : ∃ i,∃ hi : i < l.length,plF l k = some i ∧ (lv l)[k]? = some l[i] ∧ cnt (l.take i) = k:=by
 induction l generalizing k with
 | nil=>simp [cnt,lv] at h
 | cons e l ih =>
  simp only [plF]
  by_cases g : e.gone = true
  ·have hl : lv (e :: l) = lv l:=by simp [lv,g]
   rw [if_pos g]
   unfold cnt at h
   simp only [hl] at h ⊢
   obtain ⟨i,hi,h1,h2,h3⟩:=ih h
   refine ⟨i + 1,by simp; omega,by rw [h1]; rfl,by simpa using h2,?_⟩
   unfold cnt at h3 ⊢
   simp only [List.take_succ_cons]
   simp only [lv,List.filter_cons,g,Bool.not_true,Bool.false_eq_true,if_false]
   exact h3
  ·have g2 : e.gone = false:=by simpa using g
   have hl : lv (e :: l) = e :: lv l:=by simp [lv,g2]
   rw [if_neg g]
   unfold cnt at h
   simp only [hl] at h ⊢
   cases k with
   | zero=>exact ⟨0,by simp,rfl,rfl,by simp [cnt,lv]⟩
   | succ k =>
    obtain ⟨i,hi,h1,h2,h3⟩:=ih (k:=k) (by simp only [List.length_cons] at h; unfold cnt; omega)
    refine ⟨i + 1,by simp; omega,by simp only [h1]; rfl,by simpa using h2,?_⟩
    unfold cnt at h3 ⊢
    simp only [List.take_succ_cons]
    simp only [lv,List.filter_cons,g2,Bool.not_false,if_true,List.length_cons]
    exact congrArg (· + 1) h3
theorem pos_facts {l : List En} {i : Nat} (hi : i < l.length) (g : l[i].gone = false) : ∃ h : cnt (l.take i) < (lv l).length,(lv l)[cnt (l.take i)] = l[i]:=by
 have h0:=lv_split hi
 rw [lv_one g] at h0
 unfold cnt
 have hlt : (lv (l.take i)).length < (lv l).length:=by rw [h0]; simp
 refine ⟨hlt,?_⟩
 have : (lv l)[(lv (l.take i)).length]? = some l[i]:=by rw [h0]; simp
 rw [List.getElem?_eq_getElem hlt] at this
 exact Option.some.inj this
end Go.Proofs.Ytekigfhikikgaaa

namespace Go.Proofs.NatL
set_option linter.unusedSimpArgs false
set_option linter.unusedVariables false

theorem B2_nil : B2 [] = 0:=rfl
theorem tdiv2_abs (z : Int) : (z.tdiv 2).natAbs = z.natAbs / 2:=by rw [Int.natAbs_tdiv]; rfl
theorem tmod2_ne (z : Int) : decide (¬ z.tmod 2 = 0) = decide (z.natAbs % 2 = 1):=by
 have h1 : (z.tmod 2).natAbs = z.natAbs % 2:=by rw [Int.natAbs_tmod]; rfl
 congr 1
 exact propext ⟨fun h=>by omega,fun h=>by omega⟩

end Go.Proofs.NatL

namespace Go.Proofs.Ytekigfhikikgaaa
set_option linter.unusedSimpArgs false
set_option linter.unusedVariables false
open Go.Proofs.NatL

structure BitOp (op : Nat → Nat → Nat) : Prop where
 lt : ∀ k x y,x < 2 ^ k → y < 2 ^ k → op x y < 2 ^ k
 split : ∀ k x y s t,x < 2 ^ k → y < 2 ^ k → op (x + 2 ^ k * s) (y + 2 ^ k * t) = op x y + 2 ^ k * op s t

theorem BitOp.zero {op : Nat → Nat → Nat} (h : BitOp op) : op 0 0 = 0:=by
 have:=h.split 0 0 0 0 0 (by simp) (by simp)
 simp at this; omega

def lo (k : Nat) (a : Int) : Nat:=(a % ((2 ^ k : Nat) : Int)).toNat
def FitK (k : Nat) (a : Int) : Prop := -((2 ^ k : Nat) : Int) ≤ a ∧ a < ((2 ^ k : Nat) : Int)
theorem FitK.mono {k m : Nat} {a : Int} (h : FitK k a) (hm : k ≤ m) : FitK m a:=by
 have:=Nat.pow_le_pow_right (n:=2) (by omega) hm
 unfold FitK at *; omega
end Go.Proofs.Ytekigfhikikgaaa

namespace Go.Proofs.Ytekigfhikikgaaa
set_option linter.unusedSimpArgs false
set_option linter.unusedVariables false
open Go.Proofs.NatL

def pm (a : Int) (e : Nat) (m : Int) : Int:=(a ^ e) % m
end Go.Proofs.Ytekigfhikikgaaa

namespace Go.Abs
set_option linter.unusedSimpArgs false
set_option linter.unusedVariables false
variable {P : Program}
end Go.Abs
namespace Go.Proofs.Ytekigfhikikgaaa
set_option linter.unusedSimpArgs false
set_option linter.unusedVariables false
open Go.Proofs.NatL

def bits (n v : Nat) : List Bool:=(List.range n).map fun i=>v.testBit i
end Go.Proofs.Ytekigfhikikgaaa

namespace Go.Proofs.Ytekigfhikikgaaa
set_option linter.unusedSimpArgs false
set_option linter.unusedVariables false
open Go.Abs Go.Proofs.NatL

def Nrm (s : Bool) (xs : List Int) : Prop:=InB 4294967296 xs ∧ Trd xs ∧ (xs = [] → s = false)
theorem Nrm_g (z : Int) : Nrm (decide (z < 0)) (dg 4294967296 z.natAbs) = True:=by
 refine eq_true ⟨InB_dg _ (by omega) _,dg_trd _ (by omega) _,fun h=>?_⟩
 have:=dg_len_pos 4294967296 z.natAbs (by omega)
 rw [h] at this
 simp only [List.length_nil,Nat.lt_irrefl,false_iff] at this
 exact decide_eq_false (by omega)
theorem Nrm_0 : Nrm false [] = True:=eq_true ⟨InB_nil _,.inl rfl,fun _=>rfl⟩
abbrev gR (z : Int) : List C:=[.b (decide (z < 0)),.ints .i64 (dg 65536 z.natAbs)]
abbrev nR : Option C ⊕ List (Option C):=.inr [none,some (.ints .i64 [])]

attribute [go_sem] Nrm_g Nrm_0 gR
end Go.Proofs.Ytekigfhikikgaaa

namespace Go.Proofs.Ytekigfhikikgaaa
set_option linter.unusedSimpArgs false
set_option linter.unusedVariables false
open Go.Abs Go.Proofs.NatL

attribute [go_sem] sv32 sv65 svz65
def jb4 : Cfg:=listT [(33,binaryCT)] [28]
theorem jb4_ok : TblOk Try.prog jb4:=listE_ok (by simp only [List.mem_singleton,forall_eq]; exact flt) ⟨⟨nt9,nt9_ok,rfl⟩,trivial⟩
attribute [go_sem] jb4
set_option maxHeartbeats 1600000 in
theorem number_ret (n : Int) (hn : -9223372036854775808 ≤ n ∧ n ≤ 9223372036854775807) : Ret Try.prog 20 false [.inl (.i .i64 n)] (.g (gR n)):=by
 (refine q_H Try.func20 (fun F=>?_); simp only [q_z,q_y,Try.ntmps20,Try.results20])
 repeat' (first|with_reducible refine q_0 ?_|((with_reducible first|refine q_q jb4_ok fun K hK=>?_|refine q_r jb4_ok fun K hK=>?_);simp (maxSteps:=2000000) only [go_sem,↓reduceIte,reduceCtorEq,Nat.reduceLeDiff,Nat.reduceLT,Nat.reduceBEq,Nat.reduceAdd];(repeat1' with_reducible first|apply And.intro|(intro _;try exact q_v)|(refine hK _ ?_;clear hK K))<;>(try (clear hK K;exact q_u)))|(with_reducible refine q_s ?_;(first|apply q_J|apply q_K|apply q_L|apply q_M|apply q_N|apply q_O)<;>try (intro _;try exact q_v)))
 refine q_G (ι:={ p : Int × List Bool // p.1.natAbs ≤ n.natAbs ∧ p.2.length ≤ 64 ∧ B2 p.2 + 2 ^ p.2.length * p.1.natAbs = n.natAbs }) (fun p=>⟨21,[(0,.c (.i .i64 p.1.1)),(2,.bx 0 0),(3,.own 1 0),(4,.c (.b (decide (n < 0))))],⟨[(0,[.c (.b false),.c .nil])],[(1,⟨0,4,1,.bools p.1.2⟩)],[]⟩,2⟩) (fun p=>p.1.1.natAbs) ⟨(n,[]),Nat.le_refl _,by simp,by simp [B2_nil]⟩ ?_ ?_
 ·exact q_D
 rintro ⟨⟨z,l⟩,g1,g2,g3⟩
 simp only at g1 g2 g3 ⊢
 have a1:=tdiv2_abs z
 have a2:=tmod2_ne z
 have b3:=bit_step l l.length z.natAbs n.natAbs rfl g3
 have hlen : z ≠ 0 → l.length + 1 ≤ 64:=fun h=>by
  rcases Nat.lt_or_ge l.length 64 with h1 | h1
  ·omega
  ·have h2 : 2 ^ 64 * 1 ≤ 2 ^ l.length * z.natAbs:=Nat.mul_le_mul (Nat.pow_le_pow_right (by omega) h1) (by omega)
   have h3 : (2 : Nat) ^ 64 = 18446744073709551616:=rfl
   omega
 by_cases hz : z = 0
 ·subst hz
  have e : B2 l = n.natAbs:=by simpa using g3
  repeat' (first|with_reducible refine q_0 ?_|((with_reducible first|refine q_q jb4_ok fun K hK=>?_|refine q_r jb4_ok fun K hK=>?_);simp (maxSteps:=2000000) only [go_sem,↓reduceIte,reduceCtorEq,Nat.reduceLeDiff,Nat.reduceLT,Nat.reduceBEq,Nat.reduceAdd,e];(repeat1' with_reducible first|apply And.intro|(intro _;try exact q_v)|(refine hK _ ?_;clear hK K))<;>(try (clear hK K;exact q_u)))|(with_reducible refine q_s ?_;(first|apply q_J|apply q_K|apply q_L|apply q_M|apply q_N|apply q_O)<;>try (intro _;try exact q_v)))
  exact q_A rfl
 ·have hl2:=hlen hz
  have hlt : (z.tdiv 2).natAbs < z.natAbs:=by rw [a1]; omega
  have hb : -9223372036854775808 ≤ z.tdiv 2 ∧ z.tdiv 2 ≤ 9223372036854775807:=by omega
  have hnn : ¬ z = 0:=hz
  repeat' (first|with_reducible refine q_0 ?_|((with_reducible first|refine q_q jb4_ok fun K hK=>?_|refine q_r jb4_ok fun K hK=>?_);simp (maxSteps:=2000000) only [go_sem,↓reduceIte,reduceCtorEq,Nat.reduceLeDiff,Nat.reduceLT,Nat.reduceBEq,Nat.reduceAdd,a2];(repeat1' with_reducible first|apply And.intro|(intro _;try exact q_v)|(refine hK _ ?_;clear hK K))<;>(try (clear hK K;exact q_u)))|(with_reducible refine q_s ?_;(first|apply q_J|apply q_K|apply q_L|apply q_M|apply q_N|apply q_O)<;>try (intro _;try exact q_v)))
  all_goals first | omega | skip
  refine q_F ⟨(z.tdiv 2,l ++ [decide (z.natAbs % 2 = 1)]),by simp only; omega,by simp; omega,?_⟩ ?_ (by simp only; omega)
  ·simp only [List.length_append,List.length_cons,List.length_nil,Nat.zero_add,a1]; exact b3
  ·exact q_D
def numberCT : CT:=mkCT [] false fun l K=>match l with
 | [.inl (.i .i64 n)]=>(-9223372036854775808 ≤ n ∧ n ≤ 9223372036854775807) ∧ K (.g (gR n))
 | _=>False
def jt7 : Cfg:=addT 20 numberCT cf0
theorem jt7_ok : TblOk Try.prog jt7:=q_I cf0_ok Try.func20 fun l K h=>by
 split at h
 ·exact ⟨_,number_ret _ h.1,h.2⟩
 ·exact h.elim

attribute [go_sem] numberCT
end Go.Proofs.Ytekigfhikikgaaa

namespace Go.Proofs.Ytekigfhikikgaaa
set_option linter.unusedSimpArgs false
set_option linter.unusedVariables false
open Go.Abs Go.Proofs.NatL

theorem sv_ys {s : Bool} {ys : List Int} (h1 : InB 65536 ys) (h2 : Trd ys) : ys = dg 65536 (V 65536 ys) ∧ sv 65536 s ys = sg s (V 65536 ys):=by
 have e:=dg_V 65536 (by omega) ys h1 h2
 exact ⟨e.symm,by rw [← sv_d (B:=65536) (by omega),e]⟩
end Go.Proofs.Ytekigfhikikgaaa

namespace Go.Proofs.Ytekigfhikikgaaa
set_option linter.unusedSimpArgs false
set_option linter.unusedVariables false
open Go.Abs Go.Proofs.NatL

theorem lit_minus : bytesOf { data:=#[45] } = [45]:=rfl
def jxa : Cfg:=listT [(32,figCT)] [28]
theorem jxa_ok : TblOk Try.prog jxa:=listE_ok (by simp only [List.mem_singleton,forall_eq]; exact flt) ⟨⟨nt11,nt11_ok,rfl⟩,trivial⟩
attribute [go_sem] jxa
set_option maxRecDepth 100000 in
set_option maxHeartbeats 3200000 in
theorem textOf_true (m b : Nat) (h1 : 2 ≤ b) (h2 : b ≤ 36) (lm : (dg 65536 m).length ≤ 65536) :
  Ret Try.prog 19 false [.inr [.b true,.ints .i64 (dg 65536 m)],.inl (.i .i64 b)] (.c (.str (strOf (textI (sg true m) b)))):=by
 have hp:=dg_len_pos b m h1
 have din : InB b (dg b m).reverse:=fun z hz=>InB_dg b h1 _ z (List.mem_reverse.1 hz)
 have lit:=lit_full
 have llen:=digB_len 36
 have hbn : (dg b m).length ≤ 1048576:=by
  obtain ⟨e,he⟩ : ∃ e : Nat,e = 65536:=⟨_,rfl⟩
  have:=lt_of_len (B:=65536) (a:=m) (k:=e) (by omega) (by omega)
  rw [show (65536 : Nat) = 2 ^ 16 from rfl,← Nat.pow_mul] at this
  exact Nat.le_trans (dg_len_two b m h1 (16 * e) this) (by omega)
 by_cases hm : m = 0
 ·subst hm
  have e : strOf (textI (sg true 0) b) = { data:=#[48] }:=by cases b <;> rfl
  have e2 : (dg b 0).reverse = []:=by rw [dg_zero]; rfl
  rw [e]
  (refine q_H Try.func19 (fun F=>?_); simp only [q_z,q_y,Try.ntmps19,Try.results19])
  repeat' (first|with_reducible refine q_0 ?_|((with_reducible first|refine q_q jxa_ok fun K hK=>?_|refine q_r jxa_ok fun K hK=>?_);simp (maxSteps:=2000000) only [go_sem,↓reduceIte,reduceCtorEq,Nat.reduceLeDiff,Nat.reduceLT,Nat.reduceBEq,Nat.reduceAdd,V65,e2];(repeat1' with_reducible first|apply And.intro|(intro _;try exact q_v)|(refine hK _ ?_;clear hK K))<;>(try (clear hK K;exact q_u)))|(with_reducible refine q_s ?_;(first|apply q_J|apply q_K|apply q_L|apply q_M|apply q_N|apply q_O)<;>try (intro _;try exact q_v)))
  exact q_A rfl
 have hpos:=hp.2 (by omega)
 have hz : sg true m ≠ 0:=by simp only [sgt,sgf]; omega
 have ht : textI (sg true m) b = [45] ++ (dg b m).reverse.map chr:=by
  have e1 : (sg true m).natAbs = m:=by simp only [sgt,sgf]; omega
  unfold textI
  rw [if_neg hz,e1]
  first
   | rw [if_pos (show sg true m < 0 by rw [sgt]; omega)]
   | rw [if_neg (show ¬ sg true m < 0 by rw [sgf]; omega)]
 rw [← List.length_reverse] at hbn hpos
 rw [ht]
 generalize hds : (dg b m).reverse = ds at *
 (refine q_H Try.func19 (fun F=>?_); simp only [q_z,q_y,Try.ntmps19,Try.results19])
 repeat' (first|with_reducible refine q_0 ?_|((with_reducible first|refine q_q (cvT_ok jxa_ok) fun K hK=>?_|refine q_r (cvT_ok jxa_ok) fun K hK=>?_);simp (maxSteps:=2000000) only [go_sem,↓reduceIte,reduceCtorEq,Nat.reduceLeDiff,Nat.reduceLT,Nat.reduceBEq,Nat.reduceAdd,V65,hds,str_size,lit_minus,lit_none,ml0,ml1];(repeat1' with_reducible first|apply And.intro|(intro _;try exact q_v)|(refine hK _ ?_;clear hK K))<;>(try (clear hK K;exact q_u)))|(with_reducible refine q_s ?_;(first|apply q_J|apply q_K|apply q_L|apply q_M|apply q_N|apply q_O)<;>try (intro _;try exact q_v)))
 refine q_G (ι:={ i : Nat // i ≤ ds.length }) (fun i=>⟨36,[(5,.c (.ints .i64 ds)),(7,.own 1 0),(8,.c (.i .i64 (i.1 : Nat)))],⟨[],[(1,⟨0,5,1,.ints .u8 ([45] ++ (ds.take i.1).map chr)⟩)],[]⟩,2⟩) (fun i=>ds.length - i.1) ⟨0,by omega⟩ ?_ ?_
 ·exact q_D
 rintro ⟨i,g1⟩
 simp only at g1 ⊢
 have b1:=InB_getD (by omega) din i
 have hml : ((ds.take i).map chr).length = i:=by simp; omega
 rcases Nat.lt_or_ge i ds.length with hi | hi
 ·have hm:=map_snoc chr ds i hi
  obtain ⟨d,hd⟩ : ∃ d : Nat,ds.getD i 0 = d:=⟨_,(Int.toNat_of_nonneg b1.1).symm⟩
  have hat:=digB_at 36 d (by omega)
  repeat' (first|with_reducible refine q_0 ?_|((with_reducible first|refine q_q jxa_ok fun K hK=>?_|refine q_r jxa_ok fun K hK=>?_);simp (maxSteps:=2000000) only [go_sem,↓reduceIte,reduceCtorEq,Nat.reduceLeDiff,Nat.reduceLT,Nat.reduceBEq,Nat.reduceAdd,hml,hd,toNat_one,str_size,str_at,lit,llen,hat];(repeat1' with_reducible first|apply And.intro|(intro _;try exact q_v)|(refine hK _ ?_;clear hK K))<;>(try (clear hK K;exact q_u)))|(with_reducible refine q_s ?_;(first|apply q_J|apply q_K|apply q_L|apply q_M|apply q_N|apply q_O)<;>try (intro _;try exact q_v)))
  refine q_F ⟨i + 1,hi⟩ ?_ (by simp only; omega)
  simp only [hm,hd]
  exact q_D
 ·have hi' : i = ds.length:=by omega
  subst hi'
  rw [List.take_length]
  repeat' (first|with_reducible refine q_0 ?_|((with_reducible first|refine q_q jxa_ok fun K hK=>?_|refine q_r jxa_ok fun K hK=>?_);simp (maxSteps:=2000000) only [go_sem,↓reduceIte,reduceCtorEq,Nat.reduceLeDiff,Nat.reduceLT,Nat.reduceBEq,Nat.reduceAdd];(repeat1' with_reducible first|apply And.intro|(intro _;try exact q_v)|(refine hK _ ?_;clear hK K))<;>(try (clear hK K;exact q_u)))|(with_reducible refine q_s ?_;(first|apply q_J|apply q_K|apply q_L|apply q_M|apply q_N|apply q_O)<;>try (intro _;try exact q_v)))
  exact q_A rfl
set_option maxRecDepth 100000 in
set_option maxHeartbeats 3200000 in
theorem textOf_false (m b : Nat) (h1 : 2 ≤ b) (h2 : b ≤ 36) (lm : (dg 65536 m).length ≤ 65536) :
  Ret Try.prog 19 false [.inr [.b false,.ints .i64 (dg 65536 m)],.inl (.i .i64 b)] (.c (.str (strOf (textI (sg false m) b)))):=by
 have hp:=dg_len_pos b m h1
 have din : InB b (dg b m).reverse:=fun z hz=>InB_dg b h1 _ z (List.mem_reverse.1 hz)
 have lit:=lit_full
 have llen:=digB_len 36
 have hbn : (dg b m).length ≤ 1048576:=by
  obtain ⟨e,he⟩ : ∃ e : Nat,e = 65536:=⟨_,rfl⟩
  have:=lt_of_len (B:=65536) (a:=m) (k:=e) (by omega) (by omega)
  rw [show (65536 : Nat) = 2 ^ 16 from rfl,← Nat.pow_mul] at this
  exact Nat.le_trans (dg_len_two b m h1 (16 * e) this) (by omega)
 by_cases hm : m = 0
 ·subst hm
  have e : strOf (textI (sg false 0) b) = { data:=#[48] }:=by cases b <;> rfl
  have e2 : (dg b 0).reverse = []:=by rw [dg_zero]; rfl
  rw [e]
  (refine q_H Try.func19 (fun F=>?_); simp only [q_z,q_y,Try.ntmps19,Try.results19])
  repeat' (first|with_reducible refine q_0 ?_|((with_reducible first|refine q_q jxa_ok fun K hK=>?_|refine q_r jxa_ok fun K hK=>?_);simp (maxSteps:=2000000) only [go_sem,↓reduceIte,reduceCtorEq,Nat.reduceLeDiff,Nat.reduceLT,Nat.reduceBEq,Nat.reduceAdd,V65,e2];(repeat1' with_reducible first|apply And.intro|(intro _;try exact q_v)|(refine hK _ ?_;clear hK K))<;>(try (clear hK K;exact q_u)))|(with_reducible refine q_s ?_;(first|apply q_J|apply q_K|apply q_L|apply q_M|apply q_N|apply q_O)<;>try (intro _;try exact q_v)))
  exact q_A rfl
 have hpos:=hp.2 (by omega)
 have hz : sg false m ≠ 0:=by simp only [sgt,sgf]; omega
 have ht : textI (sg false m) b = ([] : List Int) ++ (dg b m).reverse.map chr:=by
  have e1 : (sg false m).natAbs = m:=by simp only [sgt,sgf]; omega
  unfold textI
  rw [if_neg hz,e1]
  first
   | rw [if_pos (show sg false m < 0 by rw [sgt]; omega)]
   | rw [if_neg (show ¬ sg false m < 0 by rw [sgf]; omega)]
 rw [← List.length_reverse] at hbn hpos
 rw [ht]
 generalize hds : (dg b m).reverse = ds at *
 (refine q_H Try.func19 (fun F=>?_); simp only [q_z,q_y,Try.ntmps19,Try.results19])
 repeat' (first|with_reducible refine q_0 ?_|((with_reducible first|refine q_q (cvT_ok jxa_ok) fun K hK=>?_|refine q_r (cvT_ok jxa_ok) fun K hK=>?_);simp (maxSteps:=2000000) only [go_sem,↓reduceIte,reduceCtorEq,Nat.reduceLeDiff,Nat.reduceLT,Nat.reduceBEq,Nat.reduceAdd,V65,hds,str_size,lit_minus,lit_none,ml0,ml1];(repeat1' with_reducible first|apply And.intro|(intro _;try exact q_v)|(refine hK _ ?_;clear hK K))<;>(try (clear hK K;exact q_u)))|(with_reducible refine q_s ?_;(first|apply q_J|apply q_K|apply q_L|apply q_M|apply q_N|apply q_O)<;>try (intro _;try exact q_v)))
 refine q_G (ι:={ i : Nat // i ≤ ds.length }) (fun i=>⟨36,[(5,.c (.ints .i64 ds)),(7,.own 1 0),(8,.c (.i .i64 (i.1 : Nat)))],⟨[],[(1,⟨0,5,1,.ints .u8 (([] : List Int) ++ (ds.take i.1).map chr)⟩)],[]⟩,2⟩) (fun i=>ds.length - i.1) ⟨0,by omega⟩ ?_ ?_
 ·exact q_D
 rintro ⟨i,g1⟩
 simp only at g1 ⊢
 have b1:=InB_getD (by omega) din i
 have hml : ((ds.take i).map chr).length = i:=by simp; omega
 rcases Nat.lt_or_ge i ds.length with hi | hi
 ·have hm:=map_snoc chr ds i hi
  obtain ⟨d,hd⟩ : ∃ d : Nat,ds.getD i 0 = d:=⟨_,(Int.toNat_of_nonneg b1.1).symm⟩
  have hat:=digB_at 36 d (by omega)
  repeat' (first|with_reducible refine q_0 ?_|((with_reducible first|refine q_q jxa_ok fun K hK=>?_|refine q_r jxa_ok fun K hK=>?_);simp (maxSteps:=2000000) only [go_sem,↓reduceIte,reduceCtorEq,Nat.reduceLeDiff,Nat.reduceLT,Nat.reduceBEq,Nat.reduceAdd,hml,hd,toNat_one,str_size,str_at,lit,llen,hat];(repeat1' with_reducible first|apply And.intro|(intro _;try exact q_v)|(refine hK _ ?_;clear hK K))<;>(try (clear hK K;exact q_u)))|(with_reducible refine q_s ?_;(first|apply q_J|apply q_K|apply q_L|apply q_M|apply q_N|apply q_O)<;>try (intro _;try exact q_v)))
  refine q_F ⟨i + 1,hi⟩ ?_ (by simp only; omega)
  simp only [hm,hd]
  exact q_D
 ·have hi' : i = ds.length:=by omega
  subst hi'
  rw [List.take_length]
  repeat' (first|with_reducible refine q_0 ?_|((with_reducible first|refine q_q jxa_ok fun K hK=>?_|refine q_r jxa_ok fun K hK=>?_);simp (maxSteps:=2000000) only [go_sem,↓reduceIte,reduceCtorEq,Nat.reduceLeDiff,Nat.reduceLT,Nat.reduceBEq,Nat.reduceAdd];(repeat1' with_reducible first|apply And.intro|(intro _;try exact q_v)|(refine hK _ ?_;clear hK K))<;>(try (clear hK K;exact q_u)))|(with_reducible refine q_s ?_;(first|apply q_J|apply q_K|apply q_L|apply q_M|apply q_N|apply q_O)<;>try (intro _;try exact q_v)))
  exact q_A rfl
def textOfCT : CT:=mkCT [nR] true fun l K=>match l with
 | [.inr [.b s,.ints .i64 ys],.inl (.i .i64 b)]=>(InB 65536 ys ∧ Trd ys ∧ ys.length ≤ 65536 ∧ 2 ≤ b ∧ b ≤ 36) ∧ K (.c (.str (strOf (textI (sv 65536 s ys) b.toNat))))
 | _=>False
def jx1 : Cfg:=addT 19 textOfCT nt12
theorem jx1_ok : TblOk Try.prog jx1:=q_I nt12_ok Try.func19 fun l K h=>by
 split at h
 ·rename_i s ys b
  obtain ⟨⟨h1,h2,h3,h4,h5⟩,h⟩:=h
  obtain ⟨e1,e2⟩:=sv_ys (s:=s) h1 h2
  obtain ⟨n,rfl⟩ : ∃ n : Nat,b = n:=⟨b.toNat,by omega⟩
  rw [e2,Int.toNat_natCast] at h
  refine ⟨_,Ret.plain ?_ rfl,h⟩
  rw [e1] at h3 ⊢
  rw [V65]
  cases s
  ·exact textOf_false _ n (by omega) (by omega) h3
  ·exact textOf_true _ n (by omega) (by omega) h3
 ·exact h.elim
attribute [go_sem] textOfCT
end Go.Proofs.Ytekigfhikikgaaa

namespace Go.Abs
set_option linter.unusedSimpArgs false
set_option linter.unusedVariables false
open Go.RowKit
variable {P : Program}

def swp : List (Nat × Nat) → Nat → Nat
 | [],i=>i
 | (a,b) :: l,i=>if i == a then b else if i == b then a else swp l i
def swFresh (x : Nat) : List (Nat × Nat) → Bool
 | []=>true
 | (a,b) :: l=>!(a == x) && !(b == x) && swFresh x l
def swOk : List (Nat × Nat) → Bool
 | []=>true
 | (a,b) :: l=>!(a == b) && swFresh a l && swFresh b l && swOk l
def swLt (n : Nat) : List (Nat × Nat) → Bool
 | []=>true
 | (a,b) :: l=>decide (a < n) && decide (b < n) && swLt n l
theorem swp_fresh {x i : Nat} : ∀ {l : List (Nat × Nat)},swFresh x l = true → i ≠ x → swp l i ≠ x
 | [],_,h=>h
 | (a,b) :: l,hf,h=>by
  simp only [swFresh,Bool.and_eq_true,Bool.not_eq_true',beq_eq_false_iff_ne] at hf
  unfold swp
  split
  ·exact hf.1.2
  ·split
   ·exact hf.1.1
   ·exact swp_fresh hf.2 h
theorem swp_swp : ∀ {l : List (Nat × Nat)},swOk l = true → ∀ i,swp l (swp l i) = i
 | [],_,i=>rfl
 | (a,b) :: l,h,i=>by
  simp only [swOk,Bool.and_eq_true,Bool.not_eq_true',beq_eq_false_iff_ne] at h
  obtain ⟨⟨⟨h1,h2⟩,h3⟩,h4⟩:=h
  by_cases ha : i = a
  ·subst ha
   have e : swp ((i,b) :: l) i = b:=by simp [swp]
   rw [e]
   have hb : (b == i) = false:=by simp; omega
   simp [swp,hb]
  ·by_cases hb : i = b
   ·subst hb
    have hia : (i == a) = false:=by simp; omega
    have e : swp ((a,i) :: l) i = a:=by simp [swp,hia]
    rw [e]; simp [swp]
   ·have e : swp ((a,b) :: l) i = swp l i:=by simp [swp,ha,hb]
    rw [e]
    have n1:=swp_fresh h2 ha
    have n2:=swp_fresh h3 hb
    have e2 : swp ((a,b) :: l) (swp l i) = swp l (swp l i):=by simp [swp,n1,n2]
    rw [e2]
    exact swp_swp h4 i
theorem swp_lt {n : Nat} : ∀ {l : List (Nat × Nat)},swLt n l = true → ∀ i,n ≤ i → swp l i = i
 | [],_,i,_=>rfl
 | (a,b) :: l,h,i,hi=>by
  simp only [swLt,Bool.and_eq_true,decide_eq_true_eq] at h
  have h1 : (i == a) = false:=by simp; omega
  have h2 : (i == b) = false:=by simp; omega
  simp only [swp,h1,h2,Bool.false_eq_true,if_false]
  exact swp_lt h.2 i hi

section
variable {f : Nat → Nat} {F : Fr} {H : Hp} {m : Mp} {w : World}
end
theorem fz_makeFunc {cf : Cfg} {st : St} {fn : Fn} {a b : Array Operand} : fzFor cf st (.makeFunc fn a b) = st:=rfl
attribute [go_sem] fz_makeFunc swp id
end Go.Abs

namespace Go.Abs
set_option linter.unusedSimpArgs false
set_option linter.unusedVariables false
open Go.RowKit
variable {P : Program}

def rbT (f : Nat → Nat) : TE → TE
 | .s x=>.s x
 | .own id ver=>.own (f id) ver
 | .bx id off=>.bx id off
 | .mp id=>.mp id
def rbA (f : Nat → Nat) : AV → AV
 | .c x=>.c x
 | .g x=>.g x
 | .t x=>.t x
 | .bx id off=>.bx id off
 | .mp id=>.mp id
 | .own id ver=>.own (f id) ver
 | .fn g caps=>.fn g (caps.map (rbT f))
 | .tt l=>.tt (l.map (rbT f))
 | .gt _=>.u
 | .lw _=>.u
 | .mc con=>.mc con
 | .oel id ver i off=>.oel (f id) ver i off
 | .win id ver lo len=>.win (f id) ver lo len
 | .bw k lo len=>.bw k lo len
 | .bel k i off=>.bel k i off
 | .el xs=>.el xs
 | .anc id b=>.anc id b
 | .u=>.u
def rbH (f : Nat → Nat) (H : Hp) : Hp:=⟨H.box.map fun p=>(p.1,p.2.map (rbA f)),H.buf.map fun p=>(f p.1,id p.2),H.bor⟩
def rbM (f : Nat → Nat) (m : Mp) : Mp:=⟨m.bx,fun i=>m.bf (f i)⟩
def rbSt (f : Nat → Nat) (st : St) : St:=⟨st.n,st.sl.map fun p=>(p.1,rbA f p.2),rbH f st.H,st.nx⟩
section
variable {f : Nat → Nat} {F : Fr} {H : Hp} {m : Mp} {w : World}
theorem rb_own (hf : ∀ i,f (f i) = i) (b : Nat) : Own (rbM f m) b ↔ Own m b:=by
 unfold Own rbM
 constructor
 ·rintro (⟨i,h⟩ | ⟨i,v,h,h2⟩)
  ·exact .inl ⟨_,h⟩
  ·exact .inr ⟨_,v,h,h2⟩
 ·rintro (⟨i,h⟩ | ⟨i,v,h,h2⟩)
  ·exact .inl ⟨i,h⟩
  ·exact .inr ⟨f i,v,by simpa only [hf] using h,h2⟩
theorem rb_S (hf : ∀ i,f (f i) = i) : F.S (rbM f m) = F.S m:=by
 funext b
 unfold Fr.S
 rw [propext (rb_own hf b)]
theorem rb_inj (hf : ∀ i,f (f i) = i) : ∀ i j,f i = f j → i = j:=fun i j h=>by rw [← hf i,h,hf j]
theorem rb_buf (hf : ∀ i,f (f i) = i) (i : Nat) : look (rbH f H).buf (f i) = look H.buf i:=by
 rw [rbH]
 have:=look_mapk f (fun B : Buf=>id B) (rb_inj hf) H.buf i
 rw [this]
 cases look H.buf i <;> rfl
theorem rb_box (i : Nat) : look (rbH f H).box i = (look H.box i).map (·.map (rbA f)):=look_map (fun cs : List AV=>cs.map (rbA f)) H.box i
theorem rb_bxm (_hf : ∀ i,f (f i) = i) (i : Nat) : (rbM f m).bx i = m.bx i:=rfl
theorem rb_bfm (hf : ∀ i,f (f i) = i) (i : Nat) : (rbM f m).bf (f i) = m.bf i:=by simp only [rbM,hf]
theorem rb_repT (hf : ∀ i,f (f i) = i) {x : TE} {v : Value} (h : RepT F H m w x v) : RepT F (rbH f H) (rbM f m) w (rbT f x) v:=by
 cases x with
 | s x=>simp only [RepT,rbT,rb_S hf] at h ⊢; exact h
 | own id ver=>simp only [RepT,rbT,rb_buf hf,rb_bfm hf] at h ⊢; exact h
 | bx id off=>simp only [RepT,rbT,rb_bxm hf] at h ⊢; exact h
 | mp id=>simp only [RepT,rbT,rb_bxm hf] at h ⊢; exact h
theorem rb_get {l : List TE} {j : Nat} {y : TE} (h : (l.map (rbT f))[j]? = some y) : ∃ x,l[j]? = some x ∧ y = rbT f x:=by
 rw [List.getElem?_map] at h
 cases hl : l[j]? with
 | none=>rw [hl] at h; cases h
 | some x=>rw [hl] at h; cases h; exact ⟨x,rfl,rfl⟩
theorem rb_rep (hf : ∀ i,f (f i) = i) {x : AV} {v : Value} (h : RepA F H m w x v) : RepA F (rbH f H) (rbM f m) w (rbA f x) v:=by
 cases x with
 | c x=>simp only [RepA,rbA,rb_S hf] at h ⊢; exact h
 | g x=>simp only [RepA,rbA,rb_S hf] at h ⊢; exact h
 | t x=>simp only [RepA,rbA,rb_S hf] at h ⊢; exact h
 | bx id off=>simp only [RepA,rbA,rb_bxm hf] at h ⊢; exact h
 | mp id=>simp only [RepA,rbA,rb_bxm hf] at h ⊢; exact h
 | own id ver=>simp only [RepA,rbA,rb_buf hf,rb_bfm hf] at h ⊢; exact h
 | oel id ver i off=>simp only [RepA,rbA,rb_buf hf,rb_bfm hf] at h ⊢; exact h
 | win id ver lo len=>simp only [RepA,rbA,rb_buf hf,rb_bfm hf] at h ⊢; exact h
 | bw k lo len=>simp only [RepA,rbA] at h ⊢; exact h
 | bel k i off=>simp only [RepA,rbA] at h ⊢; exact h
 | el xs=>simp only [RepA,rbA,rb_S hf] at h ⊢; exact h
 | anc id b=>simp only [RepA,rbA,rb_bxm hf] at h ⊢; exact h
 | mc con=>exact h
 | u=>trivial
 | fn g caps =>
  obtain ⟨vs,h1,h2,h3⟩:=h
  refine ⟨vs,h1,by rw [h2,List.length_map],fun j y u hy hu=>?_⟩
  obtain ⟨x,hx,rfl⟩:=rb_get hy
  exact rb_repT hf (h3 j x u hx hu)
 | gt l=>trivial
 | lw l=>trivial
 | tt l =>
  obtain ⟨vs,h1,h2,h3⟩:=h
  refine ⟨vs,h1,by rw [h2,List.length_map],fun j y u hy hu=>?_⟩
  obtain ⟨x,hx,rfl⟩:=rb_get hy
  exact rb_repT hf (h3 j x u hx hu)
theorem rb_boxIs (hf : ∀ i,f (f i) = i) {b : Nat} {cs : List AV} (h : BoxIs F H m w b cs) : BoxIs F (rbH f H) (rbM f m) w b (cs.map (rbA f)):=by
 cases hm : isM cs with
 | true =>
  obtain ⟨con,rfl⟩:=isM_some hm
  obtain ⟨es,ck,h1,h2⟩:=h
  exact ⟨es,ck,h1,by rw [rb_S hf]; exact h2⟩
 | false =>
  obtain ⟨arr,e,h1,h2,h3⟩:=h.cells hm
  refine BoxIs.of h1 (by rw [h2,List.length_map]) fun j x u hx hu=>?_
  rw [List.getElem?_map] at hx
  cases hl : cs[j]? with
  | none=>rw [hl] at hx; cases hx
  | some y =>
   rw [hl] at hx; cases hx
   exact ⟨(h3 j y u hl hu).1,rb_rep hf (h3 j y u hl hu).2⟩
theorem rb_hrep (hf : ∀ i,f (f i) = i) (h : HRep F H m w) : HRep F (rbH f H) (rbM f m) w where
 os:=h.os
 tape:=h.tape
 output:=h.output
 size:=h.size
 block:=h.block
 fresh:=fun b hb=>h.fresh b ((rb_own hf b).1 hb)
 gB:=h.gB
 brB:=h.brB
 bri:=h.bri
 ibb:=h.ibb
 ibf:=fun i j b v h1 h2=>h.ibf _ _ b v h1 h2
 iff:=fun i j b u v h1 h2 h3 h4=>rb_inj hf i j (h.iff _ _ b u v h1 h2 h3 h4)
 box:=fun i b hb=>by
  obtain ⟨cs,h1,h2⟩:=h.box _ b hb
  refine ⟨cs.map (rbA f),?_,rb_boxIs hf h2⟩
  rw [rb_box,h1]; rfl
 buf:=fun i v hv=>by
  obtain ⟨B,rs,xs,h1,h2⟩:=h.buf _ v hv
  refine ⟨B,rs,xs,?_,?_⟩
  ·have:=rb_buf (H:=H) hf (f i)
   rw [hf] at this
   rw [this]; exact h1
  ·rw [rb_S hf]; exact h2
 bor:=fun k v hv=>by
  obtain ⟨B,rs,xs,h1,h2⟩:=h.bor k v hv
  exact ⟨B,rs,xs,h1,by rw [rb_S hf]; exact h2⟩
theorem rb_look (l : List (Nat × AV)) (t : Nat) : look (l.map fun p=>(p.1,rbA f p.2)) t = (look l t).map (rbA f):=look_map (rbA f) l t
end
theorem fit_rb {l : List (Nat × Nat)} {st st' : St} (ho : swOk l = true) (hl : swLt st.nx l = true) (h : Fit (rbSt (swp l) st) st') : Fit st st':=by
 intro F m a w hs
 have hf:=swp_swp ho
 refine h F (rbM (swp l) m) a w ⟨hs.d,hs.sz,rb_hrep hf hs.h,fun i hi=>?_,fun t=>?_⟩
 ·have e:=swp_lt hl i hi
  obtain ⟨h1,h2⟩:=hs.fr i hi
  exact ⟨h1,by simp only [rbM,e]; exact h2⟩
 ·have e : (rbSt (swp l) st).get t = rbA (swp l) (st.get t):=by
   simp only [St.get,rbSt,rb_look]
   cases look st.sl t <;> rfl
  rw [e]
  exact rb_rep hf (hs.sl t)
def RoundR {ι : Type} (inv : ι → St) (μ : ι → Nat) (i : ι) (Q : Exit → St → Prop) : Exit → St → Prop
 | .normal,st=>∃ j,Fit st (inv j) ∧ μ j < μ i
 | e,st=>Q e st
theorem loop_rb {F : Fr} {Q : Exit → St → Prop} {st : St} {c : Code} {ι : Type} (inv : ι → St) (μ : ι → Nat) (i0 : ι) (h0 : FitP st (inv i0)) (hr : ∀ i,AWp P F c (RoundR inv μ i Q) (inv i)) : AWp P F (.loop c) Q st :=
 awp_loop inv μ i0 (fit_of h0) fun i=>awp_mono (hr i) fun e st' h=>by
  cases e with
  | normal=>exact h
  | _=>exact h
theorem roundr_n {ι : Type} {inv : ι → St} {μ : ι → Nat} {i : ι} {Q : Exit → St → Prop} {st : St} (l : List (Nat × Nat)) (j : ι) (h : FitP (rbSt (swp l) st) (inv j)) (hm : μ j < μ i) (ho : swOk l = true:=by rfl) (hl : swLt st.nx l = true:=by rfl) : RoundR inv μ i Q .normal st:=⟨j,fit_rb ho hl (fit_of h),hm⟩
theorem roundr_exit {ι : Type} {inv : ι → St} {μ : ι → Nat} {i : ι} {Q : Exit → St → Prop} {st : St} {id : Nat} (h : Q (.exit id) st) : RoundR inv μ i Q (.exit id) st:=h
attribute [go_sem] rbA rbT rbH rbSt
theorem ends_gr {rvs : List ResultVar} {H' : Hp} {rs : List AV} {bs : Nat → Nat} {k : Nat} {st : St} (l : List (Nat × Nat)) (sl : List (Nat × AV)) (nx : Nat) (hfit : FitP (rbSt (swp l) st) ⟨st.n,sl ++ ancs bs k 0,H',nx⟩) (hres : resG P ⟨st.n,sl,H',nx⟩ rvs = some rs)
  (hall : (sl.all fun p=>decide (p.1 < 1000)) = true:=by rfl) (ho : swOk l = true:=by rfl) (hl : swLt st.nx l = true:=by rfl) : EndsG P rvs H' rs bs k .ret st:=⟨.inl rfl,sl,nx,fit_rb ho hl (fit_of hfit),hall,hres⟩
theorem ends_grn {rvs : List ResultVar} {H' : Hp} {rs : List AV} {bs : Nat → Nat} {k : Nat} {st : St} (l : List (Nat × Nat)) (sl : List (Nat × AV)) (nx : Nat) (hfit : FitP (rbSt (swp l) st) ⟨st.n,sl ++ ancs bs k 0,H',nx⟩) (hres : resG P ⟨st.n,sl,H',nx⟩ rvs = some rs)
  (hall : (sl.all fun p=>decide (p.1 < 1000)) = true:=by rfl) (ho : swOk l = true:=by rfl) (hl : swLt st.nx l = true:=by rfl) : EndsG P rvs H' rs bs k .normal st:=⟨.inr rfl,sl,nx,fit_rb ho hl (fit_of hfit),hall,hres⟩
end Go.Abs

namespace Go.Abs
set_option linter.unusedSimpArgs false
set_option linter.unusedVariables false
open Go.RowKit
variable {P : Program}
theorem seq_cut2 {F : Fr} {Q : Exit → St → Prop} {st : St} {a0 a1 Y : Code} {ι : Type} (mid : ι → St) (h1 : ∀ Y',(∀ i,AWp P F Y' Q (mid i)) → AWp P F (.seq a0 (.seq a1 Y')) Q st) (h2 : ∀ i,AWp P F Y Q (mid i)) : AWp P F (.seq a0 (.seq a1 Y)) Q st:=h1 Y h2
theorem seq_cut6 {F : Fr} {Q : Exit → St → Prop} {st : St} {a0 a1 a2 a3 a4 a5 Y : Code} {ι : Type} (mid : ι → St) (h1 : ∀ Y',(∀ i,AWp P F Y' Q (mid i)) → AWp P F (.seq a0 (.seq a1 (.seq a2 (.seq a3 (.seq a4 (.seq a5 Y')))))) Q st) (h2 : ∀ i,AWp P F Y Q (mid i)) : AWp P F (.seq a0 (.seq a1 (.seq a2 (.seq a3 (.seq a4 (.seq a5 Y)))))) Q st:=h1 Y h2
theorem cut_fit {F : Fr} {Q : Exit → St → Prop} {st : St} {Y : Code} {ι : Type} {mid : ι → St} (hY : ∀ i,AWp P F Y Q (mid i)) (i : ι) (h : FitP st (mid i)) : AWp P F Y Q st:=awp_told (mid i) h (hY i)
end Go.Abs

namespace Go.Proofs.Ytekigfhikikgaaa
set_option linter.unusedSimpArgs false
set_option linter.unusedVariables false
open Go.Abs Go.Proofs.NatL

def fsts (l : List Int) : Nat → List Int
 | 0=>[]
 | i + 1=>if hasH (l.take i) (l.getD i 0) = true then fsts l i else fsts l i ++ [l.getD i 0]
def wants (l G : List Int) : Nat → List Int
 | 0=>[]
 | i + 1=>if hasH (l.take i) (l.getD i 0) = true ∨ hasH G (l.getD i 0) = true then wants l G i else wants l G i ++ [l.getD i 0]
theorem hasH_snoc (xs : List Int) (y x : Int) : hasH (xs ++ [y]) x = (hasH xs x || decide (half y = half x)):=by simp [hasH]
theorem take_snoc (l : List Int) {i : Nat} (h : i < l.length) : l.take (i + 1) = l.take i ++ [l.getD i 0]:=by
 rw [List.take_succ_eq_append_getElem h,List.getD_eq_getElem?_getD,List.getElem?_eq_getElem h]; rfl
theorem fsts_has (l : List Int) : ∀ i,i ≤ l.length → ∀ x,hasH (fsts l i) x = hasH (l.take i) x
 | 0,_,x=>by simp [fsts,hasH]
 | i + 1,h,x=>by
  rw [take_snoc l (by omega),hasH_snoc]
  simp only [fsts]
  split
  ·rename_i hh
   rw [fsts_has l i (by omega) x]
   cases hd : decide (half (l.getD i 0) = half x) with
   | false=>simp
   | true =>
    simp only [Bool.or_true]
    obtain ⟨y,hy,hy2⟩:=hasH_iff.1 hh
    exact hasH_iff.2 ⟨y,hy,hy2.trans (of_decide_eq_true hd)⟩
  ·rw [hasH_snoc,fsts_has l i (by omega) x]
def Dh (xs : List Int) : Prop:=xs.Pairwise fun a b=>half a ≠ half b
theorem fsts_dh (l : List Int) : ∀ i,i ≤ l.length → Dh (fsts l i)
 | 0,_=>List.Pairwise.nil
 | i + 1,h=>by
  simp only [fsts]
  split
  ·exact fsts_dh l i (by omega)
  ·rename_i hh
   refine List.pairwise_append.2 ⟨fsts_dh l i (by omega),List.pairwise_singleton ..,fun a ha b hb=>?_⟩
   simp at hb; subst hb
   have : hasH (fsts l i) (l.getD i 0) = false:=by rw [fsts_has l i (by omega)]; simpa using hh
   exact hasH_f.1 this a ha
theorem wants_eq (l G : List Int) : ∀ i,wants l G i = (fsts l i).filter fun x=>!hasH G x
 | 0=>rfl
 | i + 1=>by
  simp only [wants,fsts]
  by_cases h1 : hasH (l.take i) (l.getD i 0) = true
  ·rw [if_pos (.inl h1),if_pos h1]; exact wants_eq l G i
  ·rw [if_neg h1,List.filter_append,← wants_eq l G i]
   by_cases h2 : hasH G (l.getD i 0) = true
   ·rw [if_pos (.inr h2)]
    generalize l.getD i 0 = x at *
    rw [List.filter_cons,h2]; simp
   ·rw [if_neg (fun h=>h.elim h1 h2)]
    have : hasH G (l.getD i 0) = false:=by simpa using h2
    generalize l.getD i 0 = x at *
    rw [List.filter_cons,this]; simp
theorem fsts_len (l : List Int) : ∀ i,(fsts l i).length ≤ i
 | 0=>Nat.le_refl _
 | i + 1=>by
  simp only [fsts]
  have:=fsts_len l i
  split
  ·omega
  ·simp only [List.length_append,List.length_cons,List.length_nil]; omega
theorem wants_len (l G : List Int) (i : Nat) : (wants l G i).length ≤ i:=by
 rw [wants_eq]; exact Nat.le_trans (List.length_filter_le ..) (fsts_len l i)
def Vp (l : List Int) (n : Nat) (T : List En) : Prop:=∀ e ∈ lv T,0 ≤ e.val ∧ e.val < (n : Int) ∧ half (l.getD e.val.toNat 0) = half e.key
structure PA (l : List Int) (i : Nat) (T : List En) : Prop where
 ti : TI T
 kl : kl T = fsts l i
 vp : Vp l i T
theorem pa_zero (l : List Int) : PA l 0 []:=⟨nil_ti,rfl,fun e h=>by simp [lv] at h⟩
theorem pa_cnt {l : List Int} {i : Nat} {T : List En} (h : PA l i T) : cnt T ≤ i:=by rw [← kl_len,h.kl]; exact fsts_len l i
theorem pa_full {l : List Int} {i : Nat} {T : List En} (h : PA l i T) (hi : i < 1000) (k : Int) : putF T k = false:=by
 rw [putF_eq h.ti]
 have:=pa_cnt h
 simp only [Bool.and_eq_false_iff,decide_eq_false_iff_not]
 exact .inr (by omega)
theorem pa_step {l : List Int} {i : Nat} {T : List En} (h : PA l i T) (hi : i < l.length) (hl : l.length ≤ 900) : PA l (i + 1) (putE T (l.getD i 0) (i : Nat)):=by
 obtain ⟨h1,h2,h3⟩:=put_facts h.ti (l.getD i 0) (i : Nat)
 have hc:=pa_cnt h
 refine ⟨h1,?_,fun e he=>?_⟩
 ·rw [h2,h.kl,fsts_has l i (by omega),if_neg (show ¬ cnt T = 1000 by omega)]
  rfl
 ·rcases h3 e he with ⟨g1,g2⟩ | g
  ·rw [g1]
   exact ⟨by omega,by omega,by rw [Int.toNat_natCast]; exact g2.symm⟩
  ·obtain ⟨g1,g2,g3⟩:=h.vp e g
   exact ⟨g1,by omega,g3⟩
structure PB (l G : List Int) (j : Nat) (T : List En) : Prop where
 ti : TI T
 kl : kl T = (fsts l l.length).filter fun x=>!hasH (G.take j) x
 vp : Vp l l.length T
theorem pb_zero {l : List Int} {T : List En} (h : PA l l.length T) (G : List Int) : PB l G 0 T:=by
 refine ⟨h.ti,?_,h.vp⟩
 rw [h.kl]
 exact (List.filter_eq_self.2 (fun x _=>by simp [hasH])).symm
theorem kl_filter {l : List En} {k : Int} : ((lv l).filter fun e=>!decide (half e.key = half k)).map (·.key) = (kl l).filter fun x=>!decide (half x = half k):=by
 unfold kl; rw [List.filter_map]; rfl
theorem pb_step {l G : List Int} {j : Nat} {T : List En} (h : PB l G j T) (hj : j < G.length) : PB l G (j + 1) (delE T (G.getD j 0)):=by
 obtain ⟨h1,h2⟩:=del_facts h.ti (G.getD j 0)
 refine ⟨h1,?_,fun e he=>?_⟩
 ·show (lv _).map _ = _
  rw [h2,kl_filter,h.kl,List.filter_filter]
  apply List.filter_congr
  intro x _
  rw [take_snoc G hj,hasH_snoc]
  have : decide (half x = half (G.getD j 0)) = decide (half (G.getD j 0) = half x):=by
   rw [decide_eq_decide]; exact eq_comm
  rw [this]
  cases hasH (G.take j) x <;> cases decide (half (G.getD j 0) = half x) <;> rfl
 ·rw [h2] at he
  exact h.vp e (List.mem_filter.1 he).1
structure PD (l W : List Int) (m : Nat) (T : List En) : Prop where
 ti : TI T
 kl : kl T = W.drop m ++ W.take m
 vp : Vp l l.length T
 dh : Dh W
theorem dh_filter {xs : List Int} (h : Dh xs) (p : Int → Bool) : Dh (xs.filter p):=h.sublist List.filter_sublist
theorem pd_zero {l G : List Int} {T : List En} (h : PB l G G.length T) : PD l (wants l G l.length) 0 T:=by
 refine ⟨h.ti,?_,h.vp,?_⟩
 ·rw [h.kl,wants_eq,List.take_length]; simp
 ·rw [wants_eq]; exact dh_filter (fsts_dh l _ (Nat.le_refl _)) _
theorem dh_inj {xs : List Int} (h : Dh xs) {i j : Nat} (hi : i < xs.length) (hj : j < xs.length) (e : half xs[i] = half xs[j]) : i = j:=by
 rcases Nat.lt_trichotomy i j with hlt | rfl | hlt
 ·exact absurd e (List.pairwise_iff_getElem.1 h i j hi hj hlt)
 ·rfl
 ·exact absurd e.symm (List.pairwise_iff_getElem.1 h j i hj hi hlt)
theorem dh_mem {xs : List Int} (h : Dh xs) {a b : Int} (ha : a ∈ xs) (hb : b ∈ xs) (e : half a = half b) : a = b:=by
 obtain ⟨i,hi,rfl⟩:=List.getElem_of_mem ha
 obtain ⟨j,hj,rfl⟩:=List.getElem_of_mem hb
 have:=dh_inj h hi hj e
 subst this; rfl
theorem getD_I {xs : List Int} {i : Nat} (h : i < xs.length) : xs.getD i 0 = xs[i]:=by simp [List.getD_eq_getElem?_getD,List.getElem?_eq_getElem h]
theorem pd_has {l W : List Int} {m : Nat} {T : List En} (h : PD l W m T) (hm : m < W.length) : hasE T (W.getD m 0) = true:=by
 rw [hasE_eq h.ti]
 refine hasH_iff.2 ⟨W.getD m 0,?_,rfl⟩
 rw [h.kl,getD_I hm]
 refine List.mem_append_left _ ?_
 rw [List.drop_eq_getElem_cons hm]
 exact List.mem_cons_self ..
theorem pd_step {l W : List Int} {m : Nat} {T : List En} (h : PD l W m T) (hm : m < W.length) : PD l W (m + 1) (moveE T (W.getD m 0)):=by
 have hh:=pd_has h hm
 rw [hasE_eq h.ti] at hh
 obtain ⟨e,he,h1,h2,h3⟩:=move_facts h.ti _ hh
 have hmem : W.getD m 0 ∈ W:=by rw [getD_I hm]; exact List.getElem_mem hm
 have hek : e.key ∈ W:=by
  have : e.key ∈ kl T:=List.mem_map.2 ⟨e,he,rfl⟩
  rw [h.kl] at this
  rcases List.mem_append.1 this with g | g
  ·exact List.mem_of_mem_drop g
  ·exact List.mem_of_mem_take g
 have hk : e.key = W.getD m 0:=dh_mem h.dh hek hmem h1
 refine ⟨h2,?_,fun x hx=>?_,h.dh⟩
 ·show (lv _).map _ = _
  rw [h3,List.map_append,kl_filter,h.kl,List.drop_eq_getElem_cons hm,take_snoc W hm]
  simp only [List.map_cons,List.map_nil,hk]
  rw [← getD_I hm,List.filter_append,List.filter_cons]
  have hself : (!decide (half (W.getD m 0) = half (W.getD m 0))) = false:=by simp
  rw [hself,if_neg (by simp)]
  have hne : ∀ i (hi : i < W.length),i ≠ m → (!decide (half W[i] = half (W.getD m 0))) = true:=by
   intro i hi hne
   simp only [Bool.not_eq_true',decide_eq_false_iff_not]
   intro hc
   rw [getD_I hm] at hc
   exact hne (dh_inj h.dh hi hm hc)
  rw [List.filter_eq_self.2,List.filter_eq_self.2,List.append_assoc]
  ·intro x hx
   obtain ⟨i,hi,rfl⟩:=List.getElem_of_mem hx
   rw [List.length_take] at hi
   rw [List.getElem_take]
   exact hne i (by omega) (by omega)
  ·intro x hx
   obtain ⟨i,hi,rfl⟩:=List.getElem_of_mem hx
   rw [List.length_drop] at hi
   rw [List.getElem_drop]
   exact hne _ (by omega) (by omega)
 ·rw [h3] at hx
  rcases List.mem_append.1 hx with g | g
  ·exact h.vp x (List.mem_filter.1 g).1
  ·simp at g; subst g; exact h.vp x he
theorem pd_all {l W : List Int} {T : List En} (h : PD l W W.length T) : kl T = W:=by rw [h.kl]; simp
theorem pd_cnt {l W : List Int} {T : List En} (h : PD l W W.length T) : cnt T = W.length:=by rw [← kl_len,pd_all h]
theorem kl_at {T : List En} {j : Nat} {e : En} (he : (lv T)[j]? = some e) : (kl T)[j]? = some e.key:=by unfold kl; rw [List.getElem?_map,he]; rfl
theorem pd_at {l W : List Int} {T : List En} (h : PD l W W.length T) {i : Nat} {e : En} (he : (lv T)[i]? = some e) : e.key = W.getD i 0 ∧ 0 ≤ e.val ∧ e.val < (l.length : Int) ∧ half (l.getD e.val.toNat 0) = half e.key:=by
 have h1:=kl_at he
 rw [pd_all h] at h1
 refine ⟨?_,h.vp e (List.mem_of_getElem? he)⟩
 rw [List.getD_eq_getElem?_getD,h1]; rfl
theorem pd_pos {l W : List Int} {T : List En} (h : PD l W W.length T) {i j : Nat} {e : En} (hi : i < W.length) (he : (lv T)[j]? = some e) (hh : half e.key = half (W.getD i 0)) : j = i:=by
 have h1:=kl_at he
 rw [pd_all h] at h1
 obtain ⟨hj,h2⟩:=List.getElem?_eq_some_iff.1 h1
 rw [getD_I hi,← h2] at hh
 exact dh_inj h.dh hj hi hh
end Go.Proofs.Ytekigfhikikgaaa
