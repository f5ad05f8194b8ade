import Derived.Test.YtmcjojbffidlbaaA4
namespace Go.Proofs.Ytmcjojbffidlbaa
set_option linter.unusedSimpArgs false
set_option linter.unusedVariables false

theorem invL_at {xs : List Int} (h : Good xs) : ∀ k,k ≤ xs.length → ∀ i,i < k → (invL xs k).getD (xs.getD i 0).toNat 0 = (i : Int)
 | 0,_,i,hi=>by omega
 | k + 1,hk,i,hi=>by
  have hlo:=h.lo i (by omega)
  have hlk:=h.lo k (by omega)
  simp only [invL]
  rw [List.getD_eq_getElem?_getD]
  rcases Nat.lt_or_ge i k with hlt | hge
  ·have hne:=h.once i k hlt (by omega)
   rw [List.getElem?_set_ne (by omega),← List.getD_eq_getElem?_getD]
   exact invL_at h k (by omega) i hlt
  ·have : i = k:=by omega
   subst this
   rw [List.getElem?_set_self (by rw [invL_len]; omega)]; rfl
theorem pigeon : ∀ (n : Nat) (l : List Nat),l.Nodup → (∀ x ∈ l,x < n) → l.length ≤ n
 | 0,l,_,h=>by
  cases l with
  | nil=>simp
  | cons x l=>exact absurd (h x (List.mem_cons_self ..)) (by omega)
 | n + 1,l,hd,h=>by
  have h1:=pigeon n (l.erase n) (hd.erase n) (fun x hx=>by
   have h2:=h x (List.mem_of_mem_erase hx)
   have h3 : x ≠ n:=fun e=>by subst e; exact (List.Nodup.not_mem_erase hd) hx
   omega)
  have h2 : l.length ≤ (l.erase n).length + 1:=by rw [List.length_erase]; split <;> omega
  omega
theorem nodup_of {xs : List Int} (h : Good xs) : (xs.map Int.toNat).Nodup:=by
 rw [List.nodup_iff_pairwise_ne,List.pairwise_iff_getElem]
 intro i j hi hj hij
 simp only [List.length_map] at hi hj
 simp only [List.getElem_map]
 have h1:=h.lo i hi
 have h2:=h.lo j hj
 have h3:=h.once i j hij hj
 simp only [List.getD_eq_getElem?_getD,List.getElem?_eq_getElem hi,List.getElem?_eq_getElem hj,Option.getD_some] at h1 h2 h3
 omega
theorem good_onto {xs : List Int} (h : Good xs) (j : Nat) (hj : j < xs.length) : ∃ i,i < xs.length ∧ xs.getD i 0 = (j : Int):=by
 apply Classical.byContradiction
 intro hno
 have hnot : j ∉ xs.map Int.toNat:=fun hm=>by
  obtain ⟨x,hx,he⟩:=List.mem_map.1 hm
  obtain ⟨i,hi⟩:=List.getElem?_of_mem hx
  have hlt:=(List.getElem?_eq_some_iff.1 hi).1
  have hx2 : xs.getD i 0 = x:=by rw [List.getD_eq_getElem?_getD,hi]; rfl
  have:=h.lo i hlt
  exact hno ⟨i,hlt,by omega⟩
 have hp:=pigeon xs.length (j :: xs.map Int.toNat) (List.nodup_cons.2 ⟨hnot,nodup_of h⟩) (fun x hx=>by
  rcases List.mem_cons.1 hx with rfl | hx
  ·exact hj
  ·obtain ⟨y,hy,rfl⟩:=List.mem_map.1 hx
   obtain ⟨i,hi⟩:=List.getElem?_of_mem hy
   have hlt:=(List.getElem?_eq_some_iff.1 hi).1
   have hx2 : xs.getD i 0 = y:=by rw [List.getD_eq_getElem?_getD,hi]; rfl
   have:=h.lo i hlt
   omega)
 simp at hp
 omega
theorem inv_good {xs : List Int} (h : Good xs) : Good (invL xs xs.length) ∧ ∀ j,j < xs.length → xs.getD ((invL xs xs.length).getD j 0).toNat 0 = (j : Int):=by
 have key : ∀ j,j < xs.length → ∃ i,i < xs.length ∧ xs.getD i 0 = (j : Int) ∧ (invL xs xs.length).getD j 0 = (i : Int):=by
  intro j hj
  obtain ⟨i,hi,he⟩:=good_onto h j hj
  refine ⟨i,hi,he,?_⟩
  have:=invL_at h xs.length (Nat.le_refl _) i hi
  rwa [he,Int.toNat_natCast] at this
 refine ⟨⟨fun k hk=>?_,fun a b hab hb he=>?_⟩,fun j hj=>?_⟩
 ·rw [invL_len] at hk ⊢
  obtain ⟨i,hi,_,h2⟩:=key k hk
  omega
 ·rw [invL_len] at hb
  obtain ⟨i,hi,h1,h2⟩:=key a (by omega)
  obtain ⟨i',hi',h1',h2'⟩:=key b hb
  have : i = i':=by omega
  subst this
  omega
 ·obtain ⟨i,hi,h1,h2⟩:=key j hj
  rw [h2,Int.toNat_natCast]; exact h1
theorem perm_back {l xs : List Int} (h : Good xs) (hl : l.length = xs.length) : permL (permL l xs) (invL xs xs.length) = l:=by
 obtain ⟨g1,g2⟩:=inv_good h
 apply List.ext_getElem?
 intro j
 rcases Nat.lt_or_ge j xs.length with hj | hj
 ·have h1 : j < (permL (permL l xs) (invL xs xs.length)).length:=by rw [permL_len,invL_len]; exact hj
  have h2:=permL_at (permL l xs) (invL xs xs.length) j (by rw [invL_len]; exact hj)
  have h3:=g1.lo j (by rw [invL_len]; exact hj)
  rw [invL_len] at h3
  rw [permL_at l xs _ (by omega),g2 j hj,Int.toNat_natCast] at h2
  rw [List.getD_eq_getElem?_getD,List.getD_eq_getElem?_getD,List.getElem?_eq_getElem h1,List.getElem?_eq_getElem (show j < l.length by omega)] at h2
  rw [List.getElem?_eq_getElem h1,List.getElem?_eq_getElem (show j < l.length by omega)]
  exact congrArg some h2
 ·rw [List.getElem?_eq_none (by rw [permL_len,invL_len]; exact hj),List.getElem?_eq_none (by omega)]
end Go.Proofs.Ytmcjojbffidlbaa
