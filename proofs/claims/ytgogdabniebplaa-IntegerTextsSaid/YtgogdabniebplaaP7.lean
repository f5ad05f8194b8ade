import Derived.Test.YtgogdabniebplaaI5
namespace Go.Proofs.NatL
set_option linter.unusedSimpArgs false
set_option linter.unusedVariables false
def dv (b : Nat) (c : Int) : Int := if 48 ≤ c ∧ c ≤ 57 ∧ c - 48 < b then c - 48 else if 97 ≤ c ∧ c ≤ 122 ∧ c - 87 < b then c - 87 else -1
theorem dv_cases (b : Nat) (c : Int) (hb : b ≤ 36) : dv b c = -1 ∨ 0 ≤ dv b c ∧ dv b c < b ∧ dv b c < 36 := by unfold dv; (repeat' split) <;> omega
theorem dv_zero (c : Int) : dv 0 c = -1 := by unfold dv; (repeat' split) <;> omega
def pzR (b : Nat) (neg : Bool) (r : List Int) : Option Int :=
  if r = [] ∨ (r.getD 0 0 = 48 ∧ (1 < r.length ∨ neg = true)) then none else if ∀ c ∈ r, 0 ≤ dv b c then some (sg neg (rdv b (r.map (dv b)))) else none
def pz (b : Nat) (l : List Int) : Option Int := if 0 < l.length ∧ l.getD 0 0 = 45 then pzR b true (l.drop 1) else pzR b false l
theorem rdv_cons (b : Nat) (d : Int) (ds : List Int) : rdv b (d :: ds) = d.toNat * b ^ ds.length + rdv b ds := by
  have key : ∀ (ds : List Int) (a : Nat), ds.foldl (fun n d => n * b + d.toNat) a = a * b ^ ds.length + ds.foldl (fun n d => n * b + d.toNat) 0 := by
    intro ds
    induction ds with
    | nil => intro a; simp
    | cons x ds ih =>
      intro a
      simp only [List.foldl_cons, List.length_cons]
      rw [ih (a * b + x.toNat), ih (0 * b + x.toNat), Nat.add_mul, Nat.add_mul, Nat.zero_mul, Nat.zero_mul, Nat.mul_assoc, Nat.zero_add, ← Nat.pow_succ', Nat.add_assoc]
  show (d :: ds).foldl _ 0 = _
  rw [List.foldl_cons, key]
  simp [rdv]
theorem rdv_rev (b : Nat) : ∀ xs : List Int, rdv b xs.reverse = V b xs := by
  intro xs
  induction xs with
  | nil => rfl
  | cons x xs ih => rw [List.reverse_cons, rdv_snoc, ih]; simp only [V]; rw [Nat.mul_comm]; omega
end Go.Proofs.NatL
namespace Go.Proofs.Ytgogdabniebplaa
set_option linter.unusedSimpArgs false
set_option linter.unusedVariables false
open Go.Abs Go.Proofs.NatL
theorem chr_eq : ∀ d : Nat, d < 36 → chr d = if d < 10 then (d : Int) + 48 else (d : Int) + 87 := by decide
theorem chr_dv {b : Nat} {c : Int} (hb : b ≤ 36) (h : 0 ≤ dv b c) : chr (dv b c) = c := by
  unfold dv at h ⊢
  split
  · rename_i g
    obtain ⟨d, hd⟩ : ∃ d : Nat, c - 48 = d := ⟨(c - 48).toNat, by omega⟩
    rw [hd, chr_eq d (by omega), if_pos (by omega)]; omega
  · rename_i g
    split
    · rename_i g2
      obtain ⟨d, hd⟩ : ∃ d : Nat, c - 87 = d := ⟨(c - 87).toNat, by omega⟩
      rw [hd, chr_eq d (by omega), if_neg (by omega)]; omega
    · rename_i g2
      rw [if_neg g, if_neg g2] at h; omega
theorem dv_chr {b d : Nat} (hb : b ≤ 36) (h : d < b) : dv b (chr d) = d := by
  rw [chr_eq d (by omega)]
  unfold dv
  split
  · rw [if_pos (by omega)]; omega
  · rw [if_neg (by omega), if_pos (by omega)]; omega
theorem dv_succ (k : Nat) (hk : k < 36) (c : Int) : dv (k + 1) c = if chr k = c then (k : Int) else dv k c := by
  rw [chr_eq k hk]
  unfold dv
  (repeat' split) <;> omega
theorem chr_range (d : Nat) (h : d < 36) : 48 ≤ chr d ∧ chr d ≤ 122 := by rw [chr_eq d h]; split <;> omega
theorem rdv_pos {b : Nat} (hb : 2 ≤ b) {r : List Int} (h0 : r ≠ []) (h1 : r.getD 0 0 ≠ 48) (h2 : ∀ c ∈ r, 0 ≤ dv b c) : 0 < rdv b (r.map (dv b)) := by
  cases r with
  | nil => exact absurd rfl h0
  | cons c r =>
    rw [List.map_cons, rdv_cons]
    have h := h2 c (List.mem_cons_self ..)
    have h1 : c ≠ 48 := h1
    have : 0 < (dv b c).toNat := by
      unfold dv at h ⊢
      (repeat' split) <;> omega
    have := Nat.mul_pos this (Nat.pow_pos (n := (r.map (dv b)).length) (show 0 < b by omega))
    omega
theorem pzR_canon {b : Nat} (hb : 2 ≤ b) {neg : Bool} {r : List Int} {z : Int} (h : pzR b neg r = some z) :
    z = sg neg (rdv b (r.map (dv b))) ∧ (neg = true → 0 < rdv b (r.map (dv b))) ∧ r ≠ [] ∧ (∀ c ∈ r, 0 ≤ dv b c) ∧ ¬ (r.getD 0 0 = 48 ∧ (1 < r.length ∨ neg = true)) := by
  unfold pzR at h
  split at h
  · cases h
  · rename_i g
    split at h
    · rename_i g2
      cases h
      have g0 : r ≠ [] := fun e => g (.inl e)
      refine ⟨rfl, fun hn => rdv_pos hb g0 (fun e => g (.inr ⟨e, .inr hn⟩)) g2, g0, g2, fun e => g (.inr e)⟩
    · cases h
theorem pz_text (z : Int) (b : Nat) (h1 : 2 ≤ b) (h2 : b ≤ 36) : pz b (textI z b) = some z := by
  by_cases hz : z = 0
  · subst hz
    unfold textI
    simp only [Int.lt_irrefl, if_false, if_true, List.nil_append]
    have e : dv b 48 = 0 := by unfold dv; split <;> omega
    simp only [pz, pzR, List.length_cons, List.length_nil, List.getD_cons_zero]
    rw [if_neg (by omega), if_neg (by simp), if_pos (by simp [e])]
    simp [e, rdv, sg]
  · obtain ⟨n, hn⟩ : ∃ n, n = z.natAbs := ⟨_, rfl⟩
    have hn0 : 0 < n := by omega
    have hin := InB_dg b h1 n
    have htr := dg_trd b h1 n
    have hv : V b (dg b n) = n := V_dg b h1 n
    have hl := (dg_len_pos b n h1).2 hn0
    have back : ((dg b n).reverse.map chr).map (dv b) = (dg b n).reverse := by
      rw [List.map_map]
      conv => rhs; rw [← List.map_id (dg b n).reverse]
      refine List.map_congr_left fun x hx => ?_
      have := hin x (List.mem_reverse.1 hx)
      obtain ⟨d, rfl⟩ : ∃ d : Nat, x = d := ⟨x.toNat, by omega⟩
      exact dv_chr h2 (by omega)
    have good : ∀ c ∈ (dg b n).reverse.map chr, 0 ≤ dv b c := by
      intro c hc
      obtain ⟨x, hx, rfl⟩ := List.mem_map.1 hc
      have := hin x (List.mem_reverse.1 hx)
      obtain ⟨d, rfl⟩ : ∃ d : Nat, x = d := ⟨x.toNat, by omega⟩
      rw [dv_chr h2 (by omega)]; omega
    have head : ((dg b n).reverse.map chr).getD 0 0 ≠ 48 ∧ ((dg b n).reverse.map chr).getD 0 0 ≠ 45 := by
      have e : ((dg b n).reverse.map chr).getD 0 0 = chr ((dg b n).getD ((dg b n).length - 1) 0) := by
        rw [List.getD_eq_getElem?_getD, List.getElem?_map, List.getElem?_reverse (by omega), List.getElem?_eq_getElem (by omega), getD_eq _ _ (by omega)]
        simp
      have hd := InB_getD (by omega) hin ((dg b n).length - 1)
      have hne : (dg b n).getD ((dg b n).length - 1) 0 ≠ 0 := by
        rcases htr with h | h
        · omega
        · exact h
      obtain ⟨d, hd'⟩ : ∃ d : Nat, (dg b n).getD ((dg b n).length - 1) 0 = d := ⟨_, (Int.toNat_of_nonneg hd.1).symm⟩
      rw [hd'] at hd hne e
      rw [e, chr_eq d (by omega)]
      split <;> omega
    have ne : (dg b n).reverse.map chr ≠ [] := fun e => by have := congrArg List.length e; rw [List.length_map, List.length_reverse, List.length_nil] at this; omega
    have hR : ∀ neg, pzR b neg ((dg b n).reverse.map chr) = some (sg neg n) := by
      intro neg
      unfold pzR
      rw [if_neg (fun h => by rcases h with h | h; exact ne h; exact head.1 h.1), if_pos good, back, rdv_rev, hv]
    unfold textI
    rw [if_neg hz, ← hn]
    by_cases hneg : z < 0
    · rw [if_pos hneg]
      unfold pz
      rw [if_pos ⟨by simp, rfl⟩]
      show pzR b true ((dg b n).reverse.map chr) = _
      rw [hR, show sg true n = z by rw [sgt]; omega]
    · rw [if_neg hneg, List.nil_append]
      unfold pz
      rw [if_neg (fun h => head.2 h.2), hR, show sg false n = z by rw [sgf]; omega]

theorem strOf_snoc (xs : List Int) (x : Int) : strOf (xs ++ [x]) = (strOf xs).push (UInt8.ofNat x.toNat) := by simp [strOf, List.foldl_append]
theorem bytesOf_strOf (xs : List Int) (h : InB 256 xs) : bytesOf (strOf xs) = xs := by
  have key : ∀ n, ∀ xs : List Int, xs.length = n → InB 256 xs → bytesOf (strOf xs) = xs := by
    intro n
    induction n with
    | zero => intro xs h _; obtain rfl := List.eq_nil_of_length_eq_zero h; rfl
    | succ n ih =>
      intro xs hl hb
      have e := split_last xs (by omega)
      have hin := InB_getD (B := 256) (by omega) hb (xs.length - 1)
      generalize xs.getD (xs.length - 1) 0 = x at *
      have hb1 := InB_take hb (xs.length - 1)
      have hl1 : (xs.take (xs.length - 1)).length = n := by rw [List.length_take]; omega
      generalize xs.take (xs.length - 1) = ys at *
      subst e
      have := ih ys hl1 hb1
      rw [strOf_snoc]
      unfold bytesOf at this ⊢
      rw [ByteArray.data_push, Array.toList_push, List.map_append, this]
      congr 1
      simp only [List.map_cons, List.map_nil, List.cons.injEq, and_true]
      rw [UInt8.toNat_ofNat']
      omega
  exact key _ xs rfl h
theorem str_size (s : ByteArray) : s.size = (bytesOf s).length := by simp only [bytesOf, List.length_map, Array.length_toList]; rfl
theorem str_at (s : ByteArray) (n : Nat) : (((s.data.toList.getD n 0).toNat : Nat) : Int) = (bytesOf s).getD n 0 := by
  unfold bytesOf
  rw [List.getD_eq_getElem?_getD, List.getD_eq_getElem?_getD, List.getElem?_map]
  cases s.data.toList[n]? <;> rfl
theorem str_sub (s : ByteArray) (a b : Nat) : bytesOf (s.extract a b) = ((bytesOf s).take b).drop a := by
  unfold bytesOf
  rw [ByteArray.data_extract, Array.toList_extract]
  simp [List.extract_eq_take_drop, List.map_take, List.map_drop, List.drop_take]
theorem bytes_inB (s : ByteArray) : InB 256 (bytesOf s) := by
  intro x hx
  obtain ⟨b, _, rfl⟩ := List.mem_map.1 hx
  have := b.toNat_lt
  omega
theorem bytes_inj {s t : ByteArray} (h : bytesOf s = bytesOf t) : s = t := by
  have : s.data.toList = t.data.toList := by
    have h2 := congrArg (List.map fun x : Int => UInt8.ofNat x.toNat) h
    have key : ∀ l : List UInt8, (l.map fun b => (b.toNat : Int)).map (fun x : Int => UInt8.ofNat x.toNat) = l := fun l => by
      induction l with
      | nil => rfl
      | cons x l ih => simp only [List.map_cons, ih, Int.toNat_natCast, UInt8.ofNat_toNat]
    simp only [bytesOf, key] at h2
    exact h2
  exact ByteArray.ext (Array.toList_inj.1 this)
theorem str_eq (s t : ByteArray) : (s.toList == t.toList) = decide (bytesOf s = bytesOf t) := by
  rw [ByteArray.toList_eq, ByteArray.toList_eq]
  by_cases h : s = t
  · subst h; simp
  · rw [decide_eq_false (fun e => h (bytes_inj e))]
    exact beq_eq_false_iff_ne.2 fun e => h (ByteArray.ext (Array.toList_inj.1 e))
def digB (b : Nat) : List Int := (List.range b).map fun d : Nat => chr (d : Int)
theorem lit_full : bytesOf { data := #[48, 49, 50, 51, 52, 53, 54, 55, 56, 57, 97, 98, 99, 100, 101, 102, 103, 104, 105, 106, 107, 108, 109, 110, 111, 112, 113, 114, 115, 116, 117, 118, 119, 120, 121, 122] } = digB 36 := by decide +kernel
theorem lit_take (b : Nat) (hb : b ≤ 36) : (digB 36).take b = digB b := by
  unfold digB
  rw [← List.map_take, List.take_range, Nat.min_eq_left hb]
theorem digB_len (b : Nat) : (digB b).length = b := by simp [digB]
theorem digB_at (b d : Nat) (h : d < b) : (digB b).getD d 0 = chr (d : Int) := by simp [digB, List.getD_eq_getElem?_getD, h]
theorem digL_at (k : Nat) : (((([48, 49, 50, 51, 52, 53, 54, 55, 56, 57, 97, 98, 99, 100, 101, 102, 103, 104, 105, 106, 107, 108, 109, 110, 111, 112, 113, 114, 115, 116, 117, 118, 119, 120, 121, 122] : List UInt8).getD k 0).toNat : Nat) : Int) = chr (k : Int) := rfl
theorem ml0 : (0 ≤ Go.maxLen) = True := eq_true (Nat.zero_le _)
theorem ml1 : (1 ≤ Go.maxLen) = True := eq_true (by decide +kernel)
theorem toNat_one : Int.toNat 1 = 1 := rfl
theorem lit_zero : bytesOf { data := #[48] } = [48] := rfl
theorem lit_none : bytesOf { data := #[] } = [] := rfl
theorem textI_inB (z : Int) (b : Nat) (h1 : 2 ≤ b) (h2 : b ≤ 36) : InB 256 (textI z b) := by
  unfold textI
  refine InB_app (by split; exact InB_one (by omega) (by omega); exact InB_nil _) ?_
  split
  · exact InB_one (by omega) (by omega)
  · intro c hc
    obtain ⟨x, hx, rfl⟩ := List.mem_map.1 hc
    have := InB_dg b h1 _ x (List.mem_reverse.1 hx)
    obtain ⟨d, rfl⟩ : ∃ d : Nat, x = d := ⟨x.toNat, by omega⟩
    have := chr_range d (by omega)
    omega
theorem text_bytes (z : Int) (b : Nat) (h1 : 2 ≤ b) (h2 : b ≤ 36) : bytesOf (strOf (textI z b)) = textI z b := bytesOf_strOf _ (textI_inB z b h1 h2)
theorem textI_len (z : Int) (b : Nat) (h1 : 2 ≤ b) (la : (dg 4294967296 z.natAbs).length ≤ 128) : (textI z b).length ≤ 4097 := by
  have dl : (dg b z.natAbs).length ≤ 4096 := Nat.le_trans (dg_len_two b z.natAbs h1 _ (lt_bl _)) (bl_128 la)
  unfold textI
  rw [List.length_append]
  have h1 : (if z < 0 then [(45 : Int)] else []).length ≤ 1 := by split <;> simp
  have h2 : (if z = 0 then [(48 : Int)] else (dg b z.natAbs).reverse.map chr).length ≤ 4096 := by
    split
    · simp
    · rw [List.length_map, List.length_reverse]; exact dl
  omega
end Go.Proofs.Ytgogdabniebplaa
