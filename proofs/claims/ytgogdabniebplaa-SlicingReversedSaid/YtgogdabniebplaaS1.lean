namespace Go.Proofs.NatL
set_option linter.unusedSimpArgs false
set_option linter.unusedVariables false
def bnd (z lo hi : Int) : Int := min (max z lo) hi
def enda (z n lo hi : Int) : Int := bnd (if bnd z (-n - 1) n < 0 then bnd z (-n - 1) n + n else bnd z (-n - 1) n) lo hi
def slStep (g : Bool) (z : Int) : Int := if g = true then bnd z (-10000) 10000 else 1
def slLo (sp : Int) : Int := if sp < 0 then -1 else 0
def slHi (sp n : Int) : Int := if sp < 0 then n - 1 else n
def slSta (g : Bool) (z n sp : Int) : Int := if g = true then enda z n (slLo sp) (slHi sp n) else if sp < 0 then slHi sp n else slLo sp
def slSto (g : Bool) (z n sp : Int) : Int := if g = true then enda z n (slLo sp) (slHi sp n) else if sp < 0 then slLo sp else slHi sp n
def slCnt (st so sp : Int) : Nat := (if sp < 0 then (st - so - sp - 1) / (-sp) else (so - st + sp - 1) / sp).toNat
theorem enda_eq {z n lo hi : Int} (hn : 0 ≤ n) (h1 : -1 ≤ lo) (h2 : lo ≤ hi) (h3 : hi ≤ n) : enda z n lo hi = bnd (if z < 0 then z + n else z) lo hi := by
  unfold enda bnd; (repeat' split) <;> omega
theorem bnd_in {z lo hi : Int} (h : lo ≤ hi) : lo ≤ bnd z lo hi ∧ bnd z lo hi ≤ hi := by unfold bnd; omega
theorem lo_hi {sp n : Int} (hn : 0 ≤ n) : -1 ≤ slLo sp ∧ slLo sp ≤ 0 ∧ slLo sp ≤ slHi sp n ∧ slHi sp n ≤ n ∧ (sp < 0 → slLo sp = -1 ∧ slHi sp n = n - 1) ∧ (¬ sp < 0 → slLo sp = 0 ∧ slHi sp n = n) := by
  unfold slLo slHi; (repeat' split) <;> omega
theorem sta_in {g : Bool} {z n sp : Int} (hn : 0 ≤ n) : slLo sp ≤ slSta g z n sp ∧ slSta g z n sp ≤ slHi sp n := by
  obtain ⟨h1, h2, h3, h4, h5, h6⟩ := lo_hi (sp := sp) hn
  unfold slSta
  split
  · rw [enda_eq hn h1 h3 h4]; exact bnd_in h3
  · split <;> omega
theorem sto_in {g : Bool} {z n sp : Int} (hn : 0 ≤ n) : slLo sp ≤ slSto g z n sp ∧ slSto g z n sp ≤ slHi sp n := by
  obtain ⟨h1, h2, h3, h4, h5, h6⟩ := lo_hi (sp := sp) hn
  unfold slSto
  split
  · rw [enda_eq hn h1 h3 h4]; exact bnd_in h3
  · split <;> omega
theorem step_in (g : Bool) (z : Int) : -10000 ≤ slStep g z ∧ slStep g z ≤ 10000 := by
  unfold slStep; split
  · exact bnd_in (by omega)
  · omega
theorem step_ne {g : Bool} {z : Int} (h : g = true → z ≠ 0) : slStep g z ≠ 0 := by
  unfold slStep bnd; split
  · rename_i hg; have := h hg; omega
  · omega
theorem cdiv_iff (m s : Int) (hs : 0 < s) (k : Nat) : k < ((m + s - 1) / s).toNat ↔ (k : Int) * s < m := by
  have h : (k : Int) + 1 ≤ (m + s - 1) / s ↔ ((k : Int) + 1) * s ≤ m + s - 1 := Int.le_ediv_iff_mul_le hs
  rw [Int.add_mul, Int.one_mul] at h
  generalize (k : Int) * s = p at *
  omega
theorem tdiv_max (a s : Int) (hs : 0 < s) : max 0 (a.tdiv s) = (((a / s).toNat : Nat) : Int) := by
  rcases Int.lt_or_le a 0 with h | h
  · have h1 : a / s < 0 := Int.ediv_neg_of_neg_of_pos h hs
    have h2 : a.tdiv s ≤ 0 := by
      have e : a = -(-a) := by omega
      rw [e, Int.neg_tdiv]
      have := Int.tdiv_nonneg (a := -a) (b := s) (by omega) (by omega)
      omega
    omega
  · rw [Int.tdiv_eq_ediv_of_nonneg h]
    have := Int.ediv_nonneg h (Int.le_of_lt hs)
    omega
theorem tdiv_bd (a s : Int) : -(a.natAbs : Int) ≤ a.tdiv s ∧ a.tdiv s ≤ a.natAbs := by
  have h := Int.natAbs_tdiv a s
  have h2 : a.natAbs.div s.natAbs ≤ a.natAbs := Nat.div_le_self _ _
  rw [← h] at h2
  generalize a.tdiv s = q at *
  omega
theorem cnt_iff {st so sp : Int} (h : sp ≠ 0) (k : Nat) : k < slCnt st so sp ↔ (0 < sp ∧ st + k * sp < so ∨ sp < 0 ∧ so < st + k * sp) := by
  unfold slCnt
  split
  · rename_i hn
    have := cdiv_iff (st - so) (-sp) (by omega) k
    rw [Int.mul_neg] at this
    rw [show st - so - sp - 1 = st - so + -sp - 1 by omega, this]
    generalize (k : Int) * sp = p at *
    omega
  · have := cdiv_iff (so - st) sp (by omega) k
    rw [this]
    generalize (k : Int) * sp = p at *
    omega
theorem cnt_go {st so sp : Int} (h : sp ≠ 0) : (slCnt st so sp : Int) = if sp < 0 then max 0 ((st - so - sp - 1).tdiv (-sp)) else max 0 ((so - st + sp - 1).tdiv sp) := by
  unfold slCnt
  split
  · rw [tdiv_max _ _ (by omega)]
  · rw [tdiv_max _ _ (by omega)]
theorem pos_in {g0 g1 : Bool} {z0 z1 n sp : Int} (hn : 0 ≤ n) (h : sp ≠ 0) (k : Nat) (hk : k < slCnt (slSta g0 z0 n sp) (slSto g1 z1 n sp) sp) : 0 ≤ slSta g0 z0 n sp + k * sp ∧ slSta g0 z0 n sp + k * sp < n := by
  have h1 := (cnt_iff h k).1 hk
  have h2 := sta_in (g := g0) (z := z0) (sp := sp) hn
  have h3 := sto_in (g := g1) (z := z1) (sp := sp) hn
  have h4 := lo_hi (sp := sp) hn
  rcases h1 with ⟨p, h1⟩ | ⟨p, h1⟩
  · have := Int.mul_nonneg (show 0 ≤ (k : Int) by omega) (Int.le_of_lt p)
    generalize (k : Int) * sp = q at *
    omega
  · have := Int.mul_nonneg (show 0 ≤ (k : Int) by omega) (show 0 ≤ -sp by omega)
    rw [Int.mul_neg] at this
    generalize (k : Int) * sp = q at *
    omega
theorem cnt_le {g0 g1 : Bool} {z0 z1 sp : Int} {n : Nat} (h : sp ≠ 0) : slCnt (slSta g0 z0 n sp) (slSto g1 z1 n sp) sp ≤ n := by
  rcases Nat.lt_or_ge n (slCnt (slSta g0 z0 n sp) (slSto g1 z1 n sp) sp) with hlt | hge
  · have h0 := pos_in (g0 := g0) (g1 := g1) (z0 := z0) (z1 := z1) (n := n) (by omega) h 0 (by omega)
    have h1 := pos_in (g0 := g0) (g1 := g1) (z0 := z0) (z1 := z1) (n := n) (by omega) h n hlt
    rcases Int.lt_or_gt_of_ne h with p | p
    · have : (n : Int) * 1 ≤ n * -sp := Int.mul_le_mul_of_nonneg_left (by omega) (by omega)
      rw [Int.mul_neg] at this
      generalize (n : Int) * sp = q at *
      omega
    · have : (n : Int) * 1 ≤ n * sp := Int.mul_le_mul_of_nonneg_left (by omega) (by omega)
      generalize (n : Int) * sp = q at *
      omega
  · exact hge
def slPos (st sp : Int) (c : Nat) : List Int := (List.range c).map fun k : Nat => st + (k : Int) * sp
theorem slPos_succ (st sp : Int) (c : Nat) : slPos st sp (c + 1) = slPos st sp c ++ [st + (c : Int) * sp] := by simp [slPos, List.range_succ]
theorem slPos_len (st sp : Int) (c : Nat) : (slPos st sp c).length = c := by simp [slPos]
theorem slPos_get (st sp : Int) (c k : Nat) (h : k < c) : (slPos st sp c).getD k 0 = st + (k : Int) * sp := by
  simp [slPos, List.getD_eq_getElem?_getD, h]
end Go.Proofs.NatL
