import Derived.Test.YtneecniebhhhlaaH26
namespace Go.Proofs.Ytneecniebhhhlaa
set_option linter.unusedSimpArgs false
set_option linter.unusedVariables false
open Go.Abs Go.Proofs.NatL

def upF (S T D : Int) : Int := if D < 0 then S + D * (rLen S T D - 1) else S
def upL (S T D : Int) : Int := if D < 0 then S else S + D * (rLen S T D - 1)
def upS (D : Int) : Int := if D < 0 then -D else D
def rx1 : Cfg := listT [(140, (rgCT RB (fun S T D => oneI (rLen S T D)))), (155, (rgICT pElem (fun S _ D u => oneI (S + D * u)))), (146, (rg2CT (fun a b => FB (a - b)) sub_R)), (28, iOfCT)] [28]
theorem rx1_ok : TblOk Try.prog rx1 := listE_ok (by simp only [List.mem_singleton, forall_eq]; exact flt) ⟨⟨rc7, rc7_ok, rfl⟩, ⟨rc7, rc7_ok, rfl⟩, ⟨rc7, rc7_ok, rfl⟩, ⟨iu1, iu1_ok, rfl⟩, trivial⟩
attribute [go_sem] rx1
set_option maxRecDepth 100000 in
set_option maxHeartbeats 3200000 in
theorem upward_ret (S T D : Int) (h : RB S T D) (hp : 0 < rLen S T D) : Ret Try.prog 141 false [.inr (gG S T D)] (.g (gG (upF S T D) (upL S T D) (upS D))) := by
  obtain ⟨n1, n2, n3⟩ := rb_len h
  obtain ⟨g1, g2, g3, g4⟩ := rb_elem (k := rLen S T D - 1) h (by omega) (by omega)
  have hb := h
  obtain ⟨h0, h1, h2, h3⟩ := h
  have hw := W80_ge
  have a1 : FB S := FB_w (by omega)
  have a3 : FB D := FB_w (by omega)
  have a4 := FB_one
  have a0 := FB_zero
  have a5 : FB (0 - D) := FB_w (by omega)
  unfold upF upL upS
  generalize hN : rLen S T D = n at *
  by_cases hn : D < 0
  · rw [if_pos hn, if_pos hn, if_pos hn]
    have e0 : 0 - D = -D := by omega
    rw [e0] at a5
    simp only [gG]
    (refine q_H Try.func141 (fun F => ?_); simp only [q_z,q_y,Try.ntmps141,Try.results141])
    repeat' (first|(with_reducible first|apply q_a|apply q_b|apply q_c|apply q_d|apply q_e|apply q_f|apply q_g|apply q_h|apply q_i|apply q_j|apply q_k|apply q_m|apply q_n|apply q_o|apply q_p|refine q_l ?_)|((with_reducible first|refine q_q rx1_ok fun K hK=>?_|refine q_r rx1_ok fun K hK=>?_);simp (maxSteps:=2000000) only [go_sem,↓reduceIte,reduceCtorEq,Nat.reduceLeDiff,Nat.reduceLT,Nat.reduceBEq,Nat.reduceAdd,hN, sv_nil, e0];(repeat1' with_reducible first|apply And.intro|(intro _;try exact q_v)|(refine hK _ ?_;clear hK K))<;>(try (clear hK K;exact q_u)))|(with_reducible refine q_s ?_;(first|apply q_J|apply q_K|apply q_L|apply q_M|apply q_N|apply q_O)<;>try (intro _;try exact q_v))|with_reducible refine q_t ?_)
    all_goals first | contradiction | omega | exact ⟨a1, a3, g1, g2, g3⟩ | exact q_A rfl | skip
  · rw [if_neg hn, if_neg hn, if_neg hn]
    simp only [gG]
    (refine q_H Try.func141 (fun F => ?_); simp only [q_z,q_y,Try.ntmps141,Try.results141])
    repeat' (first|(with_reducible first|apply q_a|apply q_b|apply q_c|apply q_d|apply q_e|apply q_f|apply q_g|apply q_h|apply q_i|apply q_j|apply q_k|apply q_m|apply q_n|apply q_o|apply q_p|refine q_l ?_)|((with_reducible first|refine q_q rx1_ok fun K hK=>?_|refine q_r rx1_ok fun K hK=>?_);simp (maxSteps:=2000000) only [go_sem,↓reduceIte,reduceCtorEq,Nat.reduceLeDiff,Nat.reduceLT,Nat.reduceBEq,Nat.reduceAdd,hN, sv_nil];(repeat1' with_reducible first|apply And.intro|(intro _;try exact q_v)|(refine hK _ ?_;clear hK K))<;>(try (clear hK K;exact q_u)))|(with_reducible refine q_s ?_;(first|apply q_J|apply q_K|apply q_L|apply q_M|apply q_N|apply q_O)<;>try (intro _;try exact q_v))|with_reducible refine q_t ?_)
    all_goals first | contradiction | omega | exact ⟨a1, a3, g1, g2, g3⟩ | exact q_A rfl | skip
def pUp (S T D : Int) : Prop := RB S T D ∧ 0 < rLen S T D
def rz2 : Cfg := addT 141 (rgCT pUp (fun S T D => .g (gG (upF S T D) (upL S T D) (upS D)))) rz1
theorem rz2_ok : TblOk Try.prog rz2 := q_I rz1_ok Try.func141 fun l K h =>
  rg_tr (p := pUp) (f := fun S T D => .g (gG (upF S T D) (upL S T D) (upS D))) (fun S T D h => upward_ret S T D h.1 h.2) l K h
theorem mul_w {a b : Int} (ha : a.natAbs ≤ W40) (hb : b.natAbs ≤ W40) : (a * b).natAbs ≤ W80 := by
  rw [Int.natAbs_mul]
  exact Nat.mul_le_mul ha hb
def rx2 : Cfg := listT [(35, (iF2CT (fun _ _ => True) rGcd)), (175, inverseCT), (145, (rg2CT (fun a b => FB (a + b)) add_R)), (146, (rg2CT (fun a b => FB (a - b)) sub_R)), (147, (rg2CT (fun a b => FB (a * b)) mul_R)), (144, (rg2CT (fun _ b => b ≠ 0) dmR)), (139, zeroRCT)] [28]
theorem rx2_ok : TblOk Try.prog rx2 := listE_ok (by simp only [List.mem_singleton, forall_eq]; exact flt) ⟨⟨ku6, ku6_ok, rfl⟩, ⟨rz2, rz2_ok, rfl⟩, ⟨rc7, rc7_ok, rfl⟩, ⟨rc7, rc7_ok, rfl⟩, ⟨rc7, rc7_ok, rfl⟩, ⟨rc7, rc7_ok, rfl⟩, ⟨rc7, rc7_ok, rfl⟩, trivial⟩
attribute [go_sem] rx2
theorem gcd_facts {s t : Int} (hs : 0 < s) (ht : 0 < t) {g o u : Int} (hG : ((Nat.gcd s.natAbs t.natAbs : Nat) : Int) = g) (ho : s.fdiv g = o) (hu : t.fdiv g = u) :
    (0 < g ∧ g ≤ s) ∧ (0 < o ∧ o ≤ s) ∧ (0 < u ∧ u ≤ t) ∧ Nat.gcd o.natAbs u.natAbs = 1 ∧ s = g * o ∧ t = g * u := by
  obtain ⟨a, rfl⟩ : ∃ a : Nat, s = a := ⟨s.toNat, by omega⟩
  obtain ⟨b, rfl⟩ : ∃ b : Nat, t = b := ⟨t.toNat, by omega⟩
  simp only [Int.natAbs_natCast] at hG
  have hg := Nat.gcd_pos_of_pos_left b (show 0 < a by omega)
  have hgl := Nat.gcd_le_left b (show 0 < a by omega)
  have d1 := Nat.gcd_dvd_left a b
  have d2 := Nat.gcd_dvd_right a b
  have hco := Nat.gcd_div_gcd_div_gcd_of_pos_left (m := b) (show 0 < a by omega)
  obtain ⟨x, hx⟩ := d1
  obtain ⟨y, hy⟩ := d2
  generalize Nat.gcd a b = n at *
  subst hG
  obtain ⟨e1, _⟩ := fd_nat a n
  obtain ⟨e2, _⟩ := fd_nat b n
  have q1 : a / n = x := by rw [hx, Nat.mul_div_cancel_left _ hg]
  have q2 : b / n = y := by rw [hy, Nat.mul_div_cancel_left _ hg]
  rw [q1] at e1
  rw [q2] at e2
  rw [q1, q2] at hco
  rw [← ho, ← hu, e1, e2]
  have x0 : 0 < x := Nat.pos_of_ne_zero fun h => by subst h; simp at hx; omega
  have y0 : 0 < y := Nat.pos_of_ne_zero fun h => by subst h; simp at hy; omega
  have x1 : x ≤ a := by rw [hx]; exact Nat.le_mul_of_pos_left _ hg
  have y1 : y ≤ b := by rw [hy]; exact Nat.le_mul_of_pos_left _ hg
  refine ⟨by omega, by omega, by omega, by simpa using hco, ?_, ?_⟩
  · conv => lhs; rw [hx]
    exact Int.natCast_mul _ _
  · conv => lhs; rw [hy]
    exact Int.natCast_mul _ _
set_option maxRecDepth 100000 in
set_option maxHeartbeats 3200000 in
theorem common_none (p l q l' s t g : Int) (hs : 0 < s) (ht : 0 < t) (ws : s.natAbs < W40) (wt : t.natAbs < W40) (wp : p.natAbs < W40) (wq : q.natAbs < W40)
    (hG : ((Nat.gcd s.natAbs t.natAbs : Nat) : Int) = g) (hr : (q - p).fmod g ≠ 0) :
    Ret Try.prog 142 false [.inr (gG p l s), .inr (gG q l' t)] (.t [.inr [.b false, .ints .u32 []], .inr [.b false, .ints .u32 []], .inl (.b false)]) := by
  have hw := W80_ge
  obtain ⟨⟨g0, g1⟩, _⟩ := gcd_facts hs ht hG rfl rfl
  have a1 : FB s := FB_w (by omega)
  have a2 : FB t := FB_w (by omega)
  have a3 : FB p := FB_w (by omega)
  have a4 : FB q := FB_w (by omega)
  have a5 : FB (q - p) := FB_w (by omega)
  have a6 : FB g := FB_w (by omega)
  have hgn : ¬ g = 0 := by omega
  have hzl := zero_len' ((q - p).fmod g)
  have o1 := (okZ_g s).trans (decide_eq_true (FB_len a1))
  have o2 := (okZ_g t).trans (decide_eq_true (FB_len a2))
  simp only [gG]
  (refine q_H Try.func142 (fun F => ?_); simp only [q_z,q_y,Try.ntmps142,Try.results142])
  repeat' (first|(with_reducible first|apply q_a|apply q_b|apply q_c|apply q_d|apply q_e|apply q_f|apply q_g|apply q_h|apply q_i|apply q_j|apply q_k|apply q_m|apply q_n|apply q_o|apply q_p|refine q_l ?_)|((with_reducible first|refine q_q rx2_ok fun K hK=>?_|refine q_r rx2_ok fun K hK=>?_);simp (maxSteps:=2000000) only [go_sem,↓reduceIte,reduceCtorEq,Nat.reduceLeDiff,Nat.reduceLT,Nat.reduceBEq,Nat.reduceAdd,o1, o2, hG, hzl, hr, decide_false];(repeat1' with_reducible first|apply And.intro|(intro _;try exact q_v)|(refine hK _ ?_;clear hK K))<;>(try (clear hK K;exact q_u)))|(with_reducible refine q_s ?_;(first|apply q_J|apply q_K|apply q_L|apply q_M|apply q_N|apply q_O)<;>try (intro _;try exact q_v))|with_reducible refine q_t ?_)
  all_goals first | contradiction | omega | exact FB_len a1 | exact FB_len a2 | exact q_B [nP, nP, .inl none] rfl rfl
set_option maxRecDepth 100000 in
set_option maxHeartbeats 6400000 in
theorem common_some (p l q l' s t g o u : Int) (i : Nat) (hs : 0 < s) (ht : 0 < t) (ws : s.natAbs < W40) (wt : t.natAbs < W40) (wp : p.natAbs < W40) (wq : q.natAbs < W40)
    (hG : ((Nat.gcd s.natAbs t.natAbs : Nat) : Int) = g) (hr : (q - p).fmod g = 0) (ho : s.fdiv g = o) (hu : t.fdiv g = u) (hi : (i : Int) < u) (hk : ∃ k : Int, o * i = 1 + u * k) :
    Ret Try.prog 142 false [.inr (gG p l s), .inr (gG q l' t)]
      (.t [.inr (gI (p + s * ((((q - p).fdiv g).fmod u * i).fmod u))), .inr (gI (s * u)), .inl (.b true)]) := by
  have hw := W80_ge
  obtain ⟨⟨g0, g1⟩, ⟨o0, ol⟩, ⟨u0, ul⟩, hco, _, _⟩ := gcd_facts hs ht hG ho hu
  have a1 : FB s := FB_w (by omega)
  have a2 : FB t := FB_w (by omega)
  have a3 : FB p := FB_w (by omega)
  have a4 : FB q := FB_w (by omega)
  have a5 : FB (q - p) := FB_w (by omega)
  have a6 : FB g := FB_w (by omega)
  have hgn : ¬ g = 0 := by omega
  have hzl := zero_len' ((q - p).fmod g)
  have o1 := (okZ_g s).trans (decide_eq_true (FB_len a1))
  have o2 := (okZ_g t).trans (decide_eq_true (FB_len a2))
  have hun : ¬ u = 0 := by omega
  have a7 : FB o := FB_w (by omega)
  have a8 : FB u := FB_w (by omega)
  have a9 : FB (i : Int) := FB_w (by omega)
  have hfb : FB ((q - p).fdiv g) := by
    have e := Int.fmod_add_mul_fdiv (q - p) g
    rw [hr] at e
    have e2 : (g * (q - p).fdiv g).natAbs = g.natAbs * ((q - p).fdiv g).natAbs := Int.natAbs_mul _ _
    have e3 : ((q - p).fdiv g).natAbs ≤ g.natAbs * ((q - p).fdiv g).natAbs := Nat.le_mul_of_pos_left _ (by omega)
    generalize g * (q - p).fdiv g = y at *
    generalize g.natAbs * ((q - p).fdiv g).natAbs = z at *
    exact FB_w (by omega)
  have f1 := (Int.fdiv_fmod_unique (a := (q - p).fdiv g) u0).1 ⟨rfl, rfl⟩
  generalize hy : (q - p).fdiv g = y at *
  generalize hv : y.fmod u = v at *
  have b1 : (v * (i : Int)).natAbs ≤ W80 := mul_w (by omega) (by omega)
  have a10 : FB v := FB_w (by omega)
  have a11 : FB (v * (i : Int)) := FB_w (by omega)
  have f2 := (Int.fdiv_fmod_unique (a := v * (i : Int)) u0).1 ⟨rfl, rfl⟩
  generalize hx : (v * (i : Int)).fmod u = x at *
  have b2 : (s * x).natAbs ≤ W80 := mul_w (by omega) (by omega)
  have b3 : (s * u).natAbs ≤ W80 := mul_w (by omega) (by omega)
  have a12 : FB x := FB_w (by omega)
  have a13 : FB (s * x) := FB_w (by omega)
  have a14 : FB (p + s * x) := FB_w (by omega)
  have a15 : FB (s * u) := FB_w (by omega)
  have pI : pInv o u := ⟨by omega, by omega, by omega, by omega, hco⟩
  have hiu : ∀ j : Nat, (j : Int) < u → (∃ k : Int, o * j = 1 + u * k) → j = i := fun j hj hjk => by
    obtain ⟨a, rfl⟩ : ∃ a : Nat, o = a := ⟨o.toNat, by omega⟩
    obtain ⟨b, rfl⟩ : ∃ b : Nat, u = b := ⟨u.toNat, by omega⟩
    exact inv_unique (by omega) (by omega) hjk hk
  simp only [gG, gI]
  (refine q_H Try.func142 (fun F => ?_); simp only [q_z,q_y,Try.ntmps142,Try.results142])
  repeat' (first|(with_reducible first|apply q_a|apply q_b|apply q_c|apply q_d|apply q_e|apply q_f|apply q_g|apply q_h|apply q_i|apply q_j|apply q_k|apply q_m|apply q_n|apply q_o|apply q_p|refine q_l ?_)|((with_reducible first|refine q_q rx2_ok fun K hK=>?_|refine q_r rx2_ok fun K hK=>?_);simp (maxSteps:=2000000) only [go_sem,↓reduceIte,reduceCtorEq,Nat.reduceLeDiff,Nat.reduceLT,Nat.reduceBEq,Nat.reduceAdd,o1, o2, hG, hzl, hr, decide_true, ho, hu, hy];(repeat1' with_reducible first|apply And.intro|(intro _;try exact q_v)|(refine hK _ ?_;clear hK K))<;>(try (clear hK K;exact q_u)))|(with_reducible refine q_s ?_;(first|apply q_J|apply q_K|apply q_L|apply q_M|apply q_N|apply q_O)<;>try (intro _;try exact q_v))|with_reducible refine q_t ?_)
  all_goals first | contradiction | omega | exact FB_len a1 | exact FB_len a2 | exact pI | skip
  all_goals
    rename_i j hj hjk
    obtain rfl := hiu j hj hjk
    try simp only [hv, hx]
    first | assumption | exact q_A rfl
def pCom (p s q t : Int) : Prop := (0 < s ∧ 0 < t) ∧ s.natAbs < W40 ∧ t.natAbs < W40 ∧ p.natAbs < W40 ∧ q.natAbs < W40
def gOf (s t : Int) : Int := ((Nat.gcd s.natAbs t.natAbs : Nat) : Int)
def comF (p s q t i : Int) : Int := p + s * ((((q - p).fdiv (gOf s t)).fmod (t.fdiv (gOf s t)) * i).fmod (t.fdiv (gOf s t)))
def comS (s t : Int) : Int := s * t.fdiv (gOf s t)
def isInv (s t : Int) (i : Nat) : Prop := (i : Int) < t.fdiv (gOf s t) ∧ ∃ k : Int, s.fdiv (gOf s t) * i = 1 + t.fdiv (gOf s t) * k
def rcommonCT : CT := mkCT [nG, nG] false fun l K => match l with
  | [.inr [.b s0, .ints .u32 x0, .b s1, .ints .u32 x1, .b s2, .ints .u32 x2], .inr [.b t0, .ints .u32 y0, .b t1, .ints .u32 y1, .b t2, .ints .u32 y2]] => ((Nrm s0 x0 ∧ Nrm s1 x1 ∧ Nrm s2 x2 ∧ Nrm t0 y0 ∧ Nrm t1 y1 ∧ Nrm t2 y2) ∧ pCom (sv 4294967296 s0 x0) (sv 4294967296 s2 x2) (sv 4294967296 t0 y0) (sv 4294967296 t2 y2)) ∧
      ((sv 4294967296 t0 y0 - sv 4294967296 s0 x0).fmod (gOf (sv 4294967296 s2 x2) (sv 4294967296 t2 y2)) ≠ 0 → K (.t [.inr [.b false, .ints .u32 []], .inr [.b false, .ints .u32 []], .inl (.b false)])) ∧
      ((sv 4294967296 t0 y0 - sv 4294967296 s0 x0).fmod (gOf (sv 4294967296 s2 x2) (sv 4294967296 t2 y2)) = 0 → ∀ i : Nat, isInv (sv 4294967296 s2 x2) (sv 4294967296 t2 y2) i →
        K (.t [.inr (gI (comF (sv 4294967296 s0 x0) (sv 4294967296 s2 x2) (sv 4294967296 t0 y0) (sv 4294967296 t2 y2) i)), .inr (gI (comS (sv 4294967296 s2 x2) (sv 4294967296 t2 y2))), .inl (.b true)]))
  | _ => False
def rz3 : Cfg := addT 142 rcommonCT rz2
theorem rz3_ok : TblOk Try.prog rz3 := q_I rz2_ok Try.func142 fun l K h => by
  split at h
  · rename_i s0 x0 s1 x1 s2 x2 t0 y0 t1 y1 t2 y2
    obtain ⟨⟨⟨n0, n1, n2, m0, m1, m2⟩, ⟨hs, ht⟩, w1, w2, w3, w4⟩, hbad, hok⟩ := h
    rw [gG_nrm n0 n1 n2, gG_nrm m0 m1 m2]
    generalize sv 4294967296 s0 x0 = p at *
    generalize sv 4294967296 t0 y0 = q at *
    generalize sv 4294967296 s2 x2 = s at *
    generalize sv 4294967296 t2 y2 = t at *
    by_cases hr : (q - p).fmod (gOf s t) = 0
    · obtain ⟨⟨g0, g1⟩, ⟨o0, ol⟩, ⟨u0, ul⟩, hco, _, _⟩ := gcd_facts hs ht (g := gOf s t) rfl rfl rfl
      obtain ⟨i, hi, hk⟩ := inv_ex (s.fdiv (gOf s t)).toNat (t.fdiv (gOf s t)).toNat (by omega) (by
        rw [show (s.fdiv (gOf s t)).toNat = (s.fdiv (gOf s t)).natAbs by omega, show (t.fdiv (gOf s t)).toNat = (t.fdiv (gOf s t)).natAbs by omega]; exact hco)
      rw [Int.toNat_of_nonneg (by omega), Int.toNat_of_nonneg (by omega)] at hk
      exact ⟨_, common_some p _ q _ s t (gOf s t) _ _ i hs ht w1 w2 w3 w4 rfl hr rfl rfl (by omega) hk, hok hr i ⟨by omega, hk⟩⟩
    · exact ⟨_, common_none p _ q _ s t (gOf s t) hs ht w1 w2 w3 w4 rfl hr, hbad hr⟩
  · exact h.elim
attribute [go_sem] rcommonCT
end Go.Proofs.Ytneecniebhhhlaa

namespace Go.Proofs.Ytneecniebhhhlaa
set_option linter.unusedSimpArgs false
set_option linter.unusedVariables false
open Go.Abs Go.Proofs.NatL

def rz4 : Cfg := addT 149 (rgCT RB (fun S T D => .g (gG (plS S T D) (plT S T D) (plD S T D)))) rz3
theorem rz4_ok : TblOk Try.prog rz4 := q_I rz3_ok Try.func149 fun l K h =>
  rg_tr (p := RB) (f := fun S T D => .g (gG (plS S T D) (plT S T D) (plD S T D))) (fun S T D h => plain_ret S T D h) l K h
set_option maxRecDepth 100000 in
set_option maxHeartbeats 6400000 in
theorem check2_ret (s t d s' t' d' : Bool) (xs ys zs xs' ys' zs' : List Int) (h1 : xs.length ≤ 140737488355328) (h2 : ys.length ≤ 140737488355328) (h3 : zs.length ≤ 140737488355328) (h1' : xs'.length ≤ 140737488355328) (h2' : ys'.length ≤ 140737488355328) (h3' : zs'.length ≤ 140737488355328) :
    Ret Try.prog 138 false [.inl (.sl 6 [[.b s, .ints .u32 xs, .b t, .ints .u32 ys, .b d, .ints .u32 zs], [.b s', .ints .u32 xs', .b t', .ints .u32 ys', .b d', .ints .u32 zs']])]
      (.g [.i .i64 (if vR s t d xs ys zs = true ∧ vR s' t' d' xs' ys' zs' = true then 0 else 6), .i .i64 (if vR s t d xs ys zs = true then (if vR s' t' d' xs' ys' zs' = true then 0 else -2) else -1)]) := by
  have c1 : ((1 : Nat) : Int).toNat = 1 := rfl
  have c0 : ((0 : Nat) : Int).toNat = 0 := rfl
  cases hv : vR s t d xs ys zs
  all_goals cases hw : vR s' t' d' xs' ys' zs'
  all_goals
    (refine q_H Try.func138 (fun F => ?_); simp only [q_z,q_y,Try.ntmps138,Try.results138])
    repeat' (first|(with_reducible first|apply q_a|apply q_b|apply q_c|apply q_d|apply q_e|apply q_f|apply q_g|apply q_h|apply q_i|apply q_j|apply q_k|apply q_m|apply q_n|apply q_o|apply q_p|refine q_l ?_)|((with_reducible first|refine q_q rb6_ok fun K hK=>?_|refine q_r rb6_ok fun K hK=>?_);simp (maxSteps:=2000000) only [go_sem,↓reduceIte,reduceCtorEq,Nat.reduceLeDiff,Nat.reduceLT,Nat.reduceBEq,Nat.reduceAdd];(repeat1' with_reducible first|apply And.intro|(intro _;try exact q_v)|(refine hK _ ?_;clear hK K))<;>(try (clear hK K;exact q_u)))|(with_reducible refine q_s ?_;(first|apply q_J|apply q_K|apply q_L|apply q_M|apply q_N|apply q_O)<;>try (intro _;try exact q_v))|with_reducible refine q_t ?_)
    refine q_G (ι := { i : Nat // i ≤ 2 ∧ (0 < i → vR s t d xs ys zs = true) ∧ (1 < i → vR s' t' d' xs' ys' zs' = true) }) (fun i => ⟨20, [(2, .bx 0 0), (5, .c (.sl 6 [[.b s, .ints .u32 xs, .b t, .ints .u32 ys, .b d, .ints .u32 zs], [.b s', .ints .u32 xs', .b t', .ints .u32 ys', .b d', .ints .u32 zs']])), (6, .c (.i .i64 2)), (7, .c (.i .i64 (i.1 : Nat)))], ⟨[(0, [.c (.i .i64 0), .c (.i .i64 0)])], [], []⟩, 1⟩) (fun i => 2 - i.1) ⟨0, by omega, fun h => by omega, fun h => by omega⟩ ?_ ?_
    · exact q_D
    rintro ⟨i, i1, i2, i3⟩
    simp only at i1 i2 i3 ⊢
    rcases (show i = 0 ∨ i = 1 ∨ i = 2 by omega) with rfl | rfl | rfl
    · repeat' (first|(with_reducible first|apply q_a|apply q_b|apply q_c|apply q_d|apply q_e|apply q_f|apply q_g|apply q_h|apply q_i|apply q_j|apply q_k|apply q_m|apply q_n|apply q_o|apply q_p|refine q_l ?_)|((with_reducible first|refine q_q rb6_ok fun K hK=>?_|refine q_r rb6_ok fun K hK=>?_);simp (maxSteps:=2000000) only [go_sem,↓reduceIte,reduceCtorEq,Nat.reduceLeDiff,Nat.reduceLT,Nat.reduceBEq,Nat.reduceAdd,hv, c0, List.getD_cons_zero, Int.toNat_natCast];(repeat1' with_reducible first|apply And.intro|(intro _;try exact q_v)|(refine hK _ ?_;clear hK K))<;>(try (clear hK K;exact q_u)))|(with_reducible refine q_s ?_;(first|apply q_J|apply q_K|apply q_L|apply q_M|apply q_N|apply q_O)<;>try (intro _;try exact q_v))|with_reducible refine q_t ?_)
      all_goals first
        | omega
        | exact q_A rfl
        | (refine q_F ⟨1, by omega, fun _ => hv, fun h => by omega⟩ ?_ (by simp only; omega)
           exact q_D)
    · repeat' (first|(with_reducible first|apply q_a|apply q_b|apply q_c|apply q_d|apply q_e|apply q_f|apply q_g|apply q_h|apply q_i|apply q_j|apply q_k|apply q_m|apply q_n|apply q_o|apply q_p|refine q_l ?_)|((with_reducible first|refine q_q rb6_ok fun K hK=>?_|refine q_r rb6_ok fun K hK=>?_);simp (maxSteps:=2000000) only [go_sem,↓reduceIte,reduceCtorEq,Nat.reduceLeDiff,Nat.reduceLT,Nat.reduceBEq,Nat.reduceAdd,hw, c1, List.getD_cons_zero, List.getD_cons_succ, Int.toNat_natCast];(repeat1' with_reducible first|apply And.intro|(intro _;try exact q_v)|(refine hK _ ?_;clear hK K))<;>(try (clear hK K;exact q_u)))|(with_reducible refine q_s ?_;(first|apply q_J|apply q_K|apply q_L|apply q_M|apply q_N|apply q_O)<;>try (intro _;try exact q_v))|with_reducible refine q_t ?_)
      all_goals first
        | omega
        | (rw [hv] at i2; exact absurd (i2 (by omega)) (by decide))
        | exact q_A rfl
        | (refine q_F ⟨2, by omega, fun _ => i2 (by omega), fun _ => hw⟩ ?_ (by simp only; omega)
           exact q_D)
    · repeat' (first|(with_reducible first|apply q_a|apply q_b|apply q_c|apply q_d|apply q_e|apply q_f|apply q_g|apply q_h|apply q_i|apply q_j|apply q_k|apply q_m|apply q_n|apply q_o|apply q_p|refine q_l ?_)|((with_reducible first|refine q_q rb6_ok fun K hK=>?_|refine q_r rb6_ok fun K hK=>?_);simp (maxSteps:=2000000) only [go_sem,↓reduceIte,reduceCtorEq,Nat.reduceLeDiff,Nat.reduceLT,Nat.reduceBEq,Nat.reduceAdd];(repeat1' with_reducible first|apply And.intro|(intro _;try exact q_v)|(refine hK _ ?_;clear hK K))<;>(try (clear hK K;exact q_u)))|(with_reducible refine q_s ?_;(first|apply q_J|apply q_K|apply q_L|apply q_M|apply q_N|apply q_O)<;>try (intro _;try exact q_v))|with_reducible refine q_t ?_)
      all_goals first | omega | (rw [hv] at i2; exact absurd (i2 (by omega)) (by decide)) | (rw [hw] at i3; exact absurd (i3 (by omega)) (by decide)) | exact q_A rfl
def check2CT : CT := mkCT [] true fun l K => match l with
  | [.inl (.sl 6 [[.b s, .ints .u32 xs, .b t, .ints .u32 ys, .b d, .ints .u32 zs], [.b s', .ints .u32 xs', .b t', .ints .u32 ys', .b d', .ints .u32 zs']])] => ((xs.length ≤ 140737488355328 ∧ ys.length ≤ 140737488355328 ∧ zs.length ≤ 140737488355328) ∧ xs'.length ≤ 140737488355328 ∧ ys'.length ≤ 140737488355328 ∧ zs'.length ≤ 140737488355328) ∧
      (vR s t d xs ys zs = true → (vR s' t' d' xs' ys' zs' = true → K (.g [.i .i64 0, .i .i64 0])) ∧ (vR s' t' d' xs' ys' zs' = false → K (.g [.i .i64 6, .i .i64 (-2)]))) ∧ (vR s t d xs ys zs = false → K (.g [.i .i64 6, .i .i64 (-1)]))
  | _ => False
def rz5 : Cfg := addT 138 check2CT rz4
theorem rz5_ok : TblOk Try.prog rz5 := q_I rz4_ok Try.func138 fun l K h => by
  split at h
  · rename_i s xs t ys d zs s' xs' t' ys' d' zs'
    have := check2_ret s t d s' t' d' xs ys zs xs' ys' zs' h.1.1.1 h.1.1.2.1 h.1.1.2.2 h.1.2.1 h.1.2.2.1 h.1.2.2.2
    cases hv : vR s t d xs ys zs
    · rw [hv] at this
      exact ⟨_, this.plain rfl, h.2.2 hv⟩
    · have h2 := h.2.1 hv
      cases hw : vR s' t' d' xs' ys' zs'
      · rw [hv, hw] at this
        exact ⟨_, this.plain rfl, h2.2 hw⟩
      · rw [hv, hw] at this
        exact ⟨_, this.plain rfl, h2.1 hw⟩
  · exact h.elim
attribute [go_sem] check2CT
def wholeCT : CT := mkCT [nG] false fun l K => match l with
  | [.inr [.b s, .ints .u32 xs, .b t, .ints .u32 ys, .b d, .ints .u32 zs]] => (xs.length ≤ 140737488355328 ∧ ys.length ≤ 140737488355328 ∧ zs.length ≤ 140737488355328) ∧
      (vR s t d xs ys zs = true → K (.t [.inr [.b s, .ints .u32 xs, .b t, .ints .u32 ys, .b d, .ints .u32 zs], .inr [.i .i64 0, .i .i64 0]])) ∧
      (vR s t d xs ys zs = false → K (.t [.inr [.b false, .ints .u32 [], .b false, .ints .u32 [], .b false, .ints .u32 []], .inr [.i .i64 14, .i .i64 (-1)]]))
  | _ => False
def rz6 : Cfg := addT 148 wholeCT rz5
theorem rz6_ok : TblOk Try.prog rz6 := q_I rz5_ok Try.func148 fun l K h => by
  split at h
  · rename_i s xs t ys d zs
    obtain ⟨⟨h1, h2, h3⟩, hok, hbad⟩ := h
    cases hv : vR s t d xs ys zs
    · refine ⟨_, ?_, hbad hv⟩
      (refine q_H Try.func148 (fun F => ?_); simp only [q_z,q_y,Try.ntmps148,Try.results148])
      repeat' (first|(with_reducible first|apply q_a|apply q_b|apply q_c|apply q_d|apply q_e|apply q_f|apply q_g|apply q_h|apply q_i|apply q_j|apply q_k|apply q_m|apply q_n|apply q_o|apply q_p|refine q_l ?_)|((with_reducible first|refine q_q rb6_ok fun K hK=>?_|refine q_r rb6_ok fun K hK=>?_);simp (maxSteps:=2000000) only [go_sem,↓reduceIte,reduceCtorEq,Nat.reduceLeDiff,Nat.reduceLT,Nat.reduceBEq,Nat.reduceAdd,hv];(repeat1' with_reducible first|apply And.intro|(intro _;try exact q_v)|(refine hK _ ?_;clear hK K))<;>(try (clear hK K;exact q_u)))|(with_reducible refine q_s ?_;(first|apply q_J|apply q_K|apply q_L|apply q_M|apply q_N|apply q_O)<;>try (intro _;try exact q_v))|with_reducible refine q_t ?_)
      all_goals first | contradiction | exact q_B [nG, .inr [none, none]] rfl rfl
    · refine ⟨_, ?_, hok hv⟩
      (refine q_H Try.func148 (fun F => ?_); simp only [q_z,q_y,Try.ntmps148,Try.results148])
      repeat' (first|(with_reducible first|apply q_a|apply q_b|apply q_c|apply q_d|apply q_e|apply q_f|apply q_g|apply q_h|apply q_i|apply q_j|apply q_k|apply q_m|apply q_n|apply q_o|apply q_p|refine q_l ?_)|((with_reducible first|refine q_q rb6_ok fun K hK=>?_|refine q_r rb6_ok fun K hK=>?_);simp (maxSteps:=2000000) only [go_sem,↓reduceIte,reduceCtorEq,Nat.reduceLeDiff,Nat.reduceLT,Nat.reduceBEq,Nat.reduceAdd,hv];(repeat1' with_reducible first|apply And.intro|(intro _;try exact q_v)|(refine hK _ ?_;clear hK K))<;>(try (clear hK K;exact q_u)))|(with_reducible refine q_s ?_;(first|apply q_J|apply q_K|apply q_L|apply q_M|apply q_N|apply q_O)<;>try (intro _;try exact q_v))|with_reducible refine q_t ?_)
      all_goals first | contradiction | exact q_A rfl
  · exact h.elim
attribute [go_sem] wholeCT
end Go.Proofs.Ytneecniebhhhlaa
