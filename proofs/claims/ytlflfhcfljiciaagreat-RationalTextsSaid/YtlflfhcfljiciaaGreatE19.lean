import Derived.Test.YtlflfhcfljiciaaGreatE14
import Derived.Test.YtlflfhcfljiciaaGreatE16
import Derived.Test.YtlflfhcfljiciaaGreatE18
namespace Go.Proofs.NatL
set_option linter.unusedSimpArgs false
set_option linter.unusedVariables false
theorem cmp3_is1 (m : Nat) : cmp3 m 1 = 0 ↔ m = 1 := by unfold cmp3; (repeat' split) <;> omega
end Go.Proofs.NatL
namespace Go.Proofs.YtlflfhcfljiciaaGreat
set_option linter.unusedSimpArgs false
set_option linter.unusedVariables false
open Go.Abs Go.Proofs.NatL

def plusQCT : CT := mkCT [nR, nR] false fun l K => match l with
  | [.inr [.b s, .ints .i64 xs], .inr [.b t, .ints .i64 ys]] => (InB 65536 xs ∧ Trd xs ∧ xs.length ≤ 1048576 ∧ InB 65536 ys ∧ Trd ys ∧ ys.length ≤ 1048576) ∧ K (.g (gRz (sv 65536 s xs + sv 65536 t ys) s))
  | _ => False
def rqa : Cfg := jt15
theorem rqa_ok : TblOk Tryz.prog rqa := jt15_ok
def floorQCT : CT := mkCT [nR, nR] false fun l K => match l with
  | [.inr [.b s, .ints .i64 xs], .inr [.b t, .ints .i64 ys]] => (InB 65536 xs ∧ Trd xs ∧ xs.length ≤ 65536 ∧ InB 65536 ys ∧ Trd ys ∧ ys.length ≤ 65536 ∧ sv 65536 t ys ≠ 0) ∧ K (.t [.inr (gRz ((sv 65536 s xs).fdiv (sv 65536 t ys)) (s != t)), .inr (gRz ((sv 65536 s xs).fmod (sv 65536 t ys)) t)])
  | _ => False
def rqb : Cfg := rqa
theorem rqb_ok : TblOk Tryz.prog rqb := rqa_ok
attribute [go_sem] plusQCT floorQCT
abbrev nT : Option C ⊕ List (Option C) := .inr [none, some (.ints .i64 []), some (.ints .i64 [])]
abbrev gT (z : Int) (d : Nat) (c : Bool) : List C := [.b (sgz z c), .ints .i64 (dg 65536 z.natAbs), .ints .i64 (dg 65536 d)]
def qr1 : Cfg := listT [(56, ivalidCT), (32, ofCT), (31, intOfCT), (19, commonCT), (11, smallCT), (10, rcmpCT), (17, (rI2CT 4194304 ordF)), (18, fitsCT), (59, (rnumCT (fun _ _ => True) (· * ·))), (29, sameIntCT), (58, noIntCT)] [28]
theorem qr1_ok : TblOk Tryz.prog qr1 := listE_ok (by simp only [List.mem_singleton, forall_eq]; exact flt) ⟨⟨jt1, jt1_ok, rfl⟩, ⟨rqb, rqb_ok, rfl⟩, ⟨rqb, rqb_ok, rfl⟩, ⟨rqb, rqb_ok, rfl⟩, ⟨rqb, rqb_ok, rfl⟩, ⟨rqb, rqb_ok, rfl⟩, ⟨rqb, rqb_ok, rfl⟩, ⟨rqb, rqb_ok, rfl⟩, ⟨rqb, rqb_ok, rfl⟩, ⟨rqb, rqb_ok, rfl⟩, ⟨rqb, rqb_ok, rfl⟩, trivial⟩
attribute [go_sem] qr1
set_option maxHeartbeats 1600000 in
theorem ratioOk_ret (s t : Bool) (xs ys : List Int) (h1 : xs.length ≤ 140737488355328) (h2 : ys.length ≤ 140737488355328) (b1 : InB 4294967296 xs) (b2 : InB 4294967296 ys) :
    Ret Tryz.prog 30 false [.inr [.b s, .ints .u32 xs, .b t, .ints .u32 ys]] (.c (.b (okQ s xs t ys))) := by
  cases e1 : okZ s xs
  · (refine q_H Tryz.func30 (fun F => ?_); simp only [q_z,q_y,Tryz.ntmps30,Tryz.results30])
    repeat' (first|(with_reducible first|apply q_a|apply q_b|apply q_c|apply q_d|apply q_e|apply q_f|apply q_g|apply q_h|apply q_i|apply q_j|apply q_k|apply q_m|apply q_n|apply q_o|apply q_p|refine q_l ?_)|((with_reducible first|refine q_q qr1_ok fun K hK=>?_|refine q_r qr1_ok fun K hK=>?_);simp (maxSteps:=2000000) only [go_sem,↓reduceIte,reduceCtorEq,Nat.reduceLeDiff,Nat.reduceLT,Nat.reduceBEq,Nat.reduceAdd,e1];(repeat1' with_reducible first|apply And.intro|(intro _;try exact q_v)|(refine hK _ ?_;clear hK K))<;>(try (clear hK K;exact q_u)))|(with_reducible refine q_s ?_;(first|apply q_J|apply q_K|apply q_L|apply q_M|apply q_N|apply q_O)<;>try (intro _;try exact q_v))|with_reducible refine q_t ?_)
    all_goals exact q_A (by simp [resAV, q_y, okQ, e1])
  cases e2 : okZ t ys
  · (refine q_H Tryz.func30 (fun F => ?_); simp only [q_z,q_y,Tryz.ntmps30,Tryz.results30])
    repeat' (first|(with_reducible first|apply q_a|apply q_b|apply q_c|apply q_d|apply q_e|apply q_f|apply q_g|apply q_h|apply q_i|apply q_j|apply q_k|apply q_m|apply q_n|apply q_o|apply q_p|refine q_l ?_)|((with_reducible first|refine q_q qr1_ok fun K hK=>?_|refine q_r qr1_ok fun K hK=>?_);simp (maxSteps:=2000000) only [go_sem,↓reduceIte,reduceCtorEq,Nat.reduceLeDiff,Nat.reduceLT,Nat.reduceBEq,Nat.reduceAdd,e1, e2];(repeat1' with_reducible first|apply And.intro|(intro _;try exact q_v)|(refine hK _ ?_;clear hK K))<;>(try (clear hK K;exact q_u)))|(with_reducible refine q_s ?_;(first|apply q_J|apply q_K|apply q_L|apply q_M|apply q_N|apply q_O)<;>try (intro _;try exact q_v))|with_reducible refine q_t ?_)
    all_goals exact q_A (by simp [resAV, q_y, okQ, e1, e2])
  have l1 := okZ_len e1
  have l2 := okZ_len e2
  have t2 := okZ_trd e2
  cases t
  · rcases Nat.eq_zero_or_pos ys.length with h0 | h0
    · have e0 : ((ys.length : Int) = 0) = True := eq_true (by omega)
      (refine q_H Tryz.func30 (fun F => ?_); simp only [q_z,q_y,Tryz.ntmps30,Tryz.results30])
      repeat' (first|(with_reducible first|apply q_a|apply q_b|apply q_c|apply q_d|apply q_e|apply q_f|apply q_g|apply q_h|apply q_i|apply q_j|apply q_k|apply q_m|apply q_n|apply q_o|apply q_p|refine q_l ?_)|((with_reducible first|refine q_q qr1_ok fun K hK=>?_|refine q_r qr1_ok fun K hK=>?_);simp (maxSteps:=2000000) only [go_sem,↓reduceIte,reduceCtorEq,Nat.reduceLeDiff,Nat.reduceLT,Nat.reduceBEq,Nat.reduceAdd,e1, e2, e0];(repeat1' with_reducible first|apply And.intro|(intro _;try exact q_v)|(refine hK _ ?_;clear hK K))<;>(try (clear hK K;exact q_u)))|(with_reducible refine q_s ?_;(first|apply q_J|apply q_K|apply q_L|apply q_M|apply q_N|apply q_O)<;>try (intro _;try exact q_v))|with_reducible refine q_t ?_)
      all_goals exact q_A (by simp [resAV, q_y, okQ, h0])
    · have e0 : ((ys.length : Int) = 0) = False := eq_false (by omega)
      have vy : 0 < V 4294967296 ys := by
        have h := h0
        rw [← dg_V 4294967296 (by omega) ys b2 t2] at h
        exact (dg_len_pos _ _ (by omega)).1 h
      have lx : (dg 65536 (V 4294967296 xs)).length ≤ 256 := (dg_half' _ 128).2 (by rw [dg_V 4294967296 (by omega) xs b1 (okZ_trd e1)]; exact l1)
      have ly : (dg 65536 (V 4294967296 ys)).length ≤ 256 := (dg_half' _ 128).2 (by rw [dg_V 4294967296 (by omega) ys b2 t2]; exact l2)
      have hgl : (dg 65536 (Nat.gcd (V 4294967296 xs) (V 4294967296 ys))).length ≤ 256 := Nat.le_trans (dg_len_mono (by omega) (Nat.gcd_le_right _ vy)) ly
      have hok : okQ s xs false ys = decide (cmp3 (Nat.gcd (V 4294967296 xs) (V 4294967296 ys)) 1 = 0) := by
        have hc := cmp3_is1 (Nat.gcd (V 4294967296 xs) (V 4294967296 ys))
        simp [okQ, e1, e2, h0, hc]
      rw [hok]
      generalize hg : Nat.gcd (V 4294967296 xs) (V 4294967296 ys) = g at *
      have d1 : (dg 65536 1).length ≤ 1 := by decide
      (refine q_H Tryz.func30 (fun F => ?_); simp only [q_z,q_y,Tryz.ntmps30,Tryz.results30])
      repeat' (first|(with_reducible first|apply q_a|apply q_b|apply q_c|apply q_d|apply q_e|apply q_f|apply q_g|apply q_h|apply q_i|apply q_j|apply q_k|apply q_m|apply q_n|apply q_o|apply q_p|refine q_l ?_)|((with_reducible first|refine q_q qr1_ok fun K hK=>?_|refine q_r qr1_ok fun K hK=>?_);simp (maxSteps:=2000000) only [go_sem,↓reduceIte,reduceCtorEq,Nat.reduceLeDiff,Nat.reduceLT,Nat.reduceBEq,Nat.reduceAdd,e1, e2, e0, V65, hg];(repeat1' with_reducible first|apply And.intro|(intro _;try exact q_v)|(refine hK _ ?_;clear hK K))<;>(try (clear hK K;exact q_u)))|(with_reducible refine q_s ?_;(first|apply q_J|apply q_K|apply q_L|apply q_M|apply q_N|apply q_O)<;>try (intro _;try exact q_v))|with_reducible refine q_t ?_)
      all_goals first | omega | exact q_A rfl | exact Nat.le_trans d1 (by omega) | skip
  · (refine q_H Tryz.func30 (fun F => ?_); simp only [q_z,q_y,Tryz.ntmps30,Tryz.results30])
    repeat' (first|(with_reducible first|apply q_a|apply q_b|apply q_c|apply q_d|apply q_e|apply q_f|apply q_g|apply q_h|apply q_i|apply q_j|apply q_k|apply q_m|apply q_n|apply q_o|apply q_p|refine q_l ?_)|((with_reducible first|refine q_q qr1_ok fun K hK=>?_|refine q_r qr1_ok fun K hK=>?_);simp (maxSteps:=2000000) only [go_sem,↓reduceIte,reduceCtorEq,Nat.reduceLeDiff,Nat.reduceLT,Nat.reduceBEq,Nat.reduceAdd,e1, e2];(repeat1' with_reducible first|apply And.intro|(intro _;try exact q_v)|(refine hK _ ?_;clear hK K))<;>(try (clear hK K;exact q_u)))|(with_reducible refine q_s ?_;(first|apply q_J|apply q_K|apply q_L|apply q_M|apply q_N|apply q_O)<;>try (intro _;try exact q_v))|with_reducible refine q_t ?_)
    all_goals exact q_A (by simp [resAV, q_y, okQ])
def rq1 : Cfg := addT 30 validQCT rqb
theorem rq1_ok : TblOk Tryz.prog rq1 := q_I rqb_ok Tryz.func30 fun l K h => by
  split at h
  · exact ⟨_, (ratioOk_ret _ _ _ _ h.1.1 h.1.2.1 h.1.2.2.1 h.1.2.2.2).plain rfl, h.2⟩
  · exact h.elim
set_option maxHeartbeats 800000 in
theorem ratioOf_ret (s t : Bool) (xs ys : List Int) (h1 : xs.length ≤ 1048576) (h2 : ys.length ≤ 1048576) (b1 : InB 4294967296 xs) (b2 : InB 4294967296 ys) :
    Ret Tryz.prog 8 false [.inr [.b s, .ints .u32 xs, .b t, .ints .u32 ys]] (.g [.b s, .ints .i64 (dg 65536 (V 4294967296 xs)), .ints .i64 (dg 65536 (V 4294967296 ys))]) := by
  (refine q_H Tryz.func8 (fun F => ?_); simp only [q_z,q_y,Tryz.ntmps8,Tryz.results8])
  repeat' (first|(with_reducible first|apply q_a|apply q_b|apply q_c|apply q_d|apply q_e|apply q_f|apply q_g|apply q_h|apply q_i|apply q_j|apply q_k|apply q_m|apply q_n|apply q_o|apply q_p|refine q_l ?_)|((with_reducible first|refine q_q qr1_ok fun K hK=>?_|refine q_r qr1_ok fun K hK=>?_);simp (maxSteps:=2000000) only [go_sem,↓reduceIte,reduceCtorEq,Nat.reduceLeDiff,Nat.reduceLT,Nat.reduceBEq,Nat.reduceAdd];(repeat1' with_reducible first|apply And.intro|(intro _;try exact q_v)|(refine hK _ ?_;clear hK K))<;>(try (clear hK K;exact q_u)))|(with_reducible refine q_s ?_;(first|apply q_J|apply q_K|apply q_L|apply q_M|apply q_N|apply q_O)<;>try (intro _;try exact q_v))|with_reducible refine q_t ?_)
  all_goals first | omega | exact q_A rfl | skip
def ratioOfCT : CT := mkCT [nQ] false fun l K => match l with
  | [.inr [.b s, .ints .u32 xs, .b t, .ints .u32 ys]] => (xs.length ≤ 1048576 ∧ ys.length ≤ 1048576 ∧ InB 4294967296 xs ∧ InB 4294967296 ys) ∧ K (.g [.b s, .ints .i64 (dg 65536 (V 4294967296 xs)), .ints .i64 (dg 65536 (V 4294967296 ys))])
  | _ => False
def rq2 : Cfg := addT 8 ratioOfCT rq1
theorem rq2_ok : TblOk Tryz.prog rq2 := q_I rq1_ok Tryz.func8 fun l K h => by
  split at h
  · exact ⟨_, ratioOf_ret _ _ _ _ h.1.1 h.1.2.1 h.1.2.2.1 h.1.2.2.2, h.2⟩
  · exact h.elim

def qT (n : Nat) (p : Int → Nat → Prop) (f : Int → Nat → Bool → (AV → Prop) → Prop) : CT := mkCT [nT] false fun l K => match l with
  | [.inr [.b s, .ints .i64 xs, .ints .i64 zs]] => (InB 65536 xs ∧ Trd xs ∧ xs.length ≤ n ∧ InB 65536 zs ∧ Trd zs ∧ zs.length ≤ n ∧ p (sv 65536 s xs) (V 65536 zs)) ∧ f (sv 65536 s xs) (V 65536 zs) s K
  | _ => False
def dpos (_ : Int) (d : Nat) : Prop := 0 < d
theorem dpos_d (z : Int) (d : Nat) : dpos z d = (0 < d) := rfl
def lowF (z : Int) (d : Nat) (s : Bool) (K : AV → Prop) : Prop := K (.g (gT (rdN z d) (rdD z d) s))
def rq3 : Cfg := rq2
theorem rq3_ok : TblOk Tryz.prog rq3 := rq2_ok
attribute [go_sem] ratioOfCT gT qT dpos_d lowF
def qT2 (n : Nat) (p : Int → Nat → Int → Nat → Prop) (f : Int → Nat → Int → Nat → (AV → Prop) → Prop) : CT := mkCT [nT, nT] false fun l K => match l with
  | [.inr [.b s, .ints .i64 xs, .ints .i64 zs], .inr [.b t, .ints .i64 ys, .ints .i64 ws]] =>
      (InB 65536 xs ∧ Trd xs ∧ xs.length ≤ n ∧ InB 65536 zs ∧ Trd zs ∧ zs.length ≤ n ∧ InB 65536 ys ∧ Trd ys ∧ ys.length ≤ n ∧ InB 65536 ws ∧ Trd ws ∧ ws.length ≤ n ∧ p (sv 65536 s xs) (V 65536 zs) (sv 65536 t ys) (V 65536 ws)) ∧ f (sv 65536 s xs) (V 65536 zs) (sv 65536 t ys) (V 65536 ws) K
  | _ => False
def dpos2 (_ : Int) (c : Nat) (_ : Int) (d : Nat) : Prop := 0 < c ∧ 0 < d
def dany2 (_ : Int) (_ : Nat) (_ : Int) (_ : Nat) : Prop := True
theorem dpos2_d (x : Int) (c : Nat) (y : Int) (d : Nat) : dpos2 x c y d = (0 < c ∧ 0 < d) := rfl
theorem dany2_d (x : Int) (c : Nat) (y : Int) (d : Nat) : dany2 x c y d = True := rfl
def timT (x : Int) (c : Nat) (y : Int) (d : Nat) (K : AV → Prop) : Prop := ∀ b : Bool, K (.g (gT (rdN (x * y) (c * d)) (rdD (x * y) (c * d)) b))
def pluT (x : Int) (c : Nat) (y : Int) (d : Nat) (K : AV → Prop) : Prop := ∀ b : Bool, K (.g (gT (rdN (x * d + y * c) (c * d)) (rdD (x * d + y * c) (c * d)) b))
def lesT (x : Int) (c : Nat) (y : Int) (d : Nat) (K : AV → Prop) : Prop := ∀ b : Bool, K (.g (gT (rdN (x * d - y * c) (c * d)) (rdD (x * d - y * c) (c * d)) b))
def ordT (x : Int) (c : Nat) (y : Int) (d : Nat) (K : AV → Prop) : Prop := K (.c (.i .i64 (cmpZ (x * d) (y * c))))
def qr2 : Cfg := listT [(17, (rI2CT 4194304 ordF)), (59, (rnumCT (fun _ _ => True) (· * ·)))] [28]
attribute [go_sem] qr2
def rq4 : Cfg := rq3
theorem rq4_ok : TblOk Tryz.prog rq4 := rq3_ok
def pluX (x : Int) (c : Nat) (y : Int) (d : Nat) (K : AV → Prop) : Prop := K (.g (gT (rdN (x * d + y * c) (c * d)) (rdD (x * d + y * c) (c * d)) (sgz (x * d + y * c) (decide (x * (d : Int) < 0)))))
def rq5x : Cfg := rq4
theorem rq5x_ok : TblOk Tryz.prog rq5x := rq4_ok
def rq5 : Cfg := rq5x
theorem rq5_ok : TblOk Tryz.prog rq5 := rq5x_ok
def rq6 : Cfg := rq5
theorem rq6_ok : TblOk Tryz.prog rq6 := rq5_ok
attribute [go_sem] qT2 dpos2_d dany2_d timT pluT pluX lesT ordT
end Go.Proofs.YtlflfhcfljiciaaGreat

namespace Go.Proofs.NatL
set_option linter.unusedSimpArgs false
set_option linter.unusedVariables false
end Go.Proofs.NatL
namespace Go.Proofs.YtlflfhcfljiciaaGreat
set_option linter.unusedSimpArgs false
set_option linter.unusedVariables false
open Go.Abs Go.Proofs.NatL

def qr3 : Cfg := listT [(18, fitsCT), (11, smallCT), (29, sameIntCT), (58, noIntCT)] [28]
theorem qr3_ok : TblOk Tryz.prog qr3 := listE_ok (by simp only [List.mem_singleton, forall_eq]; exact flt) ⟨⟨jt15, jt15_ok, rfl⟩, ⟨jt15, jt15_ok, rfl⟩, ⟨jt15, jt15_ok, rfl⟩, ⟨jt15, jt15_ok, rfl⟩, trivial⟩
attribute [go_sem] qr3
def rq7 : Cfg := rq6
theorem rq7_ok : TblOk Tryz.prog rq7 := rq6_ok
def floT (z : Int) (d : Nat) (_ : Bool) (K : AV → Prop) : Prop := ∀ b : Bool, K (.g (gRz (z.fdiv d) b))
def rq8 : Cfg := rq7
theorem rq8_ok : TblOk Tryz.prog rq8 := rq7_ok
def tTurnedCT : CT := mkCT [nT] false fun l K => match l with
  | [.inr [.b s, .ints .i64 xs, .ints .i64 zs]] => K (.g [.b s, .ints .i64 zs, .ints .i64 xs])
  | _ => False
def tAbsCT : CT := mkCT [nT] false fun l K => match l with
  | [.inr [.b s, .ints .i64 xs, .ints .i64 zs]] => K (.g [.b false, .ints .i64 xs, .ints .i64 zs])
  | _ => False
def rq9 : Cfg := rq8
theorem rq9_ok : TblOk Tryz.prog rq9 := rq8_ok
def rq10 : Cfg := rq9
theorem rq10_ok : TblOk Tryz.prog rq10 := rq9_ok
def wholeCT : CT := mkCT [nR] false fun l K => match l with
  | [.inr [.b s, .ints .i64 xs]] => K (.g [.b s, .ints .i64 xs, .ints .i64 (dg 65536 1)])
  | _ => False
def rq11 : Cfg := rq10
theorem rq11_ok : TblOk Tryz.prog rq11 := rq10_ok
attribute [go_sem] floT tTurnedCT tAbsCT wholeCT
set_option maxHeartbeats 1600000 in
theorem sameRatio_ret (s t r : Bool) (xs ys zs ws : List Int) (n1 : Nrm s xs) (n2 : Nrm t ys) (l1 : xs.length ≤ 16777216) (l2 : ys.length ≤ 16777216) (b3 : InB 65536 zs) (t3 : Trd zs) (l3 : zs.length ≤ 4194304) (b4 : InB 65536 ws) (t4 : Trd ws) (l4 : ws.length ≤ 4194304) :
    Ret Tryz.prog 12 false [.inr [.b s, .ints .u32 xs, .b t, .ints .u32 ys], .inr [.b r, .ints .i64 zs, .ints .i64 ws]] (.c (.b (decide (sv 4294967296 s xs = sv 65536 r zs) && decide (sv 4294967296 t ys = (V 65536 ws : Int))))) := by
  have e : sv 65536 false ws = (V 65536 ws : Int) := rfl
  cases h1 : decide (sv 4294967296 s xs = sv 65536 r zs)
  all_goals
    (refine q_H Tryz.func12 (fun F => ?_); simp only [q_z,q_y,Tryz.ntmps12,Tryz.results12])
    repeat' (first|(with_reducible first|apply q_a|apply q_b|apply q_c|apply q_d|apply q_e|apply q_f|apply q_g|apply q_h|apply q_i|apply q_j|apply q_k|apply q_m|apply q_n|apply q_o|apply q_p|refine q_l ?_)|((with_reducible first|refine q_q qr3_ok fun K hK=>?_|refine q_r qr3_ok fun K hK=>?_);simp (maxSteps:=2000000) only [go_sem,↓reduceIte,reduceCtorEq,Nat.reduceLeDiff,Nat.reduceLT,Nat.reduceBEq,Nat.reduceAdd,h1, e];(repeat1' with_reducible first|apply And.intro|(intro _;try exact q_v)|(refine hK _ ?_;clear hK K))<;>(try (clear hK K;exact q_u)))|(with_reducible refine q_s ?_;(first|apply q_J|apply q_K|apply q_L|apply q_M|apply q_N|apply q_O)<;>try (intro _;try exact q_v))|with_reducible refine q_t ?_)
    all_goals first | omega | exact q_A rfl | exact q_A (by simp [resAV, q_y]) | skip
def sameRatioCT : CT := mkCT [nQ, nT] true fun l K => match l with
  | [.inr [.b s, .ints .u32 xs, .b t, .ints .u32 ys], .inr [.b r, .ints .i64 zs, .ints .i64 ws]] =>
      (Nrm s xs ∧ Nrm t ys ∧ xs.length ≤ 16777216 ∧ ys.length ≤ 16777216 ∧ InB 65536 zs ∧ Trd zs ∧ zs.length ≤ 4194304 ∧ InB 65536 ws ∧ Trd ws ∧ ws.length ≤ 4194304) ∧ K (.c (.b (decide (sv 4294967296 s xs = sv 65536 r zs) && decide (sv 4294967296 t ys = (V 65536 ws : Int)))))
  | _ => False
def rq12 : Cfg := addT 12 sameRatioCT rq11
theorem rq12_ok : TblOk Tryz.prog rq12 := q_I rq11_ok Tryz.func12 fun l K h => by
  split at h
  · obtain ⟨⟨h1, h2, h3, h4, h5, h6, h7, h8, h9, h10⟩, h⟩ := h
    exact ⟨_, (sameRatio_ret _ _ _ _ _ _ _ h1 h2 h3 h4 h5 h6 h7 h8 h9 h10).plain rfl, h⟩
  · exact h.elim
set_option maxHeartbeats 1600000 in
theorem noRatio_ret (s t : Bool) (xs ys : List Int) (n1 : Nrm s xs) (n2 : Nrm t ys) (l1 : xs.length ≤ 140737488355328) (l2 : ys.length ≤ 140737488355328) :
    Ret Tryz.prog 35 false [.inr [.b s, .ints .u32 xs, .b t, .ints .u32 ys]] (.c (.b (decide (sv 4294967296 s xs = 0) && decide (sv 4294967296 t ys = 0)))) := by
  cases h1 : decide (sv 4294967296 s xs = 0)
  all_goals
    (refine q_H Tryz.func35 (fun F => ?_); simp only [q_z,q_y,Tryz.ntmps35,Tryz.results35])
    repeat' (first|(with_reducible first|apply q_a|apply q_b|apply q_c|apply q_d|apply q_e|apply q_f|apply q_g|apply q_h|apply q_i|apply q_j|apply q_k|apply q_m|apply q_n|apply q_o|apply q_p|refine q_l ?_)|((with_reducible first|refine q_q qr3_ok fun K hK=>?_|refine q_r qr3_ok fun K hK=>?_);simp (maxSteps:=2000000) only [go_sem,↓reduceIte,reduceCtorEq,Nat.reduceLeDiff,Nat.reduceLT,Nat.reduceBEq,Nat.reduceAdd,h1];(repeat1' with_reducible first|apply And.intro|(intro _;try exact q_v)|(refine hK _ ?_;clear hK K))<;>(try (clear hK K;exact q_u)))|(with_reducible refine q_s ?_;(first|apply q_J|apply q_K|apply q_L|apply q_M|apply q_N|apply q_O)<;>try (intro _;try exact q_v))|with_reducible refine q_t ?_)
    all_goals first | omega | exact q_A rfl | exact q_A (by simp [resAV, q_y]) | skip
def noRatioCT : CT := mkCT [nQ] true fun l K => match l with
  | [.inr [.b s, .ints .u32 xs, .b t, .ints .u32 ys]] => (Nrm s xs ∧ Nrm t ys ∧ xs.length ≤ 140737488355328 ∧ ys.length ≤ 140737488355328) ∧ K (.c (.b (decide (sv 4294967296 s xs = 0) && decide (sv 4294967296 t ys = 0))))
  | _ => False
def rq13 : Cfg := addT 35 noRatioCT rq12
theorem rq13_ok : TblOk Tryz.prog rq13 := q_I rq12_ok Tryz.func35 fun l K h => by
  split at h
  · obtain ⟨⟨h1, h2, h3, h4⟩, h⟩ := h
    exact ⟨_, (noRatio_ret _ _ _ _ h1 h2 h3 h4).plain rfl, h⟩
  · exact h.elim
set_option maxHeartbeats 1600000 in
theorem qfits_ret (s : Bool) (xs zs : List Int) :
    Ret Tryz.prog 34 false [.inr [.b s, .ints .i64 xs, .ints .i64 zs]] (.c (.b (decide ((xs.length : Int) ≤ 256) && decide ((zs.length : Int) ≤ 256)))) := by
  by_cases h0 : (xs.length : Int) ≤ 256
  · have h1 := decide_eq_true h0
    (refine q_H Tryz.func34 (fun F => ?_); simp only [q_z,q_y,Tryz.ntmps34,Tryz.results34])
    repeat' (first|(with_reducible first|apply q_a|apply q_b|apply q_c|apply q_d|apply q_e|apply q_f|apply q_g|apply q_h|apply q_i|apply q_j|apply q_k|apply q_m|apply q_n|apply q_o|apply q_p|refine q_l ?_)|((with_reducible first|refine q_q qr3_ok fun K hK=>?_|refine q_r qr3_ok fun K hK=>?_);simp (maxSteps:=2000000) only [go_sem,↓reduceIte,reduceCtorEq,Nat.reduceLeDiff,Nat.reduceLT,Nat.reduceBEq,Nat.reduceAdd,h1];(repeat1' with_reducible first|apply And.intro|(intro _;try exact q_v)|(refine hK _ ?_;clear hK K))<;>(try (clear hK K;exact q_u)))|(with_reducible refine q_s ?_;(first|apply q_J|apply q_K|apply q_L|apply q_M|apply q_N|apply q_O)<;>try (intro _;try exact q_v))|with_reducible refine q_t ?_)
    all_goals first | omega | exact q_A rfl | exact q_A (by simp [resAV, q_y]; intros; omega) | skip
  · have h1 := decide_eq_false h0
    (refine q_H Tryz.func34 (fun F => ?_); simp only [q_z,q_y,Tryz.ntmps34,Tryz.results34])
    repeat' (first|(with_reducible first|apply q_a|apply q_b|apply q_c|apply q_d|apply q_e|apply q_f|apply q_g|apply q_h|apply q_i|apply q_j|apply q_k|apply q_m|apply q_n|apply q_o|apply q_p|refine q_l ?_)|((with_reducible first|refine q_q qr3_ok fun K hK=>?_|refine q_r qr3_ok fun K hK=>?_);simp (maxSteps:=2000000) only [go_sem,↓reduceIte,reduceCtorEq,Nat.reduceLeDiff,Nat.reduceLT,Nat.reduceBEq,Nat.reduceAdd,h1];(repeat1' with_reducible first|apply And.intro|(intro _;try exact q_v)|(refine hK _ ?_;clear hK K))<;>(try (clear hK K;exact q_u)))|(with_reducible refine q_s ?_;(first|apply q_J|apply q_K|apply q_L|apply q_M|apply q_N|apply q_O)<;>try (intro _;try exact q_v))|with_reducible refine q_t ?_)
    all_goals first | omega | exact q_A rfl | exact q_A (by simp [resAV, q_y]; intros; omega) | skip
def qfitsCT : CT := mkCT [nT] true fun l K => match l with
  | [.inr [.b s, .ints .i64 xs, .ints .i64 zs]] => K (.c (.b (decide ((xs.length : Int) ≤ 256) && decide ((zs.length : Int) ≤ 256))))
  | _ => False
def rq14 : Cfg := addT 34 qfitsCT rq13
theorem rq14_ok : TblOk Tryz.prog rq14 := q_I rq13_ok Tryz.func34 fun l K h => by
  split at h
  · exact ⟨_, (qfits_ret _ _ _).plain rfl, h⟩
  · exact h.elim
attribute [go_sem] sameRatioCT noRatioCT qfitsCT
end Go.Proofs.YtlflfhcfljiciaaGreat

namespace Go.Proofs.NatL
set_option linter.unusedSimpArgs false
set_option linter.unusedVariables false
def dv (b : Nat) (c : Int) : Int := if 48 ≤ c ∧ c ≤ 57 ∧ c - 48 < b then c - 48 else if 97 ≤ c ∧ c ≤ 122 ∧ c - 87 < b then c - 87 else -1
theorem dv_cases (b : Nat) (c : Int) (hb : b ≤ 36) : dv b c = -1 ∨ 0 ≤ dv b c ∧ dv b c < b ∧ dv b c < 36 := by unfold dv; (repeat' split) <;> omega
theorem dv_zero (c : Int) : dv 0 c = -1 := by unfold dv; (repeat' split) <;> omega
def pzR (b : Nat) (neg : Bool) (r : List Int) : Option Int :=
  if r = [] ∨ (r.getD 0 0 = 48 ∧ (1 < r.length ∨ neg = true)) then none else if ∀ c ∈ r, 0 ≤ dv b c then some (sg neg (rdv b (r.map (dv b)))) else none
def pz (b : Nat) (l : List Int) : Option Int := if 0 < l.length ∧ l.getD 0 0 = 45 then pzR b true (l.drop 1) else pzR b false l
theorem rdv_cons (b : Nat) (d : Int) (ds : List Int) : rdv b (d :: ds) = d.toNat * b ^ ds.length + rdv b ds := by
  have key : ∀ (ds : List Int) (a : Nat), ds.foldl (fun n d => n * b + d.toNat) a = a * b ^ ds.length + ds.foldl (fun n d => n * b + d.toNat) 0 := by
    intro ds
    induction ds with
    | nil => intro a; simp
    | cons x ds ih =>
      intro a
      simp only [List.foldl_cons, List.length_cons]
      rw [ih (a * b + x.toNat), ih (0 * b + x.toNat), Nat.add_mul, Nat.add_mul, Nat.zero_mul, Nat.zero_mul, Nat.mul_assoc, Nat.zero_add, ← Nat.pow_succ', Nat.add_assoc]
  show (d :: ds).foldl _ 0 = _
  rw [List.foldl_cons, key]
  simp [rdv]
theorem rdv_rev (b : Nat) : ∀ xs : List Int, rdv b xs.reverse = V b xs := by
  intro xs
  induction xs with
  | nil => rfl
  | cons x xs ih => rw [List.reverse_cons, rdv_snoc, ih]; simp only [V]; rw [Nat.mul_comm]; omega
end Go.Proofs.NatL
namespace Go.Proofs.YtlflfhcfljiciaaGreat
set_option linter.unusedSimpArgs false
set_option linter.unusedVariables false
open Go.Abs Go.Proofs.NatL
theorem chr_eq : ∀ d : Nat, d < 36 → chr d = if d < 10 then (d : Int) + 48 else (d : Int) + 87 := by decide
theorem dv_chr {b d : Nat} (hb : b ≤ 36) (h : d < b) : dv b (chr d) = d := by
  rw [chr_eq d (by omega)]
  unfold dv
  split
  · rw [if_pos (by omega)]; omega
  · rw [if_neg (by omega), if_pos (by omega)]; omega
theorem dv_succ (k : Nat) (hk : k < 36) (c : Int) : dv (k + 1) c = if chr k = c then (k : Int) else dv k c := by
  rw [chr_eq k hk]
  unfold dv
  (repeat' split) <;> omega
theorem chr_range (d : Nat) (h : d < 36) : 48 ≤ chr d ∧ chr d ≤ 122 := by rw [chr_eq d h]; split <;> omega
theorem rdv_pos {b : Nat} (hb : 2 ≤ b) {r : List Int} (h0 : r ≠ []) (h1 : r.getD 0 0 ≠ 48) (h2 : ∀ c ∈ r, 0 ≤ dv b c) : 0 < rdv b (r.map (dv b)) := by
  cases r with
  | nil => exact absurd rfl h0
  | cons c r =>
    rw [List.map_cons, rdv_cons]
    have h := h2 c (List.mem_cons_self ..)
    have h1 : c ≠ 48 := h1
    have : 0 < (dv b c).toNat := by
      unfold dv at h ⊢
      (repeat' split) <;> omega
    have := Nat.mul_pos this (Nat.pow_pos (n := (r.map (dv b)).length) (show 0 < b by omega))
    omega
theorem pzR_canon {b : Nat} (hb : 2 ≤ b) {neg : Bool} {r : List Int} {z : Int} (h : pzR b neg r = some z) :
    z = sg neg (rdv b (r.map (dv b))) ∧ (neg = true → 0 < rdv b (r.map (dv b))) ∧ r ≠ [] ∧ (∀ c ∈ r, 0 ≤ dv b c) ∧ ¬ (r.getD 0 0 = 48 ∧ (1 < r.length ∨ neg = true)) := by
  unfold pzR at h
  split at h
  · cases h
  · rename_i g
    split at h
    · rename_i g2
      cases h
      have g0 : r ≠ [] := fun e => g (.inl e)
      refine ⟨rfl, fun hn => rdv_pos hb g0 (fun e => g (.inr ⟨e, .inr hn⟩)) g2, g0, g2, fun e => g (.inr e)⟩
    · cases h
theorem pz_text (z : Int) (b : Nat) (h1 : 2 ≤ b) (h2 : b ≤ 36) : pz b (textI z b) = some z := by
  by_cases hz : z = 0
  · subst hz
    unfold textI
    simp only [Int.lt_irrefl, if_false, if_true, List.nil_append]
    have e : dv b 48 = 0 := by unfold dv; split <;> omega
    simp only [pz, pzR, List.length_cons, List.length_nil, List.getD_cons_zero]
    rw [if_neg (by omega), if_neg (by simp), if_pos (by simp [e])]
    simp [e, rdv, sg]
  · obtain ⟨n, hn⟩ : ∃ n, n = z.natAbs := ⟨_, rfl⟩
    have hn0 : 0 < n := by omega
    have hin := InB_dg b h1 n
    have htr := dg_trd b h1 n
    have hv : V b (dg b n) = n := V_dg b h1 n
    have hl := (dg_len_pos b n h1).2 hn0
    have back : ((dg b n).reverse.map chr).map (dv b) = (dg b n).reverse := by
      rw [List.map_map]
      conv => rhs; rw [← List.map_id (dg b n).reverse]
      refine List.map_congr_left fun x hx => ?_
      have := hin x (List.mem_reverse.1 hx)
      obtain ⟨d, rfl⟩ : ∃ d : Nat, x = d := ⟨x.toNat, by omega⟩
      exact dv_chr h2 (by omega)
    have good : ∀ c ∈ (dg b n).reverse.map chr, 0 ≤ dv b c := by
      intro c hc
      obtain ⟨x, hx, rfl⟩ := List.mem_map.1 hc
      have := hin x (List.mem_reverse.1 hx)
      obtain ⟨d, rfl⟩ : ∃ d : Nat, x = d := ⟨x.toNat, by omega⟩
      rw [dv_chr h2 (by omega)]; omega
    have head : ((dg b n).reverse.map chr).getD 0 0 ≠ 48 ∧ ((dg b n).reverse.map chr).getD 0 0 ≠ 45 := by
      have e : ((dg b n).reverse.map chr).getD 0 0 = chr ((dg b n).getD ((dg b n).length - 1) 0) := by
        rw [List.getD_eq_getElem?_getD, List.getElem?_map, List.getElem?_reverse (by omega), List.getElem?_eq_getElem (by omega), getD_eq _ _ (by omega)]
        simp
      have hd := InB_getD (by omega) hin ((dg b n).length - 1)
      have hne : (dg b n).getD ((dg b n).length - 1) 0 ≠ 0 := by
        rcases htr with h | h
        · omega
        · exact h
      obtain ⟨d, hd'⟩ : ∃ d : Nat, (dg b n).getD ((dg b n).length - 1) 0 = d := ⟨_, (Int.toNat_of_nonneg hd.1).symm⟩
      rw [hd'] at hd hne e
      rw [e, chr_eq d (by omega)]
      split <;> omega
    have ne : (dg b n).reverse.map chr ≠ [] := fun e => by have := congrArg List.length e; rw [List.length_map, List.length_reverse, List.length_nil] at this; omega
    have hR : ∀ neg, pzR b neg ((dg b n).reverse.map chr) = some (sg neg n) := by
      intro neg
      unfold pzR
      rw [if_neg (fun h => by rcases h with h | h; exact ne h; exact head.1 h.1), if_pos good, back, rdv_rev, hv]
    unfold textI
    rw [if_neg hz, ← hn]
    by_cases hneg : z < 0
    · rw [if_pos hneg]
      unfold pz
      rw [if_pos ⟨by simp, rfl⟩]
      show pzR b true ((dg b n).reverse.map chr) = _
      rw [hR, show sg true n = z by rw [sgt]; omega]
    · rw [if_neg hneg, List.nil_append]
      unfold pz
      rw [if_neg (fun h => head.2 h.2), hR, show sg false n = z by rw [sgf]; omega]

theorem strOf_snoc (xs : List Int) (x : Int) : strOf (xs ++ [x]) = (strOf xs).push (UInt8.ofNat x.toNat) := by simp [strOf, List.foldl_append]
theorem bytesOf_strOf (xs : List Int) (h : InB 256 xs) : bytesOf (strOf xs) = xs := by
  have key : ∀ n, ∀ xs : List Int, xs.length = n → InB 256 xs → bytesOf (strOf xs) = xs := by
    intro n
    induction n with
    | zero => intro xs h _; obtain rfl := List.eq_nil_of_length_eq_zero h; rfl
    | succ n ih =>
      intro xs hl hb
      have e := split_last xs (by omega)
      have hin := InB_getD (B := 256) (by omega) hb (xs.length - 1)
      generalize xs.getD (xs.length - 1) 0 = x at *
      have hb1 := InB_take hb (xs.length - 1)
      have hl1 : (xs.take (xs.length - 1)).length = n := by rw [List.length_take]; omega
      generalize xs.take (xs.length - 1) = ys at *
      subst e
      have := ih ys hl1 hb1
      rw [strOf_snoc]
      unfold bytesOf at this ⊢
      rw [ByteArray.data_push, Array.toList_push, List.map_append, this]
      congr 1
      simp only [List.map_cons, List.map_nil, List.cons.injEq, and_true]
      rw [UInt8.toNat_ofNat']
      omega
  exact key _ xs rfl h
theorem str_size (s : ByteArray) : s.size = (bytesOf s).length := by simp only [bytesOf, List.length_map, Array.length_toList]; rfl
theorem str_at (s : ByteArray) (n : Nat) : (((s.data.toList.getD n 0).toNat : Nat) : Int) = (bytesOf s).getD n 0 := by
  unfold bytesOf
  rw [List.getD_eq_getElem?_getD, List.getD_eq_getElem?_getD, List.getElem?_map]
  cases s.data.toList[n]? <;> rfl
theorem str_sub (s : ByteArray) (a b : Nat) : bytesOf (s.extract a b) = ((bytesOf s).take b).drop a := by
  unfold bytesOf
  rw [ByteArray.data_extract, Array.toList_extract]
  simp [List.extract_eq_take_drop, List.map_take, List.map_drop, List.drop_take]
theorem bytes_inB (s : ByteArray) : InB 256 (bytesOf s) := by
  intro x hx
  obtain ⟨b, _, rfl⟩ := List.mem_map.1 hx
  have := b.toNat_lt
  omega
theorem bytes_inj {s t : ByteArray} (h : bytesOf s = bytesOf t) : s = t := by
  have : s.data.toList = t.data.toList := by
    have h2 := congrArg (List.map fun x : Int => UInt8.ofNat x.toNat) h
    have key : ∀ l : List UInt8, (l.map fun b => (b.toNat : Int)).map (fun x : Int => UInt8.ofNat x.toNat) = l := fun l => by
      induction l with
      | nil => rfl
      | cons x l ih => simp only [List.map_cons, ih, Int.toNat_natCast, UInt8.ofNat_toNat]
    simp only [bytesOf, key] at h2
    exact h2
  exact ByteArray.ext (Array.toList_inj.1 this)
theorem str_eq (s t : ByteArray) : (s.toList == t.toList) = decide (bytesOf s = bytesOf t) := by
  rw [ByteArray.toList_eq, ByteArray.toList_eq]
  by_cases h : s = t
  · subst h; simp
  · rw [decide_eq_false (fun e => h (bytes_inj e))]
    exact beq_eq_false_iff_ne.2 fun e => h (ByteArray.ext (Array.toList_inj.1 e))
def digB (b : Nat) : List Int := (List.range b).map fun d : Nat => chr (d : Int)
theorem lit_full : bytesOf { data := #[48, 49, 50, 51, 52, 53, 54, 55, 56, 57, 97, 98, 99, 100, 101, 102, 103, 104, 105, 106, 107, 108, 109, 110, 111, 112, 113, 114, 115, 116, 117, 118, 119, 120, 121, 122] } = digB 36 := by decide +kernel
theorem lit_take (b : Nat) (hb : b ≤ 36) : (digB 36).take b = digB b := by
  unfold digB
  rw [← List.map_take, List.take_range, Nat.min_eq_left hb]
theorem digB_len (b : Nat) : (digB b).length = b := by simp [digB]
theorem digB_at (b d : Nat) (h : d < b) : (digB b).getD d 0 = chr (d : Int) := by simp [digB, List.getD_eq_getElem?_getD, h]
theorem digL_at (k : Nat) : (((([48, 49, 50, 51, 52, 53, 54, 55, 56, 57, 97, 98, 99, 100, 101, 102, 103, 104, 105, 106, 107, 108, 109, 110, 111, 112, 113, 114, 115, 116, 117, 118, 119, 120, 121, 122] : List UInt8).getD k 0).toNat : Nat) : Int) = chr (k : Int) := rfl
theorem ml0 : (0 ≤ Go.maxLen) = True := eq_true (Nat.zero_le _)
theorem ml1 : (1 ≤ Go.maxLen) = True := eq_true (by decide +kernel)
theorem toNat_one : Int.toNat 1 = 1 := rfl
theorem lit_zero : bytesOf { data := #[48] } = [48] := rfl
theorem lit_none : bytesOf { data := #[] } = [] := rfl
theorem textI_inB (z : Int) (b : Nat) (h1 : 2 ≤ b) (h2 : b ≤ 36) : InB 256 (textI z b) := by
  unfold textI
  refine InB_app (by split; exact InB_one (by omega) (by omega); exact InB_nil _) ?_
  split
  · exact InB_one (by omega) (by omega)
  · intro c hc
    obtain ⟨x, hx, rfl⟩ := List.mem_map.1 hc
    have := InB_dg b h1 _ x (List.mem_reverse.1 hx)
    obtain ⟨d, rfl⟩ : ∃ d : Nat, x = d := ⟨x.toNat, by omega⟩
    have := chr_range d (by omega)
    omega
theorem text_bytes (z : Int) (b : Nat) (h1 : 2 ≤ b) (h2 : b ≤ 36) : bytesOf (strOf (textI z b)) = textI z b := bytesOf_strOf _ (textI_inB z b h1 h2)
theorem textI_len (z : Int) (b : Nat) (h1 : 2 ≤ b) (la : (dg 4294967296 z.natAbs).length ≤ 128) : (textI z b).length ≤ 4097 := by
  have dl : (dg b z.natAbs).length ≤ 4096 := Nat.le_trans (dg_len_two b z.natAbs h1 _ (lt_bl _)) (bl_128 la)
  unfold textI
  rw [List.length_append]
  have h1 : (if z < 0 then [(45 : Int)] else []).length ≤ 1 := by split <;> simp
  have h2 : (if z = 0 then [(48 : Int)] else (dg b z.natAbs).reverse.map chr).length ≤ 4096 := by
    split
    · simp
    · rw [List.length_map, List.length_reverse]; exact dl
  omega
end Go.Proofs.YtlflfhcfljiciaaGreat
