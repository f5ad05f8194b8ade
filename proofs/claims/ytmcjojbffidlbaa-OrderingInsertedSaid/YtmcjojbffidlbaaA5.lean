import Derived.Test.YtmcjojbffidlbaaA4
namespace Go.Proofs.NatL
set_option linter.unusedSimpArgs false
set_option linter.unusedVariables false

end Go.Proofs.NatL

namespace Go.Proofs.NatL
set_option linter.unusedSimpArgs false
set_option linter.unusedVariables false

end Go.Proofs.NatL

namespace Go.Proofs.NatL
set_option linter.unusedSimpArgs false
set_option linter.unusedVariables false
open Go.Abs

end Go.Proofs.NatL

namespace Go.Proofs.NatL
set_option linter.unusedSimpArgs false
set_option linter.unusedVariables false
open Go.Abs

end Go.Proofs.NatL

namespace Go.Proofs.NatL
set_option linter.unusedSimpArgs false
set_option linter.unusedVariables false

theorem Est.q_le {B Vu Vv U3 V2 u2 head v1 v2 : Nat} (h : Est B Vu Vv U3 V2 u2 head v1 v2) : Vu / Vv * V2 ≤ U3:=by
 obtain ⟨P,ul,vl,hP,hu,hul,hv,hvl⟩:=h.ex
 have h1 : Vu / Vv * Vv ≤ Vu:=Nat.div_mul_le_self _ _
 have h2 : Vu / Vv * (P * V2) ≤ Vu / Vv * Vv:=Nat.mul_le_mul_left _ (by omega)
 have h3 : P * (Vu / Vv * V2) < P * (U3 + 1):=by
  rw [Nat.mul_left_comm,Nat.mul_add]; omega
 have:=Nat.lt_of_mul_lt_mul_left h3
 omega
theorem Est.start {B Vu Vv U3 V2 u2 head v1 v2 : Nat} (h : Est B Vu Vv U3 V2 u2 head v1 v2) (hB : 0 < B) : Vu / Vv ≤ head / v1:=by
 rw [Nat.le_div_iff_mul_le h.kv1]
 have h1:=h.q_le
 rw [h.u,h.v,Nat.mul_add,Nat.mul_left_comm] at h1
 have h2 : B * (Vu / Vv * v1) < B * (head + 1):=by rw [Nat.mul_add]; have:=h.ku2; omega
 have:=Nat.lt_of_mul_lt_mul_left h2
 omega
end Go.Proofs.NatL

namespace Go.Proofs.NatL
set_option linter.unusedSimpArgs false
set_option linter.unusedVariables false

end Go.Proofs.NatL

namespace Go.Proofs.NatL
set_option linter.unusedSimpArgs false
set_option linter.unusedVariables false

end Go.Proofs.NatL

namespace Go.Proofs.NatL
set_option linter.unusedSimpArgs false
set_option linter.unusedVariables false

end Go.Proofs.NatL

namespace Go.Proofs.NatL
set_option linter.unusedSimpArgs false
set_option linter.unusedVariables false

end Go.Proofs.NatL

namespace Go.Proofs.NatL
set_option linter.unusedSimpArgs false
set_option linter.unusedVariables false

end Go.Proofs.NatL

namespace Go.Proofs.NatL
set_option linter.unusedSimpArgs false
set_option linter.unusedVariables false

end Go.Proofs.NatL

namespace Go.Proofs.Ytmcjojbffidlbaa
set_option linter.unusedSimpArgs false
set_option linter.unusedVariables false

def seg (o : List Int) (a b : Nat) : List Int:=(o.take b).drop a
def Bef (κ : Int → Int) (a b : Int) : Prop:=κ a < κ b ∨ (κ a = κ b ∧ a < b)
theorem seg_nil (o : List Int) {a b : Nat} (h : b ≤ a) : seg o a b = []:=List.drop_eq_nil_of_le (by rw [List.length_take]; omega)
theorem seg_cat (o : List Int) {a b c : Nat} (h1 : a ≤ b) (h2 : b ≤ c) : seg o a b ++ seg o b c = seg o a c:=by
 unfold seg
 apply List.ext_getElem?
 intro i
 simp only [List.getElem?_append,List.length_drop,List.length_take,List.getElem?_drop,List.getElem?_take]
 rcases Nat.lt_or_ge i (min b o.length - a) with h | h
 ·rw [if_pos h,if_pos (by omega),if_pos (by omega)]
 ·rw [if_neg (by omega)]
  by_cases hb : b ≤ o.length
  ·have e : b + (i - (min b o.length - a)) = a + i:=by omega
   rw [e]
  ·have e1 : o[b + (i - (min b o.length - a))]? = none:=List.getElem?_eq_none (by omega)
   have e2 : o[a + i]? = none:=List.getElem?_eq_none (by omega)
   rw [e1,e2]
   simp
theorem seg_head (o : List Int) {a b : Nat} (h1 : a < b) (h2 : b ≤ o.length) : seg o a b = o.getD a 0 :: seg o (a + 1) b:=by
 rw [← seg_cat o (show a ≤ a + 1 by omega) (show a + 1 ≤ b by omega)]
 have : seg o a (a + 1) = [o.getD a 0]:=by
  unfold seg
  rw [List.take_succ_eq_append_getElem (by omega),List.drop_append_of_le_length (by rw [List.length_take]; omega)]
  rw [List.drop_eq_nil_of_le (by rw [List.length_take]; omega)]
  simp [List.getD_eq_getElem?_getD,List.getElem?_eq_getElem (show a < o.length by omega)]
 rw [this]; rfl
theorem seg_all (o : List Int) : seg o 0 o.length = o:=by simp [seg]
theorem seg_pre (x y z : List Int) {a b : Nat} (h : b ≤ x.length) : seg (x ++ y ++ z) a b = seg x a b:=by
 unfold seg
 rw [List.append_assoc,List.take_append_of_le_length h]
theorem seg_mid (x y z : List Int) {a b : Nat} (ha : a = x.length) (hb : b = x.length + y.length) : seg (x ++ y ++ z) a b = y:=by
 unfold seg
 subst ha; subst hb
 rw [List.take_append_of_le_length (by simp),← List.length_append,List.take_length,List.drop_left]
theorem seg_post (x y z o : List Int) {a b e : Nat} (he : e = x.length + y.length) (hz : z = o.drop e) (hae : e ≤ a) : seg (x ++ y ++ z) a b = seg o a b:=by
 unfold seg
 subst hz
 apply List.ext_getElem?
 intro i
 simp only [List.getElem?_drop,List.getElem?_take]
 split
 ·rw [List.getElem?_append_right (by simp; omega),List.getElem?_drop]
  congr 1
  simp; omega
 ·rfl
theorem seg_take (o : List Int) {a b k : Nat} (h : b ≤ k) : seg (o.take k) a b = seg o a b:=by
 unfold seg; rw [List.take_take,Nat.min_eq_left h]
structure Block (κ : Int → Int) (o : List Int) (s e : Nat) : Prop where
 up : (seg o s e).Pairwise (Bef κ)
 inn : ∀ x ∈ seg o s e,(s : Int) ≤ x ∧ x < (e : Int)
theorem Block.cong {κ : Int → Int} {o o' : List Int} {s e : Nat} (h : Block κ o s e) (he : seg o' s e = seg o s e) : Block κ o' s e:=⟨by rw [he]; exact h.up,fun x hx=>h.inn x (by rwa [he] at hx)⟩
structure Inv (κ : Int → Int) (p : Pn) (c : Nat) : Prop where
 ok : p.Ok
 f0 : ¬ p.on → p.f = 0 ∧ p.l = 0 ∧ p.r = 0 ∧ p.m = []
 ff : ∃ q,p.f = q * (2 * p.w)
 aa : ∀ q,q * (2 * p.w) < p.f → Block κ p.o (q * (2 * p.w)) (min p.o.length (q * (2 * p.w) + 2 * p.w))
 bb : ∀ q,p.f ≤ q * p.w → q * p.w < p.o.length → Block κ p.o (q * p.w) (min p.o.length (q * p.w + p.w))
 ml : (p.m ++ seg p.o (p.f + p.l) p.mid).Pairwise (Bef κ)
 mr : (p.m ++ seg p.o (p.mid + p.r) p.en).Pairwise (Bef κ)
 pm : p.on → (p.m ++ (seg p.o (p.f + p.l) p.mid ++ seg p.o (p.mid + p.r) p.en)).Perm (seg p.o p.f p.en)
 pr : p.o.Perm ((List.range p.o.length).map fun i : Nat=>(i : Int))
 cc : ∃ k,p.w = 2 ^ k ∧ (k = 0 ∨ 2 ^ (k - 1) < p.o.length) ∧ c ≤ p.o.length * k + (p.f + p.l + p.r)
theorem Inv.start {κ : Int → Int} {o : List Int} {w f : Nat} {c : Nat} (ok : (Pn.mk o w f 0 0 []).Ok) (f0 : ¬ w < o.length → f = 0) (ff : ∃ q,f = q * (2 * w))
  (aa : ∀ q,q * (2 * w) < f → Block κ o (q * (2 * w)) (min o.length (q * (2 * w) + 2 * w))) (bb : ∀ q,f ≤ q * w → q * w < o.length → Block κ o (q * w) (min o.length (q * w + w)))
  (pr : o.Perm ((List.range o.length).map fun i : Nat=>(i : Int))) (cc : ∃ k,w = 2 ^ k ∧ (k = 0 ∨ 2 ^ (k - 1) < o.length) ∧ c ≤ o.length * k + f) : Inv κ ⟨o,w,f,0,0,[]⟩ c:=by
 obtain ⟨q,hq⟩:=ff
 have h1 : f = (2 * q) * w:=by rw [hq,Nat.mul_comm 2 w,← Nat.mul_assoc,Nat.mul_assoc q w 2,Nat.mul_comm w 2,← Nat.mul_assoc,Nat.mul_comm q 2]
 have h2 : f + w = (2 * q + 1) * w:=by rw [Nat.add_mul,← h1]; omega
 refine ⟨ok,fun h=>⟨f0 h,rfl,rfl,rfl⟩,⟨q,hq⟩,aa,bb,?_,?_,?_,pr,?_⟩
 ·show ([] ++ seg o (f + 0) (min o.length (f + w))).Pairwise (Bef κ)
  rw [List.nil_append,Nat.add_zero]
  by_cases hf : f < o.length
  ·have:=(bb (2 * q) (by omega) (by omega)).up
   rwa [← h1] at this
  ·rw [seg_nil _ (by omega)]; exact List.Pairwise.nil
 ·show ([] ++ seg o (min o.length (f + w) + 0) (min o.length (f + 2 * w))).Pairwise (Bef κ)
  rw [List.nil_append,Nat.add_zero]
  by_cases hf : f + w < o.length
  ·have:=(bb (2 * q + 1) (by omega) (by omega)).up
   rw [← h2] at this
   rwa [Nat.min_eq_right (by omega),show f + 2 * w = f + w + w by omega]
  ·rw [seg_nil _ (by omega)]; exact List.Pairwise.nil
 ·intro ho
  have:=Pn.facts ok ho
  simp only [Pn.mid,Pn.en] at this
  show ([] ++ (seg o (f + 0) (min o.length (f + w)) ++ seg o (min o.length (f + w) + 0) (min o.length (f + 2 * w)))).Perm (seg o f (min o.length (f + 2 * w)))
  rw [List.nil_append,Nat.add_zero,Nat.add_zero,seg_cat o (by omega) (by omega)]
 ·exact cc
theorem bef_trans {κ : Int → Int} {a b c : Int} (h1 : Bef κ a b) (h2 : Bef κ b c) : Bef κ a c:=by unfold Bef at *; omega
theorem put_perm {p : Pn} (h : p.Ok) (ho : p.on) (hp : p.mrg.Perm (seg p.o p.f p.en)) : p.put.Perm p.o:=by
 obtain ⟨h1,h2,h3,h4,h5,h6⟩:=Pn.facts h ho
 have e : p.o = p.o.take p.f ++ seg p.o p.f p.en ++ p.o.drop p.en:=by
  conv=>lhs; rw [← List.take_append_drop p.en p.o,← List.take_append_drop p.f (p.o.take p.en),List.take_take,Nat.min_eq_left (by omega)]
  rfl
 conv=>rhs; rw [e]
 exact (List.Perm.append_left _ hp).append_right _
theorem Inv.step {κ : Int → Int} {p : Pn} {c : Nat} (h : Inv κ p c) (ho : p.on) (ha : ¬ p.asks) : Inv κ p.step c:=by
 obtain ⟨h1,h2,h3,h4,h5,h6⟩:=Pn.facts h.ok ho
 have hlen:=Pn.put_len h.ok ho
 have hml:=Pn.mrg_len h.ok ho
 have hok:=Pn.step_ok h.ok ho
 have hw:=h.ok.w0
 have ho2 : p.w < p.o.length:=ho
 have ha2 : ¬ (p.f + p.l < p.mid ∧ p.mid + p.r < p.en):=ha
 have hmm : p.mrg = p.m ++ (seg p.o (p.f + p.l) p.mid ++ seg p.o (p.mid + p.r) p.en):=rfl
 have hup : p.mrg.Pairwise (Bef κ):=by
  rw [hmm]
  by_cases hl : p.mid ≤ p.f + p.l
  ·rw [seg_nil _ hl,List.nil_append]; exact h.mr
  ·rw [seg_nil p.o (show p.en ≤ p.mid + p.r by omega),List.append_nil]; exact h.ml
 have hpm : p.mrg.Perm (seg p.o p.f p.en):=by rw [hmm]; exact h.pm ho
 obtain ⟨q,hq⟩:=h.ff
 have e1 : p.f = (2 * q) * p.w:=by rw [hq,Nat.mul_comm 2 p.w,← Nat.mul_assoc,Nat.mul_assoc q p.w 2,Nat.mul_comm p.w 2,← Nat.mul_assoc,Nat.mul_comm q 2]
 have e2 : p.f + p.w = (2 * q + 1) * p.w:=by rw [Nat.add_mul,← e1]; omega
 have hin : ∀ x ∈ seg p.o p.f p.en,(p.f : Int) ≤ x ∧ x < (p.en : Int):=by
  intro x hx
  rw [← seg_cat p.o (show p.f ≤ p.mid by omega) h2] at hx
  rcases List.mem_append.1 hx with hx | hx
  ·have hb:=h.bb (2 * q) (by omega) (by omega)
   rw [← e1] at hb
   have:=hb.inn x hx
   simp only [Pn.mid,Pn.en] at *
   omega
  ·by_cases hm : p.f + p.w < p.o.length
   ·have hb:=h.bb (2 * q + 1) (by omega) (by omega)
    rw [← e2] at hb
    have em : p.mid = p.f + p.w:=by simp only [Pn.mid]; omega
    have ee : p.en = min p.o.length (p.f + p.w + p.w):=by simp only [Pn.en]; congr 1; omega
    rw [em,ee] at hx
    have:=hb.inn x hx
    omega
   ·have em : p.en ≤ p.mid:=by simp only [Pn.mid,Pn.en]; omega
    rw [seg_nil _ em] at hx
    cases hx
 have lx : (p.o.take p.f).length = p.f:=by rw [List.length_take]; omega
 have hmid : seg p.put p.f p.en = p.mrg:=seg_mid _ _ _ lx.symm (by rw [lx,hml]; omega)
 have hpre : ∀ a b,b ≤ p.f → seg p.put a b = seg p.o a b:=fun a b hb=>by
  show seg (p.o.take p.f ++ p.mrg ++ p.o.drop p.en) a b = _
  rw [seg_pre _ _ _ (by rw [lx]; exact hb),seg_take _ hb]
 have hpost : ∀ a b,p.en ≤ a → seg p.put a b = seg p.o a b:=fun a b hb=>seg_post _ _ _ _ (e:=p.en) (by rw [lx,hml]; omega) rfl hb
 have hnew : Block κ p.put p.f p.en:=⟨by rw [hmid]; exact hup,fun x hx=>hin x (hpm.mem_iff.1 (by rwa [hmid] at hx))⟩
 have hpr : p.put.Perm ((List.range p.put.length).map fun i : Nat=>(i : Int)):=by rw [hlen]; exact (put_perm h.ok ho hpm).trans h.pr
 -- all merged runs
 have hA : ∀ q',q' * (2 * p.w) < p.en → Block κ p.put (q' * (2 * p.w)) (min p.put.length (q' * (2 * p.w) + 2 * p.w)):=by
  intro q' hq'
  rw [hlen]
  have hen : p.en = min p.o.length (p.f + 2 * p.w):=rfl
  rcases Nat.lt_trichotomy q' q with hlt | heq | hgt
  ·have hle : (q' + 1) * (2 * p.w) ≤ q * (2 * p.w):=Nat.mul_le_mul_right _ hlt
   rw [Nat.add_mul,Nat.one_mul] at hle
   exact (h.aa q' (by omega)).cong (hpre _ _ (by omega))
  ·subst heq
   rw [← hq,← hen]; exact hnew
  ·have hle : (q + 1) * (2 * p.w) ≤ q' * (2 * p.w):=Nat.mul_le_mul_right _ hgt
   rw [Nat.add_mul,Nat.one_mul] at hle
   omega
 obtain ⟨k,hk1,hk2,hk3⟩:=h.cc
 have hrest : p.f + p.l + p.r ≤ p.en:=by omega
 unfold Pn.step at hok ⊢
 by_cases hc : p.o.length ≤ p.en
 ·rw [if_pos hc] at hok ⊢
  refine Inv.start hok (fun _=>rfl) ⟨0,by simp⟩ (fun q' hq'=>by omega) (fun q' _ hq'=>?_) hpr ⟨k + 1,by rw [hk1,Nat.pow_succ]; omega,.inr (by rw [hlen,Nat.add_sub_cancel,← hk1]; exact ho2),?_⟩
  ·rw [hlen] at hq'
   have:=hA q' (by omega)
   exact this
  ·rw [hlen,Nat.mul_add,Nat.mul_one]; omega
 ·rw [if_neg hc] at hok ⊢
  have een : p.en = p.f + 2 * p.w:=by
   have : p.en = min p.o.length (p.f + 2 * p.w):=rfl
   omega
  refine Inv.start hok (fun hno=>absurd (by rw [hlen]; exact ho2) hno) ⟨q + 1,by rw [een,Nat.add_mul,Nat.one_mul,← hq]⟩ hA (fun q' h7 h8=>?_) hpr ⟨k,hk1,by rw [hlen]; exact hk2,by rw [hlen]; omega⟩
  rw [hlen] at h8 ⊢
  exact (h.bb q' (by omega) h8).cong (hpost _ _ h7)
theorem Inv.settleF {κ : Int → Int} {c : Nat} : ∀ (k : Nat) {p : Pn},Inv κ p c → Inv κ (settleF k p) c
 | 0,p,h=>h
 | k + 1,p,h=>by
  simp only [Go.Proofs.Ytmcjojbffidlbaa.settleF]
  split
  ·rename_i hc; exact Inv.settleF k (h.step hc.1 hc.2)
  ·exact h
theorem Inv.settle {κ : Int → Int} {c : Nat} {p : Pn} (h : Inv κ p c) : Inv κ (settle p) c:=Inv.settleF _ h
theorem pair_snoc {R : Int → Int → Prop} {m l : List Int} {x : Int} (h1 : (m ++ x :: l).Pairwise R) : (m ++ [x] ++ l).Pairwise R:=by rw [List.append_assoc]; exact h1
theorem Inv.told {κ : Int → Int} {p : Pn} {c : Nat} (h : Inv κ p c) (ho : p.on) (ha : p.asks) : Inv κ (p.told (decide (κ p.i < κ p.j))) (c + 1):=by
 obtain ⟨h1,h2,h3,h4,h5,h6⟩:=Pn.facts h.ok ho
 obtain ⟨a1,a2⟩:=ha
 have hok:=told_ok h.ok ho ⟨a1,a2⟩ (decide (κ p.i < κ p.j))
 have eL : seg p.o (p.f + p.l) p.mid = p.j :: seg p.o (p.f + p.l + 1) p.mid:=seg_head _ a1 (by omega)
 have eR : seg p.o (p.mid + p.r) p.en = p.i :: seg p.o (p.mid + p.r + 1) p.en:=seg_head _ a2 h3
 have hml:=h.ml
 have hmr:=h.mr
 have hpm:=h.pm ho
 rw [eL] at hml hpm
 rw [eR] at hmr hpm
 obtain ⟨ml1,ml2,ml3⟩:=List.pairwise_append.1 hml
 obtain ⟨mr1,mr2,mr3⟩:=List.pairwise_append.1 hmr
 obtain ⟨j1,j2⟩:=List.pairwise_cons.1 ml2
 obtain ⟨i1,i2⟩:=List.pairwise_cons.1 mr2
 obtain ⟨q,hq⟩:=h.ff
 have e1 : p.f = (2 * q) * p.w:=by rw [hq,Nat.mul_comm 2 p.w,← Nat.mul_assoc,Nat.mul_assoc q p.w 2,Nat.mul_comm p.w 2,← Nat.mul_assoc,Nat.mul_comm q 2]
 have e2 : p.f + p.w = (2 * q + 1) * p.w:=by rw [Nat.add_mul,← e1]; omega
 have mem_seg : ∀ (a b k : Nat),a ≤ k → k < b → b ≤ p.o.length → p.o.getD k 0 ∈ seg p.o a b:=fun a b k hak hkb hb=>by
  rw [← seg_cat p.o hak (Nat.le_of_lt hkb),seg_head p.o hkb hb]; simp
 have hj : p.j < (p.mid : Int):=by
  have hb:=h.bb (2 * q) (by omega) (by omega)
  rw [← e1] at hb
  exact (hb.inn p.j (mem_seg p.f p.mid (p.f + p.l) (by omega) a1 (by omega))).2
 have hwm : p.f + p.w < p.o.length:=by simp only [Pn.mid,Pn.en] at *; omega
 have emid : p.mid = p.f + p.w:=by simp only [Pn.mid]; omega
 have hRall : ∀ y ∈ p.i :: seg p.o (p.mid + p.r + 1) p.en,(p.mid : Int) ≤ y:=by
  intro y hy
  rw [← eR] at hy
  have hb:=h.bb (2 * q + 1) (by omega) (by omega)
  rw [← e2,← emid] at hb
  have een : min p.o.length (p.mid + p.w) = p.en:=by simp only [Pn.en]; rw [emid]; congr 1; omega
  rw [een] at hb
  refine (hb.inn y ?_).1
  rw [← seg_cat p.o (show p.mid ≤ p.mid + p.r by omega) h6]
  exact List.mem_append.2 (.inr hy)
 obtain ⟨k,hk1,hk2,hk3⟩:=h.cc
 by_cases hb : κ p.i < κ p.j
 ·rw [decide_eq_true hb] at hok ⊢
  have et : p.told true = ⟨p.o,p.w,p.f,p.l,p.r + 1,p.m ++ [p.i]⟩:=rfl
  rw [et] at hok ⊢
  refine ⟨hok,fun hno=>absurd ho hno,⟨q,hq⟩,h.aa,h.bb,?_,?_,fun _=>?_,h.pr,⟨k,hk1,hk2,by simp only; omega⟩⟩
  ·show (p.m ++ [p.i] ++ seg p.o (p.f + p.l) p.mid).Pairwise (Bef κ)
   rw [eL,List.append_assoc]
   refine List.pairwise_append.2 ⟨mr1,?_,?_⟩
   ·refine List.pairwise_cons.2 ⟨fun y hy=>?_,ml2⟩
    rcases List.mem_cons.1 hy with rfl | hy
    ·exact .inl hb
    ·exact bef_trans (.inl hb) (j1 y hy)
   ·intro a ha' b hb'
    rcases List.mem_cons.1 hb' with rfl | hb'
    ·exact mr3 a ha' _ (List.mem_cons_self ..)
    ·exact ml3 a ha' b hb'
  ·show (p.m ++ [p.i] ++ seg p.o (p.mid + (p.r + 1)) p.en).Pairwise (Bef κ)
   exact pair_snoc hmr
  ·show (p.m ++ [p.i] ++ (seg p.o (p.f + p.l) p.mid ++ seg p.o (p.mid + (p.r + 1)) p.en)).Perm (seg p.o p.f p.en)
   refine List.Perm.trans ?_ hpm
   rw [eL,List.append_assoc]
   refine List.Perm.append_left _ ?_
   rw [show p.mid + (p.r + 1) = p.mid + p.r + 1 by omega]
   exact (List.perm_middle (a:=p.i) (l₁:=p.j :: seg p.o (p.f + p.l + 1) p.mid) (l₂:=seg p.o (p.mid + p.r + 1) p.en)).symm
 ·rw [decide_eq_false hb] at hok ⊢
  have et : p.told false = ⟨p.o,p.w,p.f,p.l + 1,p.r,p.m ++ [p.j]⟩:=rfl
  rw [et] at hok ⊢
  refine ⟨hok,fun hno=>absurd ho hno,⟨q,hq⟩,h.aa,h.bb,?_,?_,fun _=>?_,h.pr,⟨k,hk1,hk2,by simp only; omega⟩⟩
  ·show (p.m ++ [p.j] ++ seg p.o (p.f + (p.l + 1)) p.mid).Pairwise (Bef κ)
   exact pair_snoc hml
  ·show (p.m ++ [p.j] ++ seg p.o (p.mid + p.r) p.en).Pairwise (Bef κ)
   rw [eR,List.append_assoc]
   refine List.pairwise_append.2 ⟨ml1,?_,?_⟩
   ·refine List.pairwise_cons.2 ⟨fun y hy=>?_,mr2⟩
    have hy2:=hRall y hy
    have hle : κ p.i ≤ κ y:=by
     rcases List.mem_cons.1 hy with rfl | hy
     ·exact Int.le_refl _
     ·have:=i1 y hy; unfold Bef at this; omega
    unfold Bef; omega
   ·intro a ha' b hb'
    rcases List.mem_cons.1 hb' with rfl | hb'
    ·exact ml3 a ha' _ (List.mem_cons_self ..)
    ·exact mr3 a ha' b hb'
  ·show (p.m ++ [p.j] ++ (seg p.o (p.f + (p.l + 1)) p.mid ++ seg p.o (p.mid + p.r) p.en)).Perm (seg p.o p.f p.en)
   refine List.Perm.trans ?_ hpm
   rw [eR,List.append_assoc]
   exact List.Perm.refl _
theorem Inv.tell {κ : Int → Int} {p : Pn} {c : Nat} (h : Inv κ p c) (ho : p.on) (ha : p.asks) : Inv κ (tellP p (decide (κ p.i < κ p.j))) (c + 1):=by
 unfold tellP
 rw [if_pos ho]
 exact (h.told ho ha).settle
theorem startP_inv {κ : Int → Int} {n : Nat} (hn : n ≤ 1000) : Inv κ (settle (startP n)) 0:=by
 have hl : (startP n).o.length = n:=by simp [startP]
 have hg : ∀ k,k < n → (startP n).o.getD k 0 = (k : Int):=fun k hk=>by simp [startP,List.getD_eq_getElem?_getD,List.getElem?_map,List.getElem?_range hk]
 refine Inv.settle (Inv.start (startP_ok hn) (fun _=>rfl) ⟨0,by simp⟩ (fun q h=>by omega) (fun q _ h=>?_) ?_ ⟨0,rfl,.inl rfl,by omega⟩)
 ·have h' : q * 1 < n:=by rw [← hl]; exact h
  rw [Nat.mul_one] at h' ⊢
  show Block κ (startP n).o q (min (startP n).o.length (q + 1))
  rw [hl,Nat.min_eq_right (by omega)]
  have e : seg (startP n).o q (q + 1) = [(q : Int)]:=by rw [seg_head _ (by omega) (by omega),seg_nil _ (by omega),hg q h']
  refine ⟨by rw [e]; exact List.pairwise_singleton _ _,fun x hx=>?_⟩
  rw [e] at hx
  have:=List.mem_singleton.1 hx
  omega
 ·show (startP n).o.Perm ((List.range (startP n).o.length).map fun i : Nat=>(i : Int))
  rw [hl]; exact List.Perm.refl _
theorem Inv.done {κ : Int → Int} {p : Pn} {c : Nat} (h : Inv κ p c) (ho : ¬ p.on) : p.o.Pairwise (Bef κ) ∧ ∃ k,(k = 0 ∨ 2 ^ (k - 1) < p.o.length) ∧ c ≤ p.o.length * k:=by
 obtain ⟨e1,e2,e3,e4⟩:=h.f0 ho
 obtain ⟨k,hk1,hk2,hk3⟩:=h.cc
 have ho2 : ¬ p.w < p.o.length:=ho
 refine ⟨?_,k,hk2,by omega⟩
 by_cases hn : p.o.length = 0
 ·rw [List.eq_nil_of_length_eq_zero hn]; exact List.Pairwise.nil
 ·have:=(h.bb 0 (by omega) (by omega)).up
  rw [Nat.zero_mul,Nat.zero_add,Nat.min_eq_left (by omega),seg_all] at this
  exact this
def Pn.nu (p : Pn) : Nat:=(2 * p.o.length - p.w) * (p.o.length + 1) + (p.o.length - (p.f + p.l + p.r))
theorem Pn.step_nu {p : Pn} (h : p.Ok) (ho : p.on) : p.step.nu ≤ p.nu:=by
 obtain ⟨h1,h2,h3,h4,h5,h6⟩:=Pn.facts h ho
 have hl:=Pn.put_len h ho
 have hw:=h.w0
 have ho2 : p.w < p.o.length:=ho
 unfold Pn.step Pn.nu
 split
 ·simp only [hl]
  obtain ⟨d,hd⟩ : ∃ d,2 * p.o.length - p.w = d:=⟨_,rfl⟩
  obtain ⟨e,he⟩ : ∃ e,2 * p.o.length - 2 * p.w = e:=⟨_,rfl⟩
  have hde : e + 1 ≤ d:=by omega
  have:=Nat.mul_le_mul_right (p.o.length + 1) hde
  rw [Nat.add_mul] at this
  rw [hd,he]
  omega
 ·simp only [hl]
  omega
theorem settleF_nu : ∀ (k : Nat) {p : Pn},p.Ok → (settleF k p).nu ≤ p.nu
 | 0,p,h=>Nat.le_refl _
 | k + 1,p,h=>by
  simp only [settleF]
  split
  ·rename_i hc; exact Nat.le_trans (settleF_nu k (Pn.step_ok h hc.1)) (Pn.step_nu h hc.1)
  ·exact Nat.le_refl _
theorem tell_nu {p : Pn} (h : p.Ok) (ho : p.on) (ha : p.asks) (b : Bool) : (tellP p b).nu < p.nu:=by
 obtain ⟨h1,h2,h3,h4,h5,h6⟩:=Pn.facts h ho
 obtain ⟨a1,a2⟩:=ha
 unfold tellP
 rw [if_pos ho]
 refine Nat.lt_of_le_of_lt (settleF_nu _ (told_ok h ho ⟨a1,a2⟩ b)) ?_
 unfold Pn.told Pn.nu
 cases b
 ·simp only [Bool.false_eq_true,if_false]; omega
 ·simp only [if_true]; omega
end Go.Proofs.Ytmcjojbffidlbaa
