import Derived.Test.YtncededjmcmidaaV3
namespace Go.Abs
set_option linter.unusedSimpArgs false
set_option linter.unusedVariables false
open Go.RowKit
variable {P : Program} {F : Fr} {Q : Exit → St → Prop}

theorem box_later {H : Hp} {m : Mp} {w : World} (l : List (Nat × List AV)) : Later F H m w { H with box:=l } m w :=
 ⟨fun _ hS _=>⟨hS,rfl⟩,fun _ _ h=>h,fun _ B hB=>⟨B,hB,Nat.le_refl _,fun _=>⟨fun _ h=>h,rfl⟩⟩,fun _ B hB=>⟨B,hB,rfl⟩⟩
theorem box_tell {H : Hp} {m : Mp} {w : World} (h : HRep F H m w) {b : Nat} {cs : List AV} (hb : look H.box b = some cs) (hm : isM cs = false) {j : Nat} {x y : AV} (hx : cs[j]? = some x)
  (hy : ∀ u,oneCell u = true → RepA F H m w x u → RepA F H m w y u) : HRep F { H with box:=(b,cs.set j y) :: H.box } m w:=by
 have hl : Later F H m w { H with box:=(b,cs.set j y) :: H.box } m w:=box_later _
 refine ⟨h.os,h.tape,h.output,h.size,h.block,h.fresh,h.gB,h.brB,h.bri,h.ibb,h.ibf,h.iff,?_,?_,?_⟩
 ·intro i k hi
  obtain ⟨cs',h1,h2⟩:=h.box i k hi
  by_cases he : b = i
  ·subst he
   rw [hb] at h1; cases h1
   refine ⟨cs.set j y,by simp [look],?_⟩
   obtain ⟨arr,e,g1,g2,g3⟩:=h2.cells hm
   refine BoxIs.of g1 (by simpa using g2) fun q x' u hx' hu=>?_
   by_cases hq : j = q
   ·subst hq
    have hlt:=(List.getElem?_eq_some_iff.1 hx).1
    rw [List.getElem?_set_self hlt] at hx'
    cases hx'
    obtain ⟨k1,k2⟩:=g3 j x u hx hu
    exact ⟨k1,hl.rep (hy u k1 k2)⟩
   ·rw [List.getElem?_set_ne hq] at hx'
    obtain ⟨k1,k2⟩:=g3 q x' u hx' hu
    exact ⟨k1,hl.rep k2⟩
  ·have hne : (b == i) = false:=by simpa using he
   exact ⟨cs',by simp only [look,hne,Bool.false_eq_true,if_false]; exact h1,h2.mono hl rfl⟩
 ·intro i v hv
  obtain ⟨B,rs,xs,h1,h2⟩:=h.buf i v hv
  exact ⟨B,rs,xs,h1,h2⟩
 ·intro k v hv
  obtain ⟨B,rs,xs,h1,h2⟩:=h.bor k v hv
  exact ⟨B,rs,xs,h1,h2⟩
def St.cell (st : St) (b : Nat) (cs : List AV) (j : Nat) (y : AV) : St:={ st with H:={ st.H with box:=(b,cs.set j y) :: st.H.box } }
theorem st_cell {st : St} {m : Mp} {a : Act} {w : World} (hs : StRep F st m a w) {b : Nat} {cs : List AV} (hb : look st.H.box b = some cs) (hm : isM cs = false) {j : Nat} {x y : AV} (hx : cs[j]? = some x)
  (hy : ∀ u,oneCell u = true → RepA F st.H m w x u → RepA F st.H m w y u) : StRep F (st.cell b cs j y) m a w :=
 ⟨hs.d,hs.sz,box_tell hs.h hb hm hx hy,hs.fr,fun t=>(box_later _).rep (hs.sl t)⟩
def St.slot (st : St) (t : Nat) (y : AV) : St:={ st with sl:=(t,y) :: st.sl }
theorem st_slot {st : St} {m : Mp} {a : Act} {w : World} (hs : StRep F st m a w) {t : Nat} {y : AV} (hy : ∀ u,RepA F st.H m w (st.get t) u → RepA F st.H m w y u) : StRep F (st.slot t y) m a w :=
 ⟨hs.d,hs.sz,hs.h,hs.fr,fun q=>by
  by_cases h : t = q
  ·subst h
   have : (st.slot t y).get t = y:=by simp [St.get,St.slot,look]
   rw [this]; exact hy _ (hs.sl t)
  ·have hne : (t == q) = false:=by simpa using h
   have : (st.slot t y).get q = st.get q:=by simp only [St.get,St.slot,look,hne,Bool.false_eq_true,if_false]
   rw [this]; exact hs.sl q⟩
def LkV (B : Buf) (v : Value) : Prop:=oneCell v = true ∧ ∀ n,B.con.len = some n → ∃ p cap,v = .slice p n cap ∧ (n ≠ 0 → ∃ g,p = some ⟨g,0,none⟩)
theorem awp_lk {c : Code} {st : St} (g t b j id ver : Nat) {off : Nat} {cs : List AV} {B : Buf} (ht : st.get t = .bx b off) (hb : look st.H.box b = some cs) (hm : isM cs = false) (hx : cs[j]? = some (.own id ver)) (hB : curB st.H id ver = some B)
  (k : ∀ v,LkV B v → AWp P F c Q ((st.cell b cs j (.c (.a v))).slot g (.lk id ver v))) : AWp P F c Q st:=by
 intro m a w hs
 have h1:=hs.sl t
 rw [ht] at h1
 obtain ⟨k0,hk0,_⟩:=h1
 obtain ⟨cs',g1,g2⟩:=hs.h.box b k0 hk0
 rw [hb] at g1; cases g1
 obtain ⟨arr,e,g3,g4,g5⟩:=g2.cells hm
 have hlt:=(List.getElem?_eq_some_iff.1 hx).1
 have ha : arr[j]? = some (arr[j]'(by omega)):=Array.getElem?_eq_getElem _
 obtain ⟨o1,o2⟩:=g5 j _ _ hx ha
 obtain ⟨hB1,hB2⟩:=curB_spec hB
 obtain ⟨rs,xs,hbf,hrows,hz0,hr,hown,hrd⟩:=own_slice hs.h hB1 hB2 o2
 generalize arr[j]'(by omega) = v at *
 have hv : LkV B v:=by
  refine ⟨o1,fun n hn=>?_⟩
  have hl:=(rows_z hrows).2
  rw [hn] at hl; simp at hl; subst hl
  obtain ⟨p,cap,h1,_,_,h2⟩:=ownsRow_val hown
  exact ⟨p,cap,h1,fun h0=>let ⟨g,hg,_⟩:=h2 h0; ⟨g,hg⟩⟩
 refine k v hv m a w (st_slot (st_cell hs hb hm hx fun u hu ho=>?_) fun u _=>?_)
 ·obtain ⟨_,B',hB',_,hf⟩:=ho
  rw [hB1] at hB'; cases hB'
  have:=hf hB2
  rw [hbf] at this; cases this
  exact Rd.a _ hu
 ·exact ⟨o1,B,hB1,by omega,fun _=>hbf⟩
theorem lk_bf {st : St} {m : Mp} {a : Act} {w : World} (hs : StRep F st m a w) {g id ver : Nat} {v : Value} {B : Buf} (hg : st.get g = .lk id ver v) (hB : curB st.H id ver = some B) : oneCell v = true ∧ look st.H.buf id = some B ∧ B.ver = ver ∧ m.bf id = some v:=by
 have h1:=hs.sl g
 rw [hg] at h1
 obtain ⟨o1,B',hB',_,hf⟩:=h1
 obtain ⟨hB1,hB2⟩:=curB_spec hB
 rw [hB1] at hB'; cases hB'
 exact ⟨o1,hB1,hB2,hf hB2⟩
theorem awp_unlk {c : Code} {st : St} (g b j id ver : Nat) {v : Value} {cs : List AV} {B : Buf} (hg : st.get g = .lk id ver v) (hb : look st.H.box b = some cs) (hm : isM cs = false) (hx : cs[j]? = some (.c (.a v))) (hB : curB st.H id ver = some B)
  (k : AWp P F c Q (st.cell b cs j (.own id ver))) : AWp P F c Q st:=by
 intro m a w hs
 obtain ⟨o1,o2,o3,o4⟩:=lk_bf hs hg hB
 refine k m a w (st_cell hs hb hm hx fun u hu hr=>?_)
 obtain rfl:=rd_a hr
 exact ⟨o1,B,o2,by omega,fun _=>o4⟩
theorem fit_oel {st : St} (t g id ver : Nat) {gb k i off n cap : Nat} {B : Buf} (hg : st.get g = .lk id ver (.slice (some ⟨gb,0,none⟩) n cap)) (ht : st.get t = .c (.a (.pointer (some ⟨gb,k,none⟩)))) (hB : curB st.H id ver = some B) (hk : k = i * B.z + off) (hi : i < n) :
  Fit st (st.slot t (.oel id ver i off)):=by
 intro F m a w hs
 obtain ⟨o1,o2,o3,o4⟩:=lk_bf hs hg hB
 refine ⟨m,st_slot hs fun u hu=>?_⟩
 rw [ht] at hu
 obtain rfl:=rd_a hu
 exact ⟨⟨_,_,rfl⟩,B,o2,by omega,fun _=>⟨gb,n,cap,o4,hi,by rw [hk]⟩⟩
theorem awp_unlk_row {c : Code} {st : St} (g idH id ver i j : Nat) {v : Value} {BH B : Buf} {z : Nat} {rows : List (List C)} {row : List C} (hg : st.get g = .lk id ver v) (hH : look st.H.buf idH = some BH) (hB : curB st.H id ver = some B) (hne : id ≠ idH)
  (hc : BH.con = .sl z rows) (hz : BH.z = z) (hrow : rows[i]? = some row) (hj : row[j]? = some (.a v))
  (k : AWp P F c Q { st with sl:=(g,.u) :: st.sl,H:={ st.H with buf:=(idH,{ BH with con:=.sl z (rows.set i (row.set j B.con)) }) :: (id,{ B with ver:=ver + 1 }) :: st.H.buf } }) : AWp P F c Q st:=by
 intro m a w hs
 obtain ⟨o1,o2,o3,o4⟩:=lk_bf hs hg hB
 obtain ⟨h1,l1,r1⟩:=hs.h.dropBuf (H':={ st.H with buf:=(id,{ B with ver:=ver + 1 }) :: st.H.buf }) (B':={ B with ver:=ver + 1 }) o4 o2 (by simp only; omega) (look_add ..) (fun i hi=>look_add_ne _ _ _ _ hi) rfl rfl
 have hHne : look ((id,{ B with ver:=ver + 1 }) :: st.H.buf) idH = some BH:=by
  have : (id == idH) = false:=by simpa using hne
  simp only [look,this,Bool.false_eq_true,if_false]; exact hH
 have l2 : Later F { st.H with buf:=(id,{ B with ver:=ver + 1 }) :: st.H.buf } (m.addBf id none) w { st.H with buf:=(idH,{ BH with con:=.sl z (rows.set i (row.set j B.con)) }) :: (id,{ B with ver:=ver + 1 }) :: st.H.buf } (m.addBf id none) w:=by
  refine ⟨fun _ hS _=>⟨hS,rfl⟩,fun _ _ h=>h,fun q B' hB'=>?_,fun _ B hB=>⟨B,hB,rfl⟩⟩
  by_cases hq : idH = q
  ·subst hq
   have hB'' : look ((id,{ B with ver:=ver + 1 }) :: st.H.buf) idH = some B':=hB'
   rw [hHne] at hB''; cases hB''
   exact ⟨{ BH with con:=.sl z (rows.set i (row.set j B.con)) },look_add ..,Nat.le_refl _,fun _=>⟨fun _ h=>h,rfl⟩⟩
  ·have hne' : (idH == q) = false:=by simpa using hq
   exact ⟨B',by simp only [look,hne',Bool.false_eq_true,if_false]; exact hB',Nat.le_refl _,fun _=>⟨fun _ h=>h,rfl⟩⟩
 have h2 : HRep F { st.H with buf:=(idH,{ BH with con:=.sl z (rows.set i (row.set j B.con)) }) :: (id,{ B with ver:=ver + 1 }) :: st.H.buf } (m.addBf id none) w:=by
  refine ⟨h1.os,h1.tape,h1.output,h1.size,h1.block,h1.fresh,h1.gB,h1.brB,h1.bri,h1.ibb,h1.ibf,h1.iff,?_,?_,?_⟩
  ·intro q b hq
   obtain ⟨cs,e1,e2⟩:=h1.box q b hq
   exact ⟨cs,e1,e2.mono l2 rfl⟩
  ·intro q u hu
   obtain ⟨B',rs,xs,e1,e2,e3,e4,e5,e6⟩:=h1.buf q u hu
   by_cases hq : idH = q
   ·subst hq
    have e1' : look ((id,{ B with ver:=ver + 1 }) :: st.H.buf) idH = some B':=e1
    rw [hHne] at e1'; cases e1'
    rw [hc,hz] at e2
    simp only [C.rows,Option.some.injEq,Prod.mk.injEq,true_and] at e2
    subst e2
    refine ⟨{ BH with con:=.sl z (rows.set i (row.set j B.con)) },rows.set i (row.set j B.con),xs,look_add ..,by rw [hz]; rfl,e3,?_,by simpa using e5,?_⟩
    ·intro r hr
     rcases List.mem_or_eq_of_mem_set hr with hr | rfl
     ·exact e4 r hr
     ·rw [List.length_set]; exact e4 row (List.mem_of_getElem? hrow)
    ·intro p q y hy
     unfold at2 at hy
     by_cases hp : i = p
     ·subst hp
      have hlt:=(List.getElem?_eq_some_iff.1 hrow).1
      rw [List.getElem?_set_self hlt] at hy
      simp only [Option.bind_some] at hy
      by_cases hq : j = q
      ·subst hq
       have hlt2:=(List.getElem?_eq_some_iff.1 hj).1
       rw [List.getElem?_set_self hlt2] at hy
       cases hy
       obtain ⟨u',hu',hr'⟩:=e6 i j (.a v) (by simp [at2,hrow,hj])
       obtain rfl:=rd_a hr'
       exact ⟨_,hu',r1⟩
      ·rw [List.getElem?_set_ne hq] at hy
       exact e6 i q y (by simp [at2,hrow,hy])
     ·rw [List.getElem?_set_ne hp] at hy
      exact e6 p q y hy
   ·have hne' : (idH == q) = false:=by simpa using hq
    exact ⟨B',rs,xs,by simp only [look,hne',Bool.false_eq_true,if_false]; exact e1,e2,e3,e4,e5,e6⟩
  ·intro q u hu
   obtain ⟨B',rs,xs,e1,e2⟩:=h1.bor q u hu
   exact ⟨B',rs,xs,e1,e2⟩
 refine k (m.addBf id none) a w ⟨hs.d,hs.sz,h2,fun q hq=>?_,fun q=>?_⟩
 ·obtain ⟨f1,f2⟩:=hs.fr q hq
  refine ⟨f1,?_⟩
  simp only [Mp.addBf]
  split
  ·rfl
  ·exact f2
 ·by_cases hq : g = q
  ·subst hq
   simp only [St.get,look,beq_self_eq_true,if_true]
   trivial
  ·have hne' : (g == q) = false:=by simpa using hq
   have : St.get { st with sl:=(g,.u) :: st.sl,H:={ st.H with buf:=(idH,{ BH with con:=.sl z (rows.set i (row.set j B.con)) }) :: (id,{ B with ver:=ver + 1 }) :: st.H.buf } } q = st.get q:=by
    simp only [St.get,look,hne',Bool.false_eq_true,if_false]
   rw [this]
   exact l2.rep (l1.rep (hs.sl q))
def relL : List C → List C → Prop
 | [],[]=>True
 | c :: cs,c' :: cs'=>(c = c' ∨ (c = .nil ∧ c'.rows = some (c'.z,[]))) ∧ relL cs cs'
 | _,_=>False
theorem relL_len : ∀ {a b : List C},relL a b → a.length = b.length
 | [],[],_=>rfl
 | _ :: _,_ :: _,h=>by simp [relL_len h.2]
theorem relL_get : ∀ {a b : List C} {j : Nat} {y : C},relL a b → b[j]? = some y → ∃ x,a[j]? = some x ∧ (x = y ∨ (x = .nil ∧ y.rows = some (y.z,[])))
 | c :: cs,c' :: cs',0,y,h,hy=>by simp at hy; subst hy; exact ⟨c,rfl,h.1⟩
 | c :: cs,c' :: cs',j + 1,y,h,hy=>by simpa using relL_get h.2 (by simpa using hy)
 | [],[],j,y,h,hy=>by simp at hy
theorem awp_last_nil {c : Code} {st : St} (idH : Nat) {BH : Buf} {z : Nat} {A : List (List C)} {row row' : List C} (hH : look st.H.buf idH = some BH) (hc : BH.con = .sl z (A ++ [row])) (hz : BH.z = z) (hr : relL row row')
  (k : AWp P F c Q { st with H:={ st.H with buf:=(idH,{ BH with con:=.sl z (A ++ [row']) }) :: st.H.buf } }) : AWp P F c Q st:=by
 intro m a w hs
 have l2 : Later F st.H m w { st.H with buf:=(idH,{ BH with con:=.sl z (A ++ [row']) }) :: st.H.buf } m w:=by
  refine ⟨fun _ hS _=>⟨hS,rfl⟩,fun _ _ h=>h,fun q B' hB'=>?_,fun _ B hB=>⟨B,hB,rfl⟩⟩
  by_cases hq : idH = q
  ·subst hq
   rw [hH] at hB'; cases hB'
   exact ⟨{ BH with con:=.sl z (A ++ [row']) },look_add ..,Nat.le_refl _,fun _=>⟨fun _ h=>h,rfl⟩⟩
  ·have hne' : (idH == q) = false:=by simpa using hq
   exact ⟨B',by simp only [look,hne',Bool.false_eq_true,if_false]; exact hB',Nat.le_refl _,fun _=>⟨fun _ h=>h,rfl⟩⟩
 have h1:=hs.h
 refine k m a w ⟨hs.d,hs.sz,⟨h1.os,h1.tape,h1.output,h1.size,h1.block,h1.fresh,h1.gB,h1.brB,h1.bri,h1.ibb,h1.ibf,h1.iff,?_,?_,?_⟩,hs.fr,fun t=>l2.rep (hs.sl t)⟩
 ·intro q b hq
  obtain ⟨cs,e1,e2⟩:=h1.box q b hq
  exact ⟨cs,e1,e2.mono l2 rfl⟩
 ·intro q u hu
  obtain ⟨B',rs,xs,e1,e2,e3,e4,e5,e6⟩:=h1.buf q u hu
  by_cases hq : idH = q
  ·subst hq
   rw [hH] at e1; cases e1
   rw [hc,hz] at e2
   simp only [C.rows,Option.some.injEq,Prod.mk.injEq,true_and] at e2
   subst e2
   refine ⟨{ BH with con:=.sl z (A ++ [row']) },A ++ [row'],xs,look_add ..,by rw [hz]; rfl,e3,?_,by simpa using e5,?_⟩
   ·intro r hr'
    rcases List.mem_append.1 hr' with hr' | hr'
    ·exact e4 r (List.mem_append_left _ hr')
    ·rw [List.mem_singleton.1 hr',← relL_len hr]; exact e4 row (by simp)
   ·intro p q y hy
    unfold at2 at hy
    rcases Nat.lt_trichotomy p A.length with hp | hp | hp
    ·rw [List.getElem?_append_left hp] at hy
     exact e6 p q y (by unfold at2; rw [List.getElem?_append_left hp]; exact hy)
    ·subst hp
     rw [List.getElem?_append_right (Nat.le_refl _)] at hy
     simp only [Nat.sub_self,List.getElem?_cons_zero,Option.bind_some] at hy
     obtain ⟨x,hx,hxy⟩:=relL_get hr hy
     obtain ⟨u',hu',hr'⟩:=e6 A.length q x (by unfold at2; rw [List.getElem?_append_right (Nat.le_refl _)]; simpa using hx)
     refine ⟨u',hu',?_⟩
     rcases hxy with rfl | ⟨rfl,hy2⟩
     ·exact hr'
     ·have:=rd_nil hr'
      subst this
      exact .emp _ _ none 0 hy2 (fun _=>rfl)
    ·rw [List.getElem?_eq_none (by simp; omega)] at hy
     cases hy
  ·have hne' : (idH == q) = false:=by simpa using hq
   exact ⟨B',rs,xs,by simp only [look,hne',Bool.false_eq_true,if_false]; exact e1,e2,e3,e4,e5,e6⟩
 ·intro q u hu
  obtain ⟨B',rs,xs,e1,e2⟩:=h1.bor q u hu
  exact ⟨B',rs,xs,e1,e2⟩
theorem awp_ghost {c : Code} {st : St} (g id : Nat) (e : TypeId) (z : Nat) (hz : 0 < z) (hn : st.nx ≤ id) (hb : look st.H.buf id = none)
  (k : AWp P F c Q { st with sl:=(g,.lk id 0 (.slice none 0 0)) :: st.sl,H:=st.H.addBuf id ⟨0,e,z,.sl z []⟩,nx:=id + 1 }) : AWp P F c Q st:=by
 intro m a w hs
 obtain ⟨g1,g2⟩:=hs.h.bufStep (id:=id) (row:=none) (B':=⟨0,e,z,.sl z []⟩) (v':=.slice none 0 0) (rs:=[]) (xs:=[]) (H':=st.H.addBuf id ⟨0,e,z,.sl z []⟩) (w':=w) ⟨rfl,rfl,rfl,Nat.le_refl _,fun _ _ _=>rfl⟩ (fun g hg=>by cases hg)
  (fun g hg=>by simp [Value.ownBlock] at hg) (fun B hB=>by rw [hb] at hB; cases hB) (look_add ..) (fun i hi=>look_add_ne _ _ _ _ hi) rfl rfl rfl hz (by simp) (World.ownsR_nil w 0 e z) (fun i j y hy=>by simp [at2] at hy)
 refine k (m.addBf id (some (.slice none 0 0))) a w ⟨hs.d,hs.sz,g1,fun i hi=>?_,fun t=>?_⟩
 ·obtain ⟨f1,f2⟩:=hs.fr i (by have hi : id + 1 ≤ i:=hi; omega)
  refine ⟨f1,?_⟩
  simp only [Mp.addBf]
  split
  ·have hi : id + 1 ≤ i:=hi
   omega
  ·exact f2
 ·by_cases ht : g = t
  ·subst ht
   simp only [St.get,look,beq_self_eq_true,if_true]
   exact ⟨rfl,_,look_add ..,Nat.le_refl _,fun _=>by simp [Mp.addBf]⟩
  ·have hne : (g == t) = false:=by simpa using ht
   have : St.get { st with sl:=(g,.lk id 0 (.slice none 0 0)) :: st.sl,H:=st.H.addBuf id ⟨0,e,z,.sl z []⟩,nx:=id + 1 } t = st.get t:=by
    simp only [St.get,look,hne,Bool.false_eq_true,if_false]
   rw [this]
   exact g2.rep (hs.sl t)
attribute [go_sem] relL
attribute [go_sem] St.cell St.slot List.set_cons_zero List.set_cons_succ
end Go.Abs
