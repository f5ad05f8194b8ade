import Derived.ChangeStays
import Derived.JoinedCond
import Derived.Laws.StructEq
import Derived.LoopN
import Derived.OpenShut
import Derived.ProofKit
import Derived.ReadAgain
import Derived.SizedLaws
import Derived.Test.YtncededjmcmidaaX2
import Derived.WalkKit
namespace Go.Abs
set_option linter.unusedSimpArgs false
set_option linter.unusedVariables false
open Go.RowKit

variable {P : Program}

structure StRep (F : Fr) (st : St) (m : Mp) (a : Act) (w : World) : Prop where
 d : a.defers = []
 sz : a.tmps.size = st.n
 h : HRep F st.H m w
 fr : ∀ i,st.nx ≤ i → m.bx i = none ∧ m.bf i = none
 sl : ∀ t,RepA F st.H m w (st.get t) (a.tmps.getD t undef)

theorem rep_ofV (F : Fr) (H : Hp) (m : Mp) (w : World) (v : Value) : RepA F H m w (ofV v) v:=by
 unfold ofV
 split
 ·split
  ·rename_i cs h
   exact ⟨cs,rfl,RdL.ofC h⟩
  ·trivial
 ·trivial
 ·rename_i h1 h2
  refine rd_ofC w _ v ?_
  cases v <;> first | rfl | (exfalso; first | exact h1 _ rfl | exact h2 _ rfl)

theorem StRep.ev {F : Fr} {st : St} {m : Mp} {a : Act} {w : World} (h : StRep F st m a w) (x : Operand) : RepA F st.H m w (st.ev x) (a.eval x):=by
 cases x with
 | tmp t=>exact h.sl t
 | const v=>exact rep_ofV ..
 | global g=>trivial
 | func f=>exact Rd.a _ rfl

theorem StRep.put {F : Fr} {st : St} {m : Mp} {a : Act} {w : World} (h : StRep F st m a w) (d : Nat) {r : AV} {v : Value} (hr : RepA F st.H m w r v) : StRep F (st.put d r) m (a.put (some d) v) w:=by
 unfold St.put
 split
 ·rename_i hd
  refine ⟨h.d,by simp [Act.put,h.sz],h.h,h.fr,fun t=>?_⟩
  simp only [St.get,look,Act.put]
  by_cases ht : d = t
  ·subst ht
   have : d < a.tmps.size:=by rw [h.sz]; exact hd
   simp [this]
   exact hr
  ·have hne : (d == t) = false:=by simp [ht]
   simp only [hne,Bool.false_eq_true,if_false]
   have:=h.sl t
   simp only [St.get] at this
   simpa [Array.getElem?_setIfInBounds_ne ht] using this
 ·rename_i hd
  have : a.put (some d) v = a:=by
   simp only [Act.put]
   rw [Array.setIfInBounds_eq_of_size_le (by rw [h.sz]; omega)]
  rw [this]
  exact h

def St.putO (st : St) (d : Option Nat) (r : AV) : St:=match d with | some d=>st.put d r | none=>st

theorem StRep.putO {F : Fr} {st : St} {m : Mp} {a : Act} {w : World} (h : StRep F st m a w) (d : Option Nat) {r : AV} {v : Value} (hr : RepA F st.H m w r v) : StRep F (st.putO d r) m (a.put d v) w:=by
 cases d with
 | none=>exact h
 | some d=>exact h.put d hr

theorem StRep.tell {F : Fr} {st : St} {m : Mp} {a : Act} {w : World} (h : StRep F st m a w) (d : Nat) {r : AV} (hr : RepA F st.H m w r (a.tmps.getD d undef)) : StRep F (st.put d r) m a w:=by
 have h2:=h.put d hr
 have : a.put (some d) (a.tmps.getD d undef) = a:=by
  simp only [Act.put]
  congr 1
  apply Array.ext_getElem?
  intro i
  rw [Array.getElem?_setIfInBounds]
  split
  ·rename_i hi; subst hi
   split
   ·rename_i hlt; simp [hlt]
   ·rename_i hlt; simp [Array.getElem?_eq_none (Nat.not_lt.1 hlt)]
  ·rfl
 rw [this] at h2
 exact h2

theorem OpS.exec {cf : Cfg} {st st' : St} {o : Oper} {r : AV} (h : OpS P cf st st' o r) {F : Fr} {m : Mp} {a : Act} {w : World} (hs : StRep F st m a w) :
  Exec P o a.eval w fun v w'=>∃ m',StRep F st' m' a w' ∧ RepA F st'.H m' w' r v:=by
 obtain ⟨hn,hsl,hnx,hor⟩:=h
 have hget : ∀ t,st'.get t = st.get t:=fun t=>by simp [St.get,hsl]
 rcases hor with ⟨hbuf,⟨hbox,hbo⟩,hq⟩ | ⟨_,hw⟩
 ·obtain ⟨g1,g2⟩:=hs.h.hp (H':=st'.H) (fun i b hb=>hbox i (by
   rcases Nat.lt_or_ge i st.nx with h | h
   ·exact h
   ·rw [(hs.fr i h).1] at hb; cases hb)) (fun i B hB=>by rw [hbuf]; exact hB) hbo
  refine (hq F st'.H m w a.eval ⟨⟨fun _ _ h=>h,rfl⟩,rfl⟩ g1 (fun i hi _=>(hs.fr i hi).1) (fun x _=>g2.rep (hs.ev x))).mono fun v w' ⟨m',h1,h2,h3,h4,h5⟩=>⟨m',⟨hs.d,by rw [hn]; exact hs.sz,h1,fun i hi=>?_,fun t=>?_⟩,h5⟩
  ·exact ⟨h4 i (by omega) (hs.fr i (by omega)).1,by rw [h3]; exact (hs.fr i (by omega)).2⟩
  ·rw [hget]; exact h2.rep (g2.rep (hs.sl t))
 ·refine (hw F m w a.eval hs.h hs.fr (fun x _=>hs.ev x)).mono fun v w' ⟨m',h1,h2,h3,h4⟩=>⟨m',⟨hs.d,by rw [hn]; exact hs.sz,h1,h3,fun t=>?_⟩,h4⟩
  rw [hget]; exact h2.rep (hs.sl t)

def Fit (st st' : St) : Prop:=∀ (F : Fr) (m : Mp) (a : Act) (w : World),StRep F st m a w → ∃ m',StRep F st' m' a w

end Go.Abs

namespace Go.Abs
set_option linter.unusedSimpArgs false
set_option linter.unusedVariables false
open Go.RowKit

variable {P : Program}

def fitMC : MC → MC → Prop
 | .i k f n,.i k' f' n'=>k = k' ∧ (∀ x,f x = f' x) ∧ n = n'
 | .s f n,.s f' n'=>(∀ x,f x = f' x) ∧ n = n'
 | _,_=>False
def fitT (H H' : Hp) : TE → Prop
 | .s _=>True
 | .own id ver=>(curB H id ver).isSome = true ∧ (curB H' id ver).isSome = true
 | .bx id _=>(look H'.box id).isSome = true
 | .mp id=>(look H'.box id).isSome = true
 | .ln _=>True
 | .u=>True
def fitTs (H H' : Hp) : List TE → Prop
 | []=>True
 | x :: l=>fitT H H' x ∧ fitTs H H' l
def fitAV (H H' : Hp) (x y : AV) : Prop:=match y with
 | .u=>True
 | .own id ver=>match x with
  | .own id0 ver0=>id0 = id ∧ (curB H id0 ver0).isSome = true ∧ (curB H' id ver).isSome = true
  | .c .nil=>look H.buf id = none ∧ (curB H' id ver).isSome = true
  | _=>False
 | .c c'=>match x with
  | .c .nil=>c' = .nil ∨ c'.rows = some (c'.z,[])
  | .c c=>c = c'
  | .own id0 ver0=>match curB H id0 ver0 with
   | some B=>look H'.buf id0 = none ∧ B.con = c'
   | none=>False
  | _=>False
 | .bx id off=>x = .bx id off ∧ (look H'.box id).isSome = true
 | .oel id ver i off=>match x with
  | .oel id0 ver0 i0 off0=>(id0 = id ∧ i0 = i ∧ off0 = off) ∧ (match curB H id0 ver0,curB H' id ver with | some B,some B'=>B.z = B'.z | _,_=>False)
  | _=>False
 | .win id ver lo len=>match x with
  | .win id0 ver0 lo0 len0=>(id0 = id ∧ lo0 = lo ∧ len0 = len) ∧ (match curB H id0 ver0,curB H' id ver with | some B,some B'=>B.z = B'.z | _,_=>False)
  | _=>False
 | .bel _ _ _=>False
 | .bw k lo len=>x = .bw k lo len ∧ (match look H.bor k,look H'.bor k with | some B,some B'=>B.con = B'.con | _,_=>False)
 | .g xs=>x = .g xs
 | .t l=>x = .t l
 | .el xs=>x = .el xs
 | .mp id=>x = .mp id ∧ (look H'.box id).isSome = true
 | .mc con'=>match x with
  | .mc con=>fitMC con con'
  | _=>False
 | .fn f caps=>x = .fn f caps ∧ fitTs H H' caps
 | .tt l=>x = .tt l ∧ fitTs H H' l
 | .gt _=>False
 | .lw _=>False
 | .anc id b=>x = .anc id b ∧ (look H'.box id).isSome = true
 | .ln c=>x = .ln c
 | .vf c=>x = .vf c
 | .lk id ver v=>match x with
  | .lk id0 ver0 v0=>(id0 = id ∧ v0 = v) ∧ (curB H id0 ver0).isSome = true ∧ (curB H' id ver).isSome = true
  | _=>False

theorem fitTs_get {H H' : Hp} : ∀ {l : List TE} {j : Nat} {x : TE},fitTs H H' l → l[j]? = some x → fitT H H' x
 | [],j,x,_,h=>by simp at h
 | y :: l,0,x,h,hx=>by simp at hx; subst hx; exact h.1
 | y :: l,j + 1,x,h,hx=>fitTs_get h.2 (by simpa using hx)
theorem fitMC_fn {a b : MC} (h : fitMC a b) : a.n = b.n ∧ ∀ q,a.fn q = b.fn q:=by
 cases a <;> cases b <;> simp only [fitMC] at h
 ·obtain ⟨rfl,h1,rfl⟩:=h
  exact ⟨rfl,fun q=>by cases q <;> simp [MC.fn,h1]⟩
 ·obtain ⟨h1,rfl⟩:=h
  exact ⟨rfl,fun q=>by cases q <;> simp [MC.fn,h1]⟩

def fitL (H H' : Hp) : List AV → List AV → Prop
 | [],[]=>True
 | x :: xs,y :: ys=>fitAV H H' x y ∧ fitL H H' xs ys
 | _,_=>False

def fitBox (st st' : St) : List (Nat × List AV) → Prop
 | []=>True
 | (id,cs') :: l=>id < st'.nx ∧ (match look st.H.box id with | some cs=>isM cs = isM cs' ∧ fitL st.H st'.H cs cs' | none=>st.nx ≤ id ∧ isM cs' = false) ∧ fitBox st st' l
def fitBuf (st st' : St) : List (Nat × Buf) → Prop
 | []=>True
 | (id,B') :: l=>id < st'.nx ∧ (match look st.H.buf id with
   | some B=>B.con = B'.con ∧ B.z = B'.z ∧ B.e = B'.e
   | none=>st.nx ≤ id ∧ B'.con.rows = some (B'.z,[]) ∧ 0 < B'.z) ∧ fitBuf st st' l
def fitSl (st st' : St) : List (Nat × AV) → Prop
 | []=>True
 | (t,y) :: l=>fitAV st.H st'.H (st.get t) y ∧ fitSl st st' l

def fitBor (st st' : St) : List (Nat × Bor) → Prop
 | []=>True
 | (k,_) :: l=>(match look st.H.bor k,look st'.H.bor k with | some B,some B'=>B.e = B'.e ∧ B.con = B'.con | _,_=>False) ∧ fitBor st st' l

def FitP (st st' : St) : Prop:=st'.n = st.n ∧ fitSl st st' st'.sl ∧ fitBox st st' st'.H.box ∧ fitBuf st st' st'.H.buf ∧ fitBor st st' st.H.bor

theorem fitBor_get {st st' : St} : ∀ {l : List (Nat × Bor)} {k : Nat} {B0 : Bor},fitBor st st' l → look l k = some B0 → ∃ B B',look st.H.bor k = some B ∧ look st'.H.bor k = some B' ∧ B.e = B'.e ∧ B.con = B'.con
 | [],k,B0,h,hl=>by simp [look] at hl
 | (k',B1) :: l,k,B0,h,hl=>by
  simp only [look] at hl
  split at hl
  ·rename_i he
   simp at he; subst he
   have:=h.1
   split at this
   ·rename_i B B' h1 h2; exact ⟨B,B',h1,h2,this.1,this.2⟩
   ·exact this.elim
  ·exact fitBor_get h.2 hl

theorem fitSl_get {st st' : St} : ∀ {l : List (Nat × AV)} {t : Nat} {y : AV},fitSl st st' l → look l t = some y → fitAV st.H st'.H (st.get t) y
 | [],t,y,h,hl=>by simp [look] at hl
 | (t',y') :: l,t,y,h,hl=>by
  simp only [look] at hl
  split at hl
  ·rename_i he; cases hl; simp at he; subst he; exact h.1
  ·exact fitSl_get h.2 hl
theorem fitBox_get {st st' : St} : ∀ {l : List (Nat × List AV)} {id : Nat} {cs' : List AV},fitBox st st' l → look l id = some cs' → id < st'.nx ∧ (match look st.H.box id with | some cs=>isM cs = isM cs' ∧ fitL st.H st'.H cs cs' | none=>st.nx ≤ id ∧ isM cs' = false)
 | [],t,y,h,hl=>by simp [look] at hl
 | (t',y') :: l,t,y,h,hl=>by
  simp only [look] at hl
  split at hl
  ·rename_i he; cases hl; simp at he; subst he; exact ⟨h.1,h.2.1⟩
  ·exact fitBox_get h.2.2 hl
theorem fitBuf_get {st st' : St} : ∀ {l : List (Nat × Buf)} {id : Nat} {B' : Buf},fitBuf st st' l → look l id = some B' → id < st'.nx ∧ (match look st.H.buf id with
   | some B=>B.con = B'.con ∧ B.z = B'.z ∧ B.e = B'.e
   | none=>st.nx ≤ id ∧ B'.con.rows = some (B'.z,[]) ∧ 0 < B'.z)
 | [],t,y,h,hl=>by simp [look] at hl
 | (t',y') :: l,t,y,h,hl=>by
  simp only [look] at hl
  split at hl
  ·rename_i he; cases hl; simp at he; subst he; exact ⟨h.1,h.2.1⟩
  ·exact fitBuf_get h.2.2 hl

theorem fitL_get {H H' : Hp} : ∀ {cs cs' : List AV},fitL H H' cs cs' → cs.length = cs'.length ∧ ∀ (j : Nat) x y,cs[j]? = some x → cs'[j]? = some y → fitAV H H' x y
 | [],[],h=>⟨rfl,by simp⟩
 | x :: xs,y :: ys,h=>by
  obtain ⟨h1,h2⟩:=fitL_get h.2
  refine ⟨by simp [h1],fun j a b ha hb=>?_⟩
  match j with
  | 0=>simp at ha hb; subst ha; subst hb; exact h.1
  | j + 1=>exact h2 j a b (by simpa using ha) (by simpa using hb)
 | [],_ :: _,h=>h.elim
 | _ :: _,[],h=>h.elim

def fitMp (H H' : Hp) (m : Mp) : Mp where
 bx i:=if (look H'.box i).isSome then m.bx i else none
 bf i:=if (look H'.buf i).isSome then (if (look H.buf i).isSome then m.bf i else some (.slice none 0 0)) else none

theorem fitMp_own {H H' : Hp} {m : Mp} {b : Nat} (h : Own (fitMp H H' m) b) : Own m b:=by
 rcases h with ⟨i,hi⟩ | ⟨i,v,hv,hb⟩
 ·simp only [fitMp] at hi
  split at hi
  ·exact .inl ⟨i,hi⟩
  ·cases hi
 ·simp only [fitMp] at hv
  split at hv
  ·split at hv
   ·exact .inr ⟨i,v,hv,hb⟩
   ·cases hv; simp [Value.ownBlock] at hb
  ·cases hv

theorem fitMp_stays {F : Fr} {H H' : Hp} {m : Mp} (w : World) : Stays (F.S m) (F.S (fitMp H H' m)) w w:=by
 intro b h _
 refine ⟨?_,rfl⟩
 rcases h with h | ⟨h1,h2⟩
 ·exact .inl h
 ·exact .inr ⟨h1,fun ho=>h2 (fitMp_own ho)⟩

theorem fitT_rep {F : Fr} {H H' : Hp} {m : Mp} {w : World} (hrep : HRep F H m w) {y : TE} {v : Value} (hf : fitT H H' y) (h : RepT F H m w y v) : RepT F H' (fitMp H H' m) w y v:=by
 cases y with
 | s x=>exact RdS.mono (fitMp_stays w) h
 | own id ver =>
  obtain ⟨h1,h2⟩:=hf
  obtain ⟨B,hB⟩:=Option.isSome_iff_exists.1 h1
  obtain ⟨B',hB'⟩:=Option.isSome_iff_exists.1 h2
  obtain ⟨hB1,hB2⟩:=curB_spec hB
  obtain ⟨hB1',hB2'⟩:=curB_spec hB'
  obtain ⟨rs,xs,hm,_⟩:=own_slice hrep hB1 hB2 h
  exact ⟨h.1,B',hB1',by omega,fun _=>by simp [fitMp,hB1',hB1,hm]⟩
 | bx id off =>
  obtain ⟨b,hb,rfl⟩:=h
  exact ⟨b,by have h0 : (look H'.box id).isSome = true:=hf; simp [fitMp,h0,hb],rfl⟩
 | mp id =>
  obtain ⟨b,hb,rfl⟩:=h
  exact ⟨b,by have h0 : (look H'.box id).isSome = true:=hf; simp [fitMp,h0,hb],rfl⟩
 | ln x=>exact h
 | u=>trivial
theorem fitAV_rep {F : Fr} {H H' : Hp} {m : Mp} {w : World} (hrep : HRep F H m w) {x y : AV} {v : Value} (hf : fitAV H H' x y) (h : RepA F H m w x v) : RepA F H' (fitMp H H' m) w y v:=by
 have hst : Stays (F.S m) (F.S (fitMp H H' m)) w w:=fitMp_stays w
 cases y with
 | u=>trivial
 | c c' =>
  simp only [fitAV] at hf
  split at hf
  ·rcases hf with rfl | hr
   ·exact Rd.mono hst h
   ·have:=rd_nil h
    subst this
    exact .emp _ _ none 0 hr (fun _=>rfl)
  ·subst hf; exact Rd.mono hst h
  ·rename_i id0 ver0
   split at hf
   ·rename_i B hB
    obtain ⟨hnone,rfl⟩:=hf
    obtain ⟨hB1,hB2⟩:=curB_spec hB
    have hv:=h
    obtain ⟨rs,xs,hm,_⟩:=own_slice hrep hB1 hB2 hv
    have hrd:=own_rd (ln:=false) hrep hB1 hB2 h
    -- only this buffer's block is looked at besides the views
    obtain ⟨g1,g2,g3⟩:=hrep.dropBuf (H':={ H with buf:=(id0,{ B with ver:=B.ver + 1 }) :: H.buf }) (B':={ B with ver:=B.ver + 1 }) hm hB1 (by simp) (look_add ..) (fun i hi=>look_add_ne _ _ _ _ hi) rfl rfl
    refine Rd.mono ?_ g3
    intro b hb _
    refine ⟨?_,rfl⟩
    rcases hb with hb | ⟨h1,h2⟩
    ·exact .inl hb
    ·refine .inr ⟨h1,fun ho=>h2 ?_⟩
     rcases ho with ⟨i,hi⟩ | ⟨i,u,hu,hub⟩
     ·simp only [fitMp] at hi
      split at hi
      ·exact .inl ⟨i,hi⟩
      ·cases hi
     ·simp only [fitMp] at hu
      split at hu
      ·rename_i hsome
       split at hu
       ·refine .inr ⟨i,u,?_,hub⟩
        simp only [Mp.addBf]
        split
        ·rename_i hi; subst hi; rw [hnone] at hsome; simp at hsome
        ·exact hu
       ·cases hu; simp [Value.ownBlock] at hub
      ·cases hu
   ·exact hf.elim
  ·exact hf.elim
 | own id ver =>
  simp only [fitAV] at hf
  split at hf
  ·obtain ⟨rfl,h1,h2⟩:=hf
   obtain ⟨B,hB⟩:=Option.isSome_iff_exists.1 h1
   obtain ⟨B',hB'⟩:=Option.isSome_iff_exists.1 h2
   obtain ⟨hB1,hB2⟩:=curB_spec hB
   obtain ⟨hB1',hB2'⟩:=curB_spec hB'
   obtain ⟨rs,xs,hm,_⟩:=own_slice hrep hB1 hB2 h
   exact ⟨h.1,B',hB1',by omega,fun _=>by simp [fitMp,hB1',hB1,hm]⟩
  ·obtain ⟨h1,h2⟩:=hf
   obtain ⟨B',hB'⟩:=Option.isSome_iff_exists.1 h2
   obtain ⟨hB1',hB2'⟩:=curB_spec hB'
   have:=rd_nil h
   subst this
   exact ⟨rfl,B',hB1',by omega,fun _=>by simp [fitMp,hB1',h1]⟩
  ·exact hf.elim
 | bx id off =>
  obtain ⟨rfl,hs⟩:=hf
  obtain ⟨b,hb,rfl⟩:=h
  exact ⟨b,by simp [fitMp,hs,hb],rfl⟩
 | oel id ver i off =>
  simp only [fitAV] at hf
  split at hf
  ·obtain ⟨⟨rfl,rfl,rfl⟩,hf⟩:=hf
   split at hf
   ·rename_i B B' hB hB'
    obtain ⟨hB1,hB2⟩:=curB_spec hB
    obtain ⟨hB1',hB2'⟩:=curB_spec hB'
    obtain ⟨h1,B2,h2,h3,h4⟩:=h
    rw [hB1] at h2; cases h2
    obtain ⟨g,n,cap,g1,g2,g3⟩:=h4 hB2
    exact ⟨h1,B',hB1',by omega,fun _=>⟨g,n,cap,by simp [fitMp,hB1',hB1,g1],g2,by rw [← hf]; exact g3⟩⟩
   ·exact hf.elim
  ·exact hf.elim
 | win id ver lo len =>
  simp only [fitAV] at hf
  split at hf
  ·obtain ⟨⟨rfl,rfl,rfl⟩,hf⟩:=hf
   split at hf
   ·rename_i B B' hB hB'
    obtain ⟨hB1,hB2⟩:=curB_spec hB
    obtain ⟨hB1',hB2'⟩:=curB_spec hB'
    obtain ⟨h1,B2,h2,h3,h4⟩:=h
    rw [hB1] at h2; cases h2
    obtain ⟨p,n,cap,g1,g2,g3⟩:=h4 hB2
    exact ⟨h1,B',hB1',by omega,fun _=>⟨p,n,cap,by simp [fitMp,hB1',hB1,g1],g2,by rw [← hf]; exact g3⟩⟩
   ·exact hf.elim
  ·exact hf.elim
 | bel k i off=>exact hf.elim
 | bw k lo len =>
  obtain ⟨rfl,hm⟩:=hf
  split at hm
  ·rename_i B B' hB hB'
   obtain ⟨h1,B2,p,n,cap,hB2,hF,hn,hor⟩:=h
   rw [hB] at hB2; cases hB2
   exact ⟨h1,B',p,n,cap,hB',hF,hn,by rw [← hm]; exact hor⟩
  ·exact hm.elim
 | g xs=>obtain rfl:=hf; obtain ⟨vs,rfl,hl⟩:=h; exact ⟨vs,rfl,hl.mono hst⟩
 | t l=>obtain rfl:=hf; obtain ⟨vs,rfl,hs,hl⟩:=h; exact ⟨vs,rfl,hs,fun j y u hy hu=>(hl j y u hy hu).mono hst⟩
 | mp id =>
  obtain ⟨rfl,hs⟩:=hf
  obtain ⟨b,hb,rfl⟩:=h
  exact ⟨b,by simp [fitMp,hs,hb],rfl⟩
 | mc con =>
  simp only [fitAV] at hf
  split at hf
  ·exact h
  ·exact hf.elim
 | fn f caps =>
  obtain ⟨rfl,hs⟩:=hf
  obtain ⟨vs,rfl,hl,hr⟩:=h
  exact ⟨vs,rfl,hl,fun j y u hy hu=>fitT_rep hrep (fitTs_get hs hy) (hr j y u hy hu)⟩
 | tt l =>
  obtain ⟨rfl,hs⟩:=hf
  obtain ⟨vs,rfl,hl,hr⟩:=h
  exact ⟨vs,rfl,hl,fun j y u hy hu=>fitT_rep hrep (fitTs_get hs hy) (hr j y u hy hu)⟩
 | gt l=>exact hf.elim
 | lw l=>exact hf.elim
 | ln c=>obtain rfl:=hf; exact h
 | vf c=>obtain rfl:=hf; obtain ⟨p,n,rfl,h⟩:=h; exact ⟨p,n,rfl,Rd.mono hst h⟩
 | lk id ver v1 =>
  simp only [fitAV] at hf
  split at hf
  ·rename_i id0 ver0 v0
   obtain ⟨⟨rfl,rfl⟩,h1,h2⟩:=hf
   obtain ⟨B,hB⟩:=Option.isSome_iff_exists.1 h1
   obtain ⟨B',hB'⟩:=Option.isSome_iff_exists.1 h2
   obtain ⟨hB1,hB2⟩:=curB_spec hB
   obtain ⟨hB1',hB2'⟩:=curB_spec hB'
   obtain ⟨rs,xs,hm,_⟩:=own_slice (u:=v0) hrep hB1 hB2 h
   exact ⟨h.1,B',hB1',by omega,fun _=>by simp [fitMp,hB1',hB1,hm]⟩
  ·exact hf.elim
 | anc id b =>
  obtain ⟨rfl,hs⟩:=hf
  have h0 : m.bx id = some b:=h
  show (fitMp H H' m).bx id = some b
  simp [fitMp,hs,h0]
 | el xs =>
  obtain rfl:=hf
  obtain ⟨b,off,rfl,hS,hc⟩:=h
  refine ⟨b,off,rfl,fun hne=>?_,fun j y hy=>let ⟨u,hu,hr⟩:=hc j y hy; ⟨u,hu,hr.mono hst⟩⟩
  obtain ⟨y,ys,rfl⟩:=List.exists_cons_of_ne_nil hne
  obtain ⟨u,hu,_⟩:=hc 0 y rfl
  exact (hst b (hS hne) (block_lt hu)).1

theorem fit_of2 {st st' : St} (hn : st'.n = st.n) (hsl : ∀ t y,look st'.sl t = some y → fitAV st.H st'.H (st.get t) y)
  (hbox : ∀ id cs',look st'.H.box id = some cs' → (id < st'.nx ∨ st.nx ≤ st'.nx) ∧ (match look st.H.box id with | some cs=>isM cs = isM cs' ∧ fitL st.H st'.H cs cs' | none=>st.nx ≤ id ∧ isM cs' = false))
  (hbuf : ∀ id B',look st'.H.buf id = some B' → (id < st'.nx ∨ (st.nx ≤ st'.nx ∧ (look st.H.buf id).isSome = true)) ∧ (match look st.H.buf id with
   | some B=>B.con = B'.con ∧ B.z = B'.z ∧ B.e = B'.e
   | none=>st.nx ≤ id ∧ B'.con.rows = some (B'.z,[]) ∧ 0 < B'.z))
  (hbor : ∀ k B,look st.H.bor k = some B → ∃ B',look st'.H.bor k = some B' ∧ B.e = B'.e ∧ B.con = B'.con) : Fit st st':=by
 intro F m a w hs
 have hst : Stays (F.S m) (F.S (fitMp st.H st'.H m)) w w:=fitMp_stays w
 refine ⟨fitMp st.H st'.H m,hs.d,by rw [hn]; exact hs.sz,⟨hs.h.os,hs.h.tape,hs.h.output,hs.h.size,hs.h.block,fun b ho=>hs.h.fresh b (fitMp_own ho),hs.h.gB,hs.h.brB,hs.h.bri,?_,?_,?_,?_,?_,?_⟩,?_,?_⟩
 ·intro i j b hi hj
  simp only [fitMp] at hi hj
  split at hi
  ·split at hj
   ·exact hs.h.ibb i j b hi hj
   ·cases hj
  ·cases hi
 ·intro i j b v hi hj
  simp only [fitMp] at hi hj
  split at hi
  ·split at hj
   ·split at hj
    ·exact hs.h.ibf i j b v hi hj
    ·cases hj; simp [Value.ownBlock]
   ·cases hj
  ·cases hi
 ·intro i j b u v hi hj hu hv
  simp only [fitMp] at hi hj
  split at hi
  ·split at hi
   ·split at hj
    ·split at hj
     ·exact hs.h.iff i j b u v hi hj hu hv
     ·cases hj; simp [Value.ownBlock] at hv
    ·cases hj
   ·cases hi; simp [Value.ownBlock] at hu
  ·cases hi
 ·intro i b hi
  simp only [fitMp] at hi
  split at hi
  ·rename_i hsome
   obtain ⟨cs',hcs'⟩:=Option.isSome_iff_exists.1 hsome
   obtain ⟨cs,h1,hbx⟩:=hs.h.box i b hi
   have hf:=(hbox i cs' hcs').2
   rw [h1] at hf
   obtain ⟨hmm,hf⟩:=hf
   obtain ⟨hl,hj⟩:=fitL_get hf
   refine ⟨cs',hcs',?_⟩
   cases hm : isM cs with
   | true =>
    obtain ⟨con,rfl⟩:=isM_some hm
    obtain ⟨con',rfl⟩:=isM_some (hmm.symm.trans hm)
    obtain ⟨es,ck,h2,h3⟩:=hbx
    obtain ⟨e1,e2⟩:=fitMC_fn (hj 0 _ _ rfl rfl)
    exact ⟨es,ck,h2,by rw [← e1]; exact h3.1,fun e he=>let ⟨q,c,k1,k2,k3⟩:=h3.2.1 e he; ⟨q,c,k1,(e2 q).symm.trans k2,k3.mono hst⟩,fun q c hq=>h3.2.2.1 q c ((e2 q).trans hq),h3.2.2.2⟩
   | false =>
   obtain ⟨arr,e,h2,h3,h4⟩:=hbx.cells hm
   refine .of h2 (by omega) fun j y u hy hu=>?_
   have hlt:=(List.getElem?_eq_some_iff.1 hy).1
   have hx : cs[j]? = some (cs[j]'(by omega)):=List.getElem?_eq_getElem _
   obtain ⟨g1,g2⟩:=h4 j _ u hx hu
   exact ⟨g1,fitAV_rep hs.h (hj j _ y hx hy) g2⟩
  ·cases hi
 ·intro i v hv
  simp only [fitMp] at hv
  split at hv
  ·rename_i hsome
   obtain ⟨B',hB'⟩:=Option.isSome_iff_exists.1 hsome
   have hf:=(hbuf i B' hB').2
   split at hv
   ·rename_i hsome2
    obtain ⟨B,hB⟩:=Option.isSome_iff_exists.1 hsome2
    obtain ⟨B2,rs,xs,h1,h2,h3,h4,h5,h6⟩:=hs.h.buf i v hv
    rw [hB] at h1; cases h1
    rw [hB] at hf
    obtain ⟨e1,e2,e3⟩:=hf
    refine ⟨B',rs,xs,hB',by rw [← e1,← e2]; exact h2,by rw [← e2]; exact h3,by rw [← e2]; exact h4,by rw [← e2,← e3]; exact h5,fun i j y hy=>?_⟩
    obtain ⟨u,hu,hr⟩:=h6 i j y hy
    exact ⟨u,by rw [← e2]; exact hu,hr.mono hst⟩
   ·rename_i hnone
    cases hv
    have : look st.H.buf i = none:=by simpa using hnone
    rw [this] at hf
    obtain ⟨_,hr,hz⟩:=hf
    exact ⟨B',[],[],hB',hr,hz,by simp,World.ownsR_nil ..,fun i j y hy=>by simp [at2] at hy⟩
  ·cases hv
 ·intro k v hv
  obtain ⟨B,rs,xs,h1,h2,h3,h4,h5,h6⟩:=hs.h.bor k v hv
  obtain ⟨B',hB',e1,e2⟩:=hbor k B h1
  refine ⟨B',rs,xs,hB',by rw [← e2]; exact h2,by rw [← e2]; exact h3,by rw [← e2]; exact h4,by rw [← e2,← e1]; exact h5,fun i j y hy=>?_⟩
  obtain ⟨u,hu,hr⟩:=h6 i j y hy
  exact ⟨u,by rw [← e2]; exact hu,hr.mono hst⟩
 ·intro i hi
  simp only [fitMp]
  constructor
  ·split
   ·rename_i hsome
    obtain ⟨cs',hcs'⟩:=Option.isSome_iff_exists.1 hsome
    rcases (hbox i cs' hcs').1 with h | h
    ·omega
    ·exact (hs.fr i (by omega)).1
   ·rfl
  ·split
   ·rename_i hsome
    obtain ⟨B',hB'⟩:=Option.isSome_iff_exists.1 hsome
    rcases (hbuf i B' hB').1 with h | ⟨h,h2⟩
    ·omega
    ·rw [if_pos h2]; exact (hs.fr i (by omega)).2
   ·rfl
 ·intro t
  show RepA F st'.H (fitMp st.H st'.H m) w (match look st'.sl t with | some x=>x | none=>.u) _
  cases hl : look st'.sl t with
  | none=>trivial
  | some y=>exact fitAV_rep hs.h (hsl t y hl) (hs.sl t)

theorem fit_of {st st' : St} (h : FitP st st') : Fit st st' :=
 fit_of2 h.1 (fun _ _ hl=>fitSl_get h.2.1 hl) (fun _ _ hl=>let q:=fitBox_get h.2.2.1 hl; ⟨.inl q.1,q.2⟩) (fun _ _ hl=>let q:=fitBuf_get h.2.2.2.1 hl; ⟨.inl q.1,q.2⟩)
  (fun _ _ hl=>let ⟨B,B',h1,h2,h3,h4⟩:=fitBor_get h.2.2.2.2 hl; ⟨B',h2,by rw [h1] at hl; cases hl; exact h3,by rw [h1] at hl; cases hl; exact h4⟩)

def fzT (H : Hp) (ids : List Nat) : TE → Bool
 | .s _=>true
 | .own id ver=>(curB H id ver).isSome && !ids.contains id
 | .bx id _=>(look H.box id).isSome
 | .mp id=>(look H.box id).isSome
 | .ln _=>true
 | .u=>true
def fzAV (H : Hp) (ids : List Nat) : AV → AV
 | .own id ver=>match curB H id ver with | some B=>if ids.contains id then .c B.con else .own id ver | none=>.u
 | .oel id ver i off=>if (curB H id ver).isSome && !ids.contains id then .oel id ver i off else .u
 | .win _ _ _ _=>.u
 | .bel _ _ _=>.u
 | .bw k lo len=>match look H.bor k with | some _=>.bw k lo len | none=>.u
 | .bx id off=>match look H.box id with | some _=>.bx id off | none=>.u
 | .mp id=>match look H.box id with | some _=>.mp id | none=>.u
 | .fn f caps=>if caps.all (fzT H ids) then .fn f caps else .u
 | .tt l=>if l.all (fzT H ids) then .tt l else .u
 | .gt _=>.u
 | .lw _=>.u
 | .anc id b=>match look H.box id with | some _=>.anc id b | none=>.u
 | .lk id ver v=>if (curB H id ver).isSome && !ids.contains id then .lk id ver v else .u
 | x=>x
def St.fz (st : St) (ids : List Nat) : St :=
 { st with sl:=st.sl.map fun p=>(p.1,fzAV st.H ids p.2),H:=⟨st.H.box.map fun p=>(p.1,p.2.map (fzAV st.H ids)),st.H.buf.filter fun p=>!ids.contains p.1,st.H.bor⟩ }

theorem look_map {α β : Type} (f : α → β) : ∀ (l : List (Nat × α)) (t : Nat),look (l.map fun p=>(p.1,f p.2)) t = (look l t).map f
 | [],t=>rfl
 | (i,x) :: l,t=>by
  simp only [List.map_cons,look,look_map f l t]
  split <;> rfl

theorem look_filter {α : Type} (ids : List Nat) : ∀ (l : List (Nat × α)) (t : Nat),look (l.filter fun p=>!ids.contains p.1) t = if ids.contains t then none else look l t
 | [],t=>by simp [look]
 | (i,x) :: l,t=>by
  have ih:=look_filter ids l t
  simp only [List.filter_cons]
  by_cases hc : ids.contains i = true
  ·simp only [hc,Bool.not_true,Bool.false_eq_true,if_false,ih,look]
   by_cases hit : i = t
   ·subst hit; simp only [hc,if_true]
   ·have : (i == t) = false:=by simp [hit]
    simp [this]
  ·simp only [Bool.not_eq_true] at hc
   simp only [hc,Bool.not_false,if_true,look,ih]
   by_cases hit : i = t
   ·subst hit; simp only [beq_self_eq_true,if_true,hc,Bool.false_eq_true,if_false]
   ·have : (i == t) = false:=by simp [hit]
    simp [this]

theorem curB_fz {H : Hp} {ids : List Nat} {bx : List (Nat × List AV)} {bo : List (Nat × Bor)} {id ver : Nat} (hc : ids.contains id = false) : curB ⟨bx,H.buf.filter fun p=>!ids.contains p.1,bo⟩ id ver = curB H id ver:=by
 simp only [curB,look_filter,hc,Bool.false_eq_true,if_false]

theorem fz_fitT (st : St) (ids : List Nat) (x : TE) (h : fzT st.H ids x = true) : fitT st.H (st.fz ids).H x:=by
 have hb : ∀ id,(look st.H.box id).isSome = true → (look (st.fz ids).H.box id).isSome = true:=fun id h=>by
  show (look (st.H.box.map fun p=>(p.1,p.2.map (fzAV st.H ids))) id).isSome = true
  rw [look_map]; simpa using h
 cases x with
 | s x=>trivial
 | ln x=>trivial
 | u=>trivial
 | bx id off=>exact hb id h
 | mp id=>exact hb id h
 | own id ver =>
  simp only [fzT,Bool.and_eq_true,Bool.not_eq_true'] at h
  refine ⟨h.1,?_⟩
  show (curB ⟨_,st.H.buf.filter fun p=>!ids.contains p.1,_⟩ id ver).isSome = true
  rw [curB_fz h.2]; exact h.1
theorem fz_fitTs (st : St) (ids : List Nat) : ∀ l : List TE,l.all (fzT st.H ids) = true → fitTs st.H (st.fz ids).H l
 | [],_=>trivial
 | x :: l,h=>by
  simp only [List.all_cons,Bool.and_eq_true] at h
  exact ⟨fz_fitT st ids x h.1,fz_fitTs st ids l h.2⟩
theorem isMc_fz (H : Hp) (ids : List Nat) (x : AV) : isMc (fzAV H ids x) = isMc x:=by
 cases x <;> simp only [fzAV] <;> (repeat' split) <;> rfl
theorem isM_fz (H : Hp) (ids : List Nat) : ∀ cs : List AV,isM (cs.map (fzAV H ids)) = isM cs
 | []=>rfl
 | [x]=>isMc_fz H ids x
 | _ :: _ :: _=>rfl
theorem fz_fitAV (st : St) (ids : List Nat) (x : AV) : fitAV st.H (st.fz ids).H x (fzAV st.H ids x):=by
 cases x with
 | c c=>cases c <;> simp [fzAV,fitAV]
 | g xs=>simp [fzAV,fitAV]
 | t l=>simp [fzAV,fitAV]
 | el xs=>simp [fzAV,fitAV]
 | u=>simp [fzAV,fitAV]
 | mc con=>cases con <;> simp [fzAV,fitAV,fitMC]
 | mp id =>
  simp only [fzAV]
  split
  ·rename_i cs hcs
   exact ⟨rfl,fz_fitT st ids (.mp id) (by simp [fzT,hcs])⟩
  ·simp [fitAV]
 | fn f caps =>
  simp only [fzAV]
  split
  ·rename_i h; exact ⟨rfl,fz_fitTs st ids caps h⟩
  ·simp [fitAV]
 | anc id b =>
  simp only [fzAV]
  split
  ·rename_i cs hcs
   exact ⟨rfl,fz_fitT st ids (.mp id) (by simp [fzT,hcs])⟩
  ·simp [fitAV]
 | tt l =>
  simp only [fzAV]
  split
  ·rename_i h; exact ⟨rfl,fz_fitTs st ids l h⟩
  ·simp [fitAV]
 | oel id ver i off =>
  simp only [fzAV]
  split
  ·rename_i h
   simp only [Bool.and_eq_true,Bool.not_eq_true'] at h
   obtain ⟨B,hB⟩:=Option.isSome_iff_exists.1 h.1
   refine ⟨⟨rfl,rfl,rfl⟩,?_⟩
   have h2 : curB (st.fz ids).H id ver = some B:=by
    show curB ⟨_,st.H.buf.filter fun p=>!ids.contains p.1,_⟩ id ver = _
    rw [curB_fz h.2]; exact hB
   simp only [hB,h2]
  ·simp [fitAV]
 | ln=>simp [fzAV,fitAV]
 | vf=>simp [fzAV,fitAV]
 | lk id ver v =>
  simp only [fzAV]
  split
  ·rename_i h
   simp only [Bool.and_eq_true,Bool.not_eq_true'] at h
   refine ⟨⟨rfl,rfl⟩,h.1,?_⟩
   show (curB ⟨_,st.H.buf.filter fun p=>!ids.contains p.1,_⟩ id ver).isSome = true
   rw [curB_fz h.2]; exact h.1
  ·simp [fitAV]
 | gt=>simp [fzAV,fitAV]
 | lw=>simp [fzAV,fitAV]
 | win=>simp [fzAV,fitAV]
 | bel=>simp [fzAV,fitAV]
 | bw k lo len =>
  simp only [fzAV]
  split
  ·rename_i B hB
   simp only [fitAV]
   refine ⟨trivial,?_⟩
   have : look (st.fz ids).H.bor k = some B:=hB
   simp only [this,hB]
  ·simp [fitAV]
 | bx id off =>
  simp only [fzAV]
  split
  ·rename_i cs hcs
   simp only [fitAV]
   refine ⟨trivial,?_⟩
   show (look (st.H.box.map fun p=>(p.1,p.2.map (fzAV st.H ids))) id).isSome = true
   rw [look_map,hcs]; rfl
  ·simp [fitAV]
 | own id ver =>
  simp only [fzAV]
  split
  ·rename_i B hB
   split
   ·rename_i hc
    simp only [fitAV,hB]
    refine ⟨?_,trivial⟩
    show look (st.H.buf.filter fun p=>!ids.contains p.1) id = none
    rw [look_filter,if_pos hc]
   ·rename_i hc
    simp only [Bool.not_eq_true] at hc
    simp only [fitAV]
    refine ⟨trivial,by rw [hB]; rfl,?_⟩
    show (curB ⟨_,st.H.buf.filter fun p=>!ids.contains p.1,_⟩ id ver).isSome = true
    rw [curB_fz hc,hB]; rfl
  ·simp [fitAV]

theorem fitL_map (st : St) (ids : List Nat) : ∀ cs : List AV,fitL st.H (st.fz ids).H cs (cs.map (fzAV st.H ids))
 | []=>trivial
 | x :: cs=>⟨fz_fitAV st ids x,fitL_map st ids cs⟩

theorem fz_fit (st : St) (ids : List Nat) : Fit st (st.fz ids):=by
 refine fit_of2 rfl (fun t y hy=>?_) (fun id cs' hcs=>?_) (fun id B' hB=>?_) (fun k B hB=>⟨B,hB,rfl,rfl⟩)
 ·have h : look (st.sl.map fun p=>(p.1,fzAV st.H ids p.2)) t = some y:=hy
  rw [look_map] at h
  obtain ⟨x,hx,rfl⟩:=Option.map_eq_some_iff.1 h
  have : st.get t = x:=by simp [St.get,hx]
  rw [this]
  exact fz_fitAV st ids x
 ·have h : look (st.H.box.map fun p=>(p.1,p.2.map (fzAV st.H ids))) id = some cs':=hcs
  rw [look_map] at h
  obtain ⟨cs,hx,rfl⟩:=Option.map_eq_some_iff.1 h
  refine ⟨.inr (Nat.le_refl _),?_⟩
  rw [hx]
  exact ⟨(isM_fz st.H ids cs).symm,fitL_map st ids cs⟩
 ·have h : look (st.H.buf.filter fun p=>!ids.contains p.1) id = some B':=hB
  rw [look_filter] at h
  split at h
  ·cases h
  ·rw [h]; exact ⟨.inr ⟨Nat.le_refl _,rfl⟩,rfl,rfl,rfl⟩

def ownIds : List AV → List Nat
 | .own id _ :: l=>id :: ownIds l
 | _ :: l=>ownIds l
 | []=>[]
def fzArgs (st : St) : Op → List AV
 | .call c=>c.args.toList.map st.ev
 | .build _ ps=>ps.toList.map fun p=>st.ev p.2
 | .convert _ _ x=>[st.ev x]
 | .store _ _ x=>[st.ev x]
 | _=>[]
def fzFor (cf : Cfg) (st : St) (o : Op) : St:=if fzB cf st o then st.fz (ownIds (fzArgs st o)) else st

theorem fzFor_fit (cf : Cfg) (st : St) (o : Op) : Fit st (fzFor cf st o):=by
 unfold fzFor
 split
 ·exact fz_fit st _
 ·exact fun F m a w h=>⟨m,h⟩

end Go.Abs

namespace Go.Abs
set_option linter.unusedSimpArgs false
set_option linter.unusedVariables false
open Go.RowKit

variable {P : Program}

def hasW (cf : Cfg) (ops : List Oper) : Bool:=ops.any fun o=>mayWc cf o.op
def keptTmp (ops : Array Oper) (q : Nat) : Bool:=!(ops.toList.any fun p=>p.dst == some q)
def chBx (get : Nat → AV) (ops : Array Oper) : Nat → Oper → Nat → Option Nat
 | 0,_,_=>none
 | n + 1,o,q=>match keptTmp ops q,get q with
  | true,.bx id _=>some id
  | _,_=>match ops.toList.findIdx? (fun p=>p.dst == some q) with
   | some j=>if o.after.toList.any (fun e=>Region.binds .any e && e.on == j) then
     match ops[j]? with
     | some p=>match p.op,p.guard with
      | .fieldAddr _ (.tmp q2) _,none=>chBx get ops n p q2
      | .nilCheck (.tmp q2),none=>chBx get ops n p q2
      | .move (.tmp q2),none=>chBx get ops n p q2
      | _,_=>none
     | none=>none
    else none
   | none=>none
def loadBx (get : Nat → AV) (nx : Nat) (ops : Array Oper) (o : Oper) : Option Nat:=match o.op with
 | .load _ (.tmp q)=>(chBx get ops 6 o q).bind fun id=>if id < nx then some id else none
 | _=>none
def keepL (H H' : Hp) : List Nat → Prop
 | []=>True
 | id :: l=>look H'.box id = look H.box id ∧ keepL H H' l
def loadIds (get : Nat → AV) (nx : Nat) (ops : List Oper) : List Nat:=ops.filterMap (loadBx get nx ops.toArray)
theorem keepL_mem {H H' : Hp} : ∀ {l : List Nat} {id : Nat},keepL H H' l → id ∈ l → look H'.box id = look H.box id
 | i :: l,id,h,hm=>by
  rcases List.mem_cons.1 hm with rfl | hm
  ·exact h.1
  ·exact keepL_mem h.2 hm
theorem keepL_self {H : Hp} : ∀ {l : List Nat},keepL H H l
 | []=>trivial
 | _ :: _=>⟨rfl,keepL_self⟩
theorem keep_of {get : Nat → AV} {nx : Nat} {ops : List Oper} {H H' : Hp} (ids : List Nat) (hk : keepL H H' ids) (h : loadIds get nx ops = ids:=by rfl) : keepL H H' (loadIds get nx ops):=by rw [h]; exact hk
def gKeep (dr : Bool) (cf : Cfg) (ops : List Oper) (st : St) (op : Op) (H' : Hp) : Prop:=match dr && gOp cf op with
 | true=>keepL st.H H' (loadIds st.get st.nx ops)
 | false=>True
def evalOps (P : Program) (cf : Cfg) (dr : Bool) (ops : List Oper) : List Oper → St → (St → Prop) → Prop
 | [],st,K=>K st
 | o :: os,st,K=>match o.guard with
  | none=>(dr && cutD cf (hasW cf ops) st o.op) = false ∧ opE P cf (fzFor cf st o.op) o.op (fun r st'=>gKeep dr cf ops st o.op st'.H ∧ evalOps P cf dr ops os (st'.putO o.dst r) K)
  | some (j,want)=>match (ops[j]?).bind (·.dst) with
   | some g=>match st.get g with
    | .c (.b t)=>(t = want → (dr && cutD cf (hasW cf ops) (st.put g (.c (.b want))) o.op) = false ∧ opE P cf (fzFor cf (st.put g (.c (.b want))) o.op) o.op (fun r st'=>gKeep dr cf ops (st.put g (.c (.b want))) o.op st'.H ∧ evalOps P cf dr ops os (st'.putO o.dst r) K)) ∧
      (t = !want → evalOps P cf dr ops os ((st.put g (.c (.b (!want)))).putO o.dst (.t [])) K)
    | .t _=>evalOps P cf dr ops os (st.putO o.dst (.t [])) K
    | _=>False
   | none=>False

theorem gk_false {cf : Cfg} {ops : List Oper} {st : St} {op : Op} {H' : Hp} : gKeep false cf ops st op H' = True:=rfl
theorem wanted_guard {ops : Array Oper} {o : Oper} {a : Act} {j g : Nat} {want t : Bool} (hg : o.guard = some (j,want)) (hj : (ops[j]?).bind (·.dst) = some g) (ha : a.tmps.getD g undef = .bool t) (hlt : g < a.tmps.size) : Region.wanted o (yielded ops a.tmps) = (t == want):=by
 have : a.tmps[g]? = some (.bool t):=by
  rw [Array.getElem?_eq_getElem hlt]
  simp [hlt] at ha
  rw [ha]
 simp only [Region.wanted,hg,yielded,hj,Option.bind_some,this]
 cases t <;> cases want <;> rfl

theorem rep_undef {F : Fr} {H : Hp} {m : Mp} {w : World} : RepA F H m w (.t []) undef:=⟨#[],rfl,rfl,by simp⟩

theorem unwanted_guard {ops : Array Oper} {o : Oper} {a : Act} {j g : Nat} {want : Bool} {vs : Array Value} (hg : o.guard = some (j,want)) (hj : (ops[j]?).bind (·.dst) = some g) (ha : a.tmps.getD g undef = .tuple vs) : Region.wanted o (yielded ops a.tmps) = false:=by
 simp only [Region.wanted,hg,yielded,hj,Option.bind_some]
 rcases Nat.lt_or_ge g a.tmps.size with hlt | hge
 ·have : a.tmps[g]? = some (.tuple vs):=by
   rw [Array.getElem?_eq_getElem hlt]
   simp [hlt] at ha
   rw [ha]
  simp [this]
 ·simp [Array.getElem?_eq_none hge]

theorem rep_bool_lt {F : Fr} {st : St} {m : Mp} {a : Act} {w : World} (h : StRep F st m a w) {g : Nat} {t : Bool} (hg : st.get g = .c (.b t)) : a.tmps.getD g undef = .bool t ∧ g < a.tmps.size:=by
 have:=h.sl g
 rw [hg] at this
 have hv:=rep_b this
 refine ⟨hv,?_⟩
 rcases Nat.lt_or_ge g a.tmps.size with h | h
 ·exact h
 ·simp [Array.getElem?_eq_none h,undef] at hv

theorem evalOps_sound {cf : Cfg} (hcf : TblOk P cf) {ops : Array Oper} {F : Fr} {K : St → Prop} : ∀ (os : List Oper) (k : Nat) (st : St) (m : Mp) (a : Act) (w : World) (Q : Exit → Act → World → Prop),
  (∀ i,i < os.length → ops[k + i]? = os[i]?) → (∀ st m a w,K st → StRep F st m a w → Q .normal a w) → StRep F st m a w → evalOps P cf false ops.toList os st K → wpOps P ops Q (List.range' k os.length) a w
 | [],k,st,m,a,w,Q,_,hK,hs,h=>hK st m a w h hs
 | o :: os,k,st,m,a,w,Q,hidx,hK,hs,h=>by
  have h0 : ops[k]? = some o:=by simpa using hidx 0 (by simp)
  have hrest : ∀ i,i < os.length → ops[k + 1 + i]? = os[i]?:=fun i hi=>by
   have:=hidx (i + 1) (by simpa using hi)
   rw [show k + 1 + i = k + (i + 1) by omega]; simpa using this
  rw [List.length_cons,List.range'_succ,wpOps_cons]
  unfold wpOp
  simp only [h0]
  have run : ∀ (st : St) (m : Mp),StRep F st m a w → opE P cf (fzFor cf st o.op) o.op (fun r st'=>evalOps P cf false ops.toList os (st'.putO o.dst r) K) → o.wp P a w (wpOps P ops Q (List.range' (k + 1) os.length)) Q:=by
   intro st m hs h
   obtain ⟨m,hs⟩:=fzFor_fit cf st o.op F m a w hs
   obtain ⟨r,st',hk,hop⟩:=opE_sound hcf h
   exact (hop.exec hs).wp fun v w' ⟨m',h1,h2⟩=>evalOps_sound hcf os (k + 1) _ m' _ w' Q hrest hK (h1.putO o.dst h2) hk
  simp only [evalOps,gk_false,true_and] at h
  split at h
  ·rename_i hg
   have hw : Region.wanted o (yielded ops a.tmps) = true:=by simp [Region.wanted,hg]
   rw [if_pos hw]
   exact .inl (run st m hs h.2)
  ·rename_i j want hg
   split at h
   ·rename_i g hj
    split at h
    ·rename_i t ht
     obtain ⟨hv,hlt⟩:=rep_bool_lt hs ht
     have hj' : (ops[j]?).bind (·.dst) = some g:=by simpa using hj
     have hw:=wanted_guard (ops:=ops) hg hj' hv hlt
     obtain ⟨h1,h2⟩:=h
     by_cases htw : t = want
     ·subst htw
      rw [if_pos (by rw [hw]; simp)]
      exact .inl (run _ m (hs.tell g (by rw [hv]; exact rep_bool ..)) (h1 rfl).2)
     ·have hne : t = !want:=by cases t <;> cases want <;> simp_all
      rw [if_neg (by rw [hw]; simp [htw])]
      exact evalOps_sound hcf os (k + 1) _ m _ w Q hrest hK ((hs.tell g (r:=.c (.b (!want))) (by rw [hv,hne]; exact rep_bool ..)).putO o.dst (r:=.t []) rep_undef) (h2 hne)
    ·rename_i tl ht
     have hj' : (ops[j]?).bind (·.dst) = some g:=by simpa using hj
     have hv:=hs.sl g
     rw [ht] at hv
     obtain ⟨vs,hv,_⟩:=hv
     rw [if_neg (by rw [unwanted_guard hg hj' hv]; simp)]
     exact evalOps_sound hcf os (k + 1) _ m _ w Q hrest hK (hs.putO o.dst (r:=.t []) rep_undef) h
    ·exact h.elim
   ·exact h.elim

def AWp (P : Program) (F : Fr) (c : Code) (Q : Exit → St → Prop) (st : St) : Prop :=
 ∀ (m : Mp) (a : Act) (w : World),StRep F st m a w → c.wp P (fun e a' w'=>∃ st' m',Q e st' ∧ StRep F st' m' a' w') a w

section rules
variable {F : Fr} {Q : Exit → St → Prop} {st : St}

theorem q_f (h : Q .normal st) : AWp P F .skip Q st:=fun m _ _ hs=>wp_skip ⟨st,m,h,hs⟩
theorem q_g {id : Nat} (h : Q (.exit id) st) : AWp P F (.exit id) Q st:=fun m _ _ hs=>wp_exit ⟨st,m,h,hs⟩
theorem q_h (h : Q .ret st) : AWp P F .ret Q st:=fun m _ _ hs=>wp_ret ⟨st,m,h,hs⟩
theorem awp_mono {c : Code} {Q' : Exit → St → Prop} (h : AWp P F c Q st) (hq : ∀ e st,Q e st → Q' e st) : AWp P F c Q' st :=
 fun m a w hs=>wp_mono (h m a w hs) fun _ _ _ ⟨st',m',h1,h2⟩=>⟨st',m',hq _ _ h1,h2⟩

def Then (P : Program) (F : Fr) (c : Code) (Q : Exit → St → Prop) : Exit → St → Prop
 | .normal,st=>AWp P F c Q st
 | e,st=>Q e st

theorem q_a {x y : Code} (h : AWp P F x (Then P F y Q) st) : AWp P F (.seq x y) Q st:=fun m a w hs =>
 wp_seq (wp_mono (h m a w hs) fun e a' w' ⟨st',m',h1,h2⟩=>by
  cases e with
  | normal=>exact h1 m' a' w' h2
  | _=>exact ⟨st',m',h1,h2⟩)

theorem awp_cond {c : Operand} {x y : Code} {t : Bool} (hc : st.ev c = .c (.b t)) (ht : t = true → AWp P F x Q st) (hf : t = false → AWp P F y Q st) : AWp P F (.cond c x y) Q st:=fun m a w hs=>by
 have:=hs.ev c
 rw [hc] at this
 exact wp_cond_split (rep_b this) (fun h=>ht h m a w hs) (fun h=>hf h m a w hs)

def InBlock (id : Nat) (Q : Exit → St → Prop) : Exit → St → Prop
 | .exit id',st=>if id' = id then Q .normal st else Q (.exit id') st
 | e,st=>Q e st

theorem q_e {id : Nat} {c : Code} (h : AWp P F c (InBlock id Q) st) : AWp P F (.block id c) Q st:=fun m a w hs =>
 wp_block (wp_mono (h m a w hs) fun e a' w' ⟨st',m',h1,h2⟩=>by
  cases e with
  | exit id' =>
   simp only [InBlock] at h1
   simp only [Exit.inBlock]
   split
   ·rename_i he; rw [if_pos he] at h1; exact ⟨st',m',h1,h2⟩
   ·rename_i he; rw [if_neg he] at h1; exact ⟨st',m',h1,h2⟩
  | _=>exact ⟨st',m',h1,h2⟩)

theorem q_q {cf : Cfg} (hcf : TblOk P cf) {id : Nat} {ops : Array Oper} (h : ∀ K : St → Prop,(∀ st,Q .normal st → K st) → evalOps P cf false ops.toList ops.toList st K) : AWp P F (.region id ops false) Q st:=fun m a w hs=>by
 refine wp_region ?_
 have:=evalOps_sound hcf (ops:=ops) (F:=F) (K:=Q .normal) ops.toList 0 st m a w (fun e a' w'=>∃ st' m',Q e st' ∧ StRep F st' m' a' w') (fun i hi=>by simp) (fun st m a w hK hs=>⟨st,m,hK,hs⟩) hs (h _ fun _ h=>h)
 rw [List.range_eq_range']
 simpa using this

theorem awp_fit {c : Code} {st' : St} (hf : Fit st st') (h : AWp P F c Q st') : AWp P F c Q st:=fun m a w hs=>let ⟨m',hs'⟩:=hf F m a w hs; h m' a w hs'

theorem awp_loop {c : Code} {ι : Type} (inv : ι → St) (μ : ι → Nat) (i0 : ι) (h0 : Fit st (inv i0)) (hr : ∀ i,AWp P F c (fun e st'=>match e with | .normal=>∃ j,Fit st' (inv j) ∧ μ j < μ i | e=>Q e st') (inv i)) : AWp P F (.loop c) Q st:=by
 intro m a w hs
 obtain ⟨m0,hs0⟩:=h0 F m a w hs
 have key : ∀ n i m a w,μ i < n → StRep F (inv i) m a w → Code.rounds P c (fun e a' w'=>∃ st' m',Q e st' ∧ StRep F st' m' a' w') n a w:=by
  intro n
  induction n with
  | zero=>intro i m a w h _; omega
  | succ n ih =>
   intro i m a w h hs
   rw [rounds_succ]
   refine wp_mono (hr i m a w hs) fun e a' w' ⟨st',m',h1,h2⟩=>?_
   cases e with
   | normal =>
    obtain ⟨j,hj,hlt⟩:=h1
    obtain ⟨m2,hs2⟩:=hj F m' a' w' h2
    exact ih j m2 a' w' (by omega) hs2
   | _=>exact ⟨st',m',h1,h2⟩
 exact wp_loop_rounds _ (key (μ i0 + 1) i0 m0 a w (by omega) hs0)

end rules

end Go.Abs

namespace Go.Abs
set_option linter.unusedSimpArgs false
set_option linter.unusedVariables false
open Go.RowKit

variable {P : Program}

def argsC (H : Hp) : List AV → Option (List C)
 | []=>some []
 | x :: l=>match argO H false x,argsC H l with | some (.inl y),some ys=>some (y :: ys) | _,_=>none

def resO (P : Program) (st : St) : ResultVar → Option (C ⊕ List C)
 | .tmp t=>argO st.H false (st.get t)
 | .cell a t=>match st.get a,aggO P t,szO P t with
  | .bx id off,some true,some z=>match look st.H.box id with
   | some cs=>if isM cs then none else match argsC st.H ((cs.drop off).take z) with | some l=>if l.length = z then some (.inr l) else none | none=>none
   | none=>none
  | .bx id off,some false,_=>match look st.H.box id with
   | some cs=>if isM cs then none else match cs[off]? with
    | some x=>match argO st.H false x with | some (.inl y)=>some (.inl y) | _=>none
    | none=>none
   | none=>none
  | _,_,_=>none

def ressO (P : Program) (st : St) : List ResultVar → Option (List (C ⊕ List C))
 | []=>some []
 | x :: l=>match resO P st x,ressO P st l with | some y,some ys=>some (y :: ys) | _,_=>none

def Ends (P : Program) (rs : List ResultVar) (post : AV → Prop) (e : Exit) (st : St) : Prop:=(e = .ret ∨ e = .normal) ∧ ∃ l,ressO P st rs = some l ∧ post (resAV l)

def outS (F : Fr) (b : Nat) : Prop:=(F.S0 b ∧ b < F.w0.heap.size) ∨ F.w0.heap.size ≤ b ∨ b ∈ F.G0

theorem callS_out {F : Fr} {H : Hp} {m : Mp} {w : World} (h : HRep F H m w) (own : Bool) : Stays (callS F m own false) (outS F) w w:=by
 intro b hb _
 refine ⟨?_,rfl⟩
 rcases hb with (⟨h1,h2,_⟩ | ⟨h1,_⟩) | ⟨_,⟨i,v,hv,hvb⟩ | ⟨i,hi⟩ | ⟨h1,_⟩⟩
 ·exact .inl ⟨h1,h2⟩
 ·exact .inr h1
 ·exact .inr (h.fresh b (.inr ⟨i,v,hv,hvb⟩))
 ·exact .inr (h.fresh b (.inl ⟨i,hi⟩))
 ·cases h1

theorem argsC_spec {H : Hp} : ∀ {l : List AV} {cs : List C},argsC H l = some cs → cs.length = l.length ∧ ∀ (j : Nat) x y,l[j]? = some x → cs[j]? = some y → argO H false x = some (.inl y)
 | [],as,h=>by simp [argsC] at h; subst h; simp
 | x :: l,as,h=>by
  simp only [argsC] at h
  split at h
  ·rename_i y ys hy hys
   cases h
   obtain ⟨h1,h2⟩:=argsC_spec hys
   refine ⟨by simp [h1],fun j a b ha hb=>?_⟩
   match j with
   | 0=>simp at ha hb; subst ha; subst hb; exact hy
   | j + 1=>exact h2 j a b (by simpa using ha) (by simpa using hb)
  ·cases h

theorem resO_sound {F : Fr} {st : St} {m : Mp} {a : Act} {w : World} (hs : StRep F st m a w) {x : ResultVar} {y : C ⊕ List C} (h : resO P st x = some y) :
  ∃ v,((match x with | .tmp t=>pure (a.tmps.getD t undef) | .cell q t=>do loadVar t (← asAddr (a.tmps.getD q undef))) : Sem Value).run P w = .ok v w ∧ RdS w (outS F) y v:=by
 have out : ∀ {z : AV} {y : C ⊕ List C} {v : Value},argO st.H false z = some y → RepA F st.H m w z v → RdS w (outS F) y v:=fun ha hr =>
  (argO_rep (own:=true) rfl (fun _ _ h=>h) hs.h ha (fun _=>rfl) hr).mono (callS_out hs.h true)
 cases x with
 | tmp t=>exact ⟨_,rfl,out h (hs.sl t)⟩
 | cell q t =>
  simp only [resO] at h
  split at h
  ·rename_i id off z hq hag hsz
   split at h
   ·rename_i cs hcs
    split at h
    ·cases h
    rename_i hm
    split at h
    ·rename_i l hl
     split at h
     ·rename_i hlen
      cases h
      have hb:=hs.sl q
      rw [hq] at hb
      obtain ⟨b,hb,hv⟩:=hb
      obtain ⟨cs',h1,hbx⟩:=hs.h.box id b hb
      rw [hcs] at h1; cases h1
      obtain ⟨arr,e,h2,h3,h4⟩:=hbx.cells (by simpa using hm)
      obtain ⟨d,hd,hrow⟩:=aggO_row hag
      obtain ⟨g1,g2⟩:=argsC_spec hl
      have hlen2 : ((cs.drop off).take z).length = z:=by omega
      have hvl : ((arr.toList.drop off).take z).length = z:=by
       simp only [List.length_take,List.length_drop,Array.length_toList] at hlen2 ⊢
       omega
      have hget : ∀ (j : Nat) v,((arr.toList.drop off).take z)[j]? = some v → j < z ∧ arr[off + j]? = some v:=by
       intro j v hj
       have hjz:=(List.getElem?_eq_some_iff.1 hj).1
       rw [hvl] at hjz
       rw [List.getElem?_take,if_pos hjz,List.getElem?_drop] at hj
       exact ⟨hjz,by simpa using hj⟩
      refine ⟨.agg ((arr.toList.drop off).take z).toArray,?_,_,rfl,by simp only; rw [hvl,hlen],?_⟩
      ·simp only [hv,asAddr,Sem.run_bind,Sem.run_pure,Result.andThen_ok]
       exact run_loadVar_mid w b off t _ d (fun j v hj=>by
        obtain ⟨_,hj⟩:=hget j v hj
        simp [World.cell?,h2,hj]) hd hrow (by rw [hvl]; exact hsz)
      ·intro j y q hy hq
       obtain ⟨hjz,hq⟩:=hget j q hq
       have hx : ((cs.drop off).take z)[j]? = some (((cs.drop off).take z)[j]'(by omega)):=List.getElem?_eq_getElem _
       have ha:=g2 j _ y hx hy
       have hx2:=hx
       rw [List.getElem?_take,if_pos hjz,List.getElem?_drop] at hx2
       exact out ha (h4 (off + j) _ q hx2 hq).2
     ·cases h
    ·cases h
   ·cases h
  ·rename_i id off hq hag
   split at h
   ·rename_i cs hcs
    split at h
    ·cases h
    rename_i hm
    split at h
    ·rename_i x hx
     split at h
     ·rename_i y hy
      cases h
      have hb:=hs.sl q
      rw [hq] at hb
      obtain ⟨b,hb,hv⟩:=hb
      obtain ⟨cs',h1,hbx⟩:=hs.h.box id b hb
      rw [hcs] at h1; cases h1
      obtain ⟨arr,e,h2,h3,h4⟩:=hbx.cells (by simpa using hm)
      have hlt:=(List.getElem?_eq_some_iff.1 hx).1
      have harr : arr[off]? = some (arr[off]'(by omega)):=Array.getElem?_eq_getElem _
      refine ⟨arr[off]'(by omega),?_,out hy (h4 off x _ hx harr).2⟩
      have hc : w.cell? ⟨b,off,none⟩ = some (arr[off]'(by omega)):=by simp [World.cell?,h2,harr]
      simp [hv,asAddr,loadVar,aggO_run hag,hc]
     ·cases h
    ·cases h
   ·cases h
  ·cases h

theorem mapM_run {α : Type} (f : α → Sem Value) (w : World) : ∀ (l : List α) (vs : List Value),vs.length = l.length → (∀ (j : Nat) x v,l[j]? = some x → vs[j]? = some v → (f x).run P w = .ok v w) → (l.mapM f).run P w = .ok vs w
 | [],vs,hl,h=>by
  cases vs with
  | nil=>simp
  | cons v vs=>simp at hl
 | x :: l,[],hl,h=>by simp at hl
 | x :: l,v :: vs,hl,h=>by
  have h0:=h 0 x v rfl rfl
  have ih:=mapM_run f w l vs (by simpa using hl) (fun j y u hy hu=>h (j + 1) y u (by simpa using hy) (by simpa using hu))
  simp [List.mapM_cons,h0,ih]

theorem ressO_sound {F : Fr} {st : St} {m : Mp} {a : Act} {w : World} (hs : StRep F st m a w) : ∀ {l : List ResultVar} {ys : List (C ⊕ List C)},ressO P st l = some ys →
  ∃ vs : List Value,vs.length = l.length ∧ ys.length = l.length ∧ (∀ (j : Nat) x v,l[j]? = some x → vs[j]? = some v → ((match x with | .tmp t=>pure (a.tmps.getD t undef) | .cell q t=>do loadVar t (← asAddr (a.tmps.getD q undef))) : Sem Value).run P w = .ok v w) ∧
   ∀ (j : Nat) y v,ys[j]? = some y → vs[j]? = some v → RdS w (outS F) y v
 | [],ys,h=>by simp [ressO] at h; subst h; exact ⟨[],rfl,rfl,by simp,by simp⟩
 | x :: l,ys,h=>by
  simp only [ressO] at h
  split at h
  ·rename_i y ys' hy hys
   cases h
   obtain ⟨v,h1,h2⟩:=resO_sound hs hy
   obtain ⟨vs,g1,g2,g3,g4⟩:=ressO_sound hs hys
   refine ⟨v :: vs,by simp [g1],by simp [g2],fun j a b ha hb=>?_,fun j a b ha hb=>?_⟩
   ·match j with
    | 0=>simp at ha hb; subst ha; subst hb; exact h1
    | j + 1=>exact g3 j a b (by simpa using ha) (by simpa using hb)
   ·match j with
    | 0=>simp at ha hb; subst ha; subst hb; exact h2
    | j + 1=>exact g4 j a b (by simpa using ha) (by simpa using hb)
  ·cases h

theorem results_sound {F : Fr} {st : St} {m : Mp} {a : Act} {w : World} (hs : StRep F st m a w) {fn : Func} {ys : List (C ⊕ List C)} (h : ressO P st fn.results.toList = some ys) :
  ∃ v,(results fn a.tmps).run P w = .ok v w ∧ RdR w (outS F) (resAV ys) v:=by
 obtain ⟨vs,g1,g2,g3,g4⟩:=ressO_sound hs h
 have hm:=mapM_run (P:=P) (fun x : ResultVar=>match x with | .tmp t=>pure (a.tmps.getD t undef) | .cell q t=>do loadVar t (← asAddr (a.tmps.getD q undef))) w fn.results.toList vs g1 g3
 have hrun : (results fn a.tmps).run P w = .ok (if h : vs.toArray.size = 1 then vs.toArray[0] else .tuple vs.toArray) w:=by
  unfold results
  rw [Array.mapM_eq_mapM_toList]
  simp only [Sem.run_bind,map_eq_pure_bind,Result.andThen_ok,Sem.run_pure,bind_assoc,pure_bind]
  exact congrArg (fun r=>Result.andThen r fun (a : List Value) w'=>Result.ok (if h : a.toArray.size = 1 then a.toArray[0] else Value.tuple a.toArray) w') hm
 refine ⟨_,hrun,?_⟩
 clear hrun hm g3 h
 rcases vs with _ | ⟨v1,_ | ⟨v2,vs'⟩⟩ <;> rcases ys with _ | ⟨y1,_ | ⟨y2,ys'⟩⟩
 ·exact ⟨_,rfl,rfl,by simp⟩
 ·simp at g1 g2; omega
 ·simp at g1 g2; omega
 ·simp at g1 g2; omega
 ·simp only [List.size_toArray,List.length_cons,List.length_nil,Nat.zero_add,dif_pos,resAV]
  have:=g4 0 y1 v1 rfl rfl
  cases y1 with
  | inl y=>exact this
  | inr y=>exact this
 ·simp at g1 g2; omega
 ·simp at g1 g2; omega
 ·simp at g1 g2; omega
 ·simp only [List.size_toArray,List.length_cons,resAV]
  rw [dif_neg (by omega)]
  exact ⟨_,rfl,by simp at g1 g2 ⊢; omega,fun j y u hy hu=>g4 j y u hy (by simpa using hu)⟩

def q_z : Nat → List (C ⊕ List C) → List (Nat × AV)
 | _,[]=>[]
 | k,x :: l=>(k,q_y x) :: q_z (k + 1) l

theorem look_argSl : ∀ (l : List (C ⊕ List C)) (k t : Nat) (y : AV),look (q_z k l) t = some y → k ≤ t ∧ ∃ x,l[t - k]? = some x ∧ y = q_y x
 | [],k,t,y,h=>by simp [q_z,look] at h
 | x :: l,k,t,y,h=>by
  simp only [q_z,look] at h
  split at h
  ·rename_i he; cases h; simp at he; subst he; exact ⟨Nat.le_refl _,x,by simp,rfl⟩
  ·rename_i he
   obtain ⟨h1,x',h2,h3⟩:=look_argSl l (k + 1) t y h
   refine ⟨by omega,x',?_,h3⟩
   rw [show t - k = (t - (k + 1)) + 1 by omega]
   simpa using h2

theorem start_rep {w : World} {S : Nat → Prop} {vs : Array Value} {n : Nat} {as : List (C ⊕ List C)} (hn : as.length ≤ n) (hsz : vs.size = as.length) (hvs : ∀ (j : Nat) y u,as[j]? = some y → vs[j]? = some u → RdS w S y u) :
  StRep ⟨w,fun b=>S b,[],[],fun _=>none⟩ { n:=n,sl:=q_z 0 as,H:=⟨[],[],[]⟩,nx:=0 } ⟨fun _=>none,fun _=>none⟩ { tmps:=vs ++ Array.replicate (n - vs.size) undef,defers:=[] } w:=by
 let F : Fr:=⟨w,fun b=>S b,[],[],fun _=>none⟩
 show StRep F _ _ _ _
 refine ⟨rfl,by simp; omega,⟨rfl,rfl,rfl,Nat.le_refl _,fun _ _ _=>rfl,?_,(fun _ h=>by cases h),(fun _ _ _ h=>by cases h),(fun _ _ _ _ _ h=>by cases h),?_,?_,?_,?_,?_,(fun _ _ h=>by cases h)⟩,fun _ _=>⟨rfl,rfl⟩,?_⟩
 ·rintro b (⟨i,hi⟩ | ⟨i,v,hv,_⟩)
  ·cases hi
  ·cases hv
 ·intro i j b hi; cases hi
 ·intro i j b v hi; cases hi
 ·intro i j b u v hi; cases hi
 ·intro i b hi; cases hi
 ·intro i v hv; cases hv
 ·intro t
  show RepA _ _ _ _ (match look (q_z 0 as) t with | some x=>x | none=>.u) _
  cases hl : look (q_z 0 as) t with
  | none=>trivial
  | some y =>
   obtain ⟨_,x,hx,rfl⟩:=look_argSl as 0 t y hl
   simp only [Nat.sub_zero] at hx
   have hlt:=(List.getElem?_eq_some_iff.1 hx).1
   have hv : vs[t]? = some (vs[t]'(by omega)):=Array.getElem?_eq_getElem _
   have hg : (vs ++ Array.replicate (n - vs.size) undef).getD t undef = vs[t]'(by omega):=by
    rw [Array.getD_eq_getD_getElem?,Array.getElem?_append_left (by omega),hv]; rfl
   rw [hg]
   have hrd:=(hvs t x _ hx hv).mono (S':=F.S ⟨fun _=>none,fun _=>none⟩) (w':=w) (fun b hb hlt'=>⟨.inl ⟨hb,hlt',by simp [F]⟩,rfl⟩)
   cases x with
   | inl x=>exact hrd
   | inr x=>exact hrd

theorem ret_of {f : FuncId} {fn : Func} {c : Code} (hf : P.funcs[f]? = some fn) (hb : fn.body = some c) {as : List (C ⊕ List C)} {post : AV → Prop} (hn : as.length ≤ fn.ntmps)
  (h : ∀ F : Fr,AWp P F c (Ends P fn.results.toList post) { n:=fn.ntmps,sl:=q_z 0 as,H:=⟨[],[],[]⟩,nx:=0 }) (r : AV) (hr : ∀ x,post x → ∀ w S v,RdR w S x v → RdR w S r v) : Ret P f false as r:=by
 intro w S vs hsz hvs
 let F : Fr:=⟨w,fun b=>S b,[],[],fun _=>none⟩
 refine calls_of_wp hf hb ?_
 have hs:=start_rep (w:=w) (S:=S) hn hsz hvs
 refine wp_mono (h F _ _ _ hs) fun e a' w' ⟨st',m',⟨he,l,hl,hpost⟩,hs'⟩=>?_
 obtain ⟨v,hrun,hrd⟩:=results_sound (F:=F) hs' hl
 have hbp : a'.defers = [] ∧ ∃ v,(results fn a'.tmps).run P w' = .ok v w' ∧ ∃ v',Ending.returned v = .returned v' ∧ Ext w w' ∧ RdR w' (fun b=>(false = false ∧ S b ∧ b < w.heap.size) ∨ w.heap.size ≤ b) r v':=by
  refine ⟨hs'.d,v,hrun,v,rfl,⟨hs'.h.os,hs'.h.tape,hs'.h.output,hs'.h.size,fun k hk=>hs'.h.block k hk (by simp [F])⟩,?_⟩
  refine hr _ hpost _ _ _ ?_
  have hconv : (fun b=>(false = false ∧ S b ∧ b < w.heap.size) ∨ w.heap.size ≤ b) = outS F:=by
   funext b; simp [outS,F]
  rw [hconv]; exact hrd
 rcases he with rfl | rfl
 ·exact hbp
 ·exact hbp

theorem Ret.plain {f : FuncId} {as : List (C ⊕ List C)} {r : AV} (h : Ret P f false as r) (hp : plainAV r = true) : Ret P f true as r:=fun w S vs hsz hvs =>
 (h w S vs hsz hvs).mono fun _ _ ⟨v,he,hx,hr⟩=>⟨v,he,hx,hr.plain hp⟩

def avSl : Nat → List AV → List (Nat × AV)
 | _,[]=>[]
 | k,x :: l=>(k,x) :: avSl (k + 1) l
def ancs (bs : Nat → Nat) : Nat → Nat → List (Nat × AV)
 | 0,_=>[]
 | k + 1,i=>(1000 + i,.anc i (bs i)) :: ancs bs k (i + 1)
theorem look_avSl : ∀ (l : List AV) (k t : Nat) (y : AV),look (avSl k l) t = some y → k ≤ t ∧ l[t - k]? = some y
 | [],k,t,y,h=>by simp [avSl,look] at h
 | x :: l,k,t,y,h=>by
  simp only [avSl,look] at h
  split at h
  ·rename_i he; cases h; simp at he; subst he; exact ⟨Nat.le_refl _,by simp⟩
  ·obtain ⟨h1,h2⟩:=look_avSl l (k + 1) t y h
   refine ⟨by omega,?_⟩
   rw [show t - k = (t - (k + 1)) + 1 by omega]
   simpa using h2
theorem look_ancs {bs : Nat → Nat} : ∀ (k i t : Nat) (y : AV),look (ancs bs k i) t = some y → ∃ j,i ≤ j ∧ j < i + k ∧ t = 1000 + j ∧ y = .anc j (bs j)
 | 0,i,t,y,h=>by simp [ancs,look] at h
 | k + 1,i,t,y,h=>by
  simp only [ancs,look] at h
  split at h
  ·rename_i he; cases h; simp at he; exact ⟨i,Nat.le_refl _,by omega,he.symm,rfl⟩
  ·obtain ⟨j,h1,h2,h3,h4⟩:=look_ancs k (i + 1) t y h
   exact ⟨j,by omega,by omega,h3,h4⟩
theorem look_ancs2 {bs : Nat → Nat} : ∀ (k i j : Nat),i ≤ j → j < i + k → look (ancs bs k i) (1000 + j) = some (.anc j (bs j))
 | 0,i,j,h1,h2=>by omega
 | k + 1,i,j,h1,h2=>by
  simp only [ancs,look]
  by_cases hij : i = j
  ·subst hij; simp
  ·have : (1000 + i == 1000 + j) = false:=by simp; omega
   rw [this]; simp only [Bool.false_eq_true,if_false]
   exact look_ancs2 k (i + 1) j (by omega) (by omega)
def resG1 (P : Program) (st : St) : ResultVar → Option AV
 | .tmp t=>some (st.get t)
 | .cell a t=>match st.get a,aggO P t,szO P t with
  | .bx id off,some true,some z=>match look st.H.box id with
   | some cs=>if isM cs then none else match allC ((cs.drop off).take z) with | some l=>if l.length = z then some (.g l) else none | none=>match allG ((cs.drop off).take z) with | some l=>if l.length = z then some (.gt l) else none | none=>none
   | none=>none
  | .bx id off,some false,_=>match look st.H.box id with
   | some cs=>if isM cs then none else cs[off]?
   | none=>none
  | _,_,_=>none
def resG (P : Program) (st : St) : List ResultVar → Option (List AV)
 | []=>some []
 | x :: l=>match resG1 P st x,resG P st l with | some y,some ys=>some (y :: ys) | _,_=>none
def hnx (H : Hp) : Nat:=if H.box.length ≤ H.buf.length then H.buf.length else H.box.length
def EndsG (P : Program) (rvs : List ResultVar) (H' : Hp) (rs : List AV) (bs : Nat → Nat) (k : Nat) (ex : Exit) (st : St) : Prop:=(ex = .ret ∨ ex = .normal) ∧ ∃ sl nx,Fit st ⟨st.n,sl ++ ancs bs k 0,H',nx⟩ ∧ (sl.all fun p=>decide (p.1 < 1000)) = true ∧ resG P ⟨st.n,sl,H',nx⟩ rvs = some rs
theorem resG1_sound {F : Fr} {st : St} {m : Mp} {a : Act} {w : World} (hs : StRep F st m a w) {x : ResultVar} {y : AV} (h : resG1 P st x = some y) :
  ∃ v,((match x with | .tmp t=>pure (a.tmps.getD t undef) | .cell q t=>do loadVar t (← asAddr (a.tmps.getD q undef))) : Sem Value).run P w = .ok v w ∧ RepA F st.H m w y v:=by
 cases x with
 | tmp t=>cases h; exact ⟨_,rfl,hs.sl t⟩
 | cell q t =>
  simp only [resG1] at h
  split at h
  ·rename_i id off z hq hag hsz
   split at h
   ·rename_i cs hcs
    split at h
    ·cases h
    rename_i hm
    split at h
    ·rename_i l hl
     split at h
     ·rename_i hlen
      cases h
      have hb:=hs.sl q
      rw [hq] at hb
      obtain ⟨b,hb,hv⟩:=hb
      obtain ⟨cs',h1,hbx⟩:=hs.h.box id b hb
      rw [hcs] at h1; cases h1
      obtain ⟨arr,e,h2,h3,h4⟩:=hbx.cells (by simpa using hm)
      obtain ⟨d,hd,hrow⟩:=aggO_row hag
      have hls:=allC_spec hl
      have hlen2 : ((cs.drop off).take z).length = z:=by rw [hls,List.length_map]; exact hlen
      have hvl : ((arr.toList.drop off).take z).length = z:=by
       simp only [List.length_take,List.length_drop,Array.length_toList] at hlen2 ⊢
       omega
      have hget : ∀ (j : Nat) v,((arr.toList.drop off).take z)[j]? = some v → j < z ∧ arr[off + j]? = some v:=by
       intro j v hj
       have hjz:=(List.getElem?_eq_some_iff.1 hj).1
       rw [hvl] at hjz
       rw [List.getElem?_take,if_pos hjz,List.getElem?_drop] at hj
       exact ⟨hjz,by simpa using hj⟩
      refine ⟨.agg ((arr.toList.drop off).take z).toArray,?_,_,rfl,by simp only; rw [hvl,hlen],?_⟩
      ·simp only [hv,asAddr,Sem.run_bind,Sem.run_pure,Result.andThen_ok]
       exact run_loadVar_mid w b off t _ d (fun j v hj=>by
        obtain ⟨_,hj⟩:=hget j v hj
        simp [World.cell?,h2,hj]) hd hrow (by rw [hvl]; exact hsz)
      ·intro j y q hy hq
       obtain ⟨hjz,hq⟩:=hget j q hq
       have hx : ((cs.drop off).take z)[j]? = some (.c y):=by rw [hls,List.getElem?_map,hy]; rfl
       rw [List.getElem?_take,if_pos hjz,List.getElem?_drop] at hx
       exact (h4 (off + j) _ q hx hq).2
     ·cases h
    split at h
    ·rename_i l hl
     split at h
     ·rename_i hlen
      cases h
      have hb:=hs.sl q
      rw [hq] at hb
      obtain ⟨b,hb,hv⟩:=hb
      obtain ⟨cs',h1,hbx⟩:=hs.h.box id b hb
      rw [hcs] at h1; cases h1
      obtain ⟨arr,e,h2,h3,h4⟩:=hbx.cells (by simpa using hm)
      obtain ⟨d,hd,hrow⟩:=aggO_row hag
      obtain ⟨hls1,hls2⟩:=allG_spec hl
      have hlen2 : ((cs.drop off).take z).length = z:=by rw [← hls1]; exact hlen
      have hvl : ((arr.toList.drop off).take z).length = z:=by
       simp only [List.length_take,List.length_drop,Array.length_toList] at hlen2 ⊢
       omega
      have hget : ∀ (j : Nat) v,((arr.toList.drop off).take z)[j]? = some v → j < z ∧ arr[off + j]? = some v:=by
       intro j v hj
       have hjz:=(List.getElem?_eq_some_iff.1 hj).1
       rw [hvl] at hjz
       rw [List.getElem?_take,if_pos hjz,List.getElem?_drop] at hj
       exact ⟨hjz,by simpa using hj⟩
      refine ⟨.agg ((arr.toList.drop off).take z).toArray,?_,_,rfl,by simp only [List.size_toArray]; rw [hvl,hlen],?_⟩
      ·simp only [hv,asAddr,Sem.run_bind,Sem.run_pure,Result.andThen_ok]
       exact run_loadVar_mid w b off t _ d (fun j v hj=>by
        obtain ⟨_,hj⟩:=hget j v hj
        simp [World.cell?,h2,hj]) hd hrow (by rw [hvl]; exact hsz)
      ·intro j y q hy hq
       obtain ⟨hjz,hq⟩:=hget j q (by simpa using hq)
       have hx : ((cs.drop off).take z)[j]? = some (((cs.drop off).take z)[j]'(by rw [hlen2]; exact hjz)):=List.getElem?_eq_getElem _
       have hx2 : cs[off + j]? = some (((cs.drop off).take z)[j]'(by rw [hlen2]; exact hjz)):=by
        have hx3:=hx
        rw [List.getElem?_take,if_pos hjz,List.getElem?_drop] at hx3
        exact hx3
       have hr:=(h4 (off + j) _ q hx2 hq).2
       rcases hls2 j _ y hx hy with ⟨c,e1,rfl⟩ | ⟨id',ver',e1,rfl⟩ | ⟨c,e1,rfl⟩
       ·rw [e1] at hr; exact hr
       ·rw [e1] at hr; exact hr
       ·rw [e1] at hr; exact hr
     ·cases h
    ·cases h
   ·cases h
  ·rename_i id off hq hag
   split at h
   ·rename_i cs hcs
    split at h
    ·cases h
    rename_i hm
    have hb:=hs.sl q
    rw [hq] at hb
    obtain ⟨b,hb,hv⟩:=hb
    obtain ⟨cs',h1,hbx⟩:=hs.h.box id b hb
    rw [hcs] at h1; cases h1
    obtain ⟨arr,e,h2,h3,h4⟩:=hbx.cells (by simpa using hm)
    have hlt:=(List.getElem?_eq_some_iff.1 h).1
    have harr : arr[off]? = some (arr[off]'(by omega)):=Array.getElem?_eq_getElem _
    refine ⟨arr[off]'(by omega),?_,(h4 off y _ h harr).2⟩
    have hc : w.cell? ⟨b,off,none⟩ = some (arr[off]'(by omega)):=by simp [World.cell?,h2,harr]
    simp [hv,asAddr,loadVar,aggO_run hag,hc]
   ·cases h
  ·cases h
theorem resG_sound {F : Fr} {st : St} {m : Mp} {a : Act} {w : World} (hs : StRep F st m a w) : ∀ {l : List ResultVar} {ys : List AV},resG P st l = some ys →
  ∃ vs : List Value,vs.length = l.length ∧ ys.length = l.length ∧ (∀ (j : Nat) x v,l[j]? = some x → vs[j]? = some v → ((match x with | .tmp t=>pure (a.tmps.getD t undef) | .cell q t=>do loadVar t (← asAddr (a.tmps.getD q undef))) : Sem Value).run P w = .ok v w) ∧
   ∀ (j : Nat) y v,ys[j]? = some y → vs[j]? = some v → RepA F st.H m w y v
 | [],ys,h=>by simp [resG] at h; subst h; exact ⟨[],rfl,rfl,by simp,by simp⟩
 | x :: l,ys,h=>by
  simp only [resG] at h
  split at h
  ·rename_i y ys' hy hys
   cases h
   obtain ⟨v,h1,h2⟩:=resG1_sound hs hy
   obtain ⟨vs,g1,g2,g3,g4⟩:=resG_sound hs hys
   refine ⟨v :: vs,by simp [g1],by simp [g2],fun j a b ha hb=>?_,fun j a b ha hb=>?_⟩
   ·match j with
    | 0=>simp at ha hb; subst ha; subst hb; exact h1
    | j + 1=>exact g3 j a b (by simpa using ha) (by simpa using hb)
   ·match j with
    | 0=>simp at ha hb; subst ha; subst hb; exact h2
    | j + 1=>exact g4 j a b (by simpa using ha) (by simpa using hb)
  ·cases h
theorem ret_g {f : FuncId} {fn : Func} {c : Code} (hf : P.funcs[f]? = some fn) (hb : fn.body = some c) {H H' : Hp} {as rs : List AV} (hn : as.length ≤ fn.ntmps) (hn2 : fn.ntmps ≤ 1000)
  (h : ∀ (F : Fr) (bs : Nat → Nat),AWp P F c (EndsG P fn.results.toList H' rs bs H.box.length) { n:=fn.ntmps,sl:=avSl 0 as ++ ancs bs H.box.length 0,H:=H,nx:=hnx H }) : RetG P f H as H' rs:=by
 intro w S G m vs bs hrep hbx hbn hbf hsz hvs
 refine calls_of_wp hf hb ?_
 have hnx1 : H.box.length ≤ hnx H ∧ H.buf.length ≤ hnx H:=by unfold hnx; split <;> omega
 have hs : StRep ⟨w,S,G,G,fun _=>none⟩ { n:=fn.ntmps,sl:=avSl 0 as ++ ancs bs H.box.length 0,H:=H,nx:=hnx H } m { tmps:=vs ++ Array.replicate (fn.ntmps - vs.size) undef,defers:=[] } w:=by
  refine ⟨rfl,by simp; omega,hrep,fun i hi=>⟨hbn i (by simp only at hi; omega),hbf i (by simp only at hi; omega)⟩,fun t=>?_⟩
  show RepA _ _ _ _ (match look (avSl 0 as ++ ancs bs H.box.length 0) t with | some x=>x | none=>.u) _
  rw [look_append]
  cases hl : look (avSl 0 as) t with
  | some y =>
   obtain ⟨_,hx⟩:=look_avSl as 0 t y hl
   simp only [Nat.sub_zero] at hx
   have hlt:=(List.getElem?_eq_some_iff.1 hx).1
   have hv : vs[t]? = some (vs[t]'(by omega)):=Array.getElem?_eq_getElem _
   have hg : (vs ++ Array.replicate (fn.ntmps - vs.size) undef).getD t undef = vs[t]'(by omega):=by
    rw [Array.getD_eq_getD_getElem?,Array.getElem?_append_left (by omega),hv]; rfl
   rw [hg]
   exact hvs t y _ hx hv
  | none =>
   cases hl2 : look (ancs bs H.box.length 0) t with
   | none=>trivial
   | some y =>
    obtain ⟨j,_,h2,_,rfl⟩:=look_ancs _ _ _ _ hl2
    exact hbx j (by omega)
 refine wp_mono (h _ bs _ _ _ hs) fun ex a' w' ⟨st',m',⟨he,sl,nx,hfit,hall,hres⟩,hs'⟩=>?_
 obtain ⟨m2,hs2⟩:=hfit _ _ _ _ hs'
 have hlook : ∀ t,t < 1000 → look (sl ++ ancs bs H.box.length 0) t = look sl t:=by
  intro t ht
  rw [look_append]
  cases look sl t with
  | some y=>rfl
  | none =>
   cases hl2 : look (ancs bs H.box.length 0) t with
   | none=>rfl
   | some y=>obtain ⟨j,_,_,h3,_⟩:=look_ancs _ _ _ _ hl2; omega
 have hslt : ∀ {t : Nat} {y : AV},look sl t = some y → t < 1000:=by
  clear hlook hs2 hres hfit
  induction sl with
  | nil=>intro t y h; simp [look] at h
  | cons p l ih =>
   intro t y hx
   simp only [List.all_cons,Bool.and_eq_true,decide_eq_true_eq] at hall
   simp only [look] at hx
   split at hx
   ·rename_i he; simp at he; omega
   ·exact ih hall.2 hx
 have hs3 : StRep ⟨w,S,G,G,fun _=>none⟩ ⟨st'.n,sl,H',nx⟩ m2 a' w':=by
  refine ⟨hs2.d,hs2.sz,hs2.h,hs2.fr,fun t=>?_⟩
  show RepA _ _ _ _ (match look sl t with | some x=>x | none=>.u) _
  cases hl : look sl t with
  | none=>trivial
  | some y =>
   have:=hs2.sl t
   have hg : (St.get ⟨st'.n,sl ++ ancs bs H.box.length 0,H',nx⟩ t) = y:=by simp only [St.get]; rw [hlook t (hslt hl),hl]
   rw [hg] at this
   exact this
 obtain ⟨vs',g1,g2,g3,g4⟩:=resG_sound hs3 hres
 have hm:=mapM_run (P:=P) (fun x : ResultVar=>match x with | .tmp t=>pure (a'.tmps.getD t undef) | .cell q t=>do loadVar t (← asAddr (a'.tmps.getD q undef))) w' fn.results.toList vs' g1 g3
 have hrun : (results fn a'.tmps).run P w' = .ok (if h : vs'.toArray.size = 1 then vs'.toArray[0] else .tuple vs'.toArray) w':=by
  unfold results
  rw [Array.mapM_eq_mapM_toList]
  simp only [Sem.run_bind,map_eq_pure_bind,Result.andThen_ok,Sem.run_pure,bind_assoc,pure_bind]
  exact congrArg (fun r=>Result.andThen r fun (a : List Value) w'=>Result.ok (if h : a.toArray.size = 1 then a.toArray[0] else Value.tuple a.toArray) w') hm
 have hv : (if h : vs'.toArray.size = 1 then vs'.toArray[0] else .tuple vs'.toArray) = tupV vs':=by
  rcases vs' with _ | ⟨v1,_ | ⟨v2,vs'⟩⟩
  ·rfl
  ·rfl
  ·rw [dif_neg (by simp)]; rfl
 rw [hv] at hrun
 have hbp : a'.defers = [] ∧ ∃ v,(results fn a'.tmps).run P w' = .ok v w' ∧ ∃ m' vs' v',Ending.returned v = .returned v' ∧ HRep ⟨w,S,G,G,fun _=>none⟩ H' m' w' ∧ (∀ i,i < H.box.length → m'.bx i = some (bs i)) ∧ vs'.length = rs.length ∧ v' = tupV vs' ∧
   ∀ (j : Nat) y u,rs[j]? = some y → vs'[j]? = some u → RepA ⟨w,S,G,G,fun _=>none⟩ H' m' w' y u:=by
  refine ⟨hs2.d,_,hrun,m2,vs',_,rfl,hs2.h,fun i hi=>?_,by omega,rfl,g4⟩
  have:=hs2.sl (1000 + i)
  have hg : (St.get ⟨st'.n,sl ++ ancs bs H.box.length 0,H',nx⟩ (1000 + i)) = .anc i (bs i):=by
   simp only [St.get]
   rw [look_append]
   have hno : look sl (1000 + i) = none:=by
    cases hl : look sl (1000 + i) with
    | none=>rfl
    | some y=>have:=hslt hl; omega
   rw [hno,look_ancs2 _ _ _ (Nat.zero_le _) (by omega)]
  rw [hg] at this
  exact this
 rcases he with rfl | rfl
 ·exact hbp
 ·exact hbp

end Go.Abs

namespace Go.Abs
set_option linter.unusedSimpArgs false
set_option linter.unusedVariables false
open Go.RowKit

variable {P : Program}

def pureOp (cf : Cfg) : Op → Bool
 | .move _ | .assign _ | .pick _ _ _ | .build _ _ | .binOp _ _ _ _ _ | .unOp _ _ _ | .convert _ _ _ | .fieldAddr _ _ _ | .field _ _ _ | .extract _ _ | .index _ _ _=>true
 | .slice _ _ _ _ none=>true
 | .nilCheck _=>true
 | .buildSlice _ n _=>n != 0 && !cf.lq
 | .makeSlice _ _ _=>cf.mq
 | .indexAddr _ _ _=>cf.aq
 | .call c=>match c.callee with | .builtin .min | .builtin .max=>true | _=>false
 | _=>false

def bothSl : Op → Bool
 | .slice _ _ lo hi none=>lo.isSome && hi.isSome
 | _=>false
theorem opE_pure {cf : Cfg} {wr : Bool} (hcf : TblOk P cf) {st : St} {o : Oper} (hp : pureOp cf o.op = true) (hwr : bothSl o.op = true → wr = true) (hcd : cutD cf wr st o.op = false) {K : AV → St → Prop} (h : opE P cf st o.op K) : ∃ r,K r st ∧ ∀ (F : Fr) (H : Hp) (nx : Nat),OpQ P F H nx nx o st.ev r:=by
 have yl : ∀ {r : AV} {f : (Operand → Value) → Sem Value},(∀ ρ,execOp ρ o = (do pure (Next.value (← f ρ)))) → (∀ (F : Fr) (H' : Hp) (m : Mp) (w : World) (ρ : Operand → Value),HRep F H' m w → (∀ x ∈ o.op.operands,RepA F H' m w (st.ev x) (ρ x)) → Yl P F H' m w (f ρ) r) → ∀ (F : Fr) (H : Hp) (nx : Nat),OpQ P F H nx nx o st.ev r :=
  fun h1 h2 F H nx=>OpQ.of_yl fun H' m w ρ hsup hrep hops=>⟨_,h1 ρ,h2 F H' m w ρ hrep hops⟩
 unfold opE at h
 split at h
 ·rename_i x ho
  exact ⟨_,h,yl (f:=fun ρ=>pure (ρ x)) (fun ρ=>by simp [execOp,ho]) fun F H' m w ρ _ hops=>⟨ρ x,rfl,hops x (by simp [ho,Op.operands])⟩⟩
 ·rename_i x ho
  exact ⟨_,h,yl (f:=fun ρ=>pure (ρ x)) (fun ρ=>by simp [execOp,ho]) fun F H' m w ρ _ hops=>⟨ρ x,rfl,hops x (by simp [ho,Op.operands])⟩⟩
 ·rename_i c a b ho
  unfold pickT at h
  split at h
  ·rename_i hc
   refine ⟨_,h,yl (f:=fun ρ=>do pure (if ← asBool (ρ c) then ρ a else ρ b)) (fun ρ=>by simp [execOp,ho]) fun F H' m w ρ _ hops=>⟨ρ a,?_,hops a (by simp [ho,Op.operands])⟩⟩
   have:=hops c (by simp [ho,Op.operands])
   rw [hc] at this
   simp [rep_b this,asBool]
  ·rename_i hc
   refine ⟨_,h,yl (f:=fun ρ=>do pure (if ← asBool (ρ c) then ρ a else ρ b)) (fun ρ=>by simp [execOp,ho]) fun F H' m w ρ _ hops=>⟨ρ b,?_,hops b (by simp [ho,Op.operands])⟩⟩
   have:=hops c (by simp [ho,Op.operands])
   rw [hc] at this
   simp [rep_b this,asBool]
  ·exact h.elim
 ·rename_i ho; simp [ho,pureOp] at hp
 ·rename_i ho; simp [ho,pureOp] at hp
 ·rename_i t ps ho
  obtain ⟨r,hK,hr⟩:=buildT_sound h
  refine ⟨r,hK,yl (f:=fun ρ=>Instr.build t (ps.map fun (i,x)=>(i,ρ x))) (fun ρ=>by simp [execOp,ho]) fun F H' m w ρ _ hops=>hr F H' m w _ (by simp) fun j x v hx hv=>?_⟩
  simp only [List.getElem?_map,Array.getElem?_toList,Option.map_eq_some_iff] at hx
  obtain ⟨p,hp,rfl⟩:=hx
  simp [hp] at hv
  subst hv
  exact hops p.2 (by simp [ho,Op.operands]; exact ⟨p.1,by have:=Array.mem_of_getElem? hp; simpa using this⟩)
 ·rename_i t n ps ho
  simp only [ho,pureOp,bne_iff_ne,ne_eq,Bool.and_eq_true,Bool.not_eq_true'] at hp
  simp only [hp.2,Bool.false_eq_true,if_false] at h
  rw [if_neg (by simpa using hp.1)] at h
  split at h
  rotate_left
  split at h
  ·exact litVT_sound (o:=o) (ev:=st.ev) ho h
  rotate_left
  ·obtain ⟨r,hK,hr⟩:=litWT_sound h
   refine ⟨r,hK,fun F H nx=>OpQ.of_ext fun H' m w ρ hsup hrep hops=>?_⟩
   obtain ⟨v,w',hrun,hext,hrr⟩:=hr F H' m w (ps.map fun (i,x)=>(i,ρ x)) hrep (by simp) (fun j x v hx hv=>by
    simp only [List.getElem?_map,Array.getElem?_toList,Option.map_eq_some_iff] at hx
    obtain ⟨p,hp,rfl⟩:=hx
    simp [hp] at hv
    subst hv
    exact hops p.2 (by simp [ho,Op.operands]; exact ⟨p.1,by have:=Array.mem_of_getElem? hp; simpa using this⟩))
   unfold Exec
   have hex : (execOp ρ o).run P w = .ok (.value v) w':=by simp only [execOp,ho,Sem.run_bind,hrun,Result.andThen_ok,Sem.run_pure]
   rw [hex]
   exact ⟨hext,hrr⟩
  ·obtain ⟨r,hK,hr⟩:=litT_sound h
   refine ⟨r,hK,fun F H nx=>OpQ.of_ext fun H' m w ρ hsup hrep hops=>?_⟩
   obtain ⟨v,w',hrun,hext,hrr⟩:=hr F H' m w (ps.map fun (i,x)=>(i,ρ x)) hrep (by simp) (fun j x v hx hv=>by
    simp only [List.getElem?_map,Array.getElem?_toList,Option.map_eq_some_iff] at hx
    obtain ⟨p,hp,rfl⟩:=hx
    simp [hp] at hv
    subst hv
    exact hops p.2 (by simp [ho,Op.operands]; exact ⟨p.1,by have:=Array.mem_of_getElem? hp; simpa using this⟩))
   unfold Exec
   have hex : (execOp ρ o).run P w = .ok (.value v) w':=by simp only [execOp,ho,Sem.run_bind,hrun,Result.andThen_ok,Sem.run_pure]
   rw [hex]
   exact ⟨hext,hrr⟩
 ·rename_i ho; simp [ho,pureOp] at hp
 ·rename_i ho; simp [ho,pureOp] at hp
 ·rename_i op t x y _ ho
  obtain ⟨r,hK,hr⟩:=binT_sound hcf.1 h
  exact ⟨r,hK,yl (f:=fun ρ=>do eqGuard op t x y (ρ x) (ρ y); binOp op t (ρ x) (ρ y)) (fun ρ=>by simp [execOp,ho]) fun F H' m w ρ hrep hops=>hr F H' m w _ _ x y (hops x (by simp [ho,Op.operands])) (hops y (by simp [ho,Op.operands]))⟩
 ·rename_i op _ x ho
  obtain ⟨r,hK,hr⟩:=unT_sound (P:=P) h
  exact ⟨r,hK,yl (f:=fun ρ=>Op.unary op (ρ x)) (fun ρ=>by simp [execOp,ho]) fun F H' m w ρ hrep hops=>hr F H' m w _ (hops x (by simp [ho,Op.operands]))⟩
 ·rename_i s d x ho
  rw [ho] at hcd
  simp only [cutD,Bool.or_eq_false_iff] at hcd
  rw [hcd.1] at h
  simp only [Bool.false_eq_true,if_false] at h
  obtain ⟨r,hK,hr⟩:=convE_sound (P:=P) (o:=o) (ev:=st.ev) ho h
  exact ⟨r,hK,hr⟩
 ·rename_i t l c ho
  simp only [ho,pureOp] at hp
  simp only [hp,if_true] at h
  exact makeQ_sound (o:=o) (ev:=st.ev) ho h
 ·rename_i t x lo hi ho
  rw [ho] at hcd
  simp only [cutD] at hcd
  split at h
  ·rename_i hx
   rw [hx] at hcd
   simp only [isOwB,Bool.true_and,Bool.or_eq_false_iff,Bool.not_eq_false'] at hcd
   have:=hwr (by rw [ho]; exact hcd.2)
   rw [hcd.1] at this; cases this
  ·rename_i hx
   rw [hx] at hcd
   simp only [isOwB,Bool.true_and,Bool.or_eq_false_iff,Bool.not_eq_false'] at hcd
   have:=hwr (by rw [ho]; exact hcd.2)
   rw [hcd.1] at this; cases this
  ·rename_i b hb
   obtain ⟨r,hK,hr⟩:=strSlT_sound (P:=P) h
   refine ⟨r,hK,yl (f:=fun ρ=>Instr.sliceAt t (ρ x) (lo.map ρ) (hi.map ρ) none) (fun ρ=>by simp [execOp,ho]) fun F H' m w ρ hrep hops=>hr F H' m w _ _ _ (by rw [← hb]; exact hops x (by simp [ho,Op.operands])) ?_ ?_ ?_ ?_⟩
   ·intro y hy
    obtain ⟨a,rfl,rfl⟩:=Option.map_eq_some_iff.1 hy
    exact ⟨_,rfl,hops a (by simp [ho,Op.operands])⟩
   ·intro hy; simp at hy; simp [hy]
   ·intro y hy
    obtain ⟨a,rfl,rfl⟩:=Option.map_eq_some_iff.1 hy
    exact ⟨_,rfl,hops a (by simp [ho,Op.operands])⟩
   ·intro hy; simp at hy; simp [hy]
  ·obtain ⟨r,hK,hr⟩:=sliceT_sound (P:=P) h
   refine ⟨r,hK,yl (f:=fun ρ=>Instr.sliceAt t (ρ x) (lo.map ρ) (hi.map ρ) none) (fun ρ=>by simp [execOp,ho]) fun F H' m w ρ hrep hops=>hr F H' m w _ _ _ (hops x (by simp [ho,Op.operands])) ?_ ?_ ?_ ?_⟩
   ·intro y hy
    obtain ⟨a,rfl,rfl⟩:=Option.map_eq_some_iff.1 hy
    exact ⟨_,rfl,hops a (by simp [ho,Op.operands])⟩
   ·intro hy; simp at hy; simp [hy]
   ·intro y hy
    obtain ⟨a,rfl,rfl⟩:=Option.map_eq_some_iff.1 hy
    exact ⟨_,rfl,hops a (by simp [ho,Op.operands])⟩
   ·intro hy; simp at hy; simp [hy]
 ·rename_i s x f ho
  obtain ⟨r,hK,hr⟩:=fieldAddrT_sound (P:=P) h
  exact ⟨r,hK,yl (f:=fun ρ=>Instr.fieldAt s (ρ x) f) (fun ρ=>by simp [execOp,ho]) fun F H' m w ρ hrep hops=>hr F H' m w _ (hops x (by simp [ho,Op.operands]))⟩
 ·rename_i s x f ho
  obtain ⟨r,hK,hr⟩:=fieldT_sound (P:=P) h
  exact ⟨r,hK,yl (f:=fun ρ=>Instr.field s (ρ x) f) (fun ρ=>by simp [execOp,ho]) fun F H' m w ρ hrep hops=>hr F H' m w _ (hops x (by simp [ho,Op.operands]))⟩
 ·rename_i t x i ho
  simp only [ho,pureOp] at hp
  simp only [hp,if_true] at h
  obtain ⟨r,hK,hr⟩:=indexQ_sound (P:=P) h
  exact ⟨r,hK,yl (f:=fun ρ=>Instr.indexAt t (ρ x) (ρ i)) (fun ρ=>by simp [execOp,ho]) fun F H' m w ρ hrep hops=>hr F H' m w _ _ (hops x (by simp [ho,Op.operands])) (hops i (by simp [ho,Op.operands]))⟩
 ·rename_i x i ho
  obtain ⟨r,hK,hr⟩:=extractT_sound (P:=P) h
  exact ⟨r,hK,yl (f:=fun ρ=>Instr.extract (ρ x) i) (fun ρ=>by simp [execOp,ho]) fun F H' m w ρ hrep hops=>hr F H' m w _ (hops x (by simp [ho,Op.operands]))⟩
 ·rename_i t x i ho
  obtain ⟨r,hK,hr⟩:=indexT_sound (P:=P) h
  exact ⟨r,hK,yl (f:=fun ρ=>Instr.index t (ρ x) (ρ i)) (fun ρ=>by simp [execOp,ho]) fun F H' m w ρ hrep hops=>hr F H' m w _ _ (hops x (by simp [ho,Op.operands])) (hops i (by simp [ho,Op.operands]))⟩
 ·rename_i c ho
  unfold callE at h
  simp only [ho,pureOp] at hp
  split at h
  ·rename_i hc; simp [hc] at hp
  ·rename_i hc; simp [hc] at hp
  ·rename_i hc; simp [hc] at hp
  ·rename_i hc
   split at h
   ·rename_i x y hx
    obtain ⟨r,hK,hr⟩:=minT_sound (P:=P) h
    exact ⟨r,hK,yl (fun ρ=>min_exec ho hc hx ρ) fun F H' m w ρ hrep hops=>hr F H' m w _ _ _ _ (hops x (by simp [ho,Op.operands,Call.operands,hc]; rw [← Array.mem_toList_iff,hx]; simp)) (hops y (by simp [ho,Op.operands,Call.operands,hc]; rw [← Array.mem_toList_iff,hx]; simp))⟩
   ·exact h.elim
  ·rename_i hc
   split at h
   ·rename_i x y hx
    obtain ⟨r,hK,hr⟩:=maxT_sound (P:=P) h
    exact ⟨r,hK,yl (fun ρ=>max_exec ho hc hx ρ) fun F H' m w ρ hrep hops=>hr F H' m w _ _ _ _ (hops x (by simp [ho,Op.operands,Call.operands,hc]; rw [← Array.mem_toList_iff,hx]; simp)) (hops y (by simp [ho,Op.operands,Call.operands,hc]; rw [← Array.mem_toList_iff,hx]; simp))⟩
   ·exact h.elim
  all_goals first | exact h.elim | (rename_i hc; simp [hc] at hp)
 all_goals first | exact h.elim | (rename_i ho; rw [ho] at hp; simp [pureOp] at hp; done) | skip
 rename_i x ho
 split at h
 ·rename_i id off hx
  refine ⟨_,h,fun F H nx=>OpQ.of_yl fun H' m w ρ hsup hrep hops=>?_⟩
  have hr:=hops x (by simp [ho,Op.operands])
  rw [hx] at hr
  have hr0:=hr
  obtain ⟨b,hb,hv⟩:=hr
  exact ⟨pure (ρ x),by simp [execOp,ho,hv],ρ x,rfl,hr0⟩
 ·rename_i xs hx
  refine ⟨_,h,fun F H nx=>OpQ.of_yl fun H' m w ρ hsup hrep hops=>?_⟩
  have hr:=hops x (by simp [ho,Op.operands])
  rw [hx] at hr
  have hr0:=hr
  obtain ⟨b,off,hv,_⟩:=hr
  exact ⟨pure (ρ x),by simp [execOp,ho,hv],ρ x,rfl,hr0⟩
 ·rename_i xs hx
  refine ⟨_,h,fun F H nx=>OpQ.of_yl fun H' m w ρ hsup hrep hops=>?_⟩
  have hr:=hops x (by simp [ho,Op.operands])
  rw [hx] at hr
  obtain ⟨b,off,us,hv,_⟩:=rd_ptr hr
  exact ⟨pure (ρ x),by simp [execOp,ho,hv],ρ x,rfl,hr⟩
 ·exact h.elim

theorem fzFor_quiet {cf : Cfg} {wr : Bool} {st : St} {o : Op} (hc : cutD cf wr st o = false) : fzFor cf st o = st:=by
 have : fzB cf st o = false:=by
  cases o <;> try rfl
  ·exact hc
  ·exact hc
  ·simp only [cutD,Bool.or_eq_false_iff] at hc
   exact hc.2
  ·rename_i c
   obtain ⟨callee,args,ts⟩:=c
   simp only [cutD] at hc
   unfold fzB
   cases callee with
   | value fo =>
    cases fo with
    | func f =>
     simp only [Bool.or_eq_false_iff] at hc
     exact hc.2
    | _=>rfl
   | _=>rfl
 simp [fzFor,this]

theorem opE_quiet {cf : Cfg} {st : St} {o : Op} (hw : mayW cf o = false) (hc : cutB cf st o = false) {K : AV → St → Prop} (h : opE P cf st o K) : opE P cf st o (fun r st'=>st' = st ∧ K r st'):=by
 unfold opE at h ⊢
 split at h <;> first | (simp [mayW] at hw; done) | (simp only [true_and]; exact h) | skip
 ·rename_i t n ps
  simp only [mayW,Bool.or_eq_false_iff] at hw
  simp only [hw.1,hw.2,Bool.false_eq_true,if_false,true_and] at h ⊢
  exact h
 ·rename_i s d x
  simp only [cutB,Bool.or_eq_false_iff] at hc
  simp only [hc.1,Bool.false_eq_true,if_false,true_and] at h ⊢
  exact h
 ·rename_i t l c
  simp only [mayW,Bool.not_eq_false'] at hw
  simp only [hw,if_true,true_and] at h ⊢
  exact h
 ·rename_i t x lo hi
  simp only [cutB] at hc
  split at h
  ·rename_i hx
   rw [hx] at hc
   simp only [isOwn,Bool.true_and,Bool.not_eq_false'] at hc
   rw [Bool.and_eq_true] at hc
   rw [hc.1,Bool.true_or] at h ⊢
   simp only [if_true,true_and] at h ⊢
   exact h
  all_goals
   simp only [true_and]
   exact h
 ·rename_i c
  unfold callE at h ⊢
  simp only [mayW] at hw
  split at h <;> first | exact h.elim | (rename_i hcc; simp [hcc] at hw; done) | (simp only [true_and]; exact h) | skip
  ·rename_i f hf
   simp only [cutB,hf,Bool.or_eq_false_iff,Option.isSome_eq_false_iff,Option.isNone_iff_eq_none] at hc
   simp only [hc.1.1,hc.1.2.1,hc.1.2.2,Bool.false_eq_true,if_false,true_and] at h ⊢
   exact h
  ·rename_i fo hnf hf
   have hg : gV cf (st.ev fo) = false:=by
    cases fo with
    | func f=>exact absurd rfl (hnf f)
    | _=>simpa only [cutB,hf] using hc
   split at h
   ·rename_i f caps hfa
    have hg2 : gF cf f = none:=by simpa [gV,hfa] using hg
    rw [hg2] at h ⊢
    simp only [true_and]
    exact h
   ·exact h.elim
 all_goals first | exact h.elim | (simp [mayW] at hw; done) | (simp only [true_and]; exact h)

structure Same (st s : St) : Prop where
 n : s.n = st.n
 H : s.H = st.H
 nx : s.nx = st.nx
 get : ∀ t,s.get t = st.get t

theorem Same.refl (st : St) : Same st st:=⟨rfl,rfl,rfl,fun _=>rfl⟩

theorem Same.put {st : St} {g : Nat} {x : AV} (h : st.get g = x) : Same st (st.put g x):=by
 unfold St.put
 split
 ·refine ⟨rfl,rfl,rfl,fun t=>?_⟩
  by_cases ht : g = t
  ·subst ht; simp [St.get,look] at h ⊢; exact h.symm
  ·have : (g == t) = false:=by simp [ht]
   simp [St.get,look,this]
 ·exact Same.refl st

def Wants (ops : List Oper) (o : Oper) (get : Nat → AV) (v : Bool) : Prop:=match o.guard with
 | none=>v = true
 | some (j,want)=>∃ g,(ops[j]?).bind (·.dst) = some g ∧ ((∃ t,get g = .c (.b t) ∧ v = (t == want)) ∨ ((∃ l,get g = .t l) ∧ v = false))

def evG (get : Nat → AV) : Operand → AV
 | .tmp t=>get t
 | .const v=>ofV v
 | .global _=>.u
 | .func f=>.c (.a (.func (.func f) #[] #[]))

theorem ev_evG (st : St) : st.ev = evG st.get:=by
 funext x; cases x <;> rfl

structure Step where
 b : Bool
 r : AV
 H : Hp
 nx : Nat

def appOp : Op → Bool
 | .call c=>match c.callee with | .builtin .append=>true | _=>false
 | .buildSlice _ _ _=>true
 | _=>false
def bufOp (cf : Cfg) (o : Op) : Bool:=(ownOp cf o && !gOp cf o) || appOp o
theorem addBuf_box (H : Hp) (i : Nat) (B : Buf) : (H.addBuf i B).box = H.box:=rfl
theorem appT_box {H : Hp} {nx : Nat} {t : TypeId} {x y : AV} {K : AV → Hp → Nat → Prop} (h : appT P H nx t x y K) : appT P H nx t x y (fun r H' nx'=>H'.box = H.box ∧ K r H' nx'):=by
 unfold appT at *
 repeat' split at h
 all_goals first | exact h.elim | skip
 all_goals simp [*,addBuf_box]
theorem appZT_box {H : Hp} {nx : Nat} {t t' : TypeId} {x y : AV} {K : AV → Hp → Nat → Prop} (h : appZT P H nx t t' x y K) : appZT P H nx t t' x y (fun r H' nx'=>H'.box = H.box ∧ K r H' nx'):=by
 unfold appZT at *
 repeat' split at h
 all_goals first | exact h.elim | skip
 all_goals simp [*,addBuf_box]
theorem appST_box {H : Hp} {nx : Nat} {t : TypeId} {x y : AV} {K : AV → Hp → Nat → Prop} (h : appST P H nx t x y K) : appST P H nx t x y (fun r H' nx'=>H'.box = H.box ∧ K r H' nx'):=by
 unfold appST at *
 repeat' split at h
 all_goals first | exact h.elim | skip
 all_goals simp [*,addBuf_box]
theorem lit0T_box {H : Hp} {nx : Nat} {t : TypeId} {K : AV → Hp → Nat → Prop} (h : lit0T P H nx t K) : lit0T P H nx t (fun r H' nx'=>H'.box = H.box ∧ K r H' nx'):=by
 unfold lit0T at *
 repeat' split at h
 all_goals first | exact h.elim | skip
 all_goals simp [*,addBuf_box]
theorem litOT_box {H : Hp} {nx : Nat} {t : TypeId} {n : Nat} {ps : List (Nat × AV)} {K : AV → Hp → Nat → Prop} (h : litOT P H nx t n ps K) : litOT P H nx t n ps (fun r H' nx'=>H'.box = H.box ∧ K r H' nx'):=by
 unfold litOT at *
 repeat' split at h
 all_goals first | exact h.elim | skip
 all_goals simp [*,addBuf_box]
theorem app_box {cf : Cfg} {st : St} {o : Op} (ha : appOp o = true) {K : AV → St → Prop} (h : opE P cf st o K) : opE P cf st o (fun r st'=>st'.H.box = st.H.box ∧ K r st'):=by
 unfold appOp at ha
 split at ha
 ·rename_i c
  obtain ⟨callee,args,ts⟩:=c
  simp only at ha
  split at ha
  ·simp only [opE,callE] at h ⊢
   split at h
   ·split at h
    ·rename_i ht; rw [if_pos ht]; exact appT_box h
    ·rename_i ht; rw [if_neg ht]
     split at h
     ·rename_i hs; rw [if_pos hs]; exact appST_box h
     ·rename_i hs; rw [if_neg hs]; exact appZT_box h
   ·exact h.elim
  ·cases ha
 ·rename_i t n ps
  simp only [opE] at h ⊢
  split at h
  ·rename_i hn; rw [if_pos hn]; exact ⟨h.1,lit0T_box h.2⟩
  rename_i hn
  rw [if_neg hn]
  split at h
  ·rename_i hw; rw [if_pos hw]; simp only [true_and]; exact h
  rename_i hw
  rw [if_neg hw]
  split at h
  ·rename_i hl; rw [if_pos hl]; exact litOT_box h
  ·rename_i hl; rw [if_neg hl]; split at h <;> simp only [*,if_true,if_false,Bool.false_eq_true,true_and] <;> exact h
 ·cases ha
def pureR (cf : Cfg) (ops : List Oper) (o : Op) : Bool:=pureOp cf o && (!bothSl o || hasW cf ops)
theorem pureR_p {cf : Cfg} {ops : List Oper} {o : Op} (h : pureR cf ops o = true)   : pureOp cf o = true ∧ (bothSl o = true → hasW cf ops = true):=by
 unfold pureR at h
 obtain ⟨h1,h2⟩:=Bool.and_eq_true_iff.1 h
 refine ⟨h1,fun hb=>?_⟩
 rw [hb] at h2
 simpa using h2
def StepB (P : Program) (cf : Cfg) (ops : List Oper) (o : Oper) (get : Nat → AV) (H : Hp) (nx : Nat) (s : Step) : Prop :=
 (∀ t q id off,o.op = .load t (.tmp q) → get q = .bx id off → ∀ (F : Fr) (H1 : Hp) (nx1 : Nat),look H1.box id = look H.box id → OpQ P F H1 nx1 nx1 o (evG get) s.r) ∧
 (∀ t q x id off,o.op = .store t (.tmp q) x → get q = .bx id off → ∀ i,i ≠ id → look s.H.box i = look H.box i) ∧
 (∀ e,o.op = .alloc e → s.r = .bx nx 0 ∧ s.nx = nx + 1 ∧ (∃ cs,s.H = H.addBox nx cs) ∧ ∀ F : Fr,OpQ P F s.H nx s.nx o (evG get) s.r) ∧
 (∀ t q id off f,o.op = .fieldAddr t (.tmp q) f → get q = .bx id off → ∃ off',s.r = .bx id off') ∧
 (bufOp cf o.op = true → s.H.box = H.box) ∧
 (gOp cf o.op = true → ∀ o' ∈ ops,∀ id,loadBx get nx ops.toArray o' = some id → look s.H.box id = look H.box id) ∧
 (∀ q id off,o.op = .move (.tmp q) ∨ o.op = .nilCheck (.tmp q) → get q = .bx id off → s.r = .bx id off)

def StepP (P : Program) (cf : Cfg) (dr : Bool) (ops : List Oper) (o : Oper) (get : Nat → AV) (H : Hp) (nx : Nat) (s : Step) : Prop :=
 Wants ops o get s.b ∧ (s.b = false → s.r = .t [] ∧ s.H = H ∧ s.nx = nx) ∧
 (s.b = true → nx ≤ s.nx ∧ ((s.H.buf = H.buf ∧ ((∀ i,i < nx → look s.H.box i = look H.box i) ∧ s.H.bor = H.bor) ∧ ∀ F : Fr,OpQ P F s.H nx s.nx o (evG get) s.r) ∨ ∀ F : Fr,OpW P F H s.H nx s.nx o (evG get) s.r) ∧
  (pureR cf ops o.op = true → s.H = H ∧ s.nx = nx ∧ ∀ (F : Fr) (H : Hp) (nx : Nat),OpQ P F H nx nx o (evG get) s.r) ∧ (dr = true → mayWc cf o.op = false → s.H = H ∧ s.nx = nx ∧ ∀ F : Fr,OpQ P F H nx nx o (evG get) s.r) ∧ StepB P cf ops o get H nx s)

def upd (get : Nat → AV) (d : Option Nat) (r : AV) : Nat → AV:=match d with | some d=>fun t=>if t = d then r else get t | none=>get

def TrP (P : Program) (cf : Cfg) (dr : Bool) (ops : List Oper) : List Oper → (Nat → AV) → Hp → Nat → List Step → (Nat → AV) → Hp → Nat → Prop
 | [],get,H,nx,[],get',H',nx'=>get' = get ∧ H' = H ∧ nx' = nx
 | o :: os,get,H,nx,s :: tr,get',H',nx'=>StepP P cf dr ops o get H nx s ∧ TrP P cf dr ops os (upd get o.dst s.r) s.H s.nx tr get' H' nx'
 | _,_,_,_,_,_,_,_=>False

theorem get_putO {st : St} {d : Option Nat} {r : AV} (hd : ∀ t,d = some t → t < st.n) : (st.putO d r).get = upd st.get d r:=by
 funext t
 cases d with
 | none=>rfl
 | some d =>
  have:=hd d rfl
  simp only [St.putO,St.put,this,if_true,upd]
  by_cases ht : t = d
  ·subst ht; simp [St.get,look]
  ·have h2 : (d == t) = false:=by simp; omega
   simp [St.get,look,h2,ht]

theorem loadT_box {H : Hp} {t : TypeId} {id off : Nat} {K : AV → Prop} (h : loadT P H t (.bx id off) K) : ∃ r,K r ∧ ∀ H1 : Hp,look H1.box id = look H.box id → loadT P H1 t (.bx id off) (fun r'=>r' = r):=by
 unfold loadT at h ⊢
 cases hag : aggO P t with
 | none=>rw [hag] at h; exact h.elim
 | some ag =>
  rw [hag] at h
  cases ag with
  | false =>
   simp only at h ⊢
   split at h
   ·rename_i cs hcs
    obtain ⟨hm,h⟩:=h
    split at h
    ·rename_i y hy
     exact ⟨y,h,fun H1 h1=>by simp only [h1,hcs,hy]; exact ⟨hm,trivial⟩⟩
    ·exact h.elim
   ·exact h.elim
  | true =>
   cases hsz : szO P t with
   | none=>rw [hsz] at h; exact h.elim
   | some z =>
    rw [hsz] at h
    simp only at h ⊢
    split at h
    ·rename_i cs hcs
     obtain ⟨hm,h⟩:=h
     split at h
     ·rename_i l hl
      exact ⟨_,h.2,fun H1 h1=>by simp only [h1,hcs,hl]; exact ⟨hm,h.1,trivial⟩⟩
     ·rename_i hl0
      split at h
      ·rename_i l hl
       exact ⟨_,h.2,fun H1 h1=>by simp only [h1,hcs,hl0,hl]; exact ⟨hm,h.1,trivial⟩⟩
      ·exact h.elim
    ·exact h.elim
theorem storeT_box {H : Hp} {t : TypeId} {id off : Nat} {x : AV} {K : Hp → Prop} (h : storeT P H t (.bx id off) x K) : storeT P H t (.bx id off) x (fun H'=>K H' ∧ ∀ i,i ≠ id → look H'.box i = look H.box i):=by
 unfold storeT at h ⊢
 simp only at h ⊢
 split at h
 ·exact ⟨h.1,h.2.1,h.2.2.1,h.2.2.2,fun i hi=>look_add_ne _ _ _ _ hi⟩
 ·exact h.elim

theorem evalOps_tr {cf : Cfg} (hcf : TblOk P cf) {ops : List Oper} {K : St → Prop} : ∀ (os : List Oper) (st : St),(∀ o ∈ os,∀ t,o.dst = some t → t < st.n) → evalOps P cf true ops os st K →
  ∃ tr fin,K fin ∧ fin.n = st.n ∧ TrP P cf true ops os st.get st.H st.nx tr fin.get fin.H fin.nx
 | [],st,_,h=>⟨[],st,h,rfl,rfl,rfl,rfl⟩
 | o :: os,st,hd,h=>by
  have hdo:=hd o (List.mem_cons_self ..)
  have hdr : ∀ o ∈ os,∀ t,o.dst = some t → t < st.n:=fun o' ho'=>hd o' (List.mem_cons_of_mem _ ho')
  have hputn : ∀ (s : St) (r : AV),(s.putO o.dst r).n = s.n:=by
   intro s r; cases o.dst <;> simp [St.putO,St.put]; split <;> rfl
  have run : ∀ s1 : St,Same st s1 → Wants ops o st.get true → (true && cutD cf (hasW cf ops) s1 o.op) = false → opE P cf (fzFor cf s1 o.op) o.op (fun r st'=>gKeep true cf ops s1 o.op st'.H ∧ evalOps P cf true ops os (st'.putO o.dst r) K) →
    ∃ tr fin,K fin ∧ fin.n = st.n ∧ TrP P cf true ops (o :: os) st.get st.H st.nx tr fin.get fin.H fin.nx:=by
   intro s1 hsame hw hcut h
   have hcut2 : cutD cf (hasW cf ops) s1 o.op = false:=by simpa using hcut
   rw [fzFor_quiet hcut2] at h
   have hev : s1.ev = evG st.get:=by rw [ev_evG]; congr 1; funext t; exact hsame.get t
   have fin : ∀ (r : AV) (s2 : St),s2.n = s1.n → s2.sl = s1.sl → evalOps P cf true ops os (s2.putO o.dst r) K → StepP P cf true ops o st.get st.H st.nx ⟨true,r,s2.H,s2.nx⟩ →
     ∃ tr fin,K fin ∧ fin.n = st.n ∧ TrP P cf true ops (o :: os) st.get st.H st.nx tr fin.get fin.H fin.nx:=by
    intro r s2 hn hsl hk hstep
    have hn2 : (s2.putO o.dst r).n = st.n:=by rw [hputn,hn,hsame.n]
    obtain ⟨tr,fin,h1,h2,h3⟩:=evalOps_tr hcf os (s2.putO o.dst r) (fun o' ho' t ht=>by rw [hn2]; exact hdr o' ho' t ht) hk
    have hg : (s2.putO o.dst r).get = upd st.get o.dst r:=by
     rw [get_putO (fun t ht=>by rw [hn,hsame.n]; exact hdo t ht)]
     congr 1
     funext t
     have : s2.get t = s1.get t:=by simp [St.get,hsl]
     rw [this,hsame.get]
    have hH : (s2.putO o.dst r).H = s2.H:=by cases o.dst <;> simp [St.putO,St.put]; split <;> rfl
    have hx : (s2.putO o.dst r).nx = s2.nx:=by cases o.dst <;> simp [St.putO,St.put]; split <;> rfl
    rw [hg,hH,hx] at h3
    exact ⟨⟨true,r,s2.H,s2.nx⟩ :: tr,fin,h1,h2.trans hn2,hstep,h3⟩
   by_cases hp : pureR cf ops o.op = true
   ·have key : ∃ r,(gKeep true cf ops s1 o.op s1.H ∧ evalOps P cf true ops os (s1.putO o.dst r) K) ∧ (∀ t q id off f,o.op = .fieldAddr t (.tmp q) f → st.get q = .bx id off → ∃ off',r = .bx id off') ∧ (∀ q id off,o.op = .move (.tmp q) ∨ o.op = .nilCheck (.tmp q) → st.get q = .bx id off → r = .bx id off) ∧ ∀ (F : Fr) (H : Hp) (nx : Nat),OpQ P F H nx nx o s1.ev r:=by
     by_cases hf : ∃ t q id off f,o.op = .fieldAddr t (.tmp q) f ∧ st.get q = .bx id off
     ·obtain ⟨t,q,id,off,f,ho,hg⟩:=hf
      have h2 : opE P cf s1 o.op (fun r st'=>(gKeep true cf ops s1 o.op st'.H ∧ evalOps P cf true ops os (st'.putO o.dst r) K) ∧ ∃ off',r = .bx id off'):=by
       have e : s1.ev (.tmp q) = .bx id off:=by rw [hev]; exact hg
       rw [ho] at h ⊢
       simp only [opE,e,fieldAddrT] at h ⊢
       split at h
       ·split at h
        ·exact ⟨h,_,rfl⟩
        ·exact h.elim
       ·exact h.elim
      obtain ⟨r,⟨hk,hx⟩,hq⟩:=opE_pure hcf (pureR_p hp).1 (pureR_p hp).2 hcut2 h2
      refine ⟨r,hk,fun t2 q2 id2 off2 f2 ho2 hg2=>?_,fun q2 id2 off2 ho2 hg2=>?_,hq⟩
      ·rw [ho] at ho2; cases ho2
       rw [hg] at hg2; cases hg2
       exact hx
      ·rw [ho] at ho2
       rcases ho2 with ho2 | ho2 <;> cases ho2
     ·by_cases hm : ∃ q id off,(o.op = .move (.tmp q) ∨ o.op = .nilCheck (.tmp q)) ∧ st.get q = .bx id off
      ·obtain ⟨q,id,off,ho,hg⟩:=hm
       have e : s1.ev (.tmp q) = .bx id off:=by rw [hev]; exact hg
       have h2 : opE P cf s1 o.op (fun r st'=>(gKeep true cf ops s1 o.op st'.H ∧ evalOps P cf true ops os (st'.putO o.dst r) K) ∧ r = .bx id off):=by
        rcases ho with ho | ho
        ·rw [ho] at h ⊢
         simp only [opE,e] at h ⊢
         exact ⟨h,trivial⟩
        ·rw [ho] at h ⊢
         simp only [opE,e] at h ⊢
         exact ⟨h,trivial⟩
       obtain ⟨r,⟨hk,hx⟩,hq⟩:=opE_pure hcf (pureR_p hp).1 (pureR_p hp).2 hcut2 h2
       refine ⟨r,hk,fun t q id off f ho hg=>absurd ⟨t,q,id,off,f,ho,hg⟩ hf,fun q2 id2 off2 ho2 hg2=>?_,hq⟩
       have eq : q2 = q:=by
        rcases ho with ho | ho <;> rw [ho] at ho2 <;> rcases ho2 with ho2 | ho2 <;> cases ho2 <;> rfl
       subst eq
       rw [hg] at hg2; cases hg2
       exact hx
      ·obtain ⟨r,hk,hq⟩:=opE_pure hcf (pureR_p hp).1 (pureR_p hp).2 hcut2 h
       exact ⟨r,hk,fun t q id off f ho hg=>absurd ⟨t,q,id,off,f,ho,hg⟩ hf,fun q id off ho hg=>absurd ⟨q,id,off,ho,hg⟩ hm,hq⟩
    obtain ⟨r,hk,hfa,hmv,hq⟩:=key
    rw [hev] at hq
    refine fin r s1 rfl rfl hk.2 ⟨hw,fun h=>by simp at h,fun _=>⟨by show st.nx ≤ s1.nx; rw [hsame.nx]; exact Nat.le_refl _,.inl ⟨by show s1.H.buf = _; rw [hsame.H],⟨fun i _=>by show look s1.H.box i = _; rw [hsame.H],by show s1.H.bor = _; rw [hsame.H]⟩,fun F=>?_⟩,fun _=>⟨hsame.H,hsame.nx,hq⟩,fun _ _=>⟨hsame.H,hsame.nx,fun F=>hq F _ _⟩,fun t q id off he=>by rw [he] at hp; simp [pureR,pureOp,bothSl] at hp,fun t q x id off he=>by rw [he] at hp; simp [pureR,pureOp,bothSl] at hp,fun e he=>by (rw [he] at hp; simp [pureR,pureOp,bothSl] at hp),hfa,fun _=>by show s1.H.box = _; rw [hsame.H],fun _ _ _ _ _=>by (show look s1.H.box _ = _; rw [hsame.H]),hmv⟩⟩
    ·show OpQ P F s1.H st.nx s1.nx o _ _
     rw [hsame.nx]; exact hq F _ _
   ·by_cases hlb : ∃ t q id off,o.op = .load t (.tmp q) ∧ st.get q = .bx id off
    ·obtain ⟨t,q,id,off,ho,hg⟩:=hlb
     have h' : loadT P s1.H t (.bx id off) (fun r=>(gKeep true cf ops s1 (.load t (.tmp q)) s1.H ∧ evalOps P cf true ops os (s1.putO o.dst r) K)):=by
      have e : s1.ev (.tmp q) = .bx id off:=by rw [hev]; exact hg
      have h2:=h
      rw [ho] at h2
      simp only [opE,e] at h2
      exact h2
     obtain ⟨r,hk,hall⟩:=loadT_box h'
     have hqq : ∀ (F : Fr) (H1 : Hp) (nx1 : Nat),look H1.box id = look st.H.box id → OpQ P F H1 nx1 nx1 o (evG st.get) r:=fun F H1 nx1 he=>by
      obtain ⟨r',rfl,hr⟩:=loadT_sound (hall H1 (by rw [hsame.H]; exact he))
      refine OpQ.of_yl fun H' m w ρ hsup hrep hops=>⟨Instr.loadAt t (ρ (.tmp q)),by simp [execOp,ho],hr F H' m w _ hsup hrep ?_⟩
      have:=hops (.tmp q) (by simp [ho,Op.operands])
      rw [show evG st.get (.tmp q) = .bx id off from hg] at this
      exact this
     refine fin r s1 rfl rfl hk.2 ⟨hw,fun h=>by simp at h,fun _=>⟨by show st.nx ≤ s1.nx; rw [hsame.nx]; exact Nat.le_refl _,.inl ⟨by show s1.H.buf = _; rw [hsame.H],⟨fun i _=>by show look s1.H.box i = _; rw [hsame.H],by show s1.H.bor = _; rw [hsame.H]⟩,fun F=>?_⟩,fun h=>absurd h hp,fun _ _=>⟨hsame.H,hsame.nx,fun F=>hqq F _ _ rfl⟩,fun t2 q2 id2 off2 he hg2 F H1 nx1 hl=>?_,fun t2 q2 x id2 off2 he=>by (rw [ho] at he; cases he),fun e he=>by (rw [ho] at he; cases he),fun t3 q3 id3 off3 f3 he=>by (rw [ho] at he; cases he),fun _=>by show s1.H.box = _; rw [hsame.H],fun _ _ _ _ _=>by (show look s1.H.box _ = _; rw [hsame.H]),fun q id off ho2=>by (rw [ho] at ho2; rcases ho2 with h | h <;> cases h)⟩⟩
     ·show OpQ P F s1.H st.nx s1.nx o _ _
      rw [hsame.nx,hsame.H]; exact hqq F _ _ rfl
     ·rw [ho] at he; cases he
      rw [hg] at hg2; cases hg2
      exact hqq F H1 nx1 hl
    by_cases hq : mayWc cf o.op = false
    ·have hmw:=hq
     obtain ⟨hmw1,hmw2⟩:=mayWc_f hmw
     have hcut3:=cutB_of hmw2 hcut2
     obtain ⟨r,s2,⟨hs2,hk⟩,h1,h2,h3,h4⟩:=opE_sound hcf (opE_quiet hmw1 hcut3 h)
     subst hs2
     rcases h4 with ⟨h4,h5,h6⟩ | ⟨h4,_⟩
     ·rw [hev,hsame.H,hsame.nx] at h6
      refine fin r s2 h1 h2 hk.2 ⟨hw,fun h=>by simp at h,fun _=>⟨by show st.nx ≤ s2.nx; rw [hsame.nx]; exact Nat.le_refl _,.inl ⟨by show s2.H.buf = _; rw [hsame.H],⟨fun i _=>by show look s2.H.box i = _; rw [hsame.H],by show s2.H.bor = _; rw [hsame.H]⟩,fun F=>?_⟩,fun h=>absurd h hp,fun _ _=>⟨hsame.H,hsame.nx,h6⟩,fun t2 q2 id2 off2 he hg2=>absurd ⟨t2,q2,id2,off2,he,hg2⟩ hlb,fun t2 q2 x id2 off2 he=>by rw [he] at hmw; simp [mayWc,ownOp,gOp,mayW] at hmw,fun e he=>by (rw [he] at hmw; simp [mayWc,ownOp,gOp,mayW] at hmw),fun t3 q3 id3 off3 f3 he=>by (rw [he] at hp; simp [pureR,pureOp,bothSl] at hp),fun _=>by show s2.H.box = _; rw [hsame.H],fun _ _ _ _ _=>by (show look s2.H.box _ = _; rw [hsame.H]),fun q id off ho2=>absurd (by rcases ho2 with h | h <;> rw [h] <;> rfl) hp⟩⟩
      show OpQ P F s2.H st.nx s2.nx o _ _
      rw [hsame.H,hsame.nx]; exact h6 F
     ·rw [hmw1,hcut3] at h4; simp at h4
    ·have hlast : ∃ r s2,(evalOps P cf true ops os (s2.putO o.dst r) K ∧ (∀ t q x id off,o.op = .store t (.tmp q) x → st.get q = .bx id off → ∀ i,i ≠ id → look s2.H.box i = look st.H.box i) ∧ (∀ e,o.op = .alloc e → r = .bx st.nx 0 ∧ s2.nx = st.nx + 1 ∧ (∃ cs,s2.H = st.H.addBox st.nx cs) ∧ ∀ F : Fr,OpQ P F s2.H st.nx s2.nx o (evG st.get) r) ∧ (bufOp cf o.op = true → s2.H.box = st.H.box) ∧ (gOp cf o.op = true → ∀ o' ∈ ops,∀ id,loadBx st.get st.nx ops.toArray o' = some id → look s2.H.box id = look st.H.box id)) ∧ OpS P cf s1 s2 o r:=by
      by_cases hal : ∃ e,o.op = .alloc e
      ·obtain ⟨e,ho⟩:=hal
       rw [ho] at h
       simp only [opE] at h
       split at h
       ·rename_i zs hz
        obtain ⟨h1,hK⟩:=h
        refine ⟨_,_,⟨hK.2,fun t q x id off he=>by (rw [ho] at he; cases he),fun e' he=>⟨by rw [hsame.nx],by show s1.nx + 1 = _; rw [hsame.nx],⟨_,by show s1.H.addBox s1.nx _ = _; rw [hsame.H,hsame.nx]⟩,fun F=>?_⟩,?_,fun hx=>by (rw [ho] at hx; simp [gOp] at hx)⟩,rfl,rfl,Nat.le_succ _,.inl ⟨rfl,⟨fun i hi=>look_add_ne _ _ _ _ (by omega),rfl⟩,fun F=>OpQ.alloc ho hz h1⟩⟩
        ·rw [← hev,← hsame.nx]; exact OpQ.alloc ho hz h1
        ·intro hx; rw [ho] at hx; simp [bufOp,appOp,ownOp] at hx
       ·exact h.elim
      by_cases hsb : ∃ t q x id off,o.op = .store t (.tmp q) x ∧ st.get q = .bx id off
      ·obtain ⟨t,q,x,id,off,ho,hg⟩:=hsb
       have h' : opE P cf s1 o.op (fun r s2=>(gKeep true cf ops s1 o.op s2.H ∧ evalOps P cf true ops os (s2.putO o.dst r) K) ∧ ∀ i,i ≠ id → look s2.H.box i = look s1.H.box i):=by
        have e : s1.ev (.tmp q) = .bx id off:=by rw [hev]; exact hg
        rw [ho] at h ⊢
        simp only [opE,e] at h ⊢
        exact storeT_box h
       obtain ⟨r,s2,⟨hk,hl⟩,hop⟩:=opE_sound hcf h'
       refine ⟨r,s2,⟨hk.2,fun t2 q2 x2 id2 off2 he hg2 i hi=>?_,fun e he=>absurd ⟨e,he⟩ hal,fun hx=>by (rw [ho] at hx; simp [bufOp,appOp,ownOp] at hx),fun hx=>by (rw [ho] at hx; simp [gOp] at hx)⟩,hop⟩
       rw [ho] at he; cases he
       rw [hg] at hg2; cases hg2
       rw [hl i hi,hsame.H]
      by_cases hgo : gOp cf o.op = true
      ·obtain ⟨r,s2,hk,hop⟩:=opE_sound hcf h
       refine ⟨r,s2,⟨hk.2,fun t2 q2 x2 id2 off2 he hg2=>absurd ⟨t2,q2,x2,id2,off2,he,hg2⟩ hsb,fun e he=>absurd ⟨e,he⟩ hal,fun hx=>?_,fun _ o' ho' id hid=>?_⟩,hop⟩
       ·unfold bufOp at hx
        rw [hgo,Bool.not_true,Bool.and_false,Bool.false_or] at hx
        unfold appOp at hx
        unfold gOp at hgo
        split at hx
        ·rename_i c ho
         rw [ho] at hgo
         simp only at hgo
         split at hx
         ·rename_i hc; rw [hc] at hgo; cases hgo
         ·cases hx
        ·rename_i ho; rw [ho] at hgo; cases hgo
        ·cases hx
       ·have hkk:=hk.1
        unfold gKeep at hkk
        rw [hgo] at hkk
        simp only [Bool.true_and] at hkk
        rw [hsame.nx,show s1.get = st.get from funext hsame.get,hsame.H] at hkk
        exact keepL_mem hkk (List.mem_filterMap.2 ⟨o',ho',hid⟩)
      by_cases how : ownOp cf o.op = true
      ·obtain ⟨c,f,ho,hc,hof⟩ : ∃ c f,o.op = .call c ∧ c.callee = .value (.func f) ∧ ownF cf f = true:=by
        unfold ownOp at how
        split at how
        ·rename_i c ho
         split at how
         ·rename_i f hc
          exact ⟨c,f,ho,hc,how⟩
         ·cases how
        ·cases how
       have hcc : c = { callee:=.value (.func f),args:=c.args,argTypes:=c.argTypes }:=by obtain ⟨a,b,d⟩:=c; simp at hc; subst hc; rfl
       have h':=h
       rw [ho] at h'
       have hg : gF cf f = none:=by
        cases hq : gF cf f with
        | none=>rfl
        | some tr=>exact absurd (by rw [ho]; simp [gOp,hc,hq]) hgo
       simp only [opE,callE,hc,hof,hg,if_true] at h'
       obtain ⟨r,H',nx',hK,hbx,hnx,hr⟩:=callOT_sound (P:=P) hcf (nx:=s1.nx) (o:=o) (ev:=s1.ev) (f:=f) (args:=c.args) (ts:=c.argTypes) rfl (by rw [ho,hcc]) h'
       exact ⟨r,_,⟨hK.2,fun t2 q2 x2 id2 off2 he hg2=>absurd ⟨t2,q2,x2,id2,off2,he,hg2⟩ hsb,fun e he=>absurd ⟨e,he⟩ hal,fun _=>by (show H'.box = _; rw [hbx,hsame.H]),fun hx=>absurd hx hgo⟩,OpS.writes (by simp [ho,cutB,hc,hof]) hnx hr⟩
      by_cases hap : appOp o.op = true
      ·obtain ⟨r,s2,⟨hb,hk⟩,hop⟩:=opE_sound hcf (app_box hap h)
       exact ⟨r,s2,⟨hk.2,fun t2 q2 x2 id2 off2 he hg2=>absurd ⟨t2,q2,x2,id2,off2,he,hg2⟩ hsb,fun e he=>absurd ⟨e,he⟩ hal,fun _=>by (rw [hb,hsame.H]),fun hx=>absurd hx hgo⟩,hop⟩
      ·obtain ⟨r,s2,hk,hop⟩:=opE_sound hcf h
       exact ⟨r,s2,⟨hk.2,fun t2 q2 x2 id2 off2 he hg2=>absurd ⟨t2,q2,x2,id2,off2,he,hg2⟩ hsb,fun e he=>absurd ⟨e,he⟩ hal,fun hx=>by
        unfold bufOp at hx
        rcases Bool.or_eq_true_iff.1 hx with hx | hx
        ·exact absurd (Bool.and_eq_true_iff.1 hx).1 how
        ·exact absurd hx hap,fun hx=>absurd hx hgo⟩,hop⟩
     obtain ⟨r,s2,⟨hk,hsb⟩,h1,h2,h3,h4⟩:=hlast
     rw [hev,hsame.H,hsame.nx] at h4
     rw [hsame.nx] at h3
     exact fin r s2 h1 h2 hk ⟨hw,fun h=>by simp at h,fun _=>⟨h3,h4.elim .inl (fun h=>.inr h.2),fun h=>absurd h hp,fun h1 h2=>absurd h2 hq,fun t2 q2 id2 off2 he hg2=>absurd ⟨t2,q2,id2,off2,he,hg2⟩ hlb,hsb.1,hsb.2.1,fun t3 q3 id3 off3 f3 he=>by (rw [he] at hp; simp [pureR,pureOp,bothSl] at hp),hsb.2.2.1,hsb.2.2.2,fun q id off ho2=>absurd (by rcases ho2 with h | h <;> rw [h] <;> rfl) hp⟩⟩
  have skip : ∀ s1 : St,Same st s1 → Wants ops o st.get false → evalOps P cf true ops os (s1.putO o.dst (.t [])) K → ∃ tr fin,K fin ∧ fin.n = st.n ∧ TrP P cf true ops (o :: os) st.get st.H st.nx tr fin.get fin.H fin.nx:=by
   intro s1 hsame hw hk
   have hn2 : (s1.putO o.dst (.t [])).n = st.n:=by rw [hputn,hsame.n]
   obtain ⟨tr,fin,h1,h2,h3⟩:=evalOps_tr hcf os (s1.putO o.dst (.t [])) (fun o' ho' t ht=>by rw [hn2]; exact hdr o' ho' t ht) hk
   have hg : (s1.putO o.dst (.t [])).get = upd st.get o.dst (.t []):=by
    rw [get_putO (fun t ht=>by rw [hsame.n]; exact hdo t ht)]
    congr 1
    funext t
    exact hsame.get t
   have hH : (s1.putO o.dst (.t [])).H = st.H:=by rw [← hsame.H]; cases o.dst <;> simp [St.putO,St.put]; split <;> rfl
   have hx : (s1.putO o.dst (.t [])).nx = st.nx:=by rw [← hsame.nx]; cases o.dst <;> simp [St.putO,St.put]; split <;> rfl
   rw [hg,hH,hx] at h3
   exact ⟨⟨false,.t [],st.H,st.nx⟩ :: tr,fin,h1,h2.trans hn2,⟨hw,fun _=>⟨rfl,rfl,rfl⟩,fun h=>by simp at h⟩,h3⟩
  simp only [evalOps] at h
  split at h
  ·rename_i hg
   exact run st (Same.refl st) (by simp [Wants,hg]) h.1 h.2
  ·rename_i j want hg
   split at h
   ·rename_i g hj
    split at h
    ·rename_i t ht
     obtain ⟨h1,h2⟩:=h
     by_cases htw : t = want
     ·subst htw
      exact run _ (Same.put ht) (by simp only [Wants,hg]; exact ⟨g,hj,.inl ⟨t,ht,by simp⟩⟩) (h1 rfl).1 (h1 rfl).2
     ·have hne : t = !want:=by cases t <;> cases want <;> simp_all
      exact skip _ (Same.put (by rw [ht,hne])) (by simp only [Wants,hg]; exact ⟨g,hj,.inl ⟨t,ht,by simp [htw]⟩⟩) (h2 hne)
    ·rename_i tl ht
     exact skip st (Same.refl st) (by unfold Wants; rw [hg]; exact ⟨g,hj,.inr ⟨⟨tl,ht⟩,rfl⟩⟩) h
    ·exact h.elim
   ·exact h.elim

end Go.Abs

namespace Go.Abs
set_option linter.unusedSimpArgs false
set_option linter.unusedVariables false
open Go.RowKit

variable {P : Program} {cf : Cfg}

def ordered (B : Array Nat) (i j : Nat) : Bool:=if j < i then (B.getD i 0).testBit j else (B.getD j 0).testBit i
def dstIn (o : Oper) (l : List Nat) : Bool:=match o.dst with | some t=>l.contains t | none=>false
def sameDst (o p : Oper) : Bool:=match o.dst,p.dst with | some t,some u=>t == u | _,_=>false

def looseOp (o : Oper) : Bool:=match o.op,o.guard with | .alloc _,none=>true | _,_=>false
def pre (cf : Cfg) (ops : Array Oper) : Nat:=(ops.toList.takeWhile fun o=>!mayWc cf o.op || looseOp o).length
def newBx (cf : Cfg) (ops : Array Oper) (q : Nat) : Bool:=(ops.toList.take (pre cf ops)).any fun p=>looseOp p && p.dst == some q
def storeNew (cf : Cfg) (ops : Array Oper) (o : Oper) : Bool:=match o.op with
 | .store _ (.tmp q) _=>newBx cf ops q
 | _=>false
def storeBx (get : Nat → AV) (ops : Array Oper) (o : Oper) : Option Nat:=match o.op with
 | .store _ (.tmp q) _=>match keptTmp ops q,get q with | true,.bx id _=>some id | _,_=>none
 | _=>none
def apartB (cf : Cfg) (get : Nat → AV) (nx : Nat) (ops : Array Oper) (o p : Oper) : Bool:=match loadBx get nx ops o,storeBx get ops p with
 | some a,some b=>a != b
 | some _,none=>storeNew cf ops p || (bufOp cf p.op || gOp cf p.op)
 | _,_=>false
def ordOk (cf : Cfg) (get : Nat → AV) (nx : Nat) (ops : Array Oper) (n : Nat) (B : Array Nat) : Bool :=
 (List.range ops.size).all fun i=>match ops[i]? with
  | none=>true
  | some o =>
   (match o.dst with | some t=>decide (t < n) | none=>true) &&
   (o.after.toList.all fun e=>!Region.binds .any e || decide (e.on < i)) &&
   ((List.range ops.size).all fun j =>
    (!(decide (j < i) && (B.getD i 0).testBit j) || o.after.toList.any fun e=>Region.binds .any e && decide (e.on < i) && (e.on == j || (decide (j < e.on) && (B.getD e.on 0).testBit j))) &&
    (match ops[j]? with
     | none=>true
     | some p=>i == j || ((!dstIn p (o.looksAt ops) || ordered B i j) && !sameDst o p && (!(!pureR cf ops.toList o.op && mayWc cf p.op) || (ordered B i j || (apartB cf get nx ops o p || (decide (j < pre cf ops) && (!mayWc cf o.op || decide (i < pre cf ops)))))))))

def ordOkS (cf : Cfg) (st : St) (ops : Array Oper) (B : Array Nat) : Bool:=ordOk cf st.get st.nx ops st.n B && st.H.box.all fun p=>decide (p.1 < st.nx)

structure OrdP (cf : Cfg) (get : Nat → AV) (nx : Nat) (ops : Array Oper) (n : Nat) (B : Array Nat) : Prop where
 dst : ∀ (i : Nat) (o : Oper) t,ops[i]? = some o → o.dst = some t → t < n
 edge : ∀ (i : Nat) (o : Oper) e,ops[i]? = some o → e ∈ o.after → Region.binds .any e = true → e.on < i
 anc : ∀ (i : Nat) (o : Oper) j,ops[i]? = some o → j < i → (B.getD i 0).testBit j = true → ∃ e ∈ o.after,Region.binds .any e = true ∧ e.on < i ∧ (e.on = j ∨ (j < e.on ∧ (B.getD e.on 0).testBit j = true))
 slot : ∀ (i j : Nat) (o p : Oper) t,ops[i]? = some o → ops[j]? = some p → i ≠ j → p.dst = some t → t ∈ o.looksAt ops → ordered B i j = true
 two : ∀ (i j : Nat) (o p : Oper) t,ops[i]? = some o → ops[j]? = some p → i ≠ j → o.dst = some t → p.dst ≠ some t
 mem : ∀ (i j : Nat) (o p : Oper),ops[i]? = some o → ops[j]? = some p → i ≠ j → pureR cf ops.toList o.op = false → mayWc cf p.op = true → ordered B i j = true ∨ apartB cf get nx ops o p = true ∨ (j < pre cf ops ∧ (mayWc cf o.op = false ∨ i < pre cf ops))

theorem ord_of {get : Nat → AV} {nx : Nat} {ops : Array Oper} {n : Nat} {B : Array Nat} (h : ordOk cf get nx ops n B = true) : OrdP cf get nx ops n B:=by
 have hi : ∀ (i : Nat) (o : Oper),ops[i]? = some o → _:=fun i o ho=>by
  have:=List.all_eq_true.1 h i (List.mem_range.2 (Array.getElem?_eq_some_iff.1 ho).1)
  simp only [ho] at this
  exact this
 have hj : ∀ (i : Nat) (o : Oper) (j : Nat) (p : Oper),ops[i]? = some o → ops[j]? = some p → i ≠ j → ((!dstIn p (o.looksAt ops) || ordered B i j) && !sameDst o p && (!(!pureR cf ops.toList o.op && mayWc cf p.op) || (ordered B i j || (apartB cf get nx ops o p || (decide (j < pre cf ops) && (!mayWc cf o.op || decide (i < pre cf ops))))))) = true:=fun i o j p ho hp hne=>by
  have h1:=hi i o ho
  rw [Bool.and_eq_true] at h1
  have h2:=List.all_eq_true.1 h1.2 j (List.mem_range.2 (Array.getElem?_eq_some_iff.1 hp).1)
  rw [Bool.and_eq_true] at h2
  have h3:=h2.2
  simp only [hp] at h3
  have : (i == j) = false:=by simp [hne]
  rw [this,Bool.false_or] at h3
  exact h3
 refine ⟨?_,?_,?_,?_,?_,?_⟩
 ·intro i o t ho hd
  have h1:=hi i o ho
  simp only [Bool.and_eq_true,hd,decide_eq_true_eq] at h1
  exact h1.1.1
 ·intro i o e ho he hb
  have h1:=hi i o ho
  rw [Bool.and_eq_true,Bool.and_eq_true] at h1
  have h2:=List.all_eq_true.1 h1.1.2 e (Array.mem_toList_iff.2 he)
  simp only [hb,Bool.not_true,Bool.false_or,decide_eq_true_eq] at h2
  exact h2
 ·intro i o j ho hji hb
  have h1:=hi i o ho
  rw [Bool.and_eq_true] at h1
  have hlt:=(Array.getElem?_eq_some_iff.1 ho).1
  have h2:=List.all_eq_true.1 h1.2 j (List.mem_range.2 (by omega))
  rw [Bool.and_eq_true] at h2
  have h3:=h2.1
  simp only [hji,hb,decide_true,Bool.and_self,Bool.not_true,Bool.false_or] at h3
  obtain ⟨e,he,h4⟩:=List.any_eq_true.1 h3
  simp only [Bool.and_eq_true,decide_eq_true_eq,Bool.or_eq_true,beq_iff_eq] at h4
  exact ⟨e,Array.mem_toList_iff.1 he,h4.1.1,h4.1.2,h4.2⟩
 ·intro i j o p t ho hp hne hd ht
  have h1:=hj i o j p ho hp hne
  simp only [Bool.and_eq_true] at h1
  have h2:=h1.1.1
  have : dstIn p (o.looksAt ops) = true:=by simp [dstIn,hd,ht]
  rw [this,Bool.not_true,Bool.false_or] at h2
  exact h2
 ·intro i j o p t ho hp hne hd hp2
  have h1:=hj i o j p ho hp hne
  simp only [Bool.and_eq_true] at h1
  have h2:=h1.1.2
  simp [sameDst,hd,hp2] at h2
 ·intro i j o p ho hp hne hpu hw
  have h1:=hj i o j p ho hp hne
  simp only [Bool.and_eq_true] at h1
  have h2:=h1.2
  rw [hpu,hw] at h2
  simpa using h2

def G (os : List Oper) (tr : List Step) (g0 : Nat → AV) : Nat → Nat → AV
 | 0=>g0
 | i + 1=>match os[i]?,tr[i]? with | some o,some s=>upd (G os tr g0 i) o.dst s.r | _,_=>G os tr g0 i
def HH (tr : List Step) (H0 : Hp) : Nat → Hp
 | 0=>H0
 | i + 1=>match tr[i]? with | some s=>s.H | none=>HH tr H0 i
def NN (tr : List Step) (n0 : Nat) : Nat → Nat
 | 0=>n0
 | i + 1=>match tr[i]? with | some s=>s.nx | none=>NN tr n0 i

theorem G_cons (o : Oper) (os : List Oper) (s : Step) (tr : List Step) (g0 : Nat → AV) : ∀ i,G (o :: os) (s :: tr) g0 (i + 1) = G os tr (upd g0 o.dst s.r) i
 | 0=>by simp [G]
 | i + 1=>by
  have ih:=G_cons o os s tr g0 i
  show (match (o :: os)[i + 1]?,(s :: tr)[i + 1]? with | some o',some s'=>upd (G (o :: os) (s :: tr) g0 (i + 1)) o'.dst s'.r | _,_=>G (o :: os) (s :: tr) g0 (i + 1)) = _
  rw [ih]; simp [G]
theorem HH_cons (s : Step) (tr : List Step) (H0 : Hp) : ∀ i,HH (s :: tr) H0 (i + 1) = HH tr s.H i
 | 0=>by simp [HH]
 | i + 1=>by
  have ih:=HH_cons s tr H0 i
  show (match (s :: tr)[i + 1]? with | some s'=>s'.H | none=>HH (s :: tr) H0 (i + 1)) = _
  rw [ih]; simp [HH]
theorem NN_cons (s : Step) (tr : List Step) (H0 : Nat) : ∀ i,NN (s :: tr) H0 (i + 1) = NN tr s.nx i
 | 0=>by simp [NN]
 | i + 1=>by
  have ih:=NN_cons s tr H0 i
  show (match (s :: tr)[i + 1]? with | some s'=>s'.nx | none=>NN (s :: tr) H0 (i + 1)) = _
  rw [ih]; simp [NN]

theorem TrP_at {dr : Bool} {ops : List Oper} : ∀ {os : List Oper} {g : Nat → AV} {H : Hp} {nx : Nat} {tr : List Step} {g' : Nat → AV} {H' : Hp} {nx' : Nat},TrP P cf dr ops os g H nx tr g' H' nx' →
  tr.length = os.length ∧ g' = G os tr g os.length ∧ H' = HH tr H os.length ∧ nx' = NN tr nx os.length ∧ ∀ (i : Nat) o s,os[i]? = some o → tr[i]? = some s → StepP P cf dr ops o (G os tr g i) (HH tr H i) (NN tr nx i) s
 | [],g,H,nx,[],g',H',nx',h=>by obtain ⟨rfl,rfl,rfl⟩:=h; exact ⟨rfl,rfl,rfl,rfl,by simp⟩
 | [],g,H,nx,s :: tr,g',H',nx',h=>h.elim
 | o :: os,g,H,nx,[],g',H',nx',h=>h.elim
 | o :: os,g,H,nx,s :: tr,g',H',nx',h=>by
  obtain ⟨h1,h2⟩:=h
  obtain ⟨h3,h4,h5,h6,h7⟩:=TrP_at h2
  refine ⟨by simp [h3],?_,?_,?_,fun i o' s' ho hs=>?_⟩
  ·rw [List.length_cons,G_cons]; exact h4
  ·rw [List.length_cons,HH_cons]; exact h5
  ·rw [List.length_cons,NN_cons]; exact h6
  ·match i with
   | 0=>simp at ho hs; subst ho; subst hs; exact h1
   | i + 1 =>
    rw [G_cons,HH_cons,NN_cons]
    exact h7 i o' s' (by simpa using ho) (by simpa using hs)

theorem StepP.exec {dr : Bool} {ops : List Oper} {o : Oper} {get : Nat → AV} {H : Hp} {nx : Nat} {s : Step} (h : StepP P cf dr ops o get H nx s) (hb : s.b = true) {F : Fr} {m : Mp} {w : World} {ρ : Operand → Value} (hrep : HRep F H m w)
  (hfree : ∀ i,nx ≤ i → m.bx i = none ∧ m.bf i = none) (hops : ∀ x ∈ o.op.operands,RepA F H m w (evG get x) (ρ x)) :
  Exec P o ρ w fun v w'=>∃ m',HRep F s.H m' w' ∧ Later F H m w s.H m' w' ∧ (∀ i,s.nx ≤ i → m'.bx i = none ∧ m'.bf i = none) ∧ RepA F s.H m' w' s.r v:=by
 obtain ⟨hnx,hor,_⟩:=h.2.2 hb
 rcases hor with ⟨hbuf,⟨hbox,hbo⟩,hq⟩ | hw
 ·obtain ⟨g1,g2⟩:=hrep.hp (H':=s.H) (fun i b hb=>hbox i (by
   rcases Nat.lt_or_ge i nx with h | h
   ·exact h
   ·rw [(hfree i h).1] at hb; cases hb)) (fun i B hB=>by rw [hbuf]; exact hB) hbo
  refine (hq F s.H m w ρ ⟨⟨fun _ _ h=>h,rfl⟩,rfl⟩ g1 (fun i hi _=>(hfree i hi).1) (fun x hx=>g2.rep (hops x hx))).mono fun v w' ⟨m',h1,h2,h3,h4,h5⟩=>⟨m',h1,?_,fun i hi=>⟨h4 i (by omega) (hfree i (by omega)).1,by rw [h3]; exact (hfree i (by omega)).2⟩,h5⟩
  refine ⟨fun b hS hb=>h2.st b hS hb,fun i b hb=>h2.bx i b (hb),fun id B hB=>?_,fun k B hB=>h2.bo k B (by rw [hbo]; exact hB)⟩
  exact h2.bf id B (by rw [hbuf]; exact hB)
 ·exact hw F m w ρ hrep hfree hops

theorem pure_not_w (o : Op) (h : pureOp cf o = true) : mayWc cf o = false:=by
 cases o <;> first | rfl | (simp [pureOp] at h; done) | skip
 ·simp only [pureOp,bne_iff_ne,ne_eq,Bool.and_eq_true,Bool.not_eq_true'] at h
  simp [mayWc,mayW,ownOp,gOp,h]
 ·simp only [pureOp] at h
  simp [mayWc,mayW,ownOp,gOp,h]
 rename_i c
 obtain ⟨callee,args,tys⟩:=c
 cases callee with
 | value f=>simp [pureOp] at h
 | invoke r m=>simp [pureOp] at h
 | builtin b=>cases b <;> simp_all [pureOp,mayWc,ownOp,gOp,mayW]

theorem pureR_not_w {ops : List Oper} (o : Op) (h : pureR cf ops o = true) : mayWc cf o = false:=pure_not_w o (pureR_p h).1

section main
variable {ops : Array Oper} {tr : List Step} {g0 : Nat → AV} {H0 : Hp} {n0 n : Nat} {B : Array Nat}

def val (ops : Array Oper) (tr : List Step) (g0 : Nat → AV) (D : Nat → Bool) (t : Nat) : AV:=match ops.toList.findIdx? (fun o=>o.dst == some t) with
 | some i=>if D i then (match tr[i]? with | some s=>s.r | none=>g0 t) else g0 t
 | none=>g0 t

theorem val_idx {gs : Nat → AV} {ns : Nat} (ho : OrdP cf gs ns ops n B) {i : Nat} {o : Oper} {t : Nat} (hi : ops[i]? = some o) (hd : o.dst = some t) : ops.toList.findIdx? (fun o=>o.dst == some t) = some i:=by
 have hlt:=(Array.getElem?_eq_some_iff.1 hi).1
 rw [List.findIdx?_eq_some_iff_getElem]
 refine ⟨by simpa using hlt,?_,fun j hj=>?_⟩
 ·have : ops.toList[i] = o:=by
   have:=(Array.getElem?_eq_some_iff.1 hi).2
   simpa using this
  rw [this,hd]; simp
 ·have hjl : j < ops.size:=by omega
  have hjo : ops[j]? = some ops[j]:=Array.getElem?_eq_getElem hjl
  have:=ho.two i j o ops[j] t hi hjo (by omega) hd
  simpa using this

theorem val_dst {gs : Nat → AV} {ns : Nat} (ho : OrdP cf gs ns ops n B) {i : Nat} {o : Oper} {s : Step} {t : Nat} (hi : ops[i]? = some o) (hs : tr[i]? = some s) (hd : o.dst = some t) (D : Nat → Bool) : val ops tr g0 D t = if D i then s.r else g0 t:=by
 simp [val,val_idx ho hi hd,hs]

theorem val_none (D : Nat → Bool) {t : Nat} (h : ∀ (i : Nat) (o : Oper),ops[i]? = some o → o.dst ≠ some t) : val ops tr g0 D t = g0 t:=by
 have : ops.toList.findIdx? (fun o=>o.dst == some t) = none:=by
  rw [List.findIdx?_eq_none_iff]
  intro o hom
  obtain ⟨i,hi⟩:=List.getElem?_of_mem hom
  have:=h i o (by simpa using hi)
  simpa using this
 simp [val,this]

theorem G_val {gs : Nat → AV} {ns : Nat} (ho : OrdP cf gs ns ops n B) (hl : tr.length = ops.size) : ∀ k,k ≤ ops.size → ∀ t,G ops.toList tr g0 k t = val ops tr g0 (fun i=>decide (i < k)) t
 | 0,_,t=>by
  simp only [G,val]
  split <;> simp
 | k + 1,hk,t=>by
  have ih:=G_val ho hl k (by omega) t
  have hok : ops[k]? = some (ops[k]'(by omega)):=Array.getElem?_eq_getElem _
  have hsk : tr[k]? = some (tr[k]'(by omega)):=List.getElem?_eq_getElem _
  have hok' : ops.toList[k]? = some (ops[k]'(by omega)):=by rw [Array.getElem?_toList]; exact hok
  simp only [G,hok',hsk]
  by_cases hd : (ops[k]'(by omega)).dst = some t
  ·rw [val_dst ho hok hsk hd]
   simp [upd,hd]
  ·have e1 : upd (G ops.toList tr g0 k) (ops[k]'(by omega)).dst (tr[k]'(by omega)).r t = G ops.toList tr g0 k t:=by
    cases hdd : (ops[k]'(by omega)).dst with
    | none=>rfl
    | some d =>
     have : t ≠ d:=fun e=>hd (by rw [hdd,e])
     simp [upd,this]
   rw [e1,ih]
   by_cases hex : ∃ (i : Nat) (o : Oper),ops[i]? = some o ∧ o.dst = some t
   ·obtain ⟨i,o,hi,hd2⟩:=hex
    have hil:=(Array.getElem?_eq_some_iff.1 hi).1
    have hsi : tr[i]? = some (tr[i]'(by omega)):=List.getElem?_eq_getElem _
    rw [val_dst ho hi hsi hd2,val_dst ho hi hsi hd2]
    have hne : i ≠ k:=fun e=>by subst e; rw [hok] at hi; cases hi; exact hd hd2
    have : decide (i < k) = decide (i < k + 1):=by
     rw [Bool.eq_iff_iff]; simp; omega
    rw [this]
   ·rw [val_none,val_none]
    ·intro i o hi hd2; exact hex ⟨i,o,hi,hd2⟩
    ·intro i o hi hd2; exact hex ⟨i,o,hi,hd2⟩

theorem HH_const (hl : tr.length = ops.size) (hst : ∀ (i : Nat) o s,ops[i]? = some o → tr[i]? = some s → mayWc cf o.op = false → s.H = HH tr H0 i ∧ s.nx = NN tr n0 i) : ∀ d k,k + d ≤ ops.size → (∀ (j : Nat) o,k ≤ j → j < k + d → ops[j]? = some o → mayWc cf o.op = false) → HH tr H0 (k + d) = HH tr H0 k ∧ NN tr n0 (k + d) = NN tr n0 k
 | 0,k,_,_=>⟨rfl,rfl⟩
 | d + 1,k,hk,h=>by
  obtain ⟨h1,h2⟩:=HH_const hl hst d k (by omega) (fun j o hj1 hj2 ho=>h j o hj1 (by omega) ho)
  have hok : ops[k + d]? = some (ops[k + d]'(by omega)):=Array.getElem?_eq_getElem _
  have hsk : tr[k + d]? = some (tr[k + d]'(by omega)):=List.getElem?_eq_getElem _
  obtain ⟨h3,h4⟩:=hst (k + d) _ _ hok hsk (h (k + d) _ (by omega) (by omega) hok)
  show (match tr[k + d]? with | some s=>s.H | none=>HH tr H0 (k + d)) = _ ∧ (match tr[k + d]? with | some s=>s.nx | none=>NN tr n0 (k + d)) = _
  rw [hsk]
  exact ⟨h3.trans h1,h4.trans h2⟩

structure Mid (cf : Cfg) (F : Fr) (ops : Array Oper) (tr : List Step) (g0 : Nat → AV) (H0 : Hp) (n0 n : Nat) (D : Nat → Bool) (a : Act) (w : World) : Prop where
 d : a.defers = []
 sz : a.tmps.size = n
 down : ∀ (i : Nat) o e,ops[i]? = some o → D i = true → e ∈ o.after → Region.binds .any e = true → D e.on = true
 at_ : ∃ m k,pre cf ops ≤ k ∧ k ≤ ops.size ∧ (∀ (j : Nat) o,ops[j]? = some o → mayWc cf o.op = true → pre cf ops ≤ j → (D j = true ↔ j < k)) ∧ HRep F (HH tr H0 k) m w ∧ (∀ i,NN tr n0 k ≤ i → m.bx i = none ∧ m.bf i = none) ∧ (∀ (j : Nat) o,ops[j]? = some o → mayWc cf o.op = true → j < pre cf ops → D j = false → m.bx (NN tr n0 j) = none) ∧ ∀ t,RepA F (HH tr H0 k) m w (val ops tr g0 D t) (a.tmps.getD t undef)

theorem anc_down {gs : Nat → AV} {ns : Nat} (ho : OrdP cf gs ns ops n B) {D : Nat → Bool} (hdn : ∀ (i : Nat) o e,ops[i]? = some o → D i = true → e ∈ o.after → Region.binds .any e = true → D e.on = true) : ∀ i o j,ops[i]? = some o → j < i → (B.getD i 0).testBit j = true → (∀ e ∈ o.after,Region.binds .any e = true → D e.on = true) → D j = true:=by
 intro i
 induction i using Nat.strongRecOn with
 | _ i ih =>
  intro o j hi hj hb hall
  obtain ⟨e,he,hbe,hlt,hor⟩:=ho.anc i o j hi hj hb
  have hDe:=hall e he hbe
  rcases hor with rfl | hb2
  ·exact hDe
  ·have hil:=(Array.getElem?_eq_some_iff.1 hi).1
   have hoe : ops[e.on]? = some (ops[e.on]'(by omega)):=Array.getElem?_eq_getElem _
   exact ih e.on hlt _ j hoe hb2.1 hb2.2 (fun e' he' hbe'=>hdn e.on _ e' hoe hDe he' hbe')

theorem ord_next {gs : Nat → AV} {ns : Nat} (ho : OrdP cf gs ns ops n B) {D : Nat → Bool} (hdn : ∀ (i : Nat) o e,ops[i]? = some o → D i = true → e ∈ o.after → Region.binds .any e = true → D e.on = true) {i : Nat} {o : Oper} (hi : ops[i]? = some o) (hD : D i = false) (hall : ∀ e ∈ o.after,Region.binds .any e = true → D e.on = true)
  {j : Nat} {p : Oper} (hj : ops[j]? = some p) (hne : i ≠ j) (hor : ordered B i j = true) : (D j = true ↔ j < i):=by
 unfold ordered at hor
 split at hor
 ·rename_i hlt
  exact ⟨fun _=>hlt,fun _=>anc_down ho hdn i o j hi hlt hor hall⟩
 ·rename_i hlt
  refine ⟨fun hDj=>?_,fun h=>absurd h hlt⟩
  have : i < j:=by omega
  have:=anc_down ho hdn j p i hj this hor (fun e he hb=>hdn j p e hj hDj he hb)
  rw [hD] at this; cases this

theorem loadBx_some {get : Nat → AV} {nx : Nat} {ops : Array Oper} {o : Oper} {id : Nat} (h : loadBx get nx ops o = some id) : ∃ t q,o.op = .load t (.tmp q) ∧ id < nx ∧ chBx get ops 6 o q = some id:=by
 unfold loadBx at h
 split at h
 ·rename_i t q ho
  obtain ⟨id',h1,h2⟩:=Option.bind_eq_some_iff.1 h
  split at h2
  ·rename_i hlt
   cases h2
   exact ⟨t,q,ho,hlt,h1⟩
  ·cases h2
 ·cases h
theorem chBx_congr {get get' : Nat → AV} {ops : Array Oper} (hg : ∀ q,keptTmp ops q = true → get' q = get q) : ∀ (n : Nat) (o : Oper) (q id : Nat),chBx get ops n o q = some id → chBx get' ops n o q = some id
 | 0,o,q,id,h=>by simp [chBx] at h
 | n + 1,o,q,id,h=>by
  unfold chBx at h ⊢
  split at h
  ·rename_i id' off hk hgq
   cases h
   rw [hg q hk,hgq,hk]
  ·rename_i hne
   split
   ·rename_i id' off hk hgq
    rw [hg q hk] at hgq
    exact absurd hgq (hne _ _ hk)
   ·split at h
    ·rename_i j hj
     split at h
     ·rename_i he
      rw [if_pos he]
      split at h
      ·rename_i p hp
       split at h
       ·exact chBx_congr hg n _ _ _ h
       ·exact chBx_congr hg n _ _ _ h
       ·exact chBx_congr hg n _ _ _ h
       ·cases h
      ·cases h
     ·cases h
    ·cases h
theorem loadBx_mono {get get' : Nat → AV} {nx nx' : Nat} {ops : Array Oper} {o : Oper} {id : Nat} (hg : ∀ q,keptTmp ops q = true → get' q = get q) (hn : nx ≤ nx') (h : loadBx get nx ops o = some id) : loadBx get' nx' ops o = some id:=by
 obtain ⟨t,q,ho,hlt,hc⟩:=loadBx_some h
 unfold loadBx
 rw [ho]
 simp only [chBx_congr hg _ _ _ _ hc,Option.bind_some]
 rw [if_pos (by omega)]
theorem storeBx_some {get : Nat → AV} {ops : Array Oper} {o : Oper} {id : Nat} (h : storeBx get ops o = some id) : ∃ t q x off,o.op = .store t (.tmp q) x ∧ keptTmp ops q = true ∧ get q = .bx id off:=by
 unfold storeBx at h
 split at h
 ·rename_i t q x ho
  split at h
  ·rename_i id' off hk hg
   cases h
   exact ⟨t,q,x,off,ho,hk,hg⟩
  ·cases h
 ·cases h
theorem loadBx_w {get : Nat → AV} {nx : Nat} {ops : Array Oper} {o : Oper} (h : mayWc cf o.op = true) : loadBx get nx ops o = none:=by
 cases hl : loadBx get nx ops o with
 | none=>rfl
 | some id =>
  obtain ⟨t,q,ho,_⟩:=loadBx_some hl
  rw [ho] at h; simp [mayWc,ownOp,gOp,mayW] at h
theorem apart_some {get : Nat → AV} {nx : Nat} {ops : Array Oper} {o p : Oper} (h : apartB cf get nx ops o p = true) : ∃ a,loadBx get nx ops o = some a ∧ ((∃ b,storeBx get ops p = some b ∧ a ≠ b) ∨ storeNew cf ops p = true ∨ bufOp cf p.op = true ∨ gOp cf p.op = true):=by
 unfold apartB at h
 split at h
 ·rename_i a b ha hb; exact ⟨a,ha,.inl ⟨b,hb,by simpa using h⟩⟩
 ·rename_i a ha hb; exact ⟨a,ha,.inr (by simpa using h)⟩
 ·cases h
theorem looseOp_some {o : Oper} (h : looseOp o = true) : (∃ e,o.op = .alloc e) ∧ o.guard = none:=by
 unfold looseOp at h
 split at h
 ·rename_i e ho hg; exact ⟨⟨e,ho⟩,hg⟩
 ·cases h
theorem look_none {α : Type} {l : List (Nat × α)} {id : Nat} (h : ∀ p ∈ l,p.1 ≠ id) : look l id = none:=by
 induction l with
 | nil=>rfl
 | cons p l ih =>
  have : (p.1 == id) = false:=by simpa using h p (List.mem_cons_self ..)
  simp only [look,this]
  exact ih fun q hq=>h q (List.mem_cons_of_mem _ hq)
theorem pre_le (ops : Array Oper) : pre cf ops ≤ ops.size:=by
 have:=congrArg List.length (List.takeWhile_append_dropWhile (p:=fun o : Oper=>!mayWc cf o.op || looseOp o) (l:=ops.toList))
 simp only [List.length_append,Array.length_toList] at this
 unfold pre; omega
theorem pre_loose {ops : Array Oper} {j : Nat} {o : Oper} (hj : j < pre cf ops) (ho : ops[j]? = some o) (hw : mayWc cf o.op = true) : looseOp o = true:=by
 have h1:=List.takeWhile_append_dropWhile (p:=fun o : Oper=>!mayWc cf o.op || looseOp o) (l:=ops.toList)
 have h2 : ops.toList[j]? = some o:=by simpa using ho
 rw [← h1,List.getElem?_append_left hj] at h2
 have:=List.all_eq_true.1 (List.all_takeWhile (p:=fun o : Oper=>!mayWc cf o.op || looseOp o) (l:=ops.toList)) o (List.mem_of_getElem? h2)
 simpa [hw] using this
theorem newBx_some {ops : Array Oper} {q : Nat} (h : newBx cf ops q = true) : ∃ (j : Nat) (p : Oper),j < pre cf ops ∧ ops[j]? = some p ∧ looseOp p = true ∧ p.dst = some q:=by
 obtain ⟨p,hp,h2⟩:=List.any_eq_true.1 h
 obtain ⟨j,hj⟩:=List.getElem?_of_mem hp
 have hlt:=(List.getElem?_eq_some_iff.1 hj).1
 rw [List.length_take] at hlt
 rw [List.getElem?_take_of_lt (by omega)] at hj
 simp only [Bool.and_eq_true,beq_iff_eq] at h2
 exact ⟨j,p,by omega,by simpa using hj,h2.1,h2.2⟩
theorem kept_G {gs : Nat → AV} {ns : Nat} (ho : OrdP cf gs ns ops n B) (hl : tr.length = ops.size) {q : Nat} (hk : keptTmp ops q = true) {i : Nat} (hi : i ≤ ops.size) : G ops.toList tr g0 i q = g0 q:=by
 rw [G_val ho hl i hi,val_none]
 intro j p hj hd
 have h1 : (ops.toList.any fun p=>p.dst == some q) = false:=by simpa [keptTmp] using hk
 have h2:=List.any_eq_false.1 h1 p (List.mem_of_getElem? (by simpa using hj))
 simp [hd] at h2
theorem HH_box {id : Nat} (hl : tr.length = ops.size) : ∀ d k,k + d ≤ ops.size → (∀ (j : Nat) o s,k ≤ j → j < k + d → ops[j]? = some o → tr[j]? = some s → look s.H.box id = look (HH tr H0 j).box id) → look (HH tr H0 (k + d)).box id = look (HH tr H0 k).box id
 | 0,k,_,_=>rfl
 | d + 1,k,hk,h=>by
  have ih:=HH_box hl d k (by omega) (fun j o s hj1 hj2=>h j o s hj1 (by omega))
  have hok : ops[k + d]? = some (ops[k + d]'(by omega)):=Array.getElem?_eq_getElem _
  have hsk : tr[k + d]? = some (tr[k + d]'(by omega)):=List.getElem?_eq_getElem _
  have h1:=h (k + d) _ _ (by omega) (by omega) hok hsk
  rw [← ih,← h1,← Nat.add_assoc]
  simp [HH,hsk]

theorem pre_step {dr : Bool} (hdr : dr = true) {g' : Nat → AV} {H' : Hp} {nx' : Nat} (htr : TrP P cf dr ops.toList ops.toList g0 H0 n0 tr g' H' nx') {i : Nat} {o : Oper} {s : Step} (hi : i < pre cf ops) (ho : ops[i]? = some o) (hs : tr[i]? = some s) :
  (mayWc cf o.op = false ∧ HH tr H0 (i + 1) = HH tr H0 i ∧ NN tr n0 (i + 1) = NN tr n0 i) ∨
  (looseOp o = true ∧ s.b = true ∧ s.r = .bx (NN tr n0 i) 0 ∧ NN tr n0 (i + 1) = NN tr n0 i + 1 ∧ (∃ cs,HH tr H0 (i + 1) = (HH tr H0 i).addBox (NN tr n0 i) cs) ∧ ∀ F : Fr,OpQ P F (HH tr H0 (i + 1)) (NN tr n0 i) (NN tr n0 i + 1) o (evG (G ops.toList tr g0 i)) s.r):=by
 obtain ⟨_,_,_,_,hstep⟩:=TrP_at htr
 have h:=hstep i o s (by simpa using ho) hs
 have e1 : HH tr H0 (i + 1) = s.H:=by simp [HH,hs]
 have e2 : NN tr n0 (i + 1) = s.nx:=by simp [NN,hs]
 cases hw : mayWc cf o.op with
 | false =>
  left
  refine ⟨rfl,?_⟩
  rw [e1,e2]
  cases hb : s.b with
  | false=>exact (h.2.1 hb).2
  | true=>have:=(h.2.2 hb).2.2.2.1 hdr hw; exact ⟨this.1,this.2.1⟩
 | true =>
  right
  have hlo:=pre_loose hi ho hw
  obtain ⟨⟨e,he⟩,hg⟩:=looseOp_some hlo
  have hb : s.b = true:=by
   have:=h.1
   unfold Wants at this
   rw [hg] at this
   exact this
  obtain ⟨h1,h2,h3,h4⟩:=(h.2.2 hb).2.2.2.2.2.2.1 e he
  refine ⟨hlo,hb,h1,by rw [e2,h2],by rw [e1]; exact h3,fun F=>?_⟩
  rw [e1,← h2]
  exact h4 F

theorem pre_facts {dr : Bool} (hdr : dr = true) {g' : Nat → AV} {H' : Hp} {nx' : Nat} (htr : TrP P cf dr ops.toList ops.toList g0 H0 n0 tr g' H' nx') (hl : tr.length = ops.size) (hj0 : ∀ id,n0 ≤ id → look H0.box id = none) :
  ∀ d i,i + d ≤ pre cf ops → (∀ id,NN tr n0 i ≤ id → look (HH tr H0 i).box id = none) → NN tr n0 i ≤ NN tr n0 (i + d) ∧ Sup (HH tr H0 (i + d)) (HH tr H0 i) ∧ ∀ id,NN tr n0 (i + d) ≤ id → look (HH tr H0 (i + d)).box id = none
 | 0,i,_,h=>⟨Nat.le_refl _,⟨⟨fun _ _ h=>h,rfl⟩,rfl⟩,h⟩
 | d + 1,i,hd,h=>by
  obtain ⟨h1,⟨⟨h2,h3⟩,h4⟩,h5⟩:=pre_facts hdr htr hl hj0 d i (by omega) h
  have hle:=pre_le (cf:=cf) ops
  have hok : ops[i + d]? = some (ops[i + d]'(by omega)):=Array.getElem?_eq_getElem _
  have hsk : tr[i + d]? = some (tr[i + d]'(by omega)):=List.getElem?_eq_getElem _
  rw [← Nat.add_assoc]
  rcases pre_step hdr htr (by omega) hok hsk with ⟨_,e1,e2⟩ | ⟨_,_,_,e2,⟨cs,e1⟩,_⟩
  ·rw [e1,e2]; exact ⟨h1,⟨⟨h2,h3⟩,h4⟩,h5⟩
  ·rw [e1,e2]
   refine ⟨by omega,⟨⟨fun id c hc=>?_,h3⟩,h4⟩,fun id hid=>?_⟩
   ·have h6:=h2 id c hc
    have hne : id ≠ NN tr n0 (i + d):=fun e=>by rw [h5 id (by omega)] at h6; cases h6
    show look ((NN tr n0 (i + d),cs) :: (HH tr H0 (i + d)).box) id = _
    rw [look_add_ne _ _ _ _ hne]; exact h6
   ·show look ((NN tr n0 (i + d),cs) :: (HH tr H0 (i + d)).box) id = _
    rw [look_add_ne _ _ _ _ (by omega)]; exact h5 id (by omega)

theorem Mid.step {dr : Bool} (hdr : dr = true) {g' : Nat → AV} {H' : Hp} {nx' : Nat} (ho : OrdP cf g0 n0 ops n B) (htr : TrP P cf dr ops.toList ops.toList g0 H0 n0 tr g' H' nx') (hj0 : ∀ id,n0 ≤ id → look H0.box id = none) {F : Fr} {D : Nat → Bool} {a : Act} {w : World} (hm : Mid cf F ops tr g0 H0 n0 n D a w)
  {i : Nat} {o : Oper} (hi : ops[i]? = some o) (hD : D i = false) (hall : ∀ e ∈ o.after,Region.binds .any e = true → D e.on = true) {K : Act → World → Prop} {Q : Exit → Act → World → Prop}
  (hK : ∀ a' w',Mid cf F ops tr g0 H0 n0 n (fun j=>j == i || D j) a' w' → K a' w') : wpOp P ops Q i K a w:=by
 obtain ⟨hl,_,_,_,hstep⟩:=TrP_at htr
 have hl : tr.length = ops.size:=by simpa using hl
 have hil:=(Array.getElem?_eq_some_iff.1 hi).1
 have hsi : tr[i]? = some (tr[i]'(by omega)):=List.getElem?_eq_getElem _
 generalize tr[i]'(by omega) = s at hsi
 have hst:=hstep i o s (by simpa using hi) hsi
 have hconst : ∀ (i : Nat) o s,ops[i]? = some o → tr[i]? = some s → mayWc cf o.op = false → s.H = HH tr H0 i ∧ s.nx = NN tr n0 i:=by
  intro i o s ho hs hw
  have h:=hstep i o s (by simpa using ho) hs
  cases hb : s.b with
  | false=>exact (h.2.1 hb).2
  | true=>have:=(h.2.2 hb).2.2.2.1 hdr hw; exact ⟨this.1,this.2.1⟩
 obtain ⟨m,k,hpk,hk,hwr,hrep,hfree,hloo,hsl⟩:=hm.at_
 have hpl:=pre_le (cf:=cf) ops
 -- what the operation looks at is as in the text's order
 have hlook : ∀ t ∈ o.looksAt ops,val ops tr g0 D t = G ops.toList tr g0 i t:=by
  intro t ht
  rw [G_val ho hl i (by omega)]
  by_cases hex : ∃ (j : Nat) (p : Oper),ops[j]? = some p ∧ p.dst = some t
  ·obtain ⟨j,p,hj,hd⟩:=hex
   have hjl:=(Array.getElem?_eq_some_iff.1 hj).1
   have hsj : tr[j]? = some (tr[j]'(by omega)):=List.getElem?_eq_getElem _
   rw [val_dst ho hj hsj hd,val_dst ho hj hsj hd]
   by_cases hij : i = j
   ·subst hij; simp [hD]
   ·have h1:=ord_next ho hm.down hi hD hall hj hij (ho.slot i j o p t hi hj hij hd ht)
    have : D j = decide (j < i):=by
     rw [Bool.eq_iff_iff,h1]; simp
    rw [this]
  ·rw [val_none,val_none]
   ·intro j p hj hd; exact hex ⟨j,p,hj,hd⟩
   ·intro j p hj hd; exact hex ⟨j,p,hj,hd⟩
 have hrepO : ∀ {H : Hp} {m : Mp} {w : World},(∀ t,RepA F H m w (val ops tr g0 D t) (a.tmps.getD t undef)) → ∀ x ∈ o.op.operands,RepA F H m w (evG (G ops.toList tr g0 i) x) (a.eval x):=by
  intro H m w hsl x hx
  cases x with
  | tmp t =>
   show RepA F H m w (G ops.toList tr g0 i t) _
   rw [← hlook t (by unfold Oper.looksAt; exact List.mem_append_left _ (List.mem_filterMap.2 ⟨.tmp t,by simpa using hx,rfl⟩))]
   exact hsl t
  | const v=>exact rep_ofV ..
  | global g=>trivial
  | func f=>exact Rd.a _ rfl
 have hwant : Region.wanted o (yielded ops a.tmps) = s.b:=by
  have hw:=hst.1
  unfold Wants at hw
  cases hg : o.guard with
  | none=>simp only [hg] at hw; rw [hw]; simp [Region.wanted,hg]
  | some jw =>
   obtain ⟨j,want⟩:=jw
   simp only [hg] at hw
   obtain ⟨g,hj,hor⟩:=hw
   have hj' : (ops[j]?).bind (·.dst) = some g:=by simpa using hj
   have hgl : g ∈ o.looksAt ops:=by unfold Oper.looksAt; simp [hg,hj']
   have hr:=hsl g
   rcases hor with ⟨t,hget,hb⟩ | ⟨⟨tl,hget⟩,hb⟩
   case inr =>
    rw [hlook g hgl,hget] at hr
    obtain ⟨vs,hv,_⟩:=hr
    rw [unwanted_guard hg hj' hv,hb]
   rw [hlook g hgl,hget] at hr
   have hv:=rep_b hr
   have hlt : g < a.tmps.size:=by
    rcases Nat.lt_or_ge g a.tmps.size with h | h
    ·exact h
    ·simp [Array.getElem?_eq_none h,undef] at hv
   rw [wanted_guard hg hj' hv hlt,hb]
 -- the next state
 have hdown' : ∀ (i' : Nat) o' e,ops[i']? = some o' → (i' == i || D i') = true → e ∈ o'.after → Region.binds .any e = true → (e.on == i || D e.on) = true:=by
  intro i' o' e hi' hD' he hb
  simp only [Bool.or_eq_true,beq_iff_eq] at hD' ⊢
  rcases hD' with rfl | hD'
  ·rw [hi] at hi'; cases hi'; exact .inr (hall e he hb)
  ·exact .inr (hm.down i' o' e hi' hD' he hb)
 have hval : ∀ t,val ops tr g0 (fun j=>j == i || D j) t = if o.dst = some t then s.r else val ops tr g0 D t:=by
  intro t
  by_cases hd : o.dst = some t
  ·rw [val_dst ho hi hsi hd,if_pos hd]; simp
  ·rw [if_neg hd]
   by_cases hex : ∃ (j : Nat) (p : Oper),ops[j]? = some p ∧ p.dst = some t
   ·obtain ⟨j,p,hj,hd2⟩:=hex
    have hjl:=(Array.getElem?_eq_some_iff.1 hj).1
    have hsj : tr[j]? = some (tr[j]'(by omega)):=List.getElem?_eq_getElem _
    rw [val_dst ho hj hsj hd2,val_dst ho hj hsj hd2]
    have hne : (j == i) = false:=by
     simp only [beq_eq_false_iff_ne]; intro e; subst e; rw [hi] at hj; cases hj; exact hd hd2
    simp [hne]
   ·rw [val_none,val_none]
    ·intro j p hj hd; exact hex ⟨j,p,hj,hd⟩
    ·intro j p hj hd; exact hex ⟨j,p,hj,hd⟩
 have hput : ∀ {H : Hp} {m : Mp} {w : World} {v : Value},(∀ t,RepA F H m w (val ops tr g0 D t) (a.tmps.getD t undef)) → RepA F H m w s.r v → ∀ t,RepA F H m w (val ops tr g0 (fun j=>j == i || D j) t) ((a.put o.dst v).tmps.getD t undef):=by
  intro H m w v hsl hr t
  rw [hval t]
  cases hd : o.dst with
  | none=>rw [if_neg (by simp)]; exact hsl t
  | some d =>
   by_cases ht : d = t
   ·subst ht
    rw [if_pos rfl]
    have hlt : d < a.tmps.size:=by rw [hm.sz]; exact ho.dst i o d hi hd
    simp only [Act.put]
    have : (a.tmps.setIfInBounds d v).getD d undef = v:=by simp [hlt]
    rw [this]; exact hr
   ·rw [if_neg (by simpa using ht)]
    have:=hsl t
    simp only [Act.put]
    have e : (a.tmps.setIfInBounds d v).getD t undef = a.tmps.getD t undef:=by simp [Array.getElem?_setIfInBounds_ne ht]
    rw [e]; exact this
 have hputd : ∀ v,(a.put o.dst v).defers = [] ∧ (a.put o.dst v).tmps.size = n:=by
  intro v; cases o.dst <;> simp [Act.put,hm.d,hm.sz]
 have hHi : HH tr H0 (i + 1) = s.H ∧ NN tr n0 (i + 1) = s.nx:=by simp [HH,NN,hsi]
 -- where the firm writers are done as the text has them,the memory is the text's
 have hfirm : ∀ i',(∀ (j : Nat) p,ops[j]? = some p → mayWc cf p.op = true → pre cf ops ≤ j → j ≠ i → (D j = true ↔ j < i')) → pre cf ops ≤ i' → i' ≤ ops.size → (mayWc cf o.op = true → pre cf ops ≤ i → i' = i) → HH tr H0 k = HH tr H0 i' ∧ NN tr n0 k = NN tr n0 i':=by
  intro i' hord hpi hile hii
  have hno : ∀ (j : Nat) p,ops[j]? = some p → mayWc cf p.op = true → pre cf ops ≤ j → j ≠ i → (j < k ↔ j < i'):=fun j p hj hw hpj hne=>(hwr j p hj hw hpj).symm.trans (hord j p hj hw hpj hne)
  have hki : mayWc cf o.op = true → pre cf ops ≤ i → k ≤ i:=fun hw hp=>by
   have h1:=hwr i o hi hw hp
   rw [hD] at h1
   have : ¬ i < k:=fun h=>by simp at h1; omega
   omega
  rcases Nat.le_total k i' with hle | hle
  ·have h:=HH_const (H0:=H0) (n0:=n0) hl hconst (i' - k) k (by omega) (fun j p hj1 hj2 hj=>by
    cases hw : mayWc cf p.op with
    | false=>rfl
    | true =>
     by_cases hji : j = i
     ·subst hji; rw [hi] at hj; cases hj; have:=hii hw (by omega); omega
     ·have:=hno j p hj hw (by omega) hji; omega)
   rw [show k + (i' - k) = i' by omega] at h
   exact ⟨h.1.symm,h.2.symm⟩
  ·have h:=HH_const (H0:=H0) (n0:=n0) hl hconst (k - i') i' (by omega) (fun j p hj1 hj2 hj=>by
    cases hw : mayWc cf p.op with
    | false=>rfl
    | true =>
     by_cases hji : j = i
     ·subst hji; rw [hi] at hj; cases hj; have:=hki hw (by omega); omega
     ·have:=hno j p hj hw (by omega) hji; omega)
   rw [show i' + (k - i') = k by omega] at h
   exact h
 have hordF : pureR cf ops.toList o.op = false → loadBx g0 n0 ops o = none → ∀ (j : Nat) p,ops[j]? = some p → mayWc cf p.op = true → pre cf ops ≤ j → j ≠ i → (D j = true ↔ j < i):=fun hpu hlb j p hj hw hpj hne =>
  ord_next ho hm.down hi hD hall hj (fun e=>hne e.symm) ((ho.mem i j o p hi hj (fun e=>hne e.symm) hpu hw).elim id fun h=>h.elim (fun h=>by
   obtain ⟨a,ha,_⟩:=apart_some h
   rw [hlb] at ha; cases ha) fun h=>absurd h.1 (by omega))
 have hwr0 : mayWc cf o.op = false → ∀ (j : Nat) p,ops[j]? = some p → mayWc cf p.op = true → pre cf ops ≤ j → ((j == i || D j) = true ↔ j < k):=by
  intro hw j p hj hwp hpj
  have hji : j ≠ i:=fun e=>by subst e; rw [hi] at hj; cases hj; rw [hw] at hwp; cases hwp
  simp only [Bool.or_eq_true,beq_iff_eq,hji,false_or]
  exact hwr j p hj hwp hpj
 have hloo0 : ∀ {m' : Mp},(∀ i,m.bx i = none → m'.bx i = none) → ∀ (j : Nat) p,ops[j]? = some p → mayWc cf p.op = true → j < pre cf ops → (j == i || D j) = false → m'.bx (NN tr n0 j) = none:=by
  intro m' hmm j p hj hwp hpj hdj
  simp only [Bool.or_eq_false_iff] at hdj
  exact hmm _ (hloo j p hj hwp hpj hdj.2)
 unfold wpOp
 simp only [hi,hwant]
 cases hw : mayWc cf o.op with
 | true =>
  have hpu : pureR cf ops.toList o.op = false:=by cases h : pureR cf ops.toList o.op with | false=>rfl | true=>(have:=pureR_not_w (cf:=cf) o.op h; rw [hw] at this; cases this)
  have hlb : loadBx g0 n0 ops o = none:=loadBx_w hw
  rcases Nat.lt_or_ge i (pre cf ops) with hip | hip
  ·-- a new box,at any time
   rcases pre_step hdr htr hip hi hsi with ⟨h,_⟩ | ⟨_,hb,hr,e2,⟨cs,e1⟩,hq⟩
   ·rw [hw] at h; cases h
   rw [hb]
   simp only [if_true]
   refine .inl ?_
   obtain ⟨k1,k2⟩:=hfirm (pre cf ops) (fun j p hj hwp hpj hne=>by
    have:=hordF hpu hlb j p hj hwp hpj hne
    rw [this]; omega) (Nat.le_refl _) hpl (fun _ h=>by omega)
   rw [k1] at hrep hsl
   rw [k2] at hfree
   obtain ⟨f1,f2,f3⟩:=pre_facts hdr htr hl hj0 i 0 (by omega) hj0
   rw [Nat.zero_add] at f1 f2 f3
   obtain ⟨a1,a2,a3⟩:=pre_facts hdr htr hl hj0 (pre cf ops - i) i (by omega) f3
   rw [show i + (pre cf ops - i) = pre cf ops by omega] at a1 a2 a3
   have b3:=(pre_facts hdr htr hl hj0 1 i (by omega) f3).2.2
   obtain ⟨b1,b2,_⟩:=pre_facts hdr htr hl hj0 (pre cf ops - (i + 1)) (i + 1) (by omega) b3
   rw [show i + 1 + (pre cf ops - (i + 1)) = pre cf ops by omega] at b1 b2
   refine (hq F (HH tr H0 (pre cf ops)) m w a.eval b2 hrep (fun i' h1 h2=>?_) (hrepO hsl)).wp fun v w' ⟨m',h1,h2,h3,h4,h5⟩=>hK _ _ ⟨(hputd _).1,(hputd _).2,hdown',m',pre cf ops,Nat.le_refl _,hpl,fun j p hj hwp hpj=>?_,h1,fun j hj=>⟨h4 j (by omega) (hfree j hj).1,by rw [h3]; exact (hfree j hj).2⟩,fun j p hj hwp hpj hdj=>?_,hput (fun t=>h2.rep (hsl t)) h5⟩
   ·obtain rfl : i' = NN tr n0 i:=by omega
    exact hloo i o hi hw hip hD
   ·have hji : j ≠ i:=by omega
    have:=hordF hpu hlb j p hj hwp hpj hji
    simp only [Bool.or_eq_true,beq_iff_eq,hji,false_or]
    rw [this]; omega
   ·simp only [Bool.or_eq_false_iff,beq_eq_false_iff_ne] at hdj
    refine h4 _ (fun hh=>?_) (hloo j p hj hwp hpj hdj.2)
    have hjl:=(Array.getElem?_eq_some_iff.1 hj).1
    have hsj : tr[j]? = some (tr[j]'(by omega)):=List.getElem?_eq_getElem _
    rcases pre_step hdr htr hpj hj hsj with ⟨h,_⟩ | ⟨_,_,_,e3,_,_⟩
    ·rw [hwp] at h; cases h
    rcases Nat.lt_or_gt_of_ne hdj.1 with hlt | hlt
    ·obtain ⟨_,_,c3⟩:=pre_facts hdr htr hl hj0 (j + 1) 0 (by omega) hj0
     rw [Nat.zero_add] at c3
     have:=(pre_facts hdr htr hl hj0 (i - (j + 1)) (j + 1) (by omega) c3).1
     rw [show j + 1 + (i - (j + 1)) = i by omega] at this
     omega
    ·have:=(pre_facts hdr htr hl hj0 (j - (i + 1)) (i + 1) (by omega) b3).1
     rw [show i + 1 + (j - (i + 1)) = j by omega] at this
     omega
  ·-- a firm writer
   obtain ⟨e1,e2⟩:=hfirm i (hordF hpu hlb) hip (by have:=(Array.getElem?_eq_some_iff.1 hi).1; omega) (fun _ _=>rfl)
   have hwr1 : ∀ (j : Nat) p,ops[j]? = some p → mayWc cf p.op = true → pre cf ops ≤ j → ((j == i || D j) = true ↔ j < i + 1):=by
    intro j p hj hwp hpj
    by_cases hji : j = i
    ·subst hji; simp
    ·have:=hordF hpu hlb j p hj hwp hpj hji
     simp only [Bool.or_eq_true,beq_iff_eq,hji,false_or]
     rw [this]; omega
   have hnol : ∀ (j : Nat) p,ops[j]? = some p → mayWc cf p.op = true → j < pre cf ops → (j == i || D j) = false → False:=by
    intro j p hj hwp hpj hdj
    simp only [Bool.or_eq_false_iff] at hdj
    have hji : i ≠ j:=by omega
    have:=ord_next ho hm.down hi hD hall hj hji ((ho.mem i j o p hi hj hji hpu hwp).elim id fun h=>h.elim (fun h=>by
     obtain ⟨a,ha,_⟩:=apart_some h
     rw [hlb] at ha; cases ha) fun h=>by
     rcases h.2 with h | h
     ·rw [hw] at h; cases h
     ·omega)
    rw [hdj.2] at this
    have : ¬ j < i:=by simpa using this
    omega
   cases hb : s.b with
   | false =>
    simp only [Bool.false_eq_true,if_false]
    obtain ⟨hr,hH,hN⟩:=hst.2.1 hb
    have e3 : HH tr H0 (i + 1) = HH tr H0 k:=by rw [hHi.1,hH,e1]
    have e4 : NN tr n0 (i + 1) = NN tr n0 k:=by rw [hHi.2,hN,e2]
    exact hK _ _ ⟨(hputd _).1,(hputd _).2,hdown',m,i + 1,by omega,by omega,hwr1,by rw [e3]; exact hrep,by rw [e4]; exact hfree,fun j p hj hwp hpj hdj=>(hnol j p hj hwp hpj hdj).elim,by rw [e3]; exact hput hsl (by rw [hr]; exact rep_undef)⟩
   | true =>
    simp only [if_true]
    refine .inl ?_
    rw [e1] at hrep hsl
    rw [e2] at hfree
    exact (hst.exec hb hrep hfree (hrepO hsl)).wp fun v w' ⟨m',h1,h2,h3,h4⟩=>hK _ _ ⟨(hputd _).1,(hputd _).2,hdown',m',i + 1,by omega,by omega,hwr1,by rw [hHi.1]; exact h1,by rw [hHi.2]; exact h3,fun j p hj hwp hpj hdj=>(hnol j p hj hwp hpj hdj).elim,by rw [hHi.1]; exact hput (fun t=>h2.rep (hsl t)) h4⟩
 | false =>
  cases hb : s.b with
  | false =>
   simp only [Bool.false_eq_true,if_false]
   obtain ⟨hr,hH,hN⟩:=hst.2.1 hb
   exact hK _ _ ⟨(hputd _).1,(hputd _).2,hdown',m,k,hpk,hk,hwr0 hw,hrep,hfree,hloo0 (fun _ h=>h),hput hsl (by rw [hr]; exact rep_undef)⟩
  | true =>
   simp only [if_true]
   refine .inl ?_
   cases hpu : pureR cf ops.toList o.op with
   | true =>
    obtain ⟨hH,hN,hq⟩:=(hst.2.2 hb).2.2.1 hpu
    exact (hq F (HH tr H0 k) (NN tr n0 k) (HH tr H0 k) m w a.eval ⟨⟨fun _ _ h=>h,rfl⟩,rfl⟩ hrep (fun i h1 h2=>by omega) (hrepO hsl)).wp fun v w' ⟨m',h1,h2,h3,h4,h5⟩=>hK _ _ ⟨(hputd _).1,(hputd _).2,hdown',m',k,hpk,hk,hwr0 hw,h1,fun j hj=>⟨h4 j (by omega) (hfree j hj).1,by rw [h3]; exact (hfree j hj).2⟩,hloo0 (fun j hj=>h4 j (by omega) hj),hput (fun t=>h2.rep (hsl t)) h5⟩
   | false =>
    cases hlb : loadBx g0 n0 ops o with
    | some id =>
     obtain ⟨t,q,hop,hidn,hwhere⟩:=loadBx_some hlb
     have hch : ∀ (n i : Nat) (o : Oper) (q id : Nat),ops[i]? = some o → chBx g0 ops n o q = some id → ∃ off,G ops.toList tr g0 i q = .bx id off:=by
      intro n
      induction n with
      | zero=>intro i o q id _ h; simp [chBx] at h
      | succ n ih =>
       intro i o q id hi h
       have hil:=(Array.getElem?_eq_some_iff.1 hi).1
       unfold chBx at h
       split at h
       ·rename_i id' off hk hgq
        cases h
        exact ⟨off,by rw [kept_G ho hl hk (by omega)]; exact hgq⟩
       ·split at h
        ·rename_i j hj
         split at h
         ·rename_i he
          split at h
          ·rename_i p hp
           obtain ⟨e,he1,he2⟩:=List.any_eq_true.1 he
           simp only [Bool.and_eq_true,beq_iff_eq] at he2
           obtain ⟨hlt,hd,_⟩:=List.findIdx?_eq_some_iff_getElem.1 hj
           have hpp : ops.toList[j] = p:=by
            have:=(Array.getElem?_eq_some_iff.1 hp).2
            simpa using this
           rw [hpp] at hd
           have hd : p.dst = some q:=by simpa using hd
           have hji : j < i:=he2.2 ▸ ho.edge i o e hi (Array.mem_toList_iff.1 he1) he2.1
           have hjl:=(Array.getElem?_eq_some_iff.1 hp).1
           have hsj : tr[j]? = some (tr[j]'(by omega)):=List.getElem?_eq_getElem _
           have hstj:=hstep j p _ (by rw [Array.getElem?_toList]; exact hp) hsj
           have fin : p.guard = none → (∃ off,(tr[j]'(by omega)).b = true → (tr[j]'(by omega)).r = .bx id off) → ∃ off,G ops.toList tr g0 i q = .bx id off:=by
            intro hpg ⟨off',hr⟩
            have hbj : (tr[j]'(by omega)).b = true:=by
             have:=hstj.1
             unfold Wants at this
             rw [hpg] at this
             exact this
            refine ⟨off',?_⟩
            rw [G_val ho hl i (by omega),val_dst ho hp hsj hd]
            simp only [hji,decide_true,if_true]
            exact hr hbj
           split at h
           ·rename_i sT q2 f hpo hpg
            obtain ⟨off,hgj⟩:=ih j p q2 id hp h
            refine fin hpg ?_
            by_cases hbj : (tr[j]'(by omega)).b = true
            ·obtain ⟨off',hr⟩:=(hstj.2.2 hbj).2.2.2.2.2.2.2.1 sT q2 id off f hpo hgj
             exact ⟨off',fun _=>hr⟩
            ·exact ⟨0,fun hb=>absurd hb hbj⟩
           ·rename_i q2 hpo hpg
            obtain ⟨off,hgj⟩:=ih j p q2 id hp h
            exact fin hpg ⟨off,fun hbj=>(hstj.2.2 hbj).2.2.2.2.2.2.2.2.2.2 q2 id off (.inr hpo) hgj⟩
           ·rename_i q2 hpo hpg
            obtain ⟨off,hgj⟩:=ih j p q2 id hp h
            exact fin hpg ⟨off,fun hbj=>(hstj.2.2 hbj).2.2.2.2.2.2.2.2.2.2 q2 id off (.inl hpo) hgj⟩
           ·cases h
          ·cases h
         ·cases h
        ·cases h
     obtain ⟨off,hgi⟩ : ∃ off,G ops.toList tr g0 i q = .bx id off:=hch 6 i o q id hi hwhere
     have hstep1 : ∀ (j : Nat) (p : Oper) (sj : Step),ops[j]? = some p → tr[j]? = some sj → (mayWc cf p.op = true → pre cf ops ≤ j → ¬ (D j = true ↔ j < i)) → look sj.H.box id = look (HH tr H0 j).box id:=by
      intro j p sj hj hsj hno
      cases hwp : mayWc cf p.op with
      | false=>rw [(hconst j p sj hj hsj hwp).1]
      | true =>
       have hji : j ≠ i:=fun e=>by subst e; rw [hi] at hj; cases hj; rw [hw] at hwp; cases hwp
       rcases Nat.lt_or_ge j (pre cf ops) with hpj | hpj
       ·rcases pre_step hdr htr hpj hj hsj with ⟨h,_⟩ | ⟨_,_,_,_,⟨cs,e1⟩,_⟩
        ·rw [hwp] at h; cases h
        have e2 : HH tr H0 (j + 1) = sj.H:=by simp [HH,hsj]
        have:=(pre_facts hdr htr hl hj0 j 0 (by omega) hj0).1
        rw [Nat.zero_add] at this
        have h0 : NN tr n0 0 = n0:=rfl
        rw [← e2,e1]
        exact look_add_ne _ _ _ _ (by omega)
       have hno:=hno hwp hpj
       rcases ho.mem i j o p hi hj (fun e=>hji e.symm) hpu hwp with h | h | h
       ·exact absurd (ord_next ho hm.down hi hD hall hj (fun e=>hji e.symm) h) hno
       ·obtain ⟨a',ha,hor⟩:=apart_some h
        rw [hlb] at ha; cases ha
        have hstj:=hstep j p sj (by simpa using hj) hsj
        have hjl:=(Array.getElem?_eq_some_iff.1 hj).1
        rcases hor with ⟨b',hb',hne⟩ | hnew | howp | hgp
        ·obtain ⟨t',q',x',off',hop',hkq',hgq'⟩:=storeBx_some hb'
         have hgj : G ops.toList tr g0 j q' = .bx b' off':=by rw [kept_G ho hl hkq' (by omega)]; exact hgq'
         cases hsb : sj.b with
         | false=>rw [(hstj.2.1 hsb).2.1]
         | true=>exact (hstj.2.2 hsb).2.2.2.2.2.1 t' q' x' b' off' hop' hgj id hne
        ·unfold storeNew at hnew
         split at hnew
         ·rename_i t' q' x' hop'
          obtain ⟨j0,p0,hj0p,hp0,hlo,hd0⟩:=newBx_some hnew
          have hj0l:=(Array.getElem?_eq_some_iff.1 hp0).1
          have hs0 : tr[j0]? = some (tr[j0]'(by omega)):=List.getElem?_eq_getElem _
          rcases pre_step hdr htr hj0p hp0 hs0 with ⟨h,_⟩ | ⟨_,_,hr0,_,_,_⟩
          ·obtain ⟨⟨e,he⟩,_⟩:=looseOp_some hlo
           rw [he] at h; simp [mayWc,ownOp,gOp,mayW] at h
          have hgj : G ops.toList tr g0 j q' = .bx (NN tr n0 j0) 0:=by
           rw [G_val ho hl j (by omega),val_dst ho hp0 hs0 hd0]
           simp only [show j0 < j by omega,decide_true,if_true]
           exact hr0
          have:=(pre_facts hdr htr hl hj0 j0 0 (by omega) hj0).1
          rw [Nat.zero_add] at this
          have h0 : NN tr n0 0 = n0:=rfl
          cases hsb : sj.b with
          | false=>rw [(hstj.2.1 hsb).2.1]
          | true=>exact (hstj.2.2 hsb).2.2.2.2.2.1 t' q' x' _ _ hop' hgj id (by omega)
         ·cases hnew
        ·cases hsb : sj.b with
         | false=>rw [(hstj.2.1 hsb).2.1]
         | true=>rw [(hstj.2.2 hsb).2.2.2.2.2.2.2.2.1 howp]
        ·cases hsb : sj.b with
         | false=>rw [(hstj.2.1 hsb).2.1]
         | true =>
          have hnn : ∀ j,j ≤ ops.size → n0 ≤ NN tr n0 j:=by
           intro j
           induction j with
           | zero=>intro _; exact Nat.le_refl _
           | succ j ih =>
            intro hjs
            have h1:=ih (by omega)
            have hp9 : ops[j]? = some (ops[j]'(by omega)):=Array.getElem?_eq_getElem _
            have hs9 : tr[j]? = some (tr[j]'(by omega)):=List.getElem?_eq_getElem _
            have hst9:=hstep j _ _ (show ops.toList[j]? = some (ops[j]'(by omega)) by rw [Array.getElem?_toList]; exact hp9) hs9
            have e9 : NN tr n0 (j + 1) = (tr[j]'(by omega)).nx:=by simp [NN,hs9]
            rw [e9]
            cases hsb9 : (tr[j]'(by omega)).b with
            | false=>rw [(hst9.2.1 hsb9).2.2]; exact h1
            | true=>exact Nat.le_trans h1 (hst9.2.2 hsb9).1
          refine (hstj.2.2 hsb).2.2.2.2.2.2.2.2.2.1 hgp o (by simpa using Array.mem_of_getElem? hi) id ?_
          rw [Array.toArray_toList]
          exact loadBx_mono (fun q hk=>kept_G ho hl hk (by omega)) (hnn j (by omega)) hlb
       ·omega
     have hbox : look (HH tr H0 k).box id = look (HH tr H0 i).box id:=by
      rcases Nat.le_total k i with hle | hle
      ·have h:=HH_box (H0:=H0) (id:=id) hl (i - k) k (by omega) (fun j p sj hj1 hj2 hj hsj=>hstep1 j p sj hj hsj fun hwp hpj hiff=>by
        have:=hwr j p hj hwp hpj
        have h3 : j < k:=this.1 (hiff.2 (by omega))
        omega)
       rw [show k + (i - k) = i by omega] at h
       exact h.symm
      ·have h:=HH_box (H0:=H0) (id:=id) hl (k - i) i (by omega) (fun j p sj hj1 hj2 hj hsj=>hstep1 j p sj hj hsj fun hwp hpj hiff=>by
        have:=hwr j p hj hwp hpj
        have h3 : j < i:=hiff.1 (this.2 (by omega))
        omega)
       rw [show i + (k - i) = k by omega] at h
       exact h
     have hq:=(hst.2.2 hb).2.2.2.2.1 t q id off hop hgi F (HH tr H0 k) (NN tr n0 k) hbox
     exact (hq (HH tr H0 k) m w a.eval ⟨⟨fun _ _ h=>h,rfl⟩,rfl⟩ hrep (fun i h1 h2=>by omega) (hrepO hsl)).wp fun v w' ⟨m',h1,h2,h3,h4,h5⟩=>hK _ _ ⟨(hputd _).1,(hputd _).2,hdown',m',k,hpk,hk,hwr0 hw,h1,fun j hj=>⟨h4 j (by omega) (hfree j hj).1,by rw [h3]; exact (hfree j hj).2⟩,hloo0 (fun j hj=>h4 j (by omega) hj),hput (fun t=>h2.rep (hsl t)) h5⟩
    | none =>
     have hsup : Sup (HH tr H0 k) (HH tr H0 i):=by
      rcases Nat.lt_or_ge i (pre cf ops) with hip | hip
      ·have hk1:=(hfirm (pre cf ops) (fun j p hj hwp hpj hne=>by
        have:=hordF hpu hlb j p hj hwp hpj hne
        rw [this]; omega) (Nat.le_refl _) hpl (fun _ h=>by omega)).1
       rw [hk1]
       obtain ⟨_,_,f3⟩:=pre_facts hdr htr hl hj0 i 0 (by omega) hj0
       rw [Nat.zero_add] at f3
       have:=(pre_facts hdr htr hl hj0 (pre cf ops - i) i (by omega) f3).2.1
       rw [show i + (pre cf ops - i) = pre cf ops by omega] at this
       exact this
      ·have hil:=(Array.getElem?_eq_some_iff.1 hi).1
       rw [(hfirm i (hordF hpu hlb) hip (by omega) (fun _ _=>rfl)).1]
       exact ⟨⟨fun _ _ h=>h,rfl⟩,rfl⟩
     have hq:=((hst.2.2 hb).2.2.2.1 hdr hw).2.2 F
     exact (hq (HH tr H0 k) m w a.eval hsup hrep (fun i h1 h2=>by omega) (hrepO hsl)).wp fun v w' ⟨m',h1,h2,h3,h4,h5⟩=>hK _ _ ⟨(hputd _).1,(hputd _).2,hdown',m',k,hpk,hk,hwr0 hw,h1,fun j hj=>⟨h4 j (by omega) (hfree j hj).1,by rw [h3]; exact (hfree j hj).2⟩,hloo0 (fun j hj=>h4 j (by omega) hj),hput (fun t=>h2.rep (hsl t)) h5⟩

theorem countP_set (D : Nat → Bool) (i : Nat) (hD : D i = false) : ∀ l : List Nat,l.Nodup → i ∈ l → l.countP (fun j=>j == i || D j) = l.countP D + 1
 | [],_,h=>by cases h
 | x :: l,hn,h=>by
  obtain ⟨hx,hn⟩:=List.nodup_cons.1 hn
  by_cases hxi : x = i
  ·subst hxi
   have e : l.countP (fun j=>j == x || D j) = l.countP D:=by
    apply List.countP_congr
    intro j hj
    have : j ≠ x:=fun e=>hx (e ▸ hj)
    simp [this]
   simp [List.countP_cons,hD,e]
  ·have hm : i ∈ l:=by
    rcases List.mem_cons.1 h with h | h
    ·exact absurd h.symm hxi
    ·exact h
   have ih:=countP_set D i hD l hn hm
   have e : (x == i || D x) = D x:=by simp [hxi]
   simp only [List.countP_cons,ih,e]
   omega

theorem Mid.any {dr : Bool} (hdr : dr = true) {g' : Nat → AV} {H' : Hp} {nx' : Nat} (ho : OrdP cf g0 n0 ops n B) (htr : TrP P cf dr ops.toList ops.toList g0 H0 n0 tr g' H' nx') (hj0 : ∀ id,n0 ≤ id → look H0.box id = none) {F : Fr} {Q : Exit → Act → World → Prop}
  (hQ : ∀ D a w,(∀ i,i < ops.size → D i = true) → Mid cf F ops tr g0 H0 n0 n D a w → Q .normal a w) : ∀ (fuel : Nat) (listed : Array Bool) (a : Act) (w : World),listed.size = ops.size → ops.size ≤ fuel + (List.range ops.size).countP (fun i=>listed.getD i true) → Mid cf F ops tr g0 H0 n0 n (fun i=>listed.getD i true) a w → wpAny P .any ops Q fuel listed a w:=by
 have hready : ∀ (listed : Array Bool) (i : Nat),listed.size = ops.size → i ∈ Region.ready .any ops listed → ∃ o,ops[i]? = some o ∧ listed.getD i true = false ∧ ∀ e ∈ o.after,Region.binds .any e = true → listed.getD e.on false = true:=by
  intro listed i hsz hi
  unfold Region.ready at hi
  rw [List.mem_filter] at hi
  obtain ⟨h1,h2⟩:=hi
  have hlt:=List.mem_range.1 h1
  have hoi : ops[i]? = some ops[i]:=Array.getElem?_eq_getElem hlt
  simp only [hoi,Option.map_some,Option.getD_some,Bool.and_eq_true,Bool.not_eq_true'] at h2
  refine ⟨ops[i],hoi,h2.1,fun e he hb=>?_⟩
  have:=Array.all_eq_true'.1 h2.2 e he
  simpa [hb] using this
 have hnone : ∀ (listed : Array Bool),listed.size = ops.size → Region.ready .any ops listed = [] → ∀ i,i < ops.size → listed.getD i true = true:=by
  intro listed hsz hr i
  induction i using Nat.strongRecOn with
  | _ i ih =>
   intro hi
   cases hl : listed.getD i true with
   | true=>rfl
   | false =>
    have hoi : ops[i]? = some ops[i]:=Array.getElem?_eq_getElem hi
    have : i ∈ Region.ready .any ops listed:=by
     unfold Region.ready
     rw [List.mem_filter]
     refine ⟨List.mem_range.2 hi,?_⟩
     simp only [hoi,Option.map_some,Option.getD_some,hl,Bool.not_false,Bool.true_and]
     rw [Array.all_eq_true']
     intro e he
     cases hb : Region.binds .any e with
     | false=>simp
     | true =>
      have hlt:=ho.edge i ops[i] e hoi he hb
      have:=ih e.on hlt (by omega)
      have h2 : listed.getD e.on false = true:=by
       have hlt2 : e.on < listed.size:=by omega
       simp [hlt2] at this ⊢; exact this
      simpa using h2
    rw [hr] at this
    cases this
 intro fuel
 induction fuel with
 | zero =>
  intro listed a w hsz hf hm
  have hall : ∀ i,i < ops.size → listed.getD i true = true:=by
   have hle : (List.range ops.size).countP (fun i=>listed.getD i true) ≤ (List.range ops.size).length:=List.countP_le_length
   have : (List.range ops.size).countP (fun i=>listed.getD i true) = (List.range ops.size).length:=by
    rw [List.length_range] at hle ⊢; omega
   rw [List.countP_eq_length] at this
   exact fun i hi=>this i (List.mem_range.2 hi)
  refine ⟨?_,hQ _ a w hall hm⟩
  cases hr : Region.ready .any ops listed with
  | nil=>rfl
  | cons i l =>
   obtain ⟨o,h1,h2,_⟩:=hready listed i hsz (by rw [hr]; exact List.mem_cons_self ..)
   have:=hall i (Array.getElem?_eq_some_iff.1 h1).1
   rw [h2] at this; cases this
 | succ fuel ih =>
  intro listed a w hsz hf hm
  refine ⟨fun hr=>hQ _ a w (hnone listed hsz hr) hm,fun i hi=>?_⟩
  obtain ⟨o,h1,h2,h3⟩:=hready listed i hsz hi
  have hil:=(Array.getElem?_eq_some_iff.1 h1).1
  have hset : (fun j=>(listed.setIfInBounds i true).getD j true) = fun j=>j == i || listed.getD j true:=by
   funext j
   by_cases hj : i = j
   ·subst hj; simp [show i < listed.size by omega]
   ·have : (j == i) = false:=by simp; omega
    simp [Array.getElem?_setIfInBounds_ne hj,this]
  refine hm.step hdr ho htr hj0 h1 h2 (fun e he hb=>?_) fun a' w' hm'=>ih _ a' w' (by simpa using hsz) ?_ (by rw [hset]; exact hm')
  ·have h4:=h3 e he hb
   have hlt : e.on < listed.size:=by
    rcases Nat.lt_or_ge e.on listed.size with h | h
    ·exact h
    ·simp [Array.getElem?_eq_none h] at h4
   simp [hlt] at h4 ⊢; exact h4
  ·rw [hset,countP_set _ i h2 _ List.nodup_range (List.mem_range.2 hil)]
   omega

end main

theorem drew_rep {F : Fr} {H : Hp} {m : Mp} {w : World} (h : HRep F H m w) : HRep F H m { w with drawn:=w.drawn + 1 } ∧ Later F H m w H m { w with drawn:=w.drawn + 1 }:=by
 have he : Ext w { w with drawn:=w.drawn + 1 }:=⟨rfl,rfl,rfl,Nat.le_refl _,fun _ _=>rfl⟩
 exact ⟨h.ext he,HRep.ext_later he⟩

theorem any_draw {cf : Cfg} (hcf : TblOk P cf) {F : Fr} {Q : Exit → Act → World → Prop} {K : St → Prop} {st : St} {m : Mp} {a : Act} {w : World} {ops : Array Oper} (hord : ordOkS cf st ops (Region.before ops) = true)
  (hK : ∀ st m a w,K st → StRep F st m a w → Q .normal a w) (h : evalOps P cf true ops.toList ops.toList st K) (hs : StRep F st m a w) : wpAny P .any ops Q ops.size (Array.replicate ops.size false) a { w with drawn:=w.drawn + 1 }:=by
 obtain ⟨hord1,hord2⟩:=Bool.and_eq_true_iff.1 hord
 have ho:=ord_of hord1
 have hj0 : ∀ id,st.nx ≤ id → look st.H.box id = none:=fun id hid=>look_none fun p hp=>by
  have:=of_decide_eq_true (List.all_eq_true.1 hord2 p hp)
  omega
 obtain ⟨tr,fin,hfin,hn,htr⟩:=evalOps_tr hcf ops.toList st (fun o hom t ht=>by
  obtain ⟨i,hi⟩:=List.getElem?_of_mem hom
  exact ho.dst i o t (by simpa using hi) ht) h
 obtain ⟨hl,hg',hH',hN',_⟩:=TrP_at htr
 obtain ⟨hl0,_,_,_,hstep⟩:=TrP_at htr
 have hl2 : tr.length = ops.size:=by simpa using hl
 obtain ⟨hr1,hr2⟩:=drew_rep hs.h
 refine Mid.any (n:=st.n) rfl ho htr hj0 (F:=F) ?_ ops.size (Array.replicate ops.size false) a _ (by simp) (by omega) ?_
 ·intro D a w hall hm
  obtain ⟨m,k,hpk,hk,hwr,hrep,hfree,hloo,hsl⟩:=hm.at_
  have hconst : ∀ (i : Nat) o s,ops[i]? = some o → tr[i]? = some s → mayWc cf o.op = false → s.H = HH tr st.H i ∧ s.nx = NN tr st.nx i:=by
   intro i o s ho hs hw
   have h:=hstep i o s (by simpa using ho) hs
   cases hb : s.b with
   | false=>exact (h.2.1 hb).2
   | true=>have:=(h.2.2 hb).2.2.2.1 rfl hw; exact ⟨this.1,this.2.1⟩
  have hc:=HH_const (H0:=st.H) (n0:=st.nx) hl2 hconst (ops.size - k) k (by omega) (fun j o hj1 hj2 hj=>by
   cases hw : mayWc cf o.op with
   | false=>rfl
   | true=>have:=(hwr j o hj hw (by omega)).1 (hall j (by omega)); omega)
  rw [show k + (ops.size - k) = ops.size by omega] at hc
  have hlen : ops.toList.length = ops.size:=by simp
  rw [hlen] at hg' hH' hN'
  refine hK fin m a w hfin ⟨hm.d,by rw [hn]; exact hm.sz,by rw [hH',hc.1]; exact hrep,by rw [hN',hc.2]; exact hfree,fun t=>?_⟩
  rw [hH',hc.1]
  have : fin.get t = val ops tr st.get D t:=by
   rw [hg',G_val ho hl2 ops.size (Nat.le_refl _) t]
   by_cases hex : ∃ (i : Nat) (o : Oper),ops[i]? = some o ∧ o.dst = some t
   ·obtain ⟨i,o,hi,hd⟩:=hex
    have hil:=(Array.getElem?_eq_some_iff.1 hi).1
    have hsi : tr[i]? = some (tr[i]'(by omega)):=List.getElem?_eq_getElem _
    rw [val_dst ho hi hsi hd,val_dst ho hi hsi hd,hall i hil]
    simp [hil]
   ·rw [val_none,val_none]
    ·intro i o hi hd; exact hex ⟨i,o,hi,hd⟩
    ·intro i o hi hd; exact hex ⟨i,o,hi,hd⟩
  rw [this]
  exact hsl t
 ·have hfalse : ∀ i,i < ops.size → (Array.replicate ops.size false).getD i true = false:=fun i hi=>by simp [hi]
  have hpl:=pre_le (cf:=cf) ops
  obtain ⟨f1,f2,_⟩:=pre_facts rfl htr hl2 hj0 (pre cf ops) 0 (by omega) hj0
  rw [Nat.zero_add] at f1 f2
  obtain ⟨g1,g2⟩:=hr1.hp (H':=HH tr st.H (pre cf ops)) (fun i b hb=>by
   obtain ⟨cs,h1,_⟩:=hr1.box i b hb
   rw [h1]; exact f2.1.1 i cs h1) (fun i B hB=>by rw [f2.2]; exact hB) f2.1.2
  refine ⟨hs.d,hs.sz,fun i o e hi hD=>?_,m,pre cf ops,Nat.le_refl _,hpl,fun j o hj hw hpj=>?_,g1,fun i hi=>hs.fr i (Nat.le_trans f1 hi),fun j o hj hw hpj _=>(hs.fr _ ?_).1,fun t=>?_⟩
  ·rw [hfalse i (Array.getElem?_eq_some_iff.1 hi).1] at hD; cases hD
  ·rw [hfalse j (Array.getElem?_eq_some_iff.1 hj).1]; simp; omega
  ·have:=(pre_facts rfl htr hl2 hj0 j 0 (by omega) hj0).1
   rw [Nat.zero_add] at this
   exact this
  ·have : val ops tr st.get (fun i=>(Array.replicate ops.size false).getD i true) t = st.get t:=by
    by_cases hex : ∃ (i : Nat) (o : Oper),ops[i]? = some o ∧ o.dst = some t
    ·obtain ⟨i,o,hi,hd⟩:=hex
     have hil:=(Array.getElem?_eq_some_iff.1 hi).1
     have hsi : tr[i]? = some (tr[i]'(by omega)):=List.getElem?_eq_getElem _
     rw [val_dst ho hi hsi hd,hfalse i hil]; simp
    ·exact val_none _ (fun i o hi hd=>hex ⟨i,o,hi,hd⟩)
   rw [this]
   exact g2.rep (hr2.rep (hs.sl t))

theorem awp_region_draw {cf : Cfg} (hcf : TblOk P cf) (hmix : P.follows .mixedOrders = true) {F : Fr} {Q : Exit → St → Prop} {st : St} {id : Nat} {ops : Array Oper} (hord : ordOkS cf st ops (Region.before ops) = true)
  (h : ∀ K : St → Prop,(∀ st,Q .normal st → K st) → evalOps P cf true ops.toList ops.toList st K) : AWp P F (.region id ops true) Q st:=fun m a w hs =>
 wp_region_any hmix (any_draw hcf hord (K:=Q .normal) (fun st m a w hK hs=>⟨st,m,hK,hs⟩) (h _ fun _ h=>h) hs)

def lastQ (P : Program) (Q : Exit → Act → World → Prop) (ops : Array Oper) (n : Nat) : Exit → Act → World → Prop
 | .normal,a,w=>wpOp P ops Q n (Q .normal) a w
 | e,a,w=>Q e a w
theorem upon_last {Q : Exit → Act → World → Prop} {ops : Array Oper} {n : Nat} {o : Oper} {a : Act} {w : World} {K : Act → World → Prop} (h : o.wp P a w K (lastQ P Q ops n)) : o.wp P a w K Q:=by
 unfold Oper.wp at *
 generalize (execOp a.eval o).run P w = r at *
 cases r with
 | ok nx w' =>
  cases nx with
  | enter f args =>
   rw [Oper.upon_enter] at h ⊢
   exact Calls.mono h fun e w'' he=>by cases e <;> exact he
  | _=>exact h
 | halt x w'=>cases x <;> exact h
theorem lets_last {Q : Exit → Act → World → Prop} {ops : Array Oper} {n : Nat} (h : LetsOut (lastQ P Q ops n)) : LetsOut Q:=h
def lastOk (ops : Array Oper) (l : Oper) : Bool :=
 (l.guard.isNone && l.after.toList.all fun e=>!Region.binds .any e || decide (e.on < ops.size)) &&
 (List.range ops.size).all fun j=>match ops[j]? with
  | none=>false
  | some o=>o.guard.isNone && (o.after.toList.all fun e=>!Region.binds .any e || decide (e.on < j)) &&
   ((l.after.toList.any fun e=>Region.binds .any e && e.on == j) || (List.range ops.size).any fun k=>decide (j < k) && match ops[k]? with | some p=>p.after.toList.any fun e=>Region.binds .any e && e.on == j | none=>false)
structure LastP (ops : Array Oper) (l : Oper) : Prop where
 g : l.guard = none
 e : ∀ e ∈ l.after,Region.binds .any e = true → e.on < ops.size
 go : ∀ (j : Nat) o,ops[j]? = some o → o.guard = none
 eo : ∀ (j : Nat) o e,ops[j]? = some o → e ∈ o.after → Region.binds .any e = true → e.on < j
 s : ∀ j,j < ops.size → (∃ e ∈ l.after,Region.binds .any e = true ∧ e.on = j) ∨ ∃ k p,j < k ∧ ops[k]? = some p ∧ ∃ e ∈ p.after,Region.binds .any e = true ∧ e.on = j
theorem last_of {ops : Array Oper} {l : Oper} (h : lastOk ops l = true) : LastP ops l:=by
 unfold lastOk at h
 rw [Bool.and_eq_true,Bool.and_eq_true] at h
 obtain ⟨⟨h1,h2⟩,h3⟩:=h
 have hj : ∀ (j : Nat) o,ops[j]? = some o → (o.guard.isNone = true ∧ (o.after.toList.all fun e=>!Region.binds .any e || decide (e.on < j)) = true) ∧ ((l.after.toList.any fun e=>Region.binds .any e && e.on == j) || (List.range ops.size).any fun k=>decide (j < k) && match ops[k]? with | some p=>p.after.toList.any fun e=>Region.binds .any e && e.on == j | none=>false) = true:=by
  intro j o ho
  have:=List.all_eq_true.1 h3 j (List.mem_range.2 (Array.getElem?_eq_some_iff.1 ho).1)
  simp only [ho] at this
  rw [Bool.and_eq_true,Bool.and_eq_true] at this
  exact this
 have hedge : ∀ {as : Array Edge} {n : Nat},(as.toList.all fun e=>!Region.binds .any e || decide (e.on < n)) = true → ∀ e ∈ as,Region.binds .any e = true → e.on < n:=by
  intro as n ha e he hb
  have:=List.all_eq_true.1 ha e (Array.mem_toList_iff.2 he)
  rw [hb] at this
  simpa using this
 have hany : ∀ {as : Array Edge} {j : Nat},(as.toList.any fun e=>Region.binds .any e && e.on == j) = true → ∃ e ∈ as,Region.binds .any e = true ∧ e.on = j:=by
  intro as j ha
  obtain ⟨e,he,hb⟩:=List.any_eq_true.1 ha
  rw [Bool.and_eq_true] at hb
  exact ⟨e,Array.mem_toList_iff.1 he,hb.1,by simpa using hb.2⟩
 refine ⟨by simpa using h1,hedge h2,fun j o ho=>by simpa using (hj j o ho).1.1,fun j o e ho he hb=>hedge (hj j o ho).1.2 e he hb,fun j hlt=>?_⟩
 have ho : ops[j]? = some ops[j]:=Array.getElem?_eq_getElem hlt
 rcases Bool.or_eq_true_iff.1 (hj j _ ho).2 with h | h
 ·exact .inl (hany h)
 ·obtain ⟨k,_,hk⟩:=List.any_eq_true.1 h
  rw [Bool.and_eq_true] at hk
  obtain ⟨hk1,hk2⟩:=hk
  split at hk2
  ·rename_i p hp
   exact .inr ⟨k,p,by simpa using hk1,hp,hany hk2⟩
  ·cases hk2
theorem ready_mem {ops : Array Oper} {listed : Array Bool} {i : Nat} : i ∈ Region.ready .any ops listed ↔ ∃ o,ops[i]? = some o ∧ listed.getD i true = false ∧ ∀ e ∈ o.after,Region.binds .any e = true → listed.getD e.on false = true:=by
 unfold Region.ready
 rw [List.mem_filter]
 constructor
 ·rintro ⟨h1,h2⟩
  have hlt:=List.mem_range.1 h1
  have hoi : ops[i]? = some ops[i]:=Array.getElem?_eq_getElem hlt
  simp only [hoi,Option.map_some,Option.getD_some,Bool.and_eq_true,Bool.not_eq_true'] at h2
  refine ⟨ops[i],hoi,h2.1,fun e he hb=>?_⟩
  have:=Array.all_eq_true'.1 h2.2 e he
  simpa [hb] using this
 ·rintro ⟨o,ho,h1,h2⟩
  refine ⟨List.mem_range.2 (Array.getElem?_eq_some_iff.1 ho).1,?_⟩
  simp only [ho,Option.map_some,Option.getD_some,h1,Bool.not_false,Bool.true_and]
  rw [Array.all_eq_true']
  intro e he
  cases hb : Region.binds .any e with
  | false=>simp
  | true=>simpa using h2 e he hb
theorem any_last {Q : Exit → Act → World → Prop} {ops : Array Oper} {l : Oper} (hl : LastP ops l) : ∀ (fuel : Nat) (listed : Array Bool) (a : Act) (w : World),listed.size = ops.size →
  (∀ (i : Nat) o e,ops[i]? = some o → listed.getD i false = true → e ∈ o.after → Region.binds .any e = true → listed.getD e.on false = true) →
  wpAny P .any ops (lastQ P Q (ops.push l) ops.size) fuel listed a w → wpAny P .any (ops.push l) Q (fuel + 1) (listed.push false) a w:=by
 have hget : ∀ (i : Nat),i < ops.size → (ops.push l)[i]? = ops[i]?:=fun i hi=>by rw [Array.getElem?_push,if_neg (by omega)]
 have hgl : (ops.push l)[ops.size]? = some l:=by simp
 have lst : ∀ (listed : Array Bool) (b d : Bool) (i : Nat),listed.size = ops.size → i < ops.size → (listed.push b).getD i d = listed.getD i d:=fun listed b d i hs hi=>by
  simp only [Array.getD_eq_getD_getElem?]
  rw [Array.getElem?_push,if_neg (by omega)]
 have lstn : ∀ (listed : Array Bool) (b d : Bool),listed.size = ops.size → (listed.push b).getD ops.size d = b:=fun listed b d hs=>by
  rw [← hs]; simp [Array.getD]
 -- nothing ready among the others: all are listed
 have hnone : ∀ (listed : Array Bool),listed.size = ops.size → Region.ready .any ops listed = [] → ∀ i,i < ops.size → listed.getD i false = true:=by
  intro listed hsz hr i
  induction i using Nat.strongRecOn with
  | _ i ih =>
   intro hi
   cases hq : listed.getD i false with
   | true=>rfl
   | false =>
    have hoi : ops[i]? = some ops[i]:=Array.getElem?_eq_getElem hi
    have : i ∈ Region.ready .any ops listed:=ready_mem.2 ⟨_,hoi,by
     simp [show i < listed.size by omega] at hq ⊢; exact hq,fun e he hb=>ih e.on (hl.eo i _ e hoi he hb) (by have:=hl.eo i _ e hoi he hb; omega)⟩
    rw [hr] at this; cases this
 -- the last one ready: all others are listed
 have hall : ∀ (listed : Array Bool),listed.size = ops.size → (∀ (i : Nat) o e,ops[i]? = some o → listed.getD i false = true → e ∈ o.after → Region.binds .any e = true → listed.getD e.on false = true) →
   (∀ e ∈ l.after,Region.binds .any e = true → listed.getD e.on false = true) → ∀ k i,i < ops.size → ops.size - i ≤ k → listed.getD i false = true:=by
  intro listed hsz hcl hd k
  induction k with
  | zero=>intro i hi hk; omega
  | succ k ih =>
   intro i hi hk
   rcases hl.s i hi with ⟨e,he,hb,rfl⟩ | ⟨k',p,hik,hp,e,he,hb,rfl⟩
   ·exact hd e he hb
   ·have hk':=(Array.getElem?_eq_some_iff.1 hp).1
    exact hcl k' p e hp (ih k' hk' (by omega)) he hb
 have nready : ∀ (listed : Array Bool),listed.size = ops.size → (∀ i,i < ops.size → listed.getD i false = true) → Region.ready .any ops listed = []:=by
  intro listed hsz h
  cases hr : Region.ready .any ops listed with
  | nil=>rfl
  | cons i t =>
   obtain ⟨o,ho,h1,_⟩:=ready_mem.1 (show i ∈ Region.ready .any ops listed by rw [hr]; exact List.mem_cons_self ..)
   have hi:=(Array.getElem?_eq_some_iff.1 ho).1
   have:=h i hi
   simp [show i < listed.size by omega] at this h1
   rw [this] at h1; cases h1
 have fin : ∀ (listed : Array Bool) (fuel : Nat) (a : Act) (w : World),listed.size = ops.size → (∀ i,i < ops.size → listed.getD i false = true) → Q .normal a w → wpAny P .any (ops.push l) Q fuel (listed.push true) a w:=by
  intro listed fuel a w hsz h hQ
  have hr : Region.ready .any (ops.push l) (listed.push true) = []:=by
   cases hr : Region.ready .any (ops.push l) (listed.push true) with
   | nil=>rfl
   | cons i t =>
    obtain ⟨o,ho,h1,_⟩:=ready_mem.1 (show i ∈ Region.ready .any (ops.push l) (listed.push true) by rw [hr]; exact List.mem_cons_self ..)
    have hi:=(Array.getElem?_eq_some_iff.1 ho).1
    simp only [Array.size_push] at hi
    rcases Nat.lt_or_ge i ops.size with hlt | hge
    ·rw [lst _ _ _ _ hsz hlt] at h1
     have:=h i hlt
     simp [show i < listed.size by omega] at this h1
     rw [this] at h1; cases h1
    ·obtain rfl : i = ops.size:=by omega
     rw [lstn _ _ _ hsz] at h1; cases h1
  cases fuel with
  | zero=>exact ⟨hr,hQ⟩
  | succ fuel=>exact ⟨fun _=>hQ,fun i hi=>by rw [hr] at hi; cases hi⟩
 have setl : ∀ (listed : Array Bool),listed.size = ops.size → (listed.push false).setIfInBounds ops.size true = listed.push true:=fun listed hs=>by
  apply Array.ext_getElem?
  intro j
  rw [← hs]
  rcases Nat.lt_trichotomy j listed.size with h | h | h
  ·rw [Array.getElem?_setIfInBounds_ne (by omega),Array.getElem?_push,Array.getElem?_push,if_neg (by omega),if_neg (by omega)]
  ·subst h; simp
  ·rw [Array.getElem?_eq_none (by simp; omega),Array.getElem?_eq_none (by simp; omega)]
 have seti : ∀ (listed : Array Bool) (i : Nat),listed.size = ops.size → i < ops.size → (listed.push false).setIfInBounds i true = (listed.setIfInBounds i true).push false:=fun listed i hs hi=>by
  apply Array.ext_getElem?
  intro j
  by_cases hij : i = j
  ·subst hij
   rw [Array.getElem?_push,if_neg (by simp; omega)]
   simp [show i < listed.size by omega,show i < listed.size + 1 by omega]
  ·rw [Array.getElem?_setIfInBounds_ne hij,Array.getElem?_push,Array.getElem?_push,Array.size_setIfInBounds,Array.getElem?_setIfInBounds_ne hij]
 have lastw : ∀ (listed : Array Bool) (fuel : Nat) (a : Act) (w : World),listed.size = ops.size → (∀ i,i < ops.size → listed.getD i false = true) → wpOp P (ops.push l) Q ops.size (Q .normal) a w → wpOp P (ops.push l) Q ops.size (wpAny P .any (ops.push l) Q fuel ((listed.push false).setIfInBounds ops.size true)) a w:=by
  intro listed fuel a w hsz h hw
  rw [setl _ hsz]
  exact wpOp_mono (fun a w hQ=>fin listed fuel a w hsz h hQ) hw
 have nrdy : ∀ (listed : Array Bool),listed.size = ops.size → (∀ i,i < ops.size → listed.getD i false = true) → ops.size ∈ Region.ready .any (ops.push l) (listed.push false):=fun listed hsz h =>
  ready_mem.2 ⟨l,hgl,lstn _ _ _ hsz,fun e he hb=>by rw [lst _ _ _ _ hsz (hl.e e he hb)]; exact h _ (hl.e e he hb)⟩
 intro fuel
 induction fuel with
 | zero =>
  intro listed a w hsz hcl h
  have hal:=hnone listed hsz h.1
  refine ⟨fun hr=>?_,fun i hi=>?_⟩
  ·have:=nrdy listed hsz hal
   rw [hr] at this; cases this
  ·obtain ⟨o,ho,h1,_⟩:=ready_mem.1 hi
   have hi':=(Array.getElem?_eq_some_iff.1 ho).1
   simp only [Array.size_push] at hi'
   rcases Nat.lt_or_ge i ops.size with hlt | hge
   ·rw [lst _ _ _ _ hsz hlt] at h1
    have:=hal i hlt
    simp [show i < listed.size by omega] at this h1
    rw [this] at h1; cases h1
   ·obtain rfl : i = ops.size:=by omega
    exact lastw listed 0 a w hsz hal h.2
 | succ fuel ih =>
  intro listed a w hsz hcl h
  obtain ⟨g0,g1⟩:=h
  refine ⟨fun hr=>?_,fun i hi=>?_⟩
  ·cases hr2 : Region.ready .any ops listed with
   | nil =>
    have:=nrdy listed hsz (hnone listed hsz hr2)
    rw [hr] at this; cases this
   | cons i t =>
    obtain ⟨o,ho,h1,h2⟩:=ready_mem.1 (show i ∈ Region.ready .any ops listed by rw [hr2]; exact List.mem_cons_self ..)
    have hi:=(Array.getElem?_eq_some_iff.1 ho).1
    have : i ∈ Region.ready .any (ops.push l) (listed.push false):=ready_mem.2 ⟨o,by rw [hget i hi]; exact ho,by rw [lst _ _ _ _ hsz hi]; exact h1,fun e he hb=>by
     rw [lst _ _ _ _ hsz (by have:=hl.eo i o e ho he hb; omega)]; exact h2 e he hb⟩
    rw [hr] at this; cases this
  ·obtain ⟨o,ho,h1,h2⟩:=ready_mem.1 hi
   have hi':=(Array.getElem?_eq_some_iff.1 ho).1
   simp only [Array.size_push] at hi'
   rcases Nat.lt_or_ge i ops.size with hlt | hge
   ·rw [hget i hlt] at ho
    have hmem : i ∈ Region.ready .any ops listed:=ready_mem.2 ⟨o,ho,by rw [lst _ _ _ _ hsz hlt] at h1; exact h1,fun e he hb=>by
     have:=h2 e he hb
     rw [lst _ _ _ _ hsz (by have:=hl.eo i o e ho he hb; omega)] at this; exact this⟩
    have hd:=(ready_mem.1 hmem).choose_spec
    have:=g1 i hmem
    rw [seti _ _ hsz hlt]
    have hgo:=hl.go i o ho
    unfold wpOp at this ⊢
    rw [ho] at this
    rw [hget i hlt,ho]
    simp only [Region.wanted,hgo,if_true] at this ⊢
    have hstep : ∀ a w,wpAny P .any ops (lastQ P Q (ops.push l) ops.size) fuel (listed.setIfInBounds i true) a w → wpAny P .any (ops.push l) Q (fuel + 1) ((listed.setIfInBounds i true).push false) a w:=fun a w hw=>ih _ a w (by simpa using hsz) (by
     intro j o' e ho' hj he hb
     have hjn:=(Array.getElem?_eq_some_iff.1 ho').1
     have hen:=hl.eo j o' e ho' he hb
     by_cases hei : e.on = i
     ·simp [hei,show i < listed.size by omega]
     ·have hset : ∀ q,q ≠ i → (listed.setIfInBounds i true).getD q false = listed.getD q false:=fun q hq=>by
       simp only [Array.getD_eq_getD_getElem?,Array.getElem?_setIfInBounds_ne (Ne.symm hq)]
      rw [hset _ hei]
      by_cases hji : j = i
      ·subst hji
       rw [ho] at ho'; cases ho'
       have:=h2 e he hb
       rw [lst _ _ _ _ hsz (by omega)] at this; exact this
      ·rw [hset _ hji] at hj
       exact hcl j o' e ho' hj he hb) hw
    rcases this with h | ⟨h,h'⟩
    ·exact .inl (Oper.wp_mono hstep (upon_last h))
    ·exact .inr ⟨h,lets_last h'⟩
   ·obtain rfl : i = ops.size:=by omega
    rw [hgl] at ho; cases ho
    have hal:=hall listed hsz hcl (fun e he hb=>by have:=h2 e he hb; rw [lst _ _ _ _ hsz (hl.e e he hb)] at this; exact this) ops.size
    exact lastw listed (fuel + 1) a w hsz (fun i hi=>hal i hi (by omega)) (g0 (nready listed hsz fun i hi=>hal i hi (by omega)))
theorem awp_draw_last {cf : Cfg} (hcf : TblOk P cf) (hmix : P.follows .mixedOrders = true) {F : Fr} {Q : Exit → St → Prop} {st : St} {id : Nat} {ops : Array Oper} {l : Oper} (hord : ordOkS cf st ops (Region.before ops) = true) (hlast : lastOk ops l = true)
  (h : ∀ K : St → Prop,(∀ st,Q .normal st → K st) → evalOps P cf true ops.toList ops.toList st (fun st'=>∃ st2,Fit st' st2 ∧ evalOps P cf false (ops.push l).toList [l] st2 K)) : AWp P F (.region id (ops.push l) true) Q st:=by
 intro m a w hs
 refine wp_region_any hmix ?_
 have hl:=last_of hlast
 have e1 : Array.replicate (ops.push l).size false = (Array.replicate ops.size false).push false:=by
  rw [Array.size_push]; exact Array.replicate_succ
 rw [e1,Array.size_push]
 refine any_last hl ops.size (Array.replicate ops.size false) a _ (by simp) (fun i o e _ hi=>by
  simp [Array.getD] at hi) ?_
 refine any_draw hcf hord (K:=fun st'=>∃ st2,Fit st' st2 ∧ evalOps P cf false (ops.push l).toList [l] st2 (Q .normal)) (fun st' m' a' w' ⟨st2,hf2,hK⟩ hs'=>?_) (h _ fun _ h=>h) hs
 simp only [lastQ]
 obtain ⟨m2,hs2⟩:=hf2 F m' a' w' hs'
 have:=evalOps_sound hcf (ops:=ops.push l) (F:=F) (K:=Q .normal) [l] ops.size st2 m2 a' w' (fun e a' w'=>∃ st' m',Q e st' ∧ StRep F st' m' a' w') (fun i hi=>by
  obtain rfl : i = 0:=by simpa using hi
  simp) (fun st m a w hK hs=>⟨st,m,hK,hs⟩) hs2 hK
 rw [List.length_singleton,show List.range' ops.size 1 = [ops.size] from rfl,wpOps_cons] at this
 exact this

end Go.Abs

namespace Go.Abs
set_option linter.unusedSimpArgs false
set_option linter.unusedVariables false
open Go.RowKit

section congr
variable {P : Program} {F : Fr} {cf : Cfg}

@[congr] theorem AWp_congr {c : Code} {Q : Exit → St → Prop} {st st' : St} (h : st = st') : AWp P F c Q st = AWp P F c Q st':=by rw [h]
@[congr] theorem evalOps_congr {dr : Bool} {ops os : List Oper} {K : St → Prop} {st st' : St} (h : st = st') : evalOps P cf dr ops os st K = evalOps P cf dr ops os st' K:=by rw [h]
@[congr] theorem opE_congr {o : Op} {K : AV → St → Prop} {st st' : St} (h : st = st') : opE P cf st o K = opE P cf st' o K:=by rw [h]
@[congr] theorem callGT_congr {tr : Hp → List AV → (Hp → List AV → Prop) → Prop} {H H' : Hp} {nx nx' : Nat} {as as' : List AV} {K : AV → Hp → Nat → Prop} (h : H = H') (h1 : nx = nx') (h2 : as = as') : callGT tr H nx as K = callGT tr H' nx' as' K:=by rw [h,h1,h2]
@[congr] theorem lookupT_congr {H H' : Hp} {t : TypeId} {x x' i i' : AV} {ok : Bool} {K : AV → Prop} (h : H = H') (h1 : x = x') (h2 : i = i') : lookupT P H t x i ok K = lookupT P H' t x' i' ok K:=by rw [h,h1,h2]
@[congr] theorem putT_congr {H H' : Hp} {t : TypeId} {x x' i i' y y' : AV} {K : Hp → Prop} (h : H = H') (h1 : x = x') (h2 : i = i') (h3 : y = y') : putT P H t x i y K = putT P H' t x' i' y' K:=by rw [h,h1,h2,h3]
@[congr] theorem delT_congr {H H' : Hp} {t : TypeId} {x x' i i' : AV} {K : Hp → Prop} (h : H = H') (h1 : x = x') (h2 : i = i') : delT P H t x i K = delT P H' t x' i' K:=by rw [h,h1,h2]
@[congr] theorem lenMT_congr {H H' : Hp} {x x' : AV} {K : AV → Prop} (h : H = H') (h1 : x = x') : lenMT H x K = lenMT H' x' K:=by rw [h,h1]
@[congr] theorem mkMT_congr {H H' : Hp} {nx nx' : Nat} {t : TypeId} {x x' : Option AV} {K : AV → Hp → Nat → Prop} (h : H = H') (h0 : nx = nx') (h1 : x = x') : mkMT P H nx t x K = mkMT P H' nx' t x' K:=by rw [h,h0,h1]
@[congr] theorem optK_congr {r r' : Option C} {A : C → Prop} {B : Prop} (h : r = r') : optK r A B = optK r' A B:=by rw [h]
theorem optK_some {c : C} {A : C → Prop} {B : Prop} : optK (some c) A B = A c:=by simp [optK]
theorem optK_none {A : C → Prop} {B : Prop} : optK none A B = B:=by simp [optK]
theorem optK_ite {p : Prop} [Decidable p] {r r' : Option C} {A : C → Prop} {B : Prop} : optK (if p then r else r') A B = ((p → optK r A B) ∧ (¬ p → optK r' A B)):=by
 by_cases h : p <;> simp [h]
@[congr] theorem callE_congr {c : Call} {K : AV → St → Prop} {st st' : St} (h : st = st') : callE P cf st c K = callE P cf st' c K:=by rw [h]
@[congr] theorem arT_congr {k : IntKind} {n n' : Int} {K : AV → Prop} (h : n = n') : arT k n K = arT k n' K:=by rw [h]
@[congr] theorem arW_congr {k : IntKind} {n n' : Int} {K : AV → Prop} (h : n = n') : arW k n K = arW k n' K:=by rw [h]
@[congr] theorem intT_congr {op : BinOp} {k k' : IntKind} {a a' b b' : Int} {K : AV → Prop} (hk : k = k') (h : a = a') (h2 : b = b') : intT op k a b K = intT op k' a' b' K:=by rw [hk,h,h2]
@[congr] theorem binT_congr {op : BinOp} {t : TypeId} {x x' y y' : AV} {K : AV → Prop} (h : x = x') (h2 : y = y') : binT P cf op t x y K = binT P cf op t x' y' K:=by rw [h,h2]
@[congr] theorem unT_congr {op : UnOp} {x x' : AV} {K : AV → Prop} (h : x = x') : unT op x K = unT op x' K:=by rw [h]
@[congr] theorem convT_congr {d : TypeId} {x x' : AV} {K : AV → Prop} (h : x = x') : convT P d x K = convT P d x' K:=by rw [h]
@[congr] theorem convO_congr {H H' : Hp} {nx nx' : Nat} {s d : TypeId} {x x' : AV} {K : AV → Hp → Nat → Prop} (h : H = H') (h0 : nx = nx') (h2 : x = x') : convO P H nx s d x K = convO P H' nx' s d x' K:=by rw [h,h0,h2]
@[congr] theorem convE_congr {s d : TypeId} {x x' : AV} {K : AV → Prop} (h : x = x') : convE P s d x K = convE P s d x' K:=by rw [h]
@[congr] theorem strSlT_congr {t : TypeId} {b b' : ByteArray} {lo lo' hi hi' : Option AV} {K : AV → Prop} (h : b = b') (h2 : lo = lo') (h3 : hi = hi') : strSlT P t b lo hi K = strSlT P t b' lo' hi' K:=by rw [h,h2,h3]
@[congr] theorem copyT_congr {H H' : Hp} {t : TypeId} {x x' y y' : AV} {K : AV → Hp → Prop} (h : H = H') (h2 : x = x') (h3 : y = y') : copyT P H t x y K = copyT P H' t x' y' K:=by rw [h,h2,h3]
@[congr] theorem pickT_congr {x x' : AV} {Ka Kb : Prop} (h : x = x') : pickT x Ka Kb = pickT x' Ka Kb:=by rw [h]
@[congr] theorem loadT_congr {H H' : Hp} {t : TypeId} {x x' : AV} {K : AV → Prop} (h : H = H') (h2 : x = x') : loadT P H t x K = loadT P H' t x' K:=by rw [h,h2]
@[congr] theorem indexAddrT_congr {H H' : Hp} {t : TypeId} {x x' i i' : AV} {K : AV → Prop} (h : H = H') (h2 : x = x') (h3 : i = i') : indexAddrT P H t x i K = indexAddrT P H' t x' i' K:=by rw [h,h2,h3]
@[congr] theorem fieldAddrT_congr {s : TypeId} {x x' : AV} {f : Nat} {K : AV → Prop} (h : x = x') : fieldAddrT P s x f K = fieldAddrT P s x' f K:=by rw [h]
@[congr] theorem fieldT_congr {s : TypeId} {x x' : AV} {f : Nat} {K : AV → Prop} (h : x = x') : fieldT P s x f K = fieldT P s x' f K:=by rw [h]
@[congr] theorem indexT_congr {t : TypeId} {x x' i i' : AV} {K : AV → Prop} (h : x = x') (h2 : i = i') : indexT P t x i K = indexT P t x' i' K:=by rw [h,h2]
@[congr] theorem extractT_congr {x x' : AV} {i : Nat} {K : AV → Prop} (h : x = x') : extractT x i K = extractT x' i K:=by rw [h]
@[congr] theorem lenT_congr {H H' : Hp} {x x' : AV} {K : AV → Prop} (h : H = H') (h2 : x = x') : lenT H x K = lenT H' x' K:=by rw [h,h2]
@[congr] theorem sliceT_congr {t : TypeId} {x x' : AV} {lo lo' hi hi' : Option AV} {K : AV → Prop} (h : x = x') (h2 : lo = lo') (h3 : hi = hi') : sliceT P t x lo hi K = sliceT P t x' lo' hi' K:=by rw [h,h2,h3]
@[congr] theorem buildT_congr {t : TypeId} {ps ps' : List (Nat × AV)} {K : AV → Prop} (h : ps = ps') : buildT P t ps K = buildT P t ps' K:=by rw [h]
@[congr] theorem litT_congr {t : TypeId} {n : Nat} {ps ps' : List (Nat × AV)} {K : AV → Prop} (h : ps = ps') : litT P t n ps K = litT P t n ps' K:=by rw [h]
@[congr] theorem storeT_congr {H H' : Hp} {t : TypeId} {a a' x x' : AV} {K : Hp → Prop} (h : H = H') (h2 : a = a') (h3 : x = x') : storeT P H t a x K = storeT P H' t a' x' K:=by rw [h,h2,h3]
@[congr] theorem appT_congr {H H' : Hp} {nx nx' : Nat} {t : TypeId} {a a' x x' : AV} {K : AV → Hp → Nat → Prop} (h : H = H') (h0 : nx = nx') (h2 : a = a') (h3 : x = x') : appT P H nx t a x K = appT P H' nx' t a' x' K:=by rw [h,h0,h2,h3]
@[congr] theorem appZT_congr {H H' : Hp} {nx nx' : Nat} {t t' : TypeId} {a a' x x' : AV} {K : AV → Hp → Nat → Prop} (h : H = H') (h0 : nx = nx') (h2 : a = a') (h3 : x = x') : appZT P H nx t t' a x K = appZT P H' nx' t t' a' x' K:=by rw [h,h0,h2,h3]
@[congr] theorem makeT_congr {H H' : Hp} {nx nx' : Nat} {t : TypeId} {a a' x x' : AV} {K : AV → Hp → Nat → Prop} (h : H = H') (h0 : nx = nx') (h2 : a = a') (h3 : x = x') : makeT P H nx t a x K = makeT P H' nx' t a' x' K:=by rw [h,h0,h2,h3]
@[congr] theorem litOT_congr {H H' : Hp} {nx nx' : Nat} {t : TypeId} {n : Nat} {ps ps' : List (Nat × AV)} {K : AV → Hp → Nat → Prop} (h : H = H') (h1 : nx = nx') (h2 : ps = ps') : litOT P H nx t n ps K = litOT P H' nx' t n ps' K:=by rw [h,h1,h2]
@[congr] theorem litVT_congr {t : TypeId} {n : Nat} {ps ps' : List (Nat × AV)} {K : AV → Prop} (h2 : ps = ps') : litVT P t n ps K = litVT P t n ps' K:=by rw [h2]
@[congr] theorem indexQ_congr {t : TypeId} {x x' i i' : AV} {K : AV → Prop} (h2 : x = x') (h3 : i = i') : indexQ P t x i K = indexQ P t x' i' K:=by rw [h2,h3]
@[congr] theorem appST_congr {H H' : Hp} {nx nx' : Nat} {t : TypeId} {a a' x x' : AV} {K : AV → Hp → Nat → Prop} (h : H = H') (h0 : nx = nx') (h2 : a = a') (h3 : x = x') : appST P H nx t a x K = appST P H' nx' t a' x' K:=by rw [h,h0,h2,h3]
@[congr] theorem makeQ_congr {t : TypeId} {a a' x x' : AV} {K : AV → Prop} (h2 : a = a') (h3 : x = x') : makeQ P t a x K = makeQ P t a' x' K:=by rw [h2,h3]
@[congr] theorem winT_congr {H H' : Hp} {t : TypeId} {id ver : Nat} {lo lo' hi hi' : Option AV} {K : AV → Prop} (h : H = H') (h2 : lo = lo') (h3 : hi = hi') : winT P H t id ver lo hi K = winT P H' t id ver lo' hi' K:=by rw [h,h2,h3]
@[congr] theorem litWT_congr {t : TypeId} {n : Nat} {ps ps' : List (Nat × AV)} {K : AV → Prop} (h : ps = ps') : litWT P t n ps K = litWT P t n ps' K:=by rw [h]
@[congr] theorem cutT_congr {H H' : Hp} {nx nx' : Nat} {t : TypeId} {x x' : AV} {lo lo' hi hi' : Option AV} {K : AV → Hp → Nat → Prop} (h : H = H') (h0 : nx = nx') (h1 : x = x') (h2 : lo = lo') (h3 : hi = hi') : cutT P H nx t x lo hi K = cutT P H' nx' t x' lo' hi' K:=by rw [h,h0,h1,h2,h3]
@[congr] theorem callT_congr {H H' : Hp} {f : FuncId} {as as' : List AV} {K : AV → Prop} (h : H = H') (h2 : as = as') : callT cf H f as K = callT cf H' f as' K:=by rw [h,h2]
@[congr] theorem callOT_congr {H H' : Hp} {nx nx' : Nat} {f : FuncId} {as as' : List AV} {K : AV → Hp → Nat → Prop} (h : H = H') (h1 : nx = nx') (h2 : as = as') : callOT cf H nx f as K = callOT cf H' nx' f as' K:=by rw [h,h1,h2]
@[congr] theorem lit0T_congr {H H' : Hp} {nx nx' : Nat} {t : TypeId} {K : AV → Hp → Nat → Prop} (h : H = H') (h1 : nx = nx') : lit0T P H nx t K = lit0T P H' nx' t K:=by rw [h,h1]
@[congr] theorem fzFor_congr {o : Op} {st st' : St} (h : st = st') : fzFor cf st o = fzFor cf st' o:=by rw [h]
@[congr] theorem minT_congr {x x' y y' : AV} {K : AV → Prop} (h : x = x') (h2 : y = y') : minT x y K = minT x' y' K:=by rw [h,h2]
@[congr] theorem capT_congr {t : TypeId} {x x' : AV} {K : AV → Prop} (h : x = x') : capT P t x K = capT P t x' K:=by rw [h]
@[congr] theorem maxT_congr {x x' y y' : AV} {K : AV → Prop} (h : x = x') (h2 : y = y') : maxT x y K = maxT x' y' K:=by rw [h,h2]
end congr

def gd (t want : Bool) (A B : Prop) : Prop:=(t = want → A) ∧ (t = !want → B)
@[congr] theorem gd_congr {t t' want : Bool} {A B : Prop} (h : t = t') : gd t want A B = gd t' want A B:=by rw [h]
theorem gd_tt {A B : Prop} : gd true true A B = A:=by simp [gd]
theorem gd_tf {A B : Prop} : gd true false A B = B:=by simp [gd]
theorem gd_ft {A B : Prop} : gd false true A B = B:=by simp [gd]
theorem gd_ff {A B : Prop} : gd false false A B = A:=by simp [gd]
theorem gd_dt {p : Prop} [Decidable p] {A B : Prop} : gd (decide p) true A B = ((p → A) ∧ (¬ p → B)):=by simp [gd]
theorem gd_df {p : Prop} [Decidable p] {A B : Prop} : gd (decide p) false A B = ((¬ p → A) ∧ (p → B)):=by simp [gd]
theorem gd_nt {p : Prop} [Decidable p] {A B : Prop} : gd (!decide p) true A B = ((¬ p → A) ∧ (p → B)):=by simp [gd]
theorem gd_gt {t : Bool} {A B : Prop} : gd t true A B = ((t = true → A) ∧ (t = false → B)):=by simp [gd]
theorem gd_gf {t : Bool} {A B : Prop} : gd t false A B = ((t = false → A) ∧ (t = true → B)):=by simp [gd]
theorem gd_nf {p : Prop} [Decidable p] {A B : Prop} : gd (!decide p) false A B = ((p → A) ∧ (¬ p → B)):=by simp [gd]

section steps
variable {P : Program} {cf : Cfg} {ops os : List Oper} {st : St} {K : St → Prop} {dst : Option Nat} {op : Op} {ty : TypeId} {pos : String} {after : Array Edge}

theorem ev_nil {dr : Bool} : evalOps P cf dr ops [] st K = K st:=rfl
theorem ev_f : evalOps P cf false ops (⟨dst,op,ty,pos,after,none⟩ :: os) st K = opE P cf (fzFor cf st op) op (fun r st'=>evalOps P cf false ops os (st'.putO dst r) K):=by simp [evalOps,gk_false]
theorem ev_t : evalOps P cf true ops (⟨dst,op,ty,pos,after,none⟩ :: os) st K = (cutD cf (hasW cf ops) st op = false ∧ opE P cf (fzFor cf st op) op (fun r st'=>gKeep true cf ops st op st'.H ∧ evalOps P cf true ops os (st'.putO dst r) K)):=by simp [evalOps]
theorem ev_fg {j : Nat} {want : Bool} : evalOps P cf false ops (⟨dst,op,ty,pos,after,some (j,want)⟩ :: os) st K = (match (ops[j]?).bind (·.dst) with
   | some g=>match st.get g with
    | .c (.b t)=>gd t want (opE P cf (fzFor cf (st.put g (.c (.b want))) op) op (fun r st'=>evalOps P cf false ops os (st'.putO dst r) K))
      (evalOps P cf false ops os ((st.put g (.c (.b (!want)))).putO dst (.t [])) K)
    | .t _=>evalOps P cf false ops os (st.putO dst (.t [])) K
    | _=>False
   | none=>False):=by
 simp only [evalOps,gk_false,Bool.false_and,Bool.true_and,true_and]
 cases (ops[j]?).bind (·.dst) with
 | none=>rfl
 | some g=>cases st.get g with
  | c x=>cases x <;> rfl
  | _=>rfl
theorem ev_tg {j : Nat} {want : Bool} : evalOps P cf true ops (⟨dst,op,ty,pos,after,some (j,want)⟩ :: os) st K = (match (ops[j]?).bind (·.dst) with
   | some g=>match st.get g with
    | .c (.b t)=>gd t want (cutD cf (hasW cf ops) (st.put g (.c (.b want))) op = false ∧ opE P cf (fzFor cf (st.put g (.c (.b want))) op) op (fun r st'=>gKeep true cf ops (st.put g (.c (.b want))) op st'.H ∧ evalOps P cf true ops os (st'.putO dst r) K))
      (evalOps P cf true ops os ((st.put g (.c (.b (!want)))).putO dst (.t [])) K)
    | .t _=>evalOps P cf true ops os (st.putO dst (.t [])) K
    | _=>False
   | none=>False):=by
 simp only [evalOps,Bool.false_and,Bool.true_and,true_and]
 cases (ops[j]?).bind (·.dst) with
 | none=>rfl
 | some g=>cases st.get g with
  | c x=>cases x <;> rfl
  | _=>rfl

def fzL (l : List AV) (st : St) : St:=if l.any isOwn then st.fz (ownIds l) else st
def fzC (ct : Option CT) (l : List AV) (st : St) : St:=match ct with
 | some ct=>if ct.fresh || ct.own.isSome || (ct.cut.isSome && isOne l) then st else fzL l st
 | none=>st
@[congr] theorem fzL_congr {l l' : List AV} {st : St} (h : l = l') : fzL l st = fzL l' st:=by rw [h]
@[congr] theorem fzC_congr {ct ct' : Option CT} {l l' : List AV} {st : St} (h : ct = ct') (h2 : l = l') : fzC ct l st = fzC ct' l' st:=by rw [h,h2]
theorem fz_move {x : Operand} : fzFor cf st (.move x) = st:=rfl
theorem fz_assign {x : Operand} : fzFor cf st (.assign x) = st:=rfl
theorem fz_pick {a b c : Operand} : fzFor cf st (.pick a b c) = st:=rfl
theorem fz_alloc {e : TypeId} : fzFor cf st (.alloc e) = st:=rfl
theorem fz_box {e : TypeId} {x : Operand} : fzFor cf st (.box e x) = st:=rfl
theorem fz_lit {t : TypeId} {n : Nat} {ps : Array (Nat × Operand)} : fzFor cf st (.buildSlice t n ps) = st:=rfl
theorem fz_load {t : TypeId} {x : Operand} : fzFor cf st (.load t x) = st:=rfl
theorem fz_store {t : TypeId} {a x : Operand} : fzFor cf st (.store t a x) = if isOel (st.ev a) then fzL [st.ev x] st else st:=by
 cases h1 : isOel (st.ev a) <;> cases h2 : isOwn (st.ev x) <;> simp [fzFor,fzB,fzArgs,fzL,h1,h2]
theorem fz_bin {o : BinOp} {t t' : TypeId} {x y : Operand} : fzFor cf st (.binOp o t x y t') = st:=rfl
theorem fz_un {o : UnOp} {t : TypeId} {x : Operand} : fzFor cf st (.unOp o t x) = st:=rfl
theorem fz_conv {s d : TypeId} {x : Operand} : fzFor cf st (.convert s d x) = fzL [st.ev x] st:=rfl
theorem fz_callv {t : Nat} {as : Array Operand} {ts : Array TypeId} : fzFor cf st (.call ⟨.value (.tmp t),as,ts⟩) = st:=rfl
theorem fz_make {t : TypeId} {l c : Operand} : fzFor cf st (.makeSlice t l c) = st:=rfl
theorem fz_slice {t : TypeId} {x : Operand} {lo hi m : Option Operand} : fzFor cf st (.slice t x lo hi m) = st:=rfl
theorem fz_faddr {t : TypeId} {x : Operand} {f : Nat} : fzFor cf st (.fieldAddr t x f) = st:=rfl
theorem fz_field {t : TypeId} {x : Operand} {f : Nat} : fzFor cf st (.field t x f) = st:=rfl
theorem fz_iaddr {t : TypeId} {x i : Operand} : fzFor cf st (.indexAddr t x i) = st:=rfl
theorem fz_index {t : TypeId} {x i : Operand} : fzFor cf st (.index t x i) = st:=rfl
theorem fz_extract {x : Operand} {i : Nat} : fzFor cf st (.extract x i) = st:=rfl
theorem fz_builtin {b : Builtin} {as : Array Operand} {ts : Array TypeId} : fzFor cf st (.call ⟨.builtin b,as,ts⟩) = st:=rfl
theorem fz_call {f : FuncId} {as : Array Operand} {ts : Array TypeId} : fzFor cf st (.call ⟨.value (.func f),as,ts⟩) = fzC (cf.tbl f) (as.toList.map st.ev) st:=by
 unfold fzC
 split
 ·rename_i ct htb
  cases h1 : ct.fresh <;> cases h2 : ct.own <;> cases h3 : (ct.cut.isSome && isOne (as.toList.map st.ev)) <;> simp [fzFor,fzB,fzArgs,fzL,htb,h1,h2,h3]
 ·rename_i htb
  simp [fzFor,fzB,htb]
theorem fz_nil {x : Operand} : fzFor cf st (.nilCheck x) = st:=rfl
theorem fz_build {t : TypeId} {ps : Array (Nat × Operand)} : fzFor cf st (.build t ps) = if cf.lq then st else fzL (ps.toList.map fun p=>st.ev p.2) st:=by
 cases h1 : cf.lq <;> simp [fzFor,fzB,fzArgs,fzL,h1]
end steps

section shape
variable {P : Program} {F : Fr} {Q : Exit → St → Prop} {st : St}

theorem q_b {c : Code} (h : AWp P F c Q st) : Then P F c Q .normal st:=h
theorem q_c {c : Code} (h : Q .ret st) : Then P F c Q .ret st:=h
theorem q_d {c : Code} {id : Nat} (h : Q (.exit id) st) : Then P F c Q (.exit id) st:=h
def cdn (t : Bool) (A B : Prop) : Prop:=(t = true → A) ∧ (t = false → B)
theorem q_J {A B : Prop} (h : A) : cdn true A B:=⟨fun _=>h,fun h=>by cases h⟩
theorem q_K {A B : Prop} (h : B) : cdn false A B:=⟨fun h=>(by cases h),fun _=>h⟩
theorem q_L {p : Prop} [Decidable p] {A B : Prop} (h : p → A) (k : ¬ p → B) : cdn (decide p) A B:=⟨fun e=>h (of_decide_eq_true e),fun e=>k (of_decide_eq_false e)⟩
theorem q_M {p : Prop} [Decidable p] {A B : Prop} (h : ¬ p → A) (k : p → B) : cdn (!decide p) A B:=⟨fun e=>h (by simpa using e),fun e=>k (by simpa using e)⟩
theorem q_N {b : Bool} {A B : Prop} (h : b = false → A) (k : b = true → B) : cdn (!b) A B:=⟨fun e=>h (by simpa using e),fun e=>k (by simpa using e)⟩
theorem q_O {b : Bool} {A B : Prop} (h : b = true → A) (k : b = false → B) : cdn b A B:=⟨h,k⟩
theorem awp_cond2 {c : Operand} {x y : Code} {t : Bool} (hc : st.ev c = .c (.b t)) (h : cdn t (AWp P F x Q st) (AWp P F y Q st)) : AWp P F (.cond c x y) Q st:=awp_cond hc h.1 h.2
theorem tdiv_ediv {a b : Int} (h : 0 ≤ a) : a.tdiv b = a / b:=Int.tdiv_eq_ediv_of_nonneg h
theorem tmod_emod {a b : Int} (h : 0 ≤ a) : a.tmod b = a % b:=Int.tmod_eq_emod_of_nonneg h
theorem q_i {id : Nat} (h : Q .normal st) : InBlock id Q .normal st:=h
theorem q_j {id : Nat} (h : Q .ret st) : InBlock id Q .ret st:=h
theorem q_k {id : Nat} (h : Q .normal st) : InBlock id Q (.exit id) st:=by simp [InBlock]; exact h
theorem inb_other {id id' : Nat} (hne : (id' == id) = false) (h : Q (.exit id') st) : InBlock id Q (.exit id') st:=by
 have : id' ≠ id:=by simpa using hne
 simp [InBlock,this]; exact h

def Round {ι : Type} (inv : ι → St) (μ : ι → Nat) (i : ι) (Q : Exit → St → Prop) : Exit → St → Prop
 | .normal,st=>∃ j,FitP st (inv j) ∧ μ j < μ i
 | e,st=>Q e st

theorem q_F {ι : Type} {inv : ι → St} {μ : ι → Nat} {i : ι} (j : ι) (h : FitP st (inv j)) (hm : μ j < μ i) : Round inv μ i Q .normal st:=⟨j,h,hm⟩
theorem q_m {ι : Type} {inv : ι → St} {μ : ι → Nat} {i : ι} (h : Q .ret st) : Round inv μ i Q .ret st:=h
theorem q_n {ι : Type} {inv : ι → St} {μ : ι → Nat} {i : ι} {id : Nat} (h : Q (.exit id) st) : Round inv μ i Q (.exit id) st:=h

theorem q_G {c : Code} {ι : Type} (inv : ι → St) (μ : ι → Nat) (i0 : ι) (h0 : FitP st (inv i0)) (hr : ∀ i,AWp P F c (Round inv μ i Q) (inv i)) : AWp P F (.loop c) Q st :=
 awp_loop inv μ i0 (fit_of h0) fun i=>awp_mono (hr i) fun e st' h=>by
  cases e with
  | normal=>obtain ⟨j,h1,h2⟩:=h; exact ⟨j,fit_of h1,h2⟩
  | _=>exact h

def Join {ι : Type} (mid : ι → St) (Q : Exit → St → Prop) : Exit → St → Prop
 | .normal,st=>∃ i,FitP st (mid i)
 | e,st=>Q e st
theorem join_n {ι : Type} {mid : ι → St} (i : ι) (h : FitP st (mid i)) : Join mid Q .normal st:=⟨i,h⟩
theorem q_o {ι : Type} {mid : ι → St} (h : Q .ret st) : Join mid Q .ret st:=h
theorem q_p {ι : Type} {mid : ι → St} {id : Nat} (h : Q (.exit id) st) : Join mid Q (.exit id) st:=h
theorem seq_join {x y : Code} {ι : Type} (mid : ι → St) (hx : AWp P F x (Join mid Q) st) (hy : ∀ i,AWp P F y Q (mid i)) : AWp P F (.seq x y) Q st :=
 q_a (awp_mono hx fun e st' h=>by
  cases e with
  | normal=>obtain ⟨i,h⟩:=h; exact fun m a w hs=>let ⟨m',hs'⟩:=fit_of h F m a w hs; hy i m' a w hs'
  | _=>exact h)

theorem ends_ret {rs : List ResultVar} {post : AV → Prop} {l : List (C ⊕ List C)} (h : ressO P st rs = some l) (hp : post (resAV l)) : Ends P rs post .ret st:=⟨.inl rfl,l,h,hp⟩
end shape

def Tells (x r : AV) : Prop:=∀ (w : World) (S : Nat → Prop) (v : Value),RdR w S x v → RdR w S r v

theorem q_A {x r : AV} (h : x = r) : Tells x r:=fun _ _ _ hv=>h ▸ hv

theorem ret_eq {P : Program} {f : FuncId} {fn : Func} {c : Code} (hf : P.funcs[f]? = some fn) (hb : fn.body = some c) {as : List (C ⊕ List C)} {r : AV} (hn : as.length ≤ fn.ntmps)
  (h : ∀ F : Fr,AWp P F c (Ends P fn.results.toList (Tells · r)) { n:=fn.ntmps,sl:=q_z 0 as,H:=⟨[],[],[]⟩,nx:=0 }) : Ret P f false as r:=ret_of hf hb hn h r fun _ h=>h

theorem wrap_i64 (n : Int) : IntKind.i64.wrap n = (n + 9223372036854775808) % 18446744073709551616 - 9223372036854775808:=by simp only [IntKind.wrap,IntKind.signed,IntKind.bits]; simp; split <;> omega
theorem InK_i64 (n : Int) : InK .i64 n = (-9223372036854775808 ≤ n ∧ n ≤ 9223372036854775807):=by simp [InK,IntKind.min,IntKind.max,IntKind.signed,IntKind.bits]
theorem InK_i32 (n : Int) : InK .i32 n = (-2147483648 ≤ n ∧ n ≤ 2147483647):=by simp [InK,IntKind.min,IntKind.max,IntKind.signed,IntKind.bits]

theorem verN_nil (bx : List (Nat × List AV)) (bo : List (Nat × Bor)) (n : Nat) : verN ⟨bx,[],bo⟩ n = 0:=rfl
theorem verN_cons (bx : List (Nat × List AV)) (i : Nat) (B : Buf) (l : List (Nat × Buf)) (bo : List (Nat × Bor)) (n : Nat) : verN ⟨bx,(i,B) :: l,bo⟩ n = if i == n then B.ver + 1 else verN ⟨bx,l,bo⟩ n:=by
 simp only [verN,look]
 cases i == n <;> rfl

theorem toNat_add' (a b : Nat) : ((a : Int) + (b : Int)).toNat = a + b:=by omega
theorem toNat_succ' (a : Nat) : ((a : Int) + 1).toNat = a + 1:=by omega

theorem look_nil {α : Type} (t : Nat) : look ([] : List (Nat × α)) t = none:=rfl

end Go.Abs

namespace Go.Abs
set_option linter.unusedSimpArgs false
set_option linter.unusedVariables false
open Go.RowKit

variable {P : Program}

structure TwoInts (P : Program) (t : TypeId) (e : TypeId) : Prop where
 f : ∃ f0 f1 : Field, P.underlying t = some (.struct #[f0, f1]) ∧ f0.type = e ∧ f1.type = e ∧ f0.offset = 0 ∧ f1.offset = 1 ∧ (f0.name == "_") = false ∧ (f1.name == "_") = false
 i : P.underlying e = some (.int .i64)
 s : P.stoodInHeld t = false
 g : P.eqGuardType P.depth t = false

theorem flt_of {t e : TypeId} (h : TwoInts P t e) : FltOk P t:=by
 intro op a b c d x y w hop
 obtain ⟨⟨f0,f1,hu,rfl,h1,o0,o1,n0,n1⟩,hi,hs,hg⟩:=h
 have hn0 : f0.name ≠ "_" := by simpa using n0
 have hn1 : f1.name ≠ "_" := by simpa using n1
 have hfo : P.fieldsOf t = #[f0,f1]:=by simp [Program.fieldsOf,hu]
 have hag : (isAgg f0.type).run P w = .ok false w:=by simp [isAgg,run_underlying hi]
 have heq : (Op.equal t (.agg #[.int .i64 a,.int .i64 b]) (.agg #[.int .i64 c,.int .i64 d])).run P w = .ok (decide (a = c ∧ b = d)) w:=by
  obtain ⟨k,hk⟩ : ∃ k,Op.maxDepth = k + 1 + 1:=⟨9998,rfl⟩
  rw [Op.equal,hk,run_equalIn_struct w (k + 1) t _ _ (by rw [hfo]; exact hu) hs,hfo]
  have hp0 : ∀ v0 v1 : Value,(part f0.type #[v0,v1] f0.offset).run P w = .ok v0 w:=fun v0 v1=>by simp [part,hag,o0]
  have hp1 : ∀ v0 v1 : Value,(part f0.type #[v0,v1] f1.offset).run P w = .ok v1 w:=fun v0 v1=>by simp [part,hag,o1]
  simp only [Op.eqFields,hn0,hn1,h1,ne_eq,not_false_eq_true,if_true,Sem.run_bind,hp0,hp1,Result.andThen_ok,run_equalIn_int w k f0.type .i64 .i64 _ _ hi]
  by_cases hac : a = c <;> by_cases hbd : b = d <;> simp [hac,hbd,hp1,run_equalIn_int w k f0.type .i64 .i64 _ _ hi]
 have hguard : (eqGuard op t x y (.agg #[.int .i64 a,.int .i64 b]) (.agg #[.int .i64 c,.int .i64 d])).run P w = .ok () w:=by
  rcases hop with rfl | rfl <;> simp [eqGuard,program,Sem.run,hg]
 rcases hop with rfl | rfl <;> simp [hguard,binOp,heq]

def addT (f : FuncId) (ct : CT) (cf : Cfg) : Cfg:={ cf with tbl:=fun g=>if g == f then some ct else cf.tbl g }

theorem addT_ok {cf : Cfg} (h : TblOk P cf) {f : FuncId} {ct : CT} (he : Enters P f) (hg : GOk P f ct) (hr : (ct.own = none → ct.win = none → ∀ as K,ct.tr as K → ∃ r,Ret P f ct.fresh as r ∧ K r) ∧ (∀ e z,ct.own = some (e,z) → ct.win = none → ∀ as K,ct.tr as K → ∃ con,RetO P f as e z con ∧ K (.c con)) ∧
   (∀ e,ct.win = some e → ∀ as K,ct.tr as K → ∃ con lo len as' con' l,as = .inl con :: .inl (.i .i64 (lo : Nat)) :: .inl (.i .i64 (len : Nat)) :: as' ∧ RetW P f e con lo len as' con' l ∧ K (.t (.inl con' :: l))) ∧
   (∀ e,ct.cut = some e → ∀ con K,ct.ctr con K → ∃ con',RetC P f e con con' ∧ K con')) : TblOk P (addT f ct cf):=by
 refine ⟨h.1,fun g ct' hl=>?_⟩
 simp only [addT] at hl
 split at hl
 ·rename_i hgf
  simp at hgf; subst hgf; cases hl
  exact ⟨he,hg,hr⟩
 ·exact h.2 g ct' hl

def nz : Option C → C → C
 | some e,.nil=>e
 | _,c=>c
def nzL : List (Option C) → List C → List C
 | e :: es,c :: cs=>nz e c :: nzL es cs
 | _,cs=>cs
def norm : List (Option C ⊕ List (Option C)) → List (C ⊕ List C) → List (C ⊕ List C)
 | .inl e :: ps,.inl c :: as=>.inl (nz e c) :: norm ps as
 | .inr es :: ps,.inr cs :: as=>.inr (nzL es cs) :: norm ps as
 | _ :: ps,a :: as=>a :: norm ps as
 | _,as=>as

def emptyC (e : Option C) : Bool:=match e with
 | some (.ints _ []) | some (.bools []) | some (.sl _ []) | none=>true
 | _=>false

theorem nz_rd {w : World} {S : Nat → Prop} {e : Option C} {c : C} {v : Value} (he : emptyC e = true) (h : Rd w S c v) : Rd w S (nz e c) v:=by
 unfold nz
 split
 ·rename_i e
  have:=rd_nil h
  subst this
  unfold emptyC at he
  split at he
  ·rename_i h; cases h; exact .emp _ 1 none 0 rfl (fun _=>rfl)
  ·rename_i h; cases h; exact .emp _ 1 none 0 rfl (fun _=>rfl)
  ·rename_i h; cases h; exact .emp _ _ none 0 rfl (fun _=>rfl)
  ·rename_i h; cases h
  ·cases he
 ·exact h

theorem nzL_rd {w : World} {S : Nat → Prop} : ∀ {es : List (Option C)} {cs : List C} {vs : List Value},es.all emptyC = true → RdL w S cs vs → RdL w S (nzL es cs) vs
 | [],cs,vs,_,h=>by cases cs <;> exact h
 | _ :: _,[],vs,_,h=>h
 | e :: es,c :: cs,[],_,h=>by have:=h.1; simp at this
 | e :: es,c :: cs,v :: vs,he,h=>by
  simp only [List.all_cons,Bool.and_eq_true] at he
  have ih:=nzL_rd (es:=es) (cs:=cs) (vs:=vs) he.2 ⟨by have:=h.1; simpa using this,fun j y u hy hu=>h.2 (j + 1) y u (by simpa using hy) (by simpa using hu)⟩
  refine ⟨by simp only [nzL,List.length_cons,ih.1],fun j y u hy hu=>?_⟩
  match j with
  | 0=>simp [nzL] at hy hu; subst hy; subst hu; exact nz_rd he.1 (h.2 0 c v rfl rfl)
  | j + 1=>exact ih.2 j y u (by simpa [nzL] using hy) (by simpa using hu)

def emptyP : Option C ⊕ List (Option C) → Bool
 | .inl e=>emptyC e
 | .inr es=>es.all emptyC

theorem norm_len : ∀ (ps : List (Option C ⊕ List (Option C))) (as : List (C ⊕ List C)),(norm ps as).length = as.length
 | [],as=>by cases as <;> rfl
 | p :: ps,[]=>by cases p <;> rfl
 | .inl e :: ps,.inl c :: as=>by simp [norm,norm_len ps as]
 | .inr e :: ps,.inr c :: as=>by simp [norm,norm_len ps as]
 | .inl e :: ps,.inr c :: as=>by simp [norm,norm_len ps as]
 | .inr e :: ps,.inl c :: as=>by simp [norm,norm_len ps as]

theorem norm_rd {w : World} {S : Nat → Prop} : ∀ {ps : List (Option C ⊕ List (Option C))} {as : List (C ⊕ List C)},ps.all emptyP = true → ∀ (j : Nat) y x v,as[j]? = some x → (norm ps as)[j]? = some y → RdS w S x v → RdS w S y v
 | [],as,_,j,y,x,v,hx,hy,h=>by
  have : norm [] as = as:=by cases as <;> rfl
  rw [this,hx] at hy; cases hy; exact h
 | p :: ps,[],_,j,y,x,v,hx,hy,h=>by simp at hx
 | p :: ps,a :: as,hp,j,y,x,v,hx,hy,h=>by
  simp only [List.all_cons,Bool.and_eq_true] at hp
  match j with
  | 0 =>
   simp at hx; subst hx
   cases p <;> cases a <;> simp [norm] at hy <;> subst hy
   ·exact nz_rd hp.1 h
   ·exact h
   ·exact h
   ·obtain ⟨vs,rfl,hl⟩:=h; exact ⟨vs,rfl,nzL_rd hp.1 hl⟩
  | j + 1 =>
   have ih:=norm_rd (w:=w) (S:=S) (ps:=ps) (as:=as) hp.2 j y x v (by simpa using hx)
   refine ih ?_ h
   cases p <;> cases a <;> simpa [norm] using hy

theorem ret_norm {f : FuncId} {fr : Bool} {ps : List (Option C ⊕ List (Option C))} {as : List (C ⊕ List C)} {r : AV} (hp : ps.all emptyP = true) (h : Ret P f fr (norm ps as) r) : Ret P f fr as r:=by
 intro w S vs hsz hvs
 refine h w S vs (by rw [norm_len]; exact hsz) fun j y u hy hu=>?_
 have hj:=(List.getElem?_eq_some_iff.1 hy).1
 rw [norm_len] at hj
 exact norm_rd hp j y _ u (List.getElem?_eq_getElem hj) hy (hvs j _ u (List.getElem?_eq_getElem hj) hu)

def mkCT (ps : List (Option C ⊕ List (Option C))) (fresh : Bool) (tr : List (C ⊕ List C) → (AV → Prop) → Prop) : CT:=⟨fresh,none,none,none,fun as K=>tr (norm ps as) K,fun _ _=>False,none⟩

theorem q_E {cf : Cfg} (h : TblOk P cf) {f : FuncId} {ps : List (Option C ⊕ List (Option C))} {fresh : Bool} {tr : List (C ⊕ List C) → (AV → Prop) → Prop} (he : Enters P f) (hp : ps.all emptyP = true)
  (hr : ∀ as K,tr as K → ∃ r,Ret P f fresh as r ∧ K r) : TblOk P (addT f (mkCT ps fresh tr) cf) :=
 addT_ok h he (fun _ hg=>by cases hg) ⟨fun _ _ as K hk=>let ⟨r,h1,h2⟩:=hr (norm ps as) K hk; ⟨r,ret_norm hp h1,h2⟩,fun _ _ ho=>by simp [mkCT] at ho,fun _ ho=>by simp [mkCT] at ho,fun _ ho=>by simp [mkCT] at ho⟩

theorem q_C {f : FuncId} {fn : Func} (hf : P.funcs[f]? = some fn) (hn : (fn.name == "runtime.NumGoroutine") = false) (hb : fn.body.isNone = false) : Enters P f := ⟨fn, hf, hn, hb⟩

theorem tells_norm {l l' : List (C ⊕ List C)} (ps : List (Option C ⊕ List (Option C))) (hp : ps.all emptyP = true) (h : norm ps l = l') : Tells (resAV l) (resAV l'):=by
 subst h
 intro w S v hv
 have hl:=norm_len ps l
 match l,hv with
 | [],hv=>cases ps with
  | nil=>exact hv
  | cons p ps=>cases p <;> exact hv
 | [x],hv =>
  obtain ⟨y,hy⟩ : ∃ y,norm ps [x] = [y]:=by
   match hq : norm ps [x],hl with
   | [y],_=>exact ⟨y,rfl⟩
  rw [hy]
  have:=norm_rd (w:=w) (S:=S) (ps:=ps) (as:=[x]) hp 0 y x v rfl (by rw [hy]; rfl) (by cases x <;> exact hv)
  cases y <;> exact this
 | x1 :: x2 :: l,hv =>
  obtain ⟨vs,rfl,hs,hc⟩:=hv
  match hq : norm ps (x1 :: x2 :: l),hl with
  | y1 :: y2 :: l',hl' =>
   refine ⟨vs,rfl,by rw [hs]; exact hl'.symm,fun j y u hy hu=>?_⟩
   have hj:=(List.getElem?_eq_some_iff.1 hy).1
   rw [hl'] at hj
   exact norm_rd (w:=w) (S:=S) (ps:=ps) (as:=x1 :: x2 :: l) hp j y _ u (List.getElem?_eq_getElem hj) (by rw [hq]; exact hy) (hc j _ u (List.getElem?_eq_getElem hj) hu)

theorem q_B {l : List (C ⊕ List C)} {r : AV} (ps : List (Option C ⊕ List (Option C))) (hp : ps.all emptyP = true) (h : resAV (norm ps l) = r) : Tells (resAV l) r:=h ▸ tells_norm ps hp rfl

end Go.Abs

namespace Go.Abs
set_option linter.unusedSimpArgs false
set_option linter.unusedVariables false
attribute [go_sem] FitP fitSl fitBox fitBuf fitBor fitAV fitL false_and and_false isM isMc fitMC fitT fitTs fzT gF gV fnA teAV okTE toTE allTE tupA avSl ancs resG resG1 hnx callGT handA handB handF dd cellsB avId avOf teId hpB hpF renL renA renT renTs idx nodupB backH bk bakA bakT bump topN lookupT putT delT mkMT lenMT mc0 resL MC.at MC.put MC.n MC.ok optK_some optK_none optK_ite List.flatMap_cons List.flatMap_nil
attribute [go_sem ↓] gd_tt gd_tf gd_ft gd_ff
attribute [go_sem] convO capT clearT fillT tesOf C.setR
attribute [go_sem] Nat.le_refl Option.some.injEq arW wrap_i64 InK_i64 InK_i32 ev_nil ev_f ev_t ev_fg ev_tg gd_dt gd_df gd_nt gd_nf opE callE St.ev St.get St.put St.putO look_cons look_nil ofV ofC q_z q_y if_true if_false Bool.false_eq_true List.getElem?_cons_zero List.getElem?_cons_succ List.getElem?_nil Option.bind_some Option.bind_none Option.map_some Option.map_none List.map_cons List.map_nil List.take_succ_cons List.take_zero List.drop_succ_cons List.drop_zero List.cons_append List.nil_append List.append_nil List.length_cons List.length_nil List.all_cons List.all_nil List.any_cons List.any_nil Bool.and_true Bool.and_self Bool.false_and Bool.true_and Bool.or_false Bool.or_true Bool.false_or Bool.true_or Bool.not_true Bool.not_false Bool.not_not Value.oneCell' oneCell cutB cutD ownOp isOwn isOwB pickT arT intT binT unT convT convE bytesC strSlT dstO copyT C.over makeQ litOT litVT isOel indexQ appST fz_callv loadT indexAddrT fieldAddrT fieldT extractT lenT sliceT buildT fillC litT litO intsOf boolsOf rowsOf storeT cellsAV cellsOf allC srcC appT appZT makeT cutT callT callOT ownF lit0T fzB fzL fzC fz_move fz_assign fz_pick fz_alloc fz_box fz_lit fz_load fz_store fz_bin fz_un fz_conv fz_make fz_slice fz_faddr fz_field fz_iaddr fz_index indexT fz_extract fz_builtin fz_call fz_nil fz_build St.fz fzAV ownIds nonNil List.filter_cons List.filter_nil List.contains_cons List.contains_nil argsO argO avC cellsO isOwnX gKeep gOp keepL_self keepL teC gtO wC lwO allG gtAV winT Bool.and_false isWin wOf wsOf litWT argsC minT maxT verN_nil verN_cons toNat_add' toNat_succ' Int.toNat_natCast Int.toNat_zero List.length_append List.length_set List.length_replicate List.length_take List.length_drop C.rows List.size_toArray Array.size_empty notStr zeroC C.len C.z C.row C.sub C.app C.put curB Hp.addBox Hp.addBuf IntKind.signed modK decide_eq_true_eq decide_eq_false_iff_not ne_eq not_true_eq_false not_false_eq_true true_and and_true forall_const true_implies false_implies eq_self implies_true Option.isSome_some Option.isSome_none Nat.add_zero Nat.zero_add Nat.sub_zero beq_self_eq_true List.range_succ List.range_zero Nat.lt_add_one Nat.zero_lt_succ Nat.succ_ne_zero List.toList_toArray callCT isOne cutA bcutT callWT winA flatC plainAV plainS plainC resAV Hp.addBor addT mkCT norm nz nzL ressO resO
attribute [go_sem low] gd_gt gd_gf
end Go.Abs

namespace Go.Abs
set_option linter.unusedSimpArgs false
set_option linter.unusedVariables false
open Go.RowKit Go.ChangeShapes Go.WideShapes Go.ChangeAt

abbrev Top : Nat → Prop:=fun _=>True

section
variable {H : Type} {enc : TypeId × Value → H} {P : Program} {T : TypeId → Prop}

theorem trodAll_ext {w w' : World} (K : Kids P T) (hz : ∀ t e,T t → P.underlying t = some (.slice e) → 0 < P.cellsOf e) {sp : Nat → Bool} :
  ∀ {ts : List TypeId} {vs : List Value} {ds : List (DataW H)} {ps : List MemPlace},(∀ t ∈ ts,T t) → DataW.TrodAll enc P w 0 (fun _=>true) true ts vs ds ps → (∀ p ∈ ps,w.sameAt w' p) → (∀ p ∈ ps,sp p.block = true) →
   DataW.TrodAll enc P w' 0 sp true ts vs ds ps
 | [],[],[],_,_,h,_,_=>h
 | _ :: _,_ :: _,_ :: _,_,hT,⟨p,q,⟨n,hn⟩,h2,e⟩,hsame,hs =>
  ⟨p,q,⟨n,DataW.trod_stays K (fun ht hu=>hz _ _ ht hu) (fun h=>by cases h) (hT _ (List.mem_cons.2 (Or.inl rfl))) hn (fun x hx=>hsame x (by rw [e]; exact List.mem_append_left _ hx)) (fun x hx=>hs x (by rw [e]; exact List.mem_append_left _ hx))⟩,
   trodAll_ext K hz (fun t ht=>hT t (List.mem_cons.2 (Or.inr ht))) h2 (fun x hx=>hsame x (by rw [e]; exact List.mem_append_right _ hx)) (fun x hx=>hs x (by rw [e]; exact List.mem_append_right _ hx)),e⟩

theorem ext_same {w w' : World} (h : Ext w w') {p : MemPlace} (hp : p.block < w.heap.size) : w.sameAt w' p:=by
 cases p with
 | cell b off=>exact World.cell?_of_block (a:=⟨b,off,none⟩) (h.block b hp)
 | map b=>exact h.block b hp

theorem law_post {f : FuncId} {fn : Func} {s : ChangeSpec} {apart fresh handsOn again : Bool} {W : World} {args : Array Value} {ds gs : List (DataW H)} {before : List MemPlace} {tb : TypeId} (al : List (C ⊕ List C))
  (K : Kids P T) (hz : ∀ t e,T t → P.underlying t = some (.slice e) → 0 < P.cellsOf e) (hT : ∀ t ∈ fn.params.toList,T t)
  (hv : s.vars = []) (hres : fn.resultTypes = #[tb]) (hb : P.underlying tb = some .bool) (hs : s.fn H (ds ++ gs) = { results:=[.lit (.bool true)],args:=ds })
  (hW : DataW.Whole enc P fn.params.toList s.vars apart W args.toList ds gs before)
  (hsz : args.size = al.length) (hrd : ∀ (j : Nat) y u,al[j]? = some y → args[j]? = some u → RdS W Top y u) (hret : Ret P f false al (.c (.b true))) :
  Calls P f args W fun e W'=>∃ v,e = .returned v ∧ s.post enc P fn apart fresh handsOn again W args v W':=by
 refine (hret W Top args hsz hrd).mono fun e W' ⟨v,he,hx,hr⟩=>?_
 obtain rfl:=rd_b hr
 refine ⟨_,he,?_⟩
 have hlt:=hW.lt
 have hW':=hW
 obtain ⟨p,q,hA,hV,rfl,hfz,hnd⟩:=hW
 rw [hv] at hV
 obtain ⟨rfl,rfl⟩:=trodVars_none hV
 simp only [List.append_nil] at hlt hfz hnd hs hW'
 have hargs : ∀ sp : Nat → Bool,(∀ x ∈ p,sp x.block = true) → DataW.TrodAll enc P W' 0 sp true fn.params.toList args.toList (s.fn H ds).args p:=fun sp hsp=>by
  rw [hs]
  exact trodAll_ext K hz hT hA (fun x hx'=>ext_same hx (hlt x hx')) hsp
 have hress : ∀ (b : Nat) (sp : Nat → Bool) (hd : Bool),DataW.TrodAll enc P W' b sp hd fn.resultTypes.toList ((Value.bool true).resultList fn.resultTypes.size) (s.fn H ds).results []:=fun b sp hd=>by
  rw [hs,hres]
  exact trodAll_cons_mk (p:=[]) (p':=[]) (shut_bool hb _) trodAll_mk0
 have hvars : ∀ sp : Nat → Bool,DataW.TrodVars enc P W' sp s.vars (s.fn H ds).vars []:=fun sp=>by
  rw [hs,hv]; exact rfl
 have hold : ∀ x ∈ p,(fun b=>decide (b < W.heap.size)) x.block = true:=fun x hx'=>by simpa using hlt x hx'
 refine ⟨ds,[],p,[],p,[],by simpa using hW',by simpa using hress _ _ _,by simpa using hargs _ hold,by simpa using hvars _,World.keptBut_mono (fun x hx'=>?_) (hx.frame (· ∈ p)),fun _=>?_⟩
 ·exact ⟨hx',Or.inr (by simpa using hx')⟩
 ·refine ⟨?_,_,_,([] ++ p) ++ [],⟨[] ++ p,[],trodAll_append (by simpa using hargs _ (fun _ _=>rfl)) (by simpa using hress _ _ _),by simpa using hvars _,rfl,?_,?_⟩,?_⟩
  ·exact ok_one (by rw [hres]) rfl (okWide_bool_mk hb _)
  ·intro b off hp
   have hp' : MemPlace.cell b off ∈ p:=by simpa using hp
   have hb' : b < W.heap.size:=hlt _ hp'
   rw [World.frozen?_of_block (w:=W) (a:=⟨b,off,none⟩) (hx.block b hb')]
   exact hfz b off hp'
  ·intro ha
   simpa using hnd ha
  ·intro x hx' _
   simpa using hx'

variable {w : World} {base : Nat} {spare : Nat → Bool} {held : Bool}

theorem choose_list {α : Type} {Q : Nat → α → Prop} : ∀ (n : Nat),(∀ i,i < n → ∃ a,Q i a) → ∃ l : List α,l.length = n ∧ ∀ (i : Nat) a,l[i]? = some a → Q i a
 | 0,_=>⟨[],rfl,fun i a h=>by simp at h⟩
 | n + 1,h=>by
  obtain ⟨l,hl,hq⟩:=choose_list n (fun i hi=>h i (by omega))
  obtain ⟨a,ha⟩:=h n (by omega)
  refine ⟨l ++ [a],by simp [hl],fun i x hx=>?_⟩
  by_cases hi : i < n
  ·exact hq i x (by rwa [List.getElem?_append_left (by omega)] at hx)
  ·have hlt : i < (l ++ [a]).length:=(List.getElem?_eq_some_iff.1 hx).1
   simp [hl] at hlt
   obtain rfl : i = n:=by omega
   rw [List.getElem?_append_right (by omega)] at hx
   simp [hl] at hx
   subst hx; exact ha

theorem rd_sliceD {e t : TypeId} {z fuel : Nat} {cs : List Value} {x : DataW H × List MemPlace} {α : Type} (f : α → List C) (R : DataW H → α → Prop) (ht : P.underlying t = some (.slice e)) (hz : P.cellsOf e = z) (hz0 : 0 < z)
  (hf : ∀ a,(f a).length = z) (hel : ∀ n cs x,DataW.trod enc P w base spare held n e cs = some x → ∃ a,RdL w Top (f a) cs ∧ R x.1 a) (h : DataW.trod enc P w base spare held fuel t cs = some x) :
  ∃ (as : List α) (v : Value),cs = [v] ∧ oneCell v = true ∧ (∀ c,C.rows c = some (z,as.map f) → Rd w Top c v) ∧ as.length ≤ maxLen ∧
   ((x.1 = .nil ∧ as = []) ∨ ∃ ds sp,x.1 = .slice ds sp ∧ ds.length = as.length ∧ ∀ (i : Nat) d a,ds[i]? = some d → as[i]? = some a → R d a):=by
 rcases DataW.trod_slice ht h with ⟨rfl,rfl⟩ | ⟨a,len,cap,elems,rest,n,rfl,rfl,rfl,hb,hlc,hcm,hlen,hel', -, -⟩
 ·exact ⟨[],_,rfl,rfl,fun c hc=>.emp c z none 0 hc (fun _=>rfl),Nat.zero_le _,.inl ⟨rfl,rfl⟩⟩
 ·have hx : ∀ i,i < len → ∃ y : α × List Value,w.cells? base (a.add (i * z)) z = some y.2 ∧ RdL w Top (f y.1) y.2 ∧ ∀ d,(elems.map (·.1))[i]? = some d → R d y.1:=by
   intro i hi
   have h1:=hel' i hi
   rw [hz] at h1
   rw [List.getElem?_eq_getElem (by omega)] at h1
   obtain ⟨cs',hc',h2⟩:=Option.bind_eq_some_iff.1 h1
   obtain ⟨a',ha,hR⟩:=hel n cs' _ h2
   refine ⟨(a',cs'),hc',ha,fun d hd=>?_⟩
   rw [List.getElem?_map,List.getElem?_eq_getElem (by omega)] at hd
   cases hd; exact hR
  obtain ⟨l,hl,hq⟩:=choose_list len hx
  refine ⟨l.map (·.1),_,rfl,rfl,fun c hc=>?_,by simp; omega,.inr ⟨_,_,rfl,by simp [hl,hlen],?_⟩⟩
  ·by_cases h0 : len = 0
   ·subst h0
    have : l = []:=List.eq_nil_of_length_eq_zero hl
    subst this
    exact .emp c z (some a) cap (by simpa using hc) (fun h=>by cases h)
   ·have hcell : ∀ i j,i < len → j < z → ∃ y,l[i]? = some y ∧ w.cell? ((a.add (i * z)).add j) = y.2[j]? ∧ y.2.length = z ∧ RdL w Top (f y.1) y.2:=by
     intro i j hi hj
     have h1 : l[i]? = some l[i]:=List.getElem?_eq_getElem (by omega)
     obtain ⟨h2,h3,_⟩:=hq i _ h1
     obtain ⟨_,h4,h5⟩:=World.cells?_some h2
     exact ⟨_,h1,h5 j hj,h4,h3⟩
    have hspot : a.spot = none:=by
     obtain ⟨y,_,h2,h3,_⟩:=hcell 0 0 (by omega) hz0
     rw [List.getElem?_eq_getElem (by omega)] at h2
     have:=World.cell?_spot h2
     simpa [Addr.add] using this
    obtain ⟨b,off,sp⟩:=a
    simp only at hspot
    subst hspot
    have hadd : ∀ i j,((⟨b,off,none⟩ : Addr).add (i * z)).add j = ⟨b,off + (i * z + j),none⟩:=by
     intro i j
     rw [Addr.add_add]
     unfold Addr.add
     split
     ·rename_i h; simp [h]
     ·rfl
    have e1 : len = (l.map (fun y=>f y.1)).length:=by simp [hl]
    have:=Rd.sl (w:=w) (S:=Top) c z (l.map (fun y=>f y.1)) b off cap (fun i j=>(((l[i]?).map (·.2)).getD []).getD j undef) (by rw [List.map_map] at hc; exact hc)
     (by intro h; simp at h; subst h; simp at hl; omega) hz0 (by simp; omega) (by simp; omega) (by
      intro r hr
      simp at hr
      obtain ⟨a1,⟨b1,_⟩,rfl⟩:=hr
      exact hf a1) trivial (by
      intro i j y hy
      have hr' : ∀ r ∈ l.map (fun y=>f y.1),r.length = z:=by
       intro r hr
       simp at hr
       obtain ⟨a1,⟨b1,_⟩,rfl⟩:=hr
       exact hf a1
      obtain ⟨hi,hj⟩:=at2_lt hr' hy
      simp only [List.length_map] at hi
      obtain ⟨y',h1,h2,h3,h4⟩:=hcell i j (by omega) hj
      rw [hadd] at h2
      rw [h2,h1]
      simp [List.getElem?_eq_getElem (show j < y'.2.length by omega)]) (by
      intro i j y hy
      have hr' : ∀ r ∈ l.map (fun y=>f y.1),r.length = z:=by
       intro r hr
       simp at hr
       obtain ⟨a1,⟨b1,_⟩,rfl⟩:=hr
       exact hf a1
      obtain ⟨hi,hj⟩:=at2_lt hr' hy
      simp only [List.length_map] at hi
      obtain ⟨y',h1,h2,h3,h4⟩:=hcell i j (by omega) hj
      have hy2 : (f y'.1)[j]? = some y:=by
       simpa [at2,h1] using hy
      have hu : y'.2[j]? = some (y'.2[j]'(by omega)):=List.getElem?_eq_getElem (by omega)
      have:=h4.2 j y _ hy2 hu
      rw [h1]
      simpa [hu] using this)
    rw [← e1] at this
    exact this
  ·intro i d a' hd ha'
   rw [List.getElem?_map] at ha'
   obtain ⟨y,hy,rfl⟩:=Option.map_eq_some_iff.1 ha'
   exact (hq i y hy).2.2 d hd

theorem rdL_one {w : World} {S : Nat → Prop} {y : C} {v : Value} (h : Rd w S y v) : RdL w S [y] [v]:=⟨rfl,fun j y' u hy hu=>by
 match j with
 | 0=>simp at hy hu; subst hy; subst hu; exact h
 | j + 1=>simp at hy⟩

theorem rd_ints {e t : TypeId} {k : IntKind} {fuel : Nat} {cs : List Value} {x : DataW H × List MemPlace} (ht : P.underlying t = some (.slice e)) (he : P.underlying e = some (.int k)) (hz : P.cellsOf e = 1)
  (h : DataW.trod enc P w base spare held fuel t cs = some x) :
  ∃ (xs : List Int) (v : Value),cs = [v] ∧ oneCell v = true ∧ Rd w Top (.ints k xs) v ∧ xs.length ≤ maxLen ∧ (∀ n ∈ xs,(Lit.int k n).wf = true) ∧ ((x.1 = .nil ∧ xs = []) ∨ ∃ ds sp,x.1 = .slice ds sp ∧ ds.length = xs.length):=by
 obtain ⟨as,v,hcs,ho,hrd,hm,hd⟩:=rd_sliceD (α:={ n : Int // (Lit.int k n).wf = true }) (fun n=>[.i k n.1]) (fun _ _=>True) ht hz (by omega) (fun _=>rfl) (fun n cs x hx=>by
  obtain ⟨n,rfl,_,hw⟩:=DataW.trod_int he hx
  exact ⟨⟨n,hw⟩,rdL_one (.i k n),trivial⟩) h
 refine ⟨as.map (·.1),v,hcs,ho,hrd _ (by simp [C.rows,List.map_map,Function.comp]),by simpa using hm,fun n hn=>?_,?_⟩
 ·obtain ⟨a,_,rfl⟩:=List.mem_map.1 hn
  exact a.2
 ·rcases hd with ⟨h1,rfl⟩ | ⟨ds,sp,h1,h2,_⟩
  ·exact .inl ⟨h1,rfl⟩
  ·exact .inr ⟨ds,sp,h1,by simpa using h2⟩

theorem one_of {r : Reach} {b0 : Nat} {t : TypeId} {v u : Value} {d : TypeDesc} (ht : P.underlying t = some d) (hd : (match d with | .struct _ | .array _ _=>false | _=>true) = true) (hval : Value.okWide P w r b0 t v) (hc : v.cells.toList = [u]) (ho : oneCell u = true) : v = u:=by
 cases v <;> simp_all [Value.cells]
 rename_i cs
 unfold Value.okWide at hval
 rw [ht] at hval
 cases d <;> simp at hd hval <;> simp [Cell.okWide,Cell.ok,ht] at hval

def Sized (P : Program) (t : TypeId) (d : DataW H) : Prop:=(d.weights P t).all (· ≤ reachBytes) = true

theorem szd_cons {t : TypeId} {ts : List TypeId} {d : DataW H} {ds : List (DataW H)} (h : (DataW.weightsEach P (t :: ts) (d :: ds)).all (· ≤ reachBytes) = true) : Sized P t d ∧ (DataW.weightsEach P ts ds).all (· ≤ reachBytes) = true:=by
 simp only [DataW.weightsEach,List.all_append,Bool.and_eq_true] at h
 exact h

theorem szd_slice {t e : TypeId} {n : Nat} {d : DataW H} (ht : P.underlying t = some (.slice e)) (h : Sized P t d) (hd : (d = .nil ∧ n = 0) ∨ ∃ ds sp,d = .slice ds sp ∧ ds.length = n) : n * P.bytesOf e ≤ reachBytes:=by
 rcases hd with ⟨_,rfl⟩ | ⟨ds,sp,rfl,rfl⟩
 ·simp
 ·simp only [Sized,DataW.weights,ht,List.all_cons,Bool.and_eq_true,decide_eq_true_eq] at h
  refine Nat.le_trans (Nat.mul_le_mul_right _ ?_) h.1
  omega

end
end Go.Abs

namespace Go.Abs
set_option linter.unusedSimpArgs false
set_option linter.unusedVariables false
open Go.RowKit

section
variable {P : Program} {F : Fr} {Q : Exit → St → Prop}

theorem awp_told {c : Code} {st : St} (st' : St) (h : FitP st st') (k : AWp P F c Q st') : AWp P F c Q st:=fun m a w hs =>
 let ⟨m',hs'⟩:=fit_of h F m a w hs
 k m' a w hs'
end
end Go.Abs

namespace Go.Abs
set_option linter.unusedSimpArgs false
set_option linter.unusedVariables false
open Go.RowKit
variable {P : Program}
def listT (l : List (FuncId × CT)) (flt : List TypeId) : Cfg:=⟨fun g=>look l g,flt,false,false,false,false,false,false⟩
def mkT (cf : Cfg) : Cfg:=⟨cf.tbl,cf.flt,cf.cv,cf.wn,true,cf.lq,cf.vq,cf.aq⟩
def loT (cf : Cfg) : Cfg:=⟨cf.tbl,cf.flt,cf.cv,cf.wn,cf.mq,true,cf.vq,cf.aq⟩
def lvT (cf : Cfg) : Cfg:=⟨cf.tbl,cf.flt,cf.cv,cf.wn,cf.mq,cf.lq,true,cf.aq⟩
def aqT (cf : Cfg) : Cfg:=⟨cf.tbl,cf.flt,cf.cv,cf.wn,cf.mq,cf.lq,cf.vq,true⟩
attribute [go_sem] mkT loT lvT aqT
theorem aqT_ok {cf : Cfg} (h : TblOk P cf) : TblOk P (aqT cf):=h
theorem lvT_ok {cf : Cfg} (h : TblOk P cf) : TblOk P (lvT cf):=h
theorem loT_ok {cf : Cfg} (h : TblOk P cf) : TblOk P (loT cf):=h
theorem mkT_ok {cf : Cfg} (h : TblOk P cf) : TblOk P (mkT cf):=h
theorem RetO.ret {f : FuncId} {fr : Bool} {al : List (C ⊕ List C)} {e : TypeId} {z : Nat} {con : C} (h : RetO P f al e z con) : Ret P f fr al (.c con):=by
 intro w S vs hsz hvs
 refine (h w S vs hsz hvs).mono fun ed w' ⟨v,he,hx,rs,xs,hc,hz,hr,ho,hrow⟩=>⟨v,he,hx,?_⟩
 show Rd w' _ con v
 rcases ho.2 with ⟨rfl,h0⟩ | ⟨g,cap,cur,rfl,hbg,hgg,hnc,hcm,hcs,htake⟩
 ·have : rs = []:=List.eq_nil_of_length_eq_zero h0
  subst this
  exact .emp _ _ none 0 hc (fun _=>rfl)
 ·by_cases he : rs = []
  ·subst he
   exact .emp _ _ _ cap hc (fun h=>by cases h)
  ·have hcell : ∀ i j y,at2 rs i j = some y → ∃ u,w'.cell? ⟨g,0 + (i * z + j),none⟩ = some u ∧ xs[i * z + j]? = some u ∧ Rd w' (fun _=>False) y u:=by
    intro i j y hy
    obtain ⟨u,hu,hrd⟩:=hrow i j y hy
    have:=ho.cells (g:=g) rfl (i * z + j) u hu
    rw [addr_add] at this
    exact ⟨u,this,hu,hrd⟩
   refine .sl con z rs g 0 cap (fun i j=>(xs[i * z + j]?).getD undef) hc he hz (Nat.le_trans hnc hcm) hnc hr (.inr hbg) ?_ ?_
   ·intro i j y hy
    obtain ⟨u,h1,h2,h3⟩:=hcell i j y hy
    simp only [h2,Option.getD_some]; exact h1
   ·intro i j y hy
    obtain ⟨u,h1,h2,h3⟩:=hcell i j y hy
    simp only [h2,Option.getD_some]; exact h3.none
end Go.Abs
namespace Go.Abs
set_option linter.unusedSimpArgs false
set_option linter.unusedVariables false
open Go.RowKit
theorem q_u {p : Prop} (h : p:=by first | omega | assumption | (simp (disch:=omega) only [tdiv_ediv,tmod_emod]; omega)) : p:=h
theorem q_v {p : Prop} (h : False:=by first | contradiction | omega) : p:=h.elim
theorem q_D {p : Prop} (h : p:=by ((simp only [go_sem,↓reduceIte,reduceCtorEq,Nat.reduceLeDiff,Nat.reduceLT,Nat.reduceBEq,Nat.reduceAdd]) <;> (try (simp; done)) <;> (try ((simp only [C.i.injEq,C.b.injEq,C.ints.injEq,C.bools.injEq,List.append_cancel_left_eq,List.cons.injEq,true_and,and_true]); (repeat' with_reducible apply And.intro) <;> (first | rfl | assumption | omega | (simp; omega) | (congr 1; omega) | (congr 2; omega)))))) : p:=h
section
variable {P : Program} {F : Fr} {Q : Exit → St → Prop} {st : St}
theorem q_l {id id' : Nat} (h : Q (.exit id') st) (hne : (id' == id) = false:=by decide) : InBlock id Q (.exit id') st:=inb_other hne h
theorem q_s {c : Operand} {x y : Code} {t : Bool} (h : cdn t (AWp P F x Q st) (AWp P F y Q st)) (hc : st.ev c = .c (.b t):=by simp only [go_sem,↓reduceIte,reduceCtorEq,Nat.reduceBEq]; rfl) : AWp P F (.cond c x y) Q st:=awp_cond2 hc h
theorem q_t {rs : List ResultVar} {post : AV → Prop} {l : List (C ⊕ List C)} (hp : post (resAV l)) (h : ressO P st rs = some l:=by simp only [go_sem,↓reduceIte,reduceCtorEq,Nat.reduceBEq,ressO,resO,argsC]; rfl) : Ends P rs post .ret st:=ends_ret h hp
theorem q_0 {A B : Prop} (h : B) (f : B → A:=by first|exact q_a|exact q_b|exact q_c|exact q_d|exact q_e|exact q_f|exact q_g|exact q_h|exact q_i|exact q_j|exact q_k|exact q_m|exact q_n|exact q_o|exact q_p|exact fun h=>q_l h|exact fun h=>q_t h) : A:=f h
theorem q_r {cf : Cfg} (hcf : TblOk P cf) {id : Nat} {ops : Array Oper} (h : ∀ K : St → Prop,(∀ st,Q .normal st → K st) → evalOps P cf true ops.toList ops.toList st K)
  (hmix : P.follows .mixedOrders = true:=by kernel_rfl) (hord : ordOkS cf st ops (Region.before ops) = true:=by kernel_rfl) : AWp P F (.region id ops true) Q st:=awp_region_draw hcf hmix hord h
end
theorem q_H {P : Program} {f : FuncId} {fn : Func} {c : Code} (hf : P.funcs[f]? = some fn) {as : List (C ⊕ List C)} {r : AV}
  (h : ∀ F : Fr,AWp P F c (Ends P fn.results.toList (Tells · r)) { n:=fn.ntmps,sl:=q_z 0 as,H:=⟨[],[],[]⟩,nx:=0 }) (hb : fn.body = some c:=by rfl) (hn : as.length ≤ fn.ntmps:=by exact Nat.le_of_ble_eq_true rfl) : Ret P f false as r:=ret_eq hf hb hn h
def mkCTG (tr : Hp → List AV → (Hp → List AV → Prop) → Prop) : CT:=⟨true,none,none,none,fun _ _=>False,fun _ _=>False,some tr⟩
attribute [go_sem] mkCTG
theorem ctg_ok {P : Program} {cf : Cfg} {f : FuncId} {fn : Func} {tr : Hp → List AV → (Hp → List AV → Prop) → Prop} (h : TblOk P cf) (hf : P.funcs[f]? = some fn) (hr : ∀ H as K,tr H as K → ∃ H' rs,RetG P f H as H' rs ∧ K H' rs)
  (hn : (fn.name == "runtime.NumGoroutine") = false := by kernel_rfl) (hb : fn.body.isNone = false := by kernel_rfl) : TblOk P (addT f (mkCTG tr) cf) :=
 addT_ok h (q_C hf hn hb) (fun t ht=>by cases ht; exact hr) ⟨fun _ _ _ _ hk=>hk.elim,(fun _ _ ho=>by cases ho),(fun _ ho=>by cases ho),(fun _ ho=>by cases ho)⟩
theorem ends_g {P : Program} {rvs : List ResultVar} {H' : Hp} {rs : List AV} {bs : Nat → Nat} {k : Nat} {st : St} (sl : List (Nat × AV)) (nx : Nat) (hfit : FitP st ⟨st.n,sl ++ ancs bs k 0,H',nx⟩) (hres : resG P ⟨st.n,sl,H',nx⟩ rvs = some rs) (hall : (sl.all fun p=>decide (p.1 < 1000)) = true:=by rfl) :
  EndsG P rvs H' rs bs k .ret st:=⟨.inl rfl,sl,nx,fit_of hfit,hall,hres⟩
theorem ret_ge {P : Program} {f : FuncId} {fn : Func} {c : Code} (hf : P.funcs[f]? = some fn) {H H' : Hp} {as rs : List AV}
  (h : ∀ (F : Fr) (bs : Nat → Nat),AWp P F c (EndsG P fn.results.toList H' rs bs H.box.length) { n:=fn.ntmps,sl:=avSl 0 as ++ ancs bs H.box.length 0,H:=H,nx:=hnx H })
  (hb : fn.body = some c:=by rfl) (hn : as.length ≤ fn.ntmps:=by exact Nat.le_of_ble_eq_true rfl) (hn2 : fn.ntmps ≤ 1000:=by exact Nat.le_of_ble_eq_true rfl) : RetG P f H as H' rs:=ret_g hf hb hn hn2 h
section
variable {P : Program} {cf : Cfg} {f : FuncId} {fn : Func} {ps : List (Option C ⊕ List (Option C))}
theorem q_I {fresh : Bool} {tr : List (C ⊕ List C) → (AV → Prop) → Prop} (h : TblOk P cf) (hf : P.funcs[f]? = some fn) (hr : ∀ as K,tr as K → ∃ r,Ret P f fresh as r ∧ K r)
  (hn : (fn.name == "runtime.NumGoroutine") = false := by kernel_rfl) (hb : fn.body.isNone = false := by kernel_rfl) (hp : ps.all emptyP = true := by rfl) : TblOk P (addT f (mkCT ps fresh tr) cf) := q_E h (q_C hf hn hb) hp hr
end
section
variable {P : Program}
def AllE (P : Program) : List (FuncId × CT) → Prop
 | []=>True
 | p :: l=>(∃ big,TblOk P big ∧ big.tbl p.1 = some p.2) ∧ AllE P l
theorem listE_ok {flt : List TypeId} (hf : ∀ t ∈ flt,FltOk P t) {l : List (FuncId × CT)} (h : AllE P l) : TblOk P (listT l flt):=by
 refine ⟨hf,fun f ct hl=>?_⟩
 have key : ∀ {l : List (FuncId × CT)},AllE P l → look l f = some ct → ∃ big,TblOk P big ∧ big.tbl f = some ct:=by
  intro l
  induction l with
  | nil=>intro _ h; simp [look] at h
  | cons p l ih =>
   intro ha h
   simp only [look] at h
   split at h
   ·rename_i he
    cases h
    rw [← beq_iff_eq.1 he]; exact ha.1
   ·exact ih ha.2 h
 obtain ⟨big,h1,h2⟩:=key h hl
 exact h1.2 f ct h2
end
end Go.Abs
