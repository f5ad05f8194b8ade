import Derived.Test.YtncededjmcmidaaX1
namespace Go.Abs
set_option linter.unusedSimpArgs false
set_option linter.unusedVariables false
open Go.RowKit

variable {P : Program}

def OpW (P : Program) (F : Fr) (H H' : Hp) (nx nx' : Nat) (o : Oper) (ev : Operand → AV) (r : AV) : Prop :=
 ∀ (m : Mp) (w : World) (ρ : Operand → Value),HRep F H m w → (∀ i,nx ≤ i → m.bx i = none ∧ m.bf i = none) → (∀ x ∈ o.op.operands,RepA F H m w (ev x) (ρ x)) →
  Exec P o ρ w fun v w'=>∃ m',HRep F H' m' w' ∧ Later F H m w H' m' w' ∧ (∀ i,nx' ≤ i → m'.bx i = none ∧ m'.bf i = none) ∧ RepA F H' m' w' r v

def gtAV : List TE → Option (List AV)
 | []=>some []
 | .s (.inl c) :: l=>(gtAV l).map (AV.c c :: ·)
 | .own id ver :: l=>(gtAV l).map (AV.own id ver :: ·)
 | .bx id off :: l=>(gtAV l).map (AV.bx id off :: ·)
 | .mp id :: l=>(gtAV l).map (AV.mp id :: ·)
 | .ln x :: l=>(gtAV l).map (AV.ln x :: ·)
 | _ :: _=>none
def te1 : TE → Option AV
 | .s (.inl c)=>some (.c c)
 | .own id ver=>some (.own id ver)
 | .bx id off=>some (.bx id off)
 | .mp id=>some (.mp id)
 | .ln x=>some (.ln x)
 | _=>none
theorem gtAV_cons {x : TE} {l : List TE} {ys : List AV} (h : gtAV (x :: l) = some ys) : ∃ y ys',te1 x = some y ∧ gtAV l = some ys' ∧ ys = y :: ys':=by
 cases x with
 | s q=>cases q with
  | inl c=>simp only [gtAV] at h; obtain ⟨ys',h1,rfl⟩:=Option.map_eq_some_iff.1 h; exact ⟨_,ys',rfl,h1,rfl⟩
  | inr c=>simp [gtAV] at h
 | own id ver=>simp only [gtAV] at h; obtain ⟨ys',h1,rfl⟩:=Option.map_eq_some_iff.1 h; exact ⟨_,ys',rfl,h1,rfl⟩
 | bx id off=>simp only [gtAV] at h; obtain ⟨ys',h1,rfl⟩:=Option.map_eq_some_iff.1 h; exact ⟨_,ys',rfl,h1,rfl⟩
 | mp id=>simp only [gtAV] at h; obtain ⟨ys',h1,rfl⟩:=Option.map_eq_some_iff.1 h; exact ⟨_,ys',rfl,h1,rfl⟩
 | ln x=>simp only [gtAV] at h; obtain ⟨ys',h1,rfl⟩:=Option.map_eq_some_iff.1 h; exact ⟨_,ys',rfl,h1,rfl⟩
 | u=>simp [gtAV] at h
theorem gtAV_spec : ∀ {l : List TE} {ys : List AV},gtAV l = some ys → ys.length = l.length ∧ ∀ (j : Nat) x y,l[j]? = some x → ys[j]? = some y → te1 x = some y
 | [],ys,h=>by simp [gtAV] at h; subst h; simp
 | x :: l,ys,h=>by
  obtain ⟨y,ys',h1,h2,rfl⟩:=gtAV_cons h
  obtain ⟨g1,g2⟩:=gtAV_spec h2
  refine ⟨by simp [g1],fun j a b ha hb=>?_⟩
  match j with
  | 0=>simp at ha hb; subst ha; subst hb; exact h1
  | j + 1=>exact g2 j a b (by simpa using ha) (by simpa using hb)
theorem te1_rep {F : Fr} {H : Hp} {m : Mp} {w : World} {x : TE} {y : AV} {u : Value} (h : te1 x = some y) (hr : RepT F H m w x u) : oneCell u = true ∧ RepA F H m w y u:=by
 cases x with
 | s q=>cases q with
  | inl c=>simp [te1] at h; subst h; exact ⟨Rd.one hr,hr⟩
  | inr c=>simp [te1] at h
 | own id ver=>simp [te1] at h; subst h; exact ⟨hr.1,hr⟩
 | bx id off=>simp [te1] at h; subst h; have hr0:=hr; obtain ⟨b,_,rfl⟩:=hr; exact ⟨rfl,hr0⟩
 | mp id=>simp [te1] at h; subst h; have hr0:=hr; obtain ⟨b,_,rfl⟩:=hr; exact ⟨rfl,hr0⟩
 | ln x=>simp [te1] at h; subst h; obtain ⟨T,h1,h2⟩:=hr; exact ⟨h2.one,T,h1,h2⟩
 | u=>simp [te1] at h
def cellsAV : AV → Option (List AV)
 | .c x=>some [.c x]
 | .g xs=>some (xs.map .c)
 | .own id ver=>some [.own id ver]
 | .bx id off=>some [.bx id off]
 | .mp id=>some [.mp id]
 | .fn f caps=>some [.fn f caps]
 | .gt l=>gtAV l
 | _=>none

theorem cellsAV_rep {F : Fr} {H : Hp} {m : Mp} {w : World} {x : AV} {ys : List AV} {v : Value} (h : cellsAV x = some ys) (hr : RepA F H m w x v) :
  v.cells.size = ys.length ∧ ∀ (j : Nat) y u,ys[j]? = some y → v.cells[j]? = some u → oneCell u = true ∧ RepA F H m w y u:=by
 have hone : oneCell v = true → v.cells = #[v]:=fun h=>by cases v <;> simp_all [Value.cells,Value.oneCell']
 have key : ∀ y,ys = [y] → oneCell v = true → RepA F H m w y v → v.cells.size = ys.length ∧ ∀ (j : Nat) y u,ys[j]? = some y → v.cells[j]? = some u → oneCell u = true ∧ RepA F H m w y u:=by
  rintro y rfl h1 h2
  rw [hone h1]
  refine ⟨rfl,fun j y' u hy hu=>?_⟩
  match j with
  | 0=>simp at hy hu; subst hy; subst hu; exact ⟨h1,h2⟩
  | j + 1=>simp at hy
 cases x <;> simp [cellsAV] at h
 ·exact key _ h.symm (Rd.one hr) hr
 ·subst h
  obtain ⟨vs,rfl,hl⟩:=hr
  refine ⟨by have:=hl.1; simpa [Value.cells] using this,fun j y u hy hu=>?_⟩
  simp only [List.getElem?_map,Option.map_eq_some_iff] at hy
  obtain ⟨c,hc,rfl⟩:=hy
  have:=hl.2 j c u hc (by simpa [Value.cells] using hu)
  exact ⟨this.one,this⟩
 ·have h1 : oneCell v = true:=by obtain ⟨b,_,rfl⟩:=hr; rfl
  exact key _ h.symm h1 hr
 ·exact key _ h.symm hr.1 hr
 ·have h1 : oneCell v = true:=by obtain ⟨b,_,rfl⟩:=hr; rfl
  exact key _ h.symm h1 hr
 ·have h1 : oneCell v = true:=by obtain ⟨vs,rfl,_⟩:=hr; rfl
  exact key _ h.symm h1 hr
 ·rename_i l
  obtain ⟨vs,rfl,hs,hl⟩:=hr
  obtain ⟨g1,g2⟩:=gtAV_spec h
  refine ⟨by simp [Value.cells,hs,g1],fun j y u hy hu=>?_⟩
  have hj:=(List.getElem?_eq_some_iff.1 hy).1
  have hx:=List.getElem?_eq_getElem (show j < l.length by omega)
  have hr:=hl j _ u hx (by simpa [Value.cells] using hu)
  exact te1_rep (g2 j _ y hx hy) hr

theorem OpQ.boxA {F : Fr} {H : Hp} {nx : Nat} {o : Oper} {ev : Operand → AV} {e : TypeId} {x : Operand} {cs : List AV} (ho : o.op = .box e x) (hc : cellsAV (ev x) = some cs) :
  OpQ P F (H.addBox nx cs) nx (nx + 1) o ev (.bx nx 0):=by
 intro H' m w ρ hsup hrep hfree hops
 have hx:=hops x (by simp [ho,Op.operands])
 obtain ⟨hvl,hv⟩:=cellsAV_rep hc hx
 have hl:=hsup.1.1 nx cs (by simp [Hp.addBox,look])
 have hnb:=hrep.newBox nx (hfree nx (Nat.le_refl _) (by omega)) (ρ x).cells e _ hl (by simpa using hvl) (fun j y u hy hu=>hv j y u hy (by simpa using hu))
 unfold Exec
 have hrun : (execOp ρ o).run P w = .ok (.value (.pointer (some ⟨w.heap.size,0,none⟩))) (w.alloc (.cells (ρ x).cells e)):=by
  simp [execOp,ho,Instr.box,newVar_run]
 rw [hrun]
 refine ⟨_,hnb.1,hnb.2,rfl,fun i hi h=>?_,w.heap.size,by simp [Mp.addBx],rfl⟩
 simp only [Mp.addBx]
 split
 ·omega
 ·exact h

def C.setR : C → Nat → List C → Option C
 | .sl z xs,q,ys=>some (.sl z (xs.set q ys))
 | _,_,_=>none
theorem addBuf_ne (H : Hp) (id : Nat) (B : Buf) (i : Nat) (h : i ≠ id) : look (H.addBuf id B).buf i = look H.buf i:=by
 have : (id == i) = false:=by simp; omega
 simp [Hp.addBuf,look,this]
theorem addBuf_eq (H : Hp) (id : Nat) (B : Buf) : look (H.addBuf id B).buf id = some B:=by simp [Hp.addBuf,look]
theorem getElem?_splice' {α : Type} (l m : List α) (o : Nat) (h : o + m.length ≤ l.length) (j : Nat) :
  (l.take o ++ m ++ l.drop (o + m.length))[j]? = if o ≤ j ∧ j < o + m.length then m[j - o]? else l[j]?:=by
 simp only [List.append_assoc,List.getElem?_append,List.length_take,List.getElem?_take,List.getElem?_drop]
 repeat' split
 all_goals first | omega | rfl | (congr 1; omega)
theorem RdRow.splice {w : World} {S : Nat → Prop} {z lo : Nat} {rs R : List (List C)} {xs ys : List Value} (h : RdRow w S z rs xs) (h2 : RdRow w S z R ys) (hx : xs.length = rs.length * z) (hy : ys.length = R.length * z) (hz : 0 < z)
  (hfit : lo + R.length ≤ rs.length) (hrl : ∀ r ∈ rs.take lo ++ R ++ rs.drop (lo + R.length),r.length = z) :
  RdRow w S z (rs.take lo ++ R ++ rs.drop (lo + R.length)) (xs.take (lo * z) ++ ys ++ xs.drop (lo * z + ys.length)):=by
 intro i j q hq
 obtain ⟨_,hj⟩:=at2_lt hrl hq
 have e1 : (lo + R.length) * z = lo * z + R.length * z:=Nat.add_mul ..
 have hle : (lo + R.length) * z ≤ rs.length * z:=Nat.mul_le_mul_right _ hfit
 unfold at2 at hq
 rw [getElem?_splice' rs R lo hfit i] at hq
 rw [getElem?_splice' xs ys (lo * z) (by omega) (i * z + j)]
 by_cases hi : lo ≤ i ∧ i < lo + R.length
 ·rw [if_pos hi] at hq
  have h3 : lo * z ≤ i * z:=Nat.mul_le_mul_right _ hi.1
  have h4 : (i + 1) * z ≤ (lo + R.length) * z:=Nat.mul_le_mul_right _ hi.2
  have h5 : (i + 1) * z = i * z + z:=by rw [Nat.add_mul]; omega
  rw [if_pos (by omega)]
  have h6 : (i - lo) * z = i * z - lo * z:=Nat.sub_mul ..
  obtain ⟨u,hu,hr⟩:=h2 (i - lo) j q hq
  exact ⟨u,by rw [← hu]; congr 1; omega,hr⟩
 ·rw [if_neg hi] at hq
  have : ¬ (lo * z ≤ i * z + j ∧ i * z + j < lo * z + ys.length):=by
   rintro ⟨g1,g2⟩
   apply hi
   constructor
   ·apply Nat.le_of_not_lt
    intro hlt
    have h4 : (i + 1) * z ≤ lo * z:=Nat.mul_le_mul_right _ hlt
    have h5 : (i + 1) * z = i * z + z:=by rw [Nat.add_mul]; omega
    omega
   ·apply Nat.lt_of_not_le
    intro hge
    have h4 : (lo + R.length) * z ≤ i * z:=Nat.mul_le_mul_right _ hge
    omega
  rw [if_neg this]
  exact h i j q hq
theorem own_over {F : Fr} {H : Hp} {m : Mp} {w : World} {id g n cap lo : Nat} {B : Buf} {rs R : List (List C)} {xs news : List Value} {c : C} (hrep : HRep F H m w) (hB : look H.buf id = some B) (hm : m.bf id = some (.slice (some ⟨g,0,none⟩) n cap))
  (hrl : ∀ r ∈ rs,r.length = B.z) (hz0 : 0 < B.z) (hown : w.ownsR 0 B.e B.z (.slice (some ⟨g,0,none⟩) n cap) rs.length xs) (hrd : RdRow w (F.S m) B.z rs xs)
  (hR : ∀ r ∈ R,r.length = B.z) (hnl : news.length = R.length * B.z) (h1 : ∀ u ∈ news,u.oneCell' = true) (hN : RdRow w (F.S m) B.z R news) (hfit : lo + R.length ≤ rs.length)
  (hc : c.rows = some (B.z,rs.take lo ++ R ++ rs.drop (lo + R.length))) :
  ∃ w',(storeCells ⟨g,lo * B.z,none⟩ news).run P w = .ok () w' ∧ HRep F (H.addBuf id { B with con:=c }) (m.addBf id (some (.slice (some ⟨g,0,none⟩) n cap))) w' ∧ Later F H m w (H.addBuf id { B with con:=c }) (m.addBf id (some (.slice (some ⟨g,0,none⟩) n cap))) w':=by
 obtain ⟨hxl,h⟩:=hown
 rcases h with ⟨h7,_⟩ | ⟨g',cap',cur,h7,hbg,⟨fz,hgg,hokf⟩,hnc,hcm,hcs,htake⟩
 ·cases h7
 cases h7
 have e1 : (lo + R.length) * B.z = lo * B.z + R.length * B.z:=Nat.add_mul ..
 have hle : (lo + R.length) * B.z ≤ rs.length * B.z:=Nat.mul_le_mul_right _ hfit
 have hle2 : rs.length * B.z ≤ cap * B.z:=Nat.mul_le_mul_right _ hnc
 have hst:=run_storeCells_okF (P:=P) g (lo * B.z) B.e fz news 0 cur w hgg hokf (by simp; omega) h1
 simp only [Nat.add_zero] at hst
 refine ⟨_,hst,?_⟩
 have hrl' : ∀ r ∈ rs.take lo ++ R ++ rs.drop (lo + R.length),r.length = B.z:=by
  intro r hr'
  rcases List.mem_append.1 hr' with h | h
  ·rcases List.mem_append.1 h with h | h
   ·exact hrl r (List.mem_of_mem_take h)
   ·exact hR r h
  ·exact hrl r (List.mem_of_mem_drop h)
 have hlen' : (rs.take lo ++ R ++ rs.drop (lo + R.length)).length = rs.length:=by
  simp only [List.length_append,List.length_take,List.length_drop]; omega
 have hszz : ((cur.toList.take (lo * B.z) ++ news ++ cur.toList.drop (lo * B.z + news.length)).toArray).size = cur.size:=by
  simp only [List.size_toArray,List.length_append,List.length_take,List.length_drop,Array.length_toList]; omega
 exact hrep.bufStep (id:=id) (row:=some g) (B':={ B with con:=c }) (v':=.slice (some ⟨g,0,none⟩) rs.length cap) (rs:=rs.take lo ++ R ++ rs.drop (lo + R.length))
  (xs:=xs.take (lo * B.z) ++ news ++ xs.drop (lo * B.z + news.length)) (H':=H.addBuf id { B with con:=c })
  (w':=w.setRow g (cur.toList.take (lo * B.z) ++ news ++ cur.toList.drop (lo * B.z + news.length)).toArray)
  ⟨rfl,rfl,rfl,by rw [setRow_size]; exact Nat.le_refl _,fun k _ hk=>setRow_other w g k _ (fun e=>hk (by rw [e]))⟩
  (fun g' hg'=>by cases hg'; exact ⟨_,hm,rfl⟩) (fun g' hg'=>by simp [Value.ownBlock] at hg'; subst hg'; exact .inl rfl)
  (fun B2 hB2=>by rw [hB] at hB2; cases hB2; exact .inr ⟨rfl,hm,rfl⟩) (addBuf_eq ..) (fun j hj=>addBuf_ne _ _ _ _ hj) rfl rfl
  hc hz0 hrl'
  (by
   show World.ownsR _ 0 B.e B.z _ _ _
   rw [hlen']
   refine ⟨by simp only [List.length_append,List.length_take,List.length_drop]; omega,.inr ⟨g,cap,_,rfl,Nat.zero_le _,⟨fz,setRow_heap w g cur _ B.e fz hgg,by rw [hszz]; exact hokf⟩,hnc,hcm,?_,?_⟩⟩
   ·rw [hszz]; exact hcs
   ·rw [← htake]
    have h2 : (cur.toList.take (lo * B.z) ++ news).length = lo * B.z + news.length:=by simp only [List.length_append,List.length_take,Array.length_toList]; omega
    show List.take (rs.length * B.z) (cur.toList.take (lo * B.z) ++ news ++ cur.toList.drop (lo * B.z + news.length)) = _
    rw [List.take_append,List.take_of_length_le (by omega),h2,List.take_take,Nat.min_eq_left (by omega),List.drop_take])
  (RdRow.splice hrd hN hxl hnl hz0 hfit hrl')
theorem set_splice {α : Type} (l : List α) (i : Nat) (x : α) (h : i < l.length) : l.set i x = l.take i ++ [x] ++ l.drop (i + 1):=by
 apply List.ext_getElem?
 intro j
 have:=getElem?_splice' l [x] i (by simp; omega) j
 simp only [List.length_cons,List.length_nil,Nat.zero_add] at this
 rw [this,List.getElem?_set]
 by_cases hj : i = j
 ·subst hj; simp [h]
 ·rw [if_neg hj,if_neg (by omega)]

def storeT (P : Program) (H : Hp) (t : TypeId) (a x : AV) (K : Hp → Prop) : Prop:=match a with
 | .bx id off=>match look H.box id,cellsAV x with
  | some cs,some ys=>isM cs = false ∧ szO P t = some ys.length ∧ off + ys.length ≤ cs.length ∧ K (H.addBox id (cs.take off ++ ys ++ cs.drop (off + ys.length)))
  | _,_=>False
 | .oel id ver i off=>match curB H id ver,x with
  | some B,.c y=>match B.con.put i off y with
   | some c=>(szO P t = some 1 ∧ off < B.z) ∧ K (H.addBuf id { B with con:=c })
   | none=>False
  | some B,.g ys=>match B.con.setR i ys with
   | some c=>(off = 0 ∧ ys.length = B.z ∧ szO P t = some B.z) ∧ K (H.addBuf id { B with con:=c })
   | none=>False
  | _,_=>False
 | .bel k i off=>match look H.bor k,x with
  | some B,.c y=>match B.con.put i off y with
   | some c=>szO P t = some 1 ∧ K (H.addBor k { B with con:=c })
   | none=>False
  | _,_=>False
 | _=>False

theorem look_add {α : Type} (l : List (Nat × α)) (id : Nat) (x : α) : look ((id,x) :: l) id = some x:=by simp [look]
theorem look_add_ne {α : Type} (l : List (Nat × α)) (id : Nat) (x : α) (i : Nat) (h : i ≠ id) : look ((id,x) :: l) i = look l i:=by
 have : (id == i) = false:=by simp; omega
 simp [look,this]

theorem getElem?_splice {α : Type} (l m : List α) (o : Nat) (h : o + m.length ≤ l.length) (j : Nat) :
  (l.take o ++ m ++ l.drop (o + m.length))[j]? = if o ≤ j ∧ j < o + m.length then m[j - o]? else l[j]?:=by
 simp only [List.append_assoc,List.getElem?_append,List.length_take,List.getElem?_take,List.getElem?_drop]
 repeat' split
 all_goals first | omega | rfl | (congr 1; omega)

theorem put_rows {c c' : C} {z i off : Nat} {y : C} {rs : List (List C)} (h : c.rows = some (z,rs)) (hp : c.put i off y = some c') (hi : i < rs.length) (hr : ∀ r ∈ rs,r.length = z) (hoff : off < z) :
  ∃ rs',c'.rows = some (z,rs') ∧ rs'.length = rs.length ∧ (∀ r ∈ rs',r.length = z) ∧ ∀ a b q,at2 rs' a b = some q → (a = i ∧ b = off ∧ q = y) ∨ (¬ (a = i ∧ b = off) ∧ at2 rs a b = some q):=by
 have gen : ∀ r',r'.length = z → (∀ b q,r'[b]? = some q → (b = off ∧ q = y) ∨ (b ≠ off ∧ at2 rs i b = some q)) → (∀ r ∈ rs.set i r',r.length = z) ∧ (rs.set i r').length = rs.length ∧
   ∀ a b q,at2 (rs.set i r') a b = some q → (a = i ∧ b = off ∧ q = y) ∨ (¬ (a = i ∧ b = off) ∧ at2 rs a b = some q):=by
  intro r' hl hq
  refine ⟨fun r hm=>?_,by simp,fun a b q hat=>?_⟩
  ·rcases List.mem_or_eq_of_mem_set hm with h1 | h1
   ·exact hr r h1
   ·subst h1; exact hl
  ·unfold at2 at hat
   by_cases ha : i = a
   ·subst ha
    rw [List.getElem?_set_self hi] at hat
    simp only [Option.bind_some] at hat
    rcases hq b q hat with ⟨h1,h2⟩ | ⟨h1,h2⟩
    ·exact .inl ⟨rfl,h1,h2⟩
    ·exact .inr ⟨fun h=>h1 h.2,h2⟩
   ·rw [List.getElem?_set_ne ha] at hat
    exact .inr ⟨fun h=>ha h.1.symm,hat⟩
 cases c <;> simp [C.rows] at h
 ·rename_i k xs
  obtain ⟨rfl,rfl⟩:=h
  obtain rfl : off = 0:=by omega
  cases y <;> simp [C.put] at hp
  rename_i k' n
  obtain ⟨rfl,rfl⟩:=hp
  obtain ⟨g1,g2,g3⟩:=gen [.i k n] rfl (fun b q hb=>by
   match b with
   | 0=>simp at hb; exact .inl ⟨rfl,hb.symm⟩
   | b + 1=>simp at hb)
  refine ⟨_,rfl,?_,?_,?_⟩ <;> rw [List.map_set]
  ·exact g2
  ·exact g1
  ·exact g3
 ·rename_i xs
  obtain ⟨rfl,rfl⟩:=h
  obtain rfl : off = 0:=by omega
  cases y <;> simp [C.put] at hp
  rename_i n
  subst hp
  obtain ⟨g1,g2,g3⟩:=gen [.b n] rfl (fun b q hb=>by
   match b with
   | 0=>simp at hb; exact .inl ⟨rfl,hb.symm⟩
   | b + 1=>simp at hb)
  refine ⟨_,rfl,?_,?_,?_⟩ <;> rw [List.map_set]
  ·exact g2
  ·exact g1
  ·exact g3
 ·rename_i z' xs
  obtain ⟨rfl,rfl⟩:=h
  have hp' : c' = .sl z' (xs.set i ((xs.getD i []).set off y)):=by cases off <;> simp [C.put] at hp <;> rw [← hp] <;> simp
  subst hp'
  have hxi : xs[i]? = some xs[i]:=List.getElem?_eq_getElem hi
  have hgd : xs.getD i [] = xs[i]:=by simp [hxi]
  rw [hgd]
  have hlx : xs[i].length = z':=hr _ (List.getElem_mem hi)
  obtain ⟨g1,g2,g3⟩:=gen (xs[i].set off y) (by simp [hlx]) (fun b q hb=>by
   by_cases hbo : off = b
   ·subst hbo
    rw [List.getElem?_set_self (by omega)] at hb
    exact .inl ⟨rfl,(Option.some.inj hb).symm⟩
   ·rw [List.getElem?_set_ne hbo] at hb
    exact .inr ⟨fun h=>hbo h.symm,by simp [at2,hxi,hb]⟩)
  exact ⟨_,rfl,g2,g1,g3⟩

theorem storeT_sound {H : Hp} {nx : Nat} {o : Oper} {ev : Operand → AV} {t : TypeId} {a x : Operand} (ho : o.op = .store t a x) {K : Hp → Prop} (h : storeT P H t (ev a) (ev x) K) :
  ∃ H',K H' ∧ ∀ F : Fr,OpW P F H H' nx nx o ev .u:=by
 unfold storeT at h
 split at h
 ·rename_i id off heva
  split at h
  ·rename_i cs ys hcs hys
   obtain ⟨hm,hsz,hle,hK⟩:=h
   refine ⟨_,hK,fun F m w ρ hrep hfree hops=>?_⟩
   have ha:=hops a (by simp [ho,Op.operands])
   have hx:=hops x (by simp [ho,Op.operands])
   rw [heva] at ha
   obtain ⟨b,hb,hρ⟩:=ha
   obtain ⟨cs',h1,hbox⟩:=hrep.box id b hb
   rw [hcs] at h1; cases h1
   obtain ⟨arr,e,h2,h3,h4⟩:=hbox.cells hm
   obtain ⟨hvl,hv⟩:=cellsAV_rep hys hx
   have hone : ∀ u ∈ (ρ x).cells.toList,u.oneCell' = true:=by
    intro u hu
    obtain ⟨j,hj⟩:=List.getElem?_of_mem hu
    have hjl:=(List.getElem?_eq_some_iff.1 hj).1
    have hy : ys[j]? = some (ys[j]'(by simp at hjl; omega)):=List.getElem?_eq_getElem _
    exact (hv j _ u hy (by simpa using hj)).1
   have hst:=run_storeCells_at P b off e (ρ x).cells.toList 0 arr w h2 (by simp; omega) hone
   simp only [Nat.add_zero,Array.length_toList,hvl] at hst
   have hrun : (execOp ρ o).run P w = .ok .skip (w.setRow b (arr.toList.take off ++ (ρ x).cells.toList ++ arr.toList.drop (off + ys.length)).toArray):=by
    simp [execOp,ho,Instr.storeAt,hρ,Instr.sureAddr,storeVar,szO_run hsz,hvl,hst]
   unfold Exec
   rw [hrun]
   obtain ⟨g1,g2⟩:=hrep.setBox (H':=H.addBox id (cs.take off ++ ys ++ cs.drop (off + ys.length))) (arr':=(arr.toList.take off ++ (ρ x).cells.toList ++ arr.toList.drop (off + ys.length)).toArray) hb hcs h2 (by simp; omega) (fun j y u hy hu=>by
    rw [getElem?_splice cs ys off hle] at hy
    have hu' : (arr.toList.take off ++ (ρ x).cells.toList ++ arr.toList.drop (off + (ρ x).cells.toList.length))[j]? = some u:=by simpa [hvl] using hu
    rw [getElem?_splice _ _ off (by simp; omega)] at hu'
    simp only [Array.length_toList,hvl] at hu'
    split at hy
    ·rename_i hj; rw [if_pos hj] at hu'; exact hv _ y u hy (by simpa using hu')
    ·rename_i hj; rw [if_neg hj] at hu'; exact h4 j y u hy (by simpa using hu')) (look_add ..) (fun i hi=>look_add_ne _ _ _ _ hi) rfl rfl
   exact ⟨m,g1,g2,hfree,trivial⟩
  ·exact h.elim
 ·rename_i id ver i off heva
  split at h
  ·rename_i B y hB hevx
   split at h
   ·rename_i c hc
    obtain ⟨⟨hsz,hoff⟩,hK⟩:=h
    refine ⟨_,hK,fun F m w ρ hrep hfree hops=>?_⟩
    have ha:=hops a (by simp [ho,Op.operands])
    have hx:=hops x (by simp [ho,Op.operands])
    rw [heva] at ha
    rw [hevx] at hx
    obtain ⟨hB1,hB2⟩:=curB_spec hB
    obtain ⟨g,n,cap,rs,xs,hm,hρ,hrows,hrl,rfl,hi,hz0,hown,hrd,_⟩:=oel_cell hrep hB1 hB2 ha
    obtain ⟨rs',hrows',hlen',hrl',hat'⟩:=put_rows hrows hc hi hrl hoff
    have hone : oneCell (ρ x) = true:=Rd.one hx
    have hvc : (ρ x).cells = #[ρ x]:=by cases hq : ρ x <;> simp_all [Value.cells,Value.oneCell']
    have hjlt : i * B.z + off < rs.length * B.z:=by
     have : (i + 1) * B.z ≤ rs.length * B.z:=Nat.mul_le_mul_right _ hi
     rw [Nat.add_mul] at this; omega
    have hcell:=hown.cellAt (i * B.z + off) hjlt
    have hxl : xs.length = rs.length * B.z:=hown.1
    have hcs : w.cell? ⟨g,i * B.z + off,none⟩ = some (xs[i * B.z + off]'(by omega)):=by rw [hcell]; exact List.getElem?_eq_getElem _
    have hfz:=hown.frozenAt (i * B.z + off) hjlt
    obtain ⟨hst1,hst2⟩:=hown.stored (i * B.z + off) (ρ x)
    have hrun : (execOp ρ o).run P w = .ok .skip (w.setCell ⟨g,i * B.z + off,none⟩ (ρ x)):=by
     simp [execOp,ho,Instr.storeAt,hρ,Instr.sureAddr,storeVar,szO_run hsz,hvc,storeCells,addr_add,run_store P w _ _ _ hone,hcs,hfz]
    unfold Exec
    rw [hrun]
    obtain ⟨g1,g2⟩:=hrep.bufStep (id:=id) (row:=some g) (B':={ B with con:=c }) (v':=.slice (some ⟨g,0,none⟩) rs.length cap) (rs:=rs') (xs:=xs.set (i * B.z + off) (ρ x)) (H':=H.addBuf id { B with con:=c })
     hst2 (fun g' hg'=>by cases hg'; exact ⟨_,hm,rfl⟩) (fun g' hg'=>by simp [Value.ownBlock] at hg'; subst hg'; exact .inl rfl)
     (fun B2 hB2'=>by rw [hB1] at hB2'; cases hB2'; exact .inr ⟨rfl,hm,rfl⟩) (look_add ..) (fun j hj=>look_add_ne _ _ _ _ hj) rfl rfl hrows' hz0 hrl' (by rw [hlen']; exact hst1)
     (fun a b q hat=>by
      have hab : a < rs.length ∧ b < B.z:=by have:=at2_lt hrl' hat; omega
      rcases hat' a b q hat with ⟨rfl,rfl,rfl⟩ | ⟨hne,hq⟩
      ·exact ⟨ρ x,by rw [List.getElem?_set_self (by omega)],hx⟩
      ·obtain ⟨u,hu,hr⟩:=hrd a b q hq
       refine ⟨u,?_,hr⟩
       rw [List.getElem?_set_ne]
       ·exact hu
       ·intro e
        dsimp only at e
        apply hne
        have e1 : i = a:=by
         have h1 : (i * B.z + off) / B.z = i:=by rw [Nat.mul_comm,Nat.mul_add_div hz0,Nat.div_eq_of_lt hoff]; simp
         have h2 : (a * B.z + b) / B.z = a:=by rw [Nat.mul_comm,Nat.mul_add_div hz0,Nat.div_eq_of_lt hab.2]; simp
         rw [e] at h1; omega
        subst e1
        exact ⟨rfl,by omega⟩)
    refine ⟨_,g1,g2,fun j hj=>?_,trivial⟩
    obtain ⟨hf1,hf2⟩:=hfree j hj
    refine ⟨hf1,?_⟩
    simp only [Mp.addBf]
    split
    ·subst j; rw [hm] at hf2; cases hf2
    ·exact hf2
   ·exact h.elim
  ·rename_i B ys hB hevx
   split at h
   ·rename_i c hc
    obtain ⟨⟨rfl,hys,hsz⟩,hK⟩:=h
    refine ⟨_,hK,fun F m w ρ hrep hfree hops=>?_⟩
    have ha:=hops a (by simp [ho,Op.operands])
    have hx:=hops x (by simp [ho,Op.operands])
    rw [heva] at ha
    rw [hevx] at hx
    obtain ⟨hB1,hB2⟩:=curB_spec hB
    obtain ⟨g,n,cap,rs,xs,hm,hρ,hrows,hrl,rfl,hi,hz0,hown,hrd,_⟩:=oel_cell hrep hB1 hB2 ha
    obtain ⟨vs,hvs,hrx⟩:=hx
    obtain ⟨zz,xx,hcon⟩ : ∃ zz xx,B.con = .sl zz xx:=by
     cases hq : B.con <;> rw [hq] at hc <;> first | exact ⟨_,_,rfl⟩ | (simp [C.setR] at hc; done)
    rw [hcon] at hrows hc
    simp only [C.rows,Option.some.injEq,Prod.mk.injEq] at hrows
    obtain ⟨hzz,rfl⟩:=hrows
    simp only [C.setR,Option.some.injEq] at hc
    subst hc
    have hvl : vs.toList.length = B.z:=by rw [hrx.1]; exact hys
    obtain ⟨w',hst,g1,g2⟩:=own_over (P:=P) (c:=.sl zz (xx.set i ys)) (lo:=i) (R:=[ys]) (news:=vs.toList) hrep hB1 hm hrl hz0 hown hrd (fun r hr=>by simp at hr; subst hr; exact hys) (by simp; simpa using hvl)
     (fun u hu=>by
      obtain ⟨j,hj⟩:=List.getElem?_of_mem hu
      have hjl:=(List.getElem?_eq_some_iff.1 hj).1
      have hy : ys[j]? = some (ys[j]'(by omega)):=List.getElem?_eq_getElem _
      exact (hrx.2 j _ u hy hj).one)
     (fun i' j q hq=>by
      unfold at2 at hq
      match i' with
      | 0 =>
       simp at hq
       obtain ⟨u,hu,hr⟩:=hrx.get hq
       exact ⟨u,by simpa using hu,hr⟩
      | i' + 1=>simp at hq) (by simp; omega) (by rw [set_splice _ _ _ hi]; simp [C.rows,hzz])
    have hrun : (execOp ρ o).run P w = .ok .skip w':=by
     have hvs2 : vs.size = B.z:=by simpa using hvl
     simp [execOp,ho,Instr.storeAt,hρ,Instr.sureAddr,storeVar,szO_run hsz,hvs,Value.cells,hvs2,hst]
    unfold Exec
    rw [hrun]
    refine ⟨_,g1,g2,fun j hj=>?_,trivial⟩
    obtain ⟨hf1,hf2⟩:=hfree j hj
    refine ⟨hf1,?_⟩
    simp only [Mp.addBf]
    split
    ·subst j; rw [hm] at hf2; cases hf2
    ·exact hf2
   ·exact h.elim
  ·exact h.elim
 ·rename_i k i off heva
  split at h
  ·rename_i B y hB hevx
   split at h
   ·rename_i c hc
    obtain ⟨hsz,hK⟩:=h
    refine ⟨_,hK,fun F m w ρ hrep hfree hops=>?_⟩
    have ha:=hops a (by simp [ho,Op.operands])
    have hx:=hops x (by simp [ho,Op.operands])
    rw [heva] at ha
    rw [hevx] at hx
    obtain ⟨g,n,cap,rs,xs,hm,hρ,hrows,hrl,rfl,hi,hoff,hz0,hown,hrd,_⟩:=bel_cell hrep hB ha
    obtain ⟨rs',hrows',hlen',hrl',hat'⟩:=put_rows hrows hc hi hrl hoff
    have hcz : c.z = B.con.z:=(rows_z hrows').1
    have hone : oneCell (ρ x) = true:=Rd.one hx
    have hvc : (ρ x).cells = #[ρ x]:=by cases hq : ρ x <;> simp_all [Value.cells,Value.oneCell']
    generalize hz : B.con.z = z at *
    have hjlt : i * z + off < rs.length * z:=by
     have : (i + 1) * z ≤ rs.length * z:=Nat.mul_le_mul_right _ hi
     rw [Nat.add_mul] at this; omega
    have hcell:=hown.cellAt (i * z + off) hjlt
    have hxl : xs.length = rs.length * z:=hown.1
    have hcs : w.cell? ⟨g,i * z + off,none⟩ = some (xs[i * z + off]'(by omega)):=by rw [hcell]; exact List.getElem?_eq_getElem _
    have hfz:=hown.frozenAt (i * z + off) hjlt
    obtain ⟨hst1,hst2⟩:=hown.stored (i * z + off) (ρ x)
    have hrun : (execOp ρ o).run P w = .ok .skip (w.setCell ⟨g,i * z + off,none⟩ (ρ x)):=by
     simp [execOp,ho,Instr.storeAt,hρ,Instr.sureAddr,storeVar,szO_run hsz,hvc,storeCells,addr_add,run_store P w _ _ _ hone,hcs,hfz]
    unfold Exec
    rw [hrun]
    obtain ⟨g1,g2⟩:=hrep.borStep (k:=k) (B:=B) (B':={ B with con:=c }) (v:=.slice (some ⟨g,0,none⟩) rs.length cap) (rs:=rs') (xs:=xs.set (i * z + off) (ρ x)) (H':=H.addBor k { B with con:=c })
     hm hst2 hB (by show c.z = B.con.z; rw [hcz,hz]) (look_add ..) (fun j hj=>look_add_ne _ _ _ _ hj) rfl rfl (by show c.rows = some (c.z,rs'); rw [hcz]; exact hrows') (by show 0 < c.z; rw [hcz]; exact hz0) (by show ∀ r ∈ rs',r.length = c.z; rw [hcz]; exact hrl')
     (by show (w.setCell ⟨g,i * z + off,none⟩ (ρ x)).ownsR 0 B.e c.z _ rs'.length _; rw [hlen',hcz]; exact hst1)
     (by
      show RdRow w (F.S m) c.z rs' _
      rw [hcz]
      intro a b q hat
      have hab : a < rs.length ∧ b < z:=by have:=at2_lt hrl' hat; omega
      rcases hat' a b q hat with ⟨rfl,rfl,rfl⟩ | ⟨hne,hq⟩
      ·exact ⟨ρ x,by rw [List.getElem?_set_self (by omega)],hx⟩
      ·obtain ⟨u,hu,hr⟩:=hrd a b q hq
       refine ⟨u,?_,hr⟩
       rw [List.getElem?_set_ne]
       ·exact hu
       ·intro e
        apply hne
        have e1 : i = a:=by
         have h1 : (i * z + off) / z = i:=by rw [Nat.mul_comm,Nat.mul_add_div hz0,Nat.div_eq_of_lt hoff]; simp
         have h2 : (a * z + b) / z = a:=by rw [Nat.mul_comm,Nat.mul_add_div hz0,Nat.div_eq_of_lt hab.2]; simp
         rw [e] at h1; omega
        subst e1
        exact ⟨rfl,by omega⟩)
    exact ⟨m,g1,g2,hfree,trivial⟩
   ·exact h.elim
  ·exact h.elim
 ·exact h.elim

def srcC (H : Hp) : AV → Option C
 | .c c=>match c.len with | some _=>some c | none=>none
 | .own id ver=>match curB H id ver with | some B=>some B.con | none=>none
 | _=>none

theorem src_cells {F : Fr} {H : Hp} {m : Mp} {w : World} (hrep : HRep F H m w) {y : AV} {c : C} {v : Value} (hs : srcC H y = some c) (hy : RepA F H m w y v) :
  (c = .nil ∧ v = .slice none 0 0) ∨ (c = .e0 ∧ ∃ a cap,v = .slice (some a) 0 cap) ∨ ∃ z rs,c.rows = some (z,rs) ∧ ((rs = [] ∧ ∃ p cap,v = .slice p 0 cap ∧ (p = none → cap = 0)) ∨
   ∃ b off cap news,0 < z ∧ (∀ r ∈ rs,r.length = z) ∧ v = .slice (some ⟨b,off,none⟩) rs.length cap ∧ news.length = rs.length * z ∧ (∀ (j : Nat) u,news[j]? = some u → w.cell? ⟨b,off + j,none⟩ = some u ∧ oneCell u = true) ∧ RdRow w (F.S m) z rs news):=by
 cases y <;> simp only [srcC] at hs <;> try cases hs
 ·rename_i c'
  split at hs
  ·rename_i l hl
   cases hs
   by_cases hn : c = .nil
   ·subst hn; exact .inl ⟨rfl,rd_nil hy⟩
   by_cases hn0 : c = .e0
   ·subst hn0
    refine .inr (.inl ⟨rfl,?_⟩)
    exact rd_e0 hy
   ·right; right
    have hrows : ∃ z' rs,c.rows = some (z',rs):=by cases c <;> simp_all [C.len,C.rows]
    obtain ⟨z,rs,hrows⟩:=hrows
    have hlen:=(rows_z hrows).2
    rw [hl] at hlen; simp at hlen
    refine ⟨z,rs,hrows,?_⟩
    obtain ⟨p,cap,rfl,hcap,hmax,hpn,hor⟩:=rd_slice hy hl
    rcases hor with h0 | ⟨z',rs',b,off,hrows',hz0,hlen',rfl,hS,hr,hc⟩
    ·left
     subst h0
     exact ⟨List.eq_nil_of_length_eq_zero hlen.symm,p,cap,rfl,hpn⟩
    ·rw [hrows] at hrows'; cases hrows'
     right
     have hex : ∀ k,∃ q,k < rs.length * z → ∃ y,at2 rs (k / z) (k % z) = some y ∧ w.cell? ⟨b,off + k,none⟩ = some q ∧ Rd w (F.S m) y q:=by
      intro k
      by_cases hk : k < rs.length * z
      ·have h1 : k / z < rs.length:=Nat.div_lt_of_lt_mul (by rw [Nat.mul_comm]; exact hk)
       have h2 : k % z < z:=Nat.mod_lt _ hz0
       obtain ⟨y,hy⟩:=at2_in hr h1 h2
       obtain ⟨q,hq,hrd⟩:=hc _ _ _ hy
       have e : k / z * z + k % z = k:=by rw [Nat.mul_comm]; exact Nat.div_add_mod k z
       rw [e] at hq
       exact ⟨q,fun _=>⟨y,hy,hq,hrd⟩⟩
      ·exact ⟨undef,fun h=>absurd h hk⟩
     let f : Nat → Value:=fun k=>(hex k).choose
     have hf : ∀ k,k < rs.length * z → ∃ y,at2 rs (k / z) (k % z) = some y ∧ w.cell? ⟨b,off + k,none⟩ = some (f k) ∧ Rd w (F.S m) y (f k):=fun k hk=>(hex k).choose_spec hk
     refine ⟨b,off,cap,(List.range (rs.length * z)).map f,hz0,hr,by rw [← hlen'],by simp,fun j u hu=>?_,fun i j y hy=>?_⟩
     ·have hj:=(List.getElem?_eq_some_iff.1 hu).1
      simp only [List.length_map,List.length_range] at hj
      simp [List.getElem?_map,List.getElem?_range hj] at hu
      subst hu
      obtain ⟨y,_,h2,h3⟩:=hf j hj
      exact ⟨h2,h3.one⟩
     ·obtain ⟨h1,h2⟩:=at2_lt hr hy
      have hk : i * z + j < rs.length * z:=by
       have : (i + 1) * z ≤ rs.length * z:=Nat.mul_le_mul_right _ h1
       rw [Nat.add_mul] at this; omega
      obtain ⟨y',h3,h4,h5⟩:=hf _ hk
      have e1 : (i * z + j) / z = i:=by rw [Nat.mul_comm,Nat.mul_add_div hz0,Nat.div_eq_of_lt h2]; simp
      have e2 : (i * z + j) % z = j:=by rw [Nat.mul_comm,Nat.mul_add_mod,Nat.mod_eq_of_lt h2]
      rw [e1,e2,hy] at h3
      cases h3
      exact ⟨f (i * z + j),by simp [List.getElem?_map,List.getElem?_range hk],h5⟩
  ·cases hs
 ·rename_i id ver
  split at hs
  ·rename_i B hB
   cases hs
   obtain ⟨hB1,hB2⟩:=curB_spec hB
   obtain ⟨rs,xs,hm,hrows,hz0,hr,hown,hrd⟩:=own_slice hrep hB1 hB2 hy
   right; right
   refine ⟨B.z,rs,hrows,?_⟩
   rcases hown.2 with ⟨rfl,h0⟩ | ⟨g,cap,cur,rfl,hbg,hgg,hnc,hcm,hcs,htake⟩
   ·left; exact ⟨List.eq_nil_of_length_eq_zero h0,none,0,rfl,fun _=>rfl⟩
   ·right
    refine ⟨g,0,cap,xs,hz0,hr,rfl,hown.1,fun j u hu=>?_,hrd⟩
    have hc:=hown.cells (g:=g) rfl j u hu
    rw [addr_add] at hc
    refine ⟨hc,?_⟩
    have hj:=(List.getElem?_eq_some_iff.1 hu).1
    rw [hown.1] at hj
    have h1 : j / B.z < rs.length:=Nat.div_lt_of_lt_mul (by rw [Nat.mul_comm]; exact hj)
    have h2 : j % B.z < B.z:=Nat.mod_lt _ hz0
    obtain ⟨y,hyy⟩:=at2_in hr h1 h2
    obtain ⟨q,hq,hrq⟩:=hrd _ _ _ hyy
    have e : j / B.z * B.z + j % B.z = j:=by rw [Nat.mul_comm]; exact Nat.div_add_mod j B.z
    rw [e,hu] at hq
    cases hq
    exact hrq.one
  ·cases hs

theorem app_rows {c c2 c3 : C} {z : Nat} {rs : List (List C)} (h : c.rows = some (z,rs)) (ha : c.app c2 = some c3) (hns : ∀ s,c2 ≠ .str s) :
  ((c2 = .nil ∨ c2 = .e0) ∧ c3 = c) ∨ ∃ rs2,c2.rows = some (z,rs2) ∧ c3.rows = some (z,rs ++ rs2):=by
 cases c <;> simp [C.rows] at h
 ·obtain ⟨rfl,rfl⟩:=h
  cases c2 <;> simp [C.app] at ha
  ·rename_i k xs s; exact absurd rfl (hns s)
  ·exact .inl ⟨.inl rfl,ha.symm⟩
  ·exact .inl ⟨.inr rfl,ha.symm⟩
  ·obtain ⟨rfl,rfl⟩:=ha
   exact .inr ⟨_,rfl,by simp [C.rows]⟩
 ·obtain ⟨rfl,rfl⟩:=h
  cases c2 <;> simp [C.app] at ha
  ·exact .inl ⟨.inl rfl,ha.symm⟩
  ·exact .inl ⟨.inr rfl,ha.symm⟩
  ·subst ha
   exact .inr ⟨_,rfl,by simp [C.rows]⟩
 ·obtain ⟨rfl,rfl⟩:=h
  cases c2 <;> simp [C.app] at ha
  ·exact .inl ⟨.inl rfl,ha.symm⟩
  ·exact .inl ⟨.inr rfl,ha.symm⟩
  ·obtain ⟨rfl,rfl⟩:=ha
   exact .inr ⟨_,rfl,by simp [C.rows]⟩

theorem RdRow.append {w : World} {S : Nat → Prop} {z : Nat} {rs rs2 : List (List C)} {xs ys : List Value} (h : RdRow w S z rs xs) (k : RdRow w S z rs2 ys) (hx : xs.length = rs.length * z) (hr : ∀ r ∈ rs,r.length = z) : RdRow w S z (rs ++ rs2) (xs ++ ys):=by
 intro i j y hy
 unfold at2 at hy
 by_cases hi : i < rs.length
 ·rw [List.getElem?_append_left hi] at hy
  obtain ⟨h1,h2⟩:=at2_lt hr (show at2 rs i j = some y from hy)
  obtain ⟨u,hu,hrd⟩:=h i j y hy
  refine ⟨u,?_,hrd⟩
  rw [List.getElem?_append_left]
  ·exact hu
  ·have : (i + 1) * z ≤ rs.length * z:=Nat.mul_le_mul_right _ h1
   rw [Nat.add_mul] at this; omega
 ·rw [List.getElem?_append_right (by omega)] at hy
  obtain ⟨u,hu,hrd⟩:=k (i - rs.length) j y hy
  refine ⟨u,?_,hrd⟩
  have e : i * z = rs.length * z + (i - rs.length) * z:=by rw [← Nat.add_mul]; congr 1; omega
  rw [List.getElem?_append_right (by omega)]
  rw [← hu]
  congr 1
  omega

end Go.Abs

namespace Go.Abs
set_option linter.unusedSimpArgs false
set_option linter.unusedVariables false
open Go.RowKit

variable {P : Program}

def verN (H : Hp) (id : Nat) : Nat:=match look H.buf id with | some B=>B.ver + 1 | none=>0

def notStr : C → Bool
 | .str _=>false
 | _=>true

def appT (P : Program) (H : Hp) (nx : Nat) (t : TypeId) (x y : AV) (K : AV → Hp → Nat → Prop) : Prop :=
 match elO P t,srcC H y with
 | some e,some c2=>match szO P e,byO P e,zeroO P e with
  | some z,some by_,some zs=>match x with
   | .c .nil=>match emptyO P e with
    | some c0=>match c0.app c2 with
     | some c=>match c.len with
      | some n=>(zs.length = z ∧ 0 < z ∧ 0 < by_ ∧ c0.z = z ∧ notStr c2 = true) ∧ n * by_ ≤ 140737488355328 ∧ K (.own nx (verN H nx)) (H.addBuf nx ⟨verN H nx,e,z,c⟩) (nx + 1)
      | none=>False
     | none=>False
    | none=>False
   | .own id ver=>match curB H id ver with
    | some B=>match B.con.app c2 with
     | some c=>match c.len with
      | some n=>(zs.length = z ∧ 0 < z ∧ 0 < by_ ∧ B.z = z ∧ B.e = e ∧ notStr c2 = true) ∧ n * by_ ≤ 140737488355328 ∧ K (.own id (ver + 1)) (H.addBuf id ⟨ver + 1,e,z,c⟩) nx
      | none=>False
     | none=>False
    | none=>False
   | .vf c1=>match c1.rows,c2.rows with
    | some (z1,_),some (_,_ :: _)=>match c1.app c2 with
     | some c=>match c.len with
      | some n=>(zs.length = z ∧ 0 < z ∧ 0 < by_ ∧ z1 = z ∧ notStr c2 = true) ∧ n * by_ ≤ 140737488355328 ∧ K (.own nx (verN H nx)) (H.addBuf nx ⟨verN H nx,e,z,c⟩) (nx + 1)
      | none=>False
     | none=>False
    | _,_=>False
   | _=>False
  | _,_,_=>False
 | _,_=>False

theorem emptyO_rows {e : TypeId} {c0 : C} (h : emptyO P e = some c0) : c0.rows = some (c0.z,[]):=by
 unfold emptyO at h
 split at h
 ·cases h; rfl
 ·cases h; rfl
 ·obtain ⟨z,hz,rfl⟩:=Option.map_eq_some_iff.1 h; rfl
 ·cases h

theorem byO_some {e : TypeId} {b z : Nat} {zs : List Value} (h : byO P e = some b) (h2 : szO P e = some z) (h3 : zeroO P e = some zs) : ∃ i v,P.info? e = some i ∧ i.bytes = b ∧ i.size = z ∧ i.zero = some v ∧ v.cells.toList = zs:=by
 obtain ⟨i,v,hi,hv,rfl⟩:=zeroO_some h3
 simp [byO,hi] at h
 simp [szO,hi] at h2
 exact ⟨i,v,hi,h,h2,hv,rfl⟩

theorem append_core {F : Fr} {H : Hp} {m : Mp} {w : World} (hrep : HRep F H m w) {t ty e : TypeId} {z by_ : Nat} {zs : List Value} (he : elO P t = some e) (hsz : szO P e = some z) (hby : byO P e = some by_) (hze : zeroO P e = some zs) (hzl : zs.length = z) (hz0 : 0 < z) (hb0 : 0 < by_)
  {c c2 c3 : C} {rs : List (List C)} {xs : List Value} {u v2 : Value} {y : AV} (hrows : c.rows = some (z,rs)) (hrl : ∀ r ∈ rs,r.length = z) (hown : w.ownsR 0 e z u rs.length xs) (hrd : RdRow w (F.S m) z rs xs)
  (hs : srcC H y = some c2) (hy : RepA F H m w y v2) (ha : c.app c2 = some c3) (hns : notStr c2 = true) {n : Nat} (hn : c3.len = some n) (hroom : n * by_ ≤ 140737488355328) :
  ∃ v' w' rs' xs',(Builtin.append_ #[t,t] ty #[u,v2]).run P w = .ok v' w' ∧ c3.rows = some (z,rs') ∧ (∀ r ∈ rs',r.length = z) ∧ w'.ownsR 0 e z v' rs'.length xs' ∧ w.grownBy w' u.ownBlock ∧ (∀ g,v'.ownBlock = some g → u.ownBlock = some g ∨ w.heap.size ≤ g) ∧ RdRow w (F.S m) z rs' xs':=by
 obtain ⟨i,z0,hi,hib,his,hiz,hzs⟩:=byO_some hby hsz hze
 have hzc : z0.cells.size = z:=by rw [← hzl,← hzs]; simp
 have same : ∀ v',(Builtin.append_ #[t,t] ty #[u,v2]).run P w = .ok v' w → v' = u → c3.rows = some (z,rs) → ∃ v' w' rs' xs',(Builtin.append_ #[t,t] ty #[u,v2]).run P w = .ok v' w' ∧ c3.rows = some (z,rs') ∧ (∀ r ∈ rs',r.length = z) ∧ w'.ownsR 0 e z v' rs'.length xs' ∧ w.grownBy w' u.ownBlock ∧ (∀ g,v'.ownBlock = some g → u.ownBlock = some g ∨ w.heap.size ≤ g) ∧ RdRow w (F.S m) z rs' xs':=by
  rintro v' hrun rfl h3
  exact ⟨v',w,rs,xs,hrun,h3,hrl,hown,⟨rfl,rfl,rfl,Nat.le_refl _,fun _ _ _=>rfl⟩,fun g hg=>.inl hg,hrd⟩
 have happ:=app_rows hrows ha (fun s e=>by subst e; simp [notStr] at hns)
 have grow : ∀ (a : Addr) (k cap : Nat) (news : List Value) (rs2 : List (List C)),c3.rows = some (z,rs ++ rs2) → (∀ r ∈ rs2,r.length = z) → k = rs2.length → v2 = .slice (some a) k cap → news.length = k * z → (∀ (j : Nat) u,news[j]? = some u → w.cell? (a.add j) = some u ∧ oneCell u = true) → RdRow w (F.S m) z rs2 news →
   ∃ v' w' rs' xs',(Builtin.append_ #[t,t] ty #[u,v2]).run P w = .ok v' w' ∧ c3.rows = some (z,rs') ∧ (∀ r ∈ rs',r.length = z) ∧ w'.ownsR 0 e z v' rs'.length xs' ∧ w.grownBy w' u.ownBlock ∧ (∀ g,v'.ownBlock = some g → u.ownBlock = some g ∨ w.heap.size ≤ g) ∧ RdRow w (F.S m) z rs' xs':=by
  rintro a k cap news rs2 h3 hr2 rfl rfl hnl hcells hrd2
  have hlen:=(rows_z h3).2
  rw [hn] at hlen
  simp at hlen
  have h63 : rs.length + rs2.length ≤ maxLen:=by
   have : n ≤ n * by_:=Nat.le_mul_of_pos_right _ hb0
   unfold maxLen; omega
  obtain ⟨v',w',hrun,ho',hg',hplace⟩:=run_append_ownR (P:=P) w 0 t ty e i z0 z by_ (elO_some he) hi hiz his hib hzc hz0 u rs.length xs hown a rs2.length cap news hnl (fun j u hu=>(hcells j u hu).1) (fun u hu=>by
   obtain ⟨j,hj⟩:=List.getElem?_of_mem hu
   exact (hcells j u hj).2) h63 (by rw [← hlen]; exact hroom) (Nat.zero_le _)
  refine ⟨v',w',rs ++ rs2,xs ++ news,hrun,h3,fun r hr=>?_,by simpa using ho',hg',hplace,hrd.append hrd2 hown.1 hrl⟩
  rcases List.mem_append.1 hr with h | h
  ·exact hrl r h
  ·exact hr2 r h
 rcases src_cells hrep hs hy with ⟨rfl,rfl⟩ | ⟨rfl,a,cap,rfl⟩ | ⟨z',rs2,hrows2,hor⟩
 ·rcases happ with ⟨_,rfl⟩ | ⟨rs2,h2,_⟩
  ·exact same u (run_append_ownR_none w 0 t ty e i z (elO_some he) hi u rs.length xs hown) rfl hrows
  ·simp [C.rows] at h2
 ·rcases happ with ⟨_,rfl⟩ | ⟨rs2,h2,_⟩
  ·exact grow a 0 cap [] [] (by simpa using hrows) (by simp) rfl rfl (by simp) (by simp) (fun i j y hy=>by simp [at2] at hy)
  ·simp [C.rows] at h2
 ·rcases happ with ⟨h0 | h0,_⟩ | ⟨rs2',h2,h3⟩
  ·subst h0; simp [C.rows] at hrows2
  ·subst h0; simp [C.rows] at hrows2
  ·rw [hrows2] at h2; cases h2
   rcases hor with ⟨rfl,p,cap,rfl,hp⟩ | ⟨b,off,cap,news,hz',hr2,rfl,hnl,hcells,hrd2⟩
   ·cases p with
    | none =>
     obtain rfl:=hp rfl
     exact same u (run_append_ownR_none w 0 t ty e i z (elO_some he) hi u rs.length xs hown) rfl (by simpa using h3)
    | some a=>exact grow a 0 cap [] [] h3 (by simp) rfl rfl (by simp) (by simp) (fun i j y hy=>by simp [at2] at hy)
   ·exact grow ⟨b,off,none⟩ _ cap news rs2 h3 hr2 rfl rfl hnl (fun j u hu=>by rw [addr_add]; exact hcells j u hu) hrd2

theorem append_view {F : Fr} {H : Hp} {m : Mp} {w : World} (hrep : HRep F H m w) {t ty e : TypeId} {z by_ : Nat} {zs : List Value} (he : elO P t = some e) (hsz : szO P e = some z) (hby : byO P e = some by_) (hze : zeroO P e = some zs) (hzl : zs.length = z) (hz0 : 0 < z) (hb0 : 0 < by_)
  {c1 c2 c3 : C} {z2 : Nat} {rs rs2 : List (List C)} {r0 : List C} {u v2 : Value} {y : AV} (hrows : c1.rows = some (z,rs)) (hu : RepA F H m w (.vf c1) u)
  (hs : srcC H y = some c2) (hy : RepA F H m w y v2) (hrows2 : c2.rows = some (z2,r0 :: rs2)) (ha : c1.app c2 = some c3) (hns : notStr c2 = true) {n : Nat} (hn : c3.len = some n) (hroom : n * by_ ≤ 140737488355328) :
  ∃ v' w' rs' xs',(Builtin.append_ #[t,t] ty #[u,v2]).run P w = .ok v' w' ∧ c3.rows = some (z,rs') ∧ (∀ r ∈ rs',r.length = z) ∧ w'.ownsR 0 e z v' rs'.length xs' ∧ w.grownBy w' none ∧ (∀ g,v'.ownBlock = some g → w.heap.size ≤ g) ∧ RdRow w (F.S m) z rs' xs':=by
 obtain ⟨i,z0,hi,hib,his,hiz,hzs⟩:=byO_some hby hsz hze
 have hzc : z0.cells.size = z:=by rw [← hzl,← hzs]; simp
 obtain ⟨p,k,rfl,hrd⟩:=hu
 have hsrc : srcC H (.c c1) = some c1:=by
  have:=(rows_z hrows).2
  simp only [srcC,this]
 have hbase : ∃ olds : List Value,k = rs.length ∧ (∀ r ∈ rs,r.length = z) ∧ olds.length = rs.length * z ∧ (∀ (j : Nat) u,olds[j]? = some u → w.cell? (p.add j) = some u) ∧ RdRow w (F.S m) z rs olds:=by
  rcases src_cells hrep hsrc (show RepA F H m w (.c c1) _ from hrd) with ⟨rfl,_⟩ | ⟨rfl,_⟩ | ⟨z',rs',h1,h2⟩
  ·simp [C.rows] at hrows
  ·simp [C.rows] at hrows
  ·rw [hrows] at h1; cases h1
   rcases h2 with ⟨rfl,p',cap,h3,_⟩ | ⟨b,off,cap,news,_,hr,h3,h4,h5,h6⟩
   ·cases h3
    exact ⟨[],rfl,by simp,by simp,by simp,fun i j y hy=>by simp [at2] at hy⟩
   ·cases h3
    exact ⟨news,rfl,hr,h4,fun j u hu=>by rw [addr_add]; exact (h5 j u hu).1,h6⟩
 obtain ⟨olds,rfl,hrl,hol,hoc,hord⟩:=hbase
 have hnews : ∃ (a : Addr) (cap : Nat) (news : List Value),v2 = .slice (some a) (r0 :: rs2).length cap ∧ (∀ r ∈ r0 :: rs2,r.length = z2) ∧ news.length = (r0 :: rs2).length * z2 ∧ (∀ (j : Nat) u,news[j]? = some u → w.cell? (a.add j) = some u) ∧ RdRow w (F.S m) z2 (r0 :: rs2) news:=by
  rcases src_cells hrep hs hy with ⟨rfl,_⟩ | ⟨rfl,_⟩ | ⟨z',rs',h1,h2⟩
  ·simp [C.rows] at hrows2
  ·simp [C.rows] at hrows2
  ·rw [hrows2] at h1; cases h1
   rcases h2 with ⟨h0,_⟩ | ⟨b,off,cap,news,_,hr,h3,h4,h5,h6⟩
   ·cases h0
   ·exact ⟨⟨b,off,none⟩,cap,news,h3,hr,h4,fun j u hu=>by rw [addr_add]; exact (h5 j u hu).1,h6⟩
 obtain ⟨a,cap,news,rfl,hr2,hnl,hnc,hnrd⟩:=hnews
 have hz2 : z2 = z ∧ c3.rows = some (z,rs ++ r0 :: rs2):=by
  rcases app_rows hrows ha (fun s e=>by subst e; simp [notStr] at hns) with ⟨h0 | h0,_⟩ | ⟨rs2',h2,h3⟩
  ·subst h0; simp [C.rows] at hrows2
  ·subst h0; simp [C.rows] at hrows2
  ·rw [hrows2] at h2; cases h2
   exact ⟨rfl,h3⟩
 obtain ⟨rfl,h3⟩:=hz2
 have hlen:=(rows_z h3).2
 rw [hn] at hlen
 simp only [List.length_append,Option.some.injEq] at hlen
 have hpos : 0 < (r0 :: rs2).length:=by simp
 have h63 : rs.length + (r0 :: rs2).length ≤ maxLen:=by
  have : n ≤ n * by_:=Nat.le_mul_of_pos_right _ hb0
  unfold maxLen; omega
 have hr:=run_append_grow (P:=P) w t ty e i z0 (elO_some he) hi hiz p rs.length rs.length olds (by rw [his]; exact hol) hoc a (r0 :: rs2).length cap news (by rw [his]; exact hnl) hnc (by omega) (by unfold maxLen at h63; omega) (growslice_fits (by omega) (by rw [hib,← hlen]; exact hroom))
 have hge:=grownCap_ge w (rs.length + (r0 :: rs2).length) rs.length e
 have hcm' : grownCap w (rs.length + (r0 :: rs2).length) rs.length e ≤ maxLen:=grownCap_le_maxLen w _ rs.length e h63
 have hxl : (olds ++ news).length = (rs.length + (r0 :: rs2).length) * z2:=by rw [List.length_append,hol,hnl,Nat.add_mul]
 refine ⟨_,_,rs ++ r0 :: rs2,olds ++ news,hr,h3,fun r hr'=>?_,⟨by rw [hxl,List.length_append],.inr ⟨w.heap.size,_,_,by rw [List.length_append],Nat.zero_le _,⟨_,heap_alloc_new w.drew _,.inl (Nat.le_refl _)⟩,by rw [List.length_append]; exact hge,hcm',?_,?_⟩⟩,⟨rfl,rfl,rfl,by simp,fun k hk _=>heap_alloc_old w.drew _ k hk⟩,fun g' hg'=>by simp [Value.ownBlock] at hg'; omega,hord.append hnrd hol hrl⟩
 ·rcases List.mem_append.1 hr' with h | h
  ·exact hrl r h
  ·exact hr2 r h
 ·simp only [Array.size_append,List.size_toArray,size_zeroCells,hzc,hol,hnl,← Nat.add_mul]
  congr 1
  omega
 ·simp only [Array.toList_append,List.append_assoc,List.length_append]
  rw [← List.append_assoc,← hxl]
  exact List.take_left

theorem verN_lt {H : Hp} {id : Nat} : ∀ B,look H.buf id = some B → B.ver < verN H id:=by
 intro B hB
 simp [verN,hB]

theorem appT_sound {H : Hp} {nx : Nat} {o : Oper} {ev : Operand → AV} {t : TypeId} {x y : Operand} (ho : o.op = .call { callee:=.builtin .append,args:=#[x,y],argTypes:=#[t,t] }) {K : AV → Hp → Nat → Prop} (h : appT P H nx t (ev x) (ev y) K) :
  ∃ r H' nx',K r H' nx' ∧ ∀ F : Fr,OpW P F H H' nx nx' o ev r:=by
 unfold appT at h
 split at h
 ·rename_i e c2 he hs
  split at h
  ·rename_i z by_ zs hsz hby hze
   split at h
   ·rename_i hevx
    split at h
    ·rename_i c0 hc0
     split at h
     ·rename_i c hc
      split at h
      ·rename_i n hn
       obtain ⟨⟨hzl,hz0,hb0,hcz,hns⟩,hroom,hK⟩:=h
       refine ⟨_,_,_,hK,fun F m w ρ hrep hfree hops=>?_⟩
       have hx:=hops x (by simp [ho,Op.operands,Call.operands])
       have hy:=hops y (by simp [ho,Op.operands,Call.operands])
       rw [hevx] at hx
       have hρx : ρ x = .slice none 0 0:=rd_nil hx
       have hr0:=emptyO_rows hc0
       rw [hcz] at hr0
       obtain ⟨v',w',rs',xs',hrun,hrows',hrl',hown',hg',hpl,hrd'⟩:=append_core hrep (ty:=o.type) he hsz hby hze hzl hz0 hb0 hr0 (by simp) (World.ownsR_nil w 0 e z) (fun i j y hy=>by simp [at2] at hy) hs hy hc hns hn hroom
       unfold Exec
       have hex : (execOp ρ o).run P w = .ok (.value v') w':=by
        simp only [execOp,ho,resolve,invoke,builtin,Sem.run_bind,Sem.run_pure,Result.andThen_ok,List.map_toArray,List.map_cons,List.map_nil,hρx,hrun]
       rw [hex]
       have hm0:=(hfree nx (Nat.le_refl _)).2
       obtain ⟨g1,g2⟩:=hrep.bufStep (id:=nx) (row:=none) (B':=⟨verN H nx,e,z,c⟩) (v':=v') (rs:=rs') (xs:=xs') (H':=H.addBuf nx ⟨verN H nx,e,z,c⟩) hg' (fun g hg=>by cases hg)
        (fun g hg=>by rcases hpl g hg with h | h; { simp [Value.ownBlock] at h }; exact .inr h) (fun B hB=>.inl (verN_lt B hB)) (look_add ..) (fun i hi=>look_add_ne _ _ _ _ hi) rfl rfl hrows' hz0 hrl' hown' hrd'
       obtain ⟨p,cap,hv',_⟩:=ownsRow_val hown'
       refine ⟨_,g1,g2,fun i hi=>?_,by rw [hv']; rfl,_,look_add ..,Nat.le_refl _,fun _=>by simp [Mp.addBf]⟩
       obtain ⟨h1,h2⟩:=hfree i (by omega)
       refine ⟨h1,?_⟩
       simp only [Mp.addBf]
       split
       ·omega
       ·exact h2
      ·exact h.elim
     ·exact h.elim
    ·exact h.elim
   ·rename_i id ver hevx
    split at h
    ·rename_i B hB
     split at h
     ·rename_i c hc
      split at h
      ·rename_i n hn
       obtain ⟨⟨hzl,hz0,hb0,hBz,hBe,hns⟩,hroom,hK⟩:=h
       refine ⟨_,_,_,hK,fun F m w ρ hrep hfree hops=>?_⟩
       have hx:=hops x (by simp [ho,Op.operands,Call.operands])
       have hy:=hops y (by simp [ho,Op.operands,Call.operands])
       rw [hevx] at hx
       obtain ⟨hB1,hB2⟩:=curB_spec hB
       obtain ⟨rs,xs,hm,hrows,_,hr,hown,hrd⟩:=own_slice hrep hB1 hB2 hx
       subst hBz; subst hBe
       obtain ⟨v',w',rs',xs',hrun,hrows',hrl',hown',hg',hpl,hrd'⟩:=append_core hrep (ty:=o.type) he hsz hby hze hzl hz0 hb0 hrows hr hown hrd hs hy hc hns hn hroom
       unfold Exec
       have hex : (execOp ρ o).run P w = .ok (.value v') w':=by
        simp only [execOp,ho,resolve,invoke,builtin,Sem.run_bind,Sem.run_pure,Result.andThen_ok,List.map_toArray,List.map_cons,List.map_nil,hrun]
       rw [hex]
       obtain ⟨g1,g2⟩:=hrep.bufStep (id:=id) (row:=(ρ x).ownBlock) (B':=⟨ver + 1,B.e,B.z,c⟩) (v':=v') (rs:=rs') (xs:=xs') (H':=H.addBuf id ⟨ver + 1,B.e,B.z,c⟩) hg' (fun g hg=>⟨_,hm,hg⟩)
        hpl (fun B2 hB2'=>by rw [hB1] at hB2'; cases hB2'; left; show B.ver < ver + 1; omega) (look_add ..) (fun i hi=>look_add_ne _ _ _ _ hi) rfl rfl hrows' hz0 hrl' hown' hrd'
       obtain ⟨p,cap,hv',_⟩:=ownsRow_val hown'
       refine ⟨_,g1,g2,fun i hi=>?_,by rw [hv']; rfl,_,look_add ..,Nat.le_refl _,fun _=>by simp [Mp.addBf]⟩
       obtain ⟨h1,h2⟩:=hfree i hi
       refine ⟨h1,?_⟩
       simp only [Mp.addBf]
       split
       ·subst i; rw [hm] at h2; cases h2
       ·exact h2
      ·exact h.elim
     ·exact h.elim
    ·exact h.elim
   ·rename_i c1 hevx
    split at h
    ·rename_i z1 rs1 z2 r0 rs2 hr1 hr2
     split at h
     ·rename_i c hc
      split at h
      ·rename_i n hn
       obtain ⟨⟨hzl,hz0,hb0,hcz,hns⟩,hroom,hK⟩:=h
       subst hcz
       refine ⟨_,_,_,hK,fun F m w ρ hrep hfree hops=>?_⟩
       have hx:=hops x (by simp [ho,Op.operands,Call.operands])
       have hy:=hops y (by simp [ho,Op.operands,Call.operands])
       rw [hevx] at hx
       obtain ⟨v',w',rs',xs',hrun,hrows',hrl',hown',hg',hpl,hrd'⟩:=append_view hrep (ty:=o.type) he hsz hby hze hzl hz0 hb0 hr1 hx hs hy hr2 hc hns hn hroom
       unfold Exec
       have hex : (execOp ρ o).run P w = .ok (.value v') w':=by
        simp only [execOp,ho,resolve,invoke,builtin,Sem.run_bind,Sem.run_pure,Result.andThen_ok,List.map_toArray,List.map_cons,List.map_nil,hrun]
       rw [hex]
       have hm0:=(hfree nx (Nat.le_refl _)).2
       obtain ⟨g1,g2⟩:=hrep.bufStep (id:=nx) (row:=none) (B':=⟨verN H nx,e,z1,c⟩) (v':=v') (rs:=rs') (xs:=xs') (H':=H.addBuf nx ⟨verN H nx,e,z1,c⟩) hg' (fun g hg=>by cases hg)
        (fun g hg=>.inr (hpl g hg)) (fun B hB=>.inl (verN_lt B hB)) (look_add ..) (fun i hi=>look_add_ne _ _ _ _ hi) rfl rfl hrows' hz0 hrl' hown' hrd'
       obtain ⟨p,cap,hv',_⟩:=ownsRow_val hown'
       refine ⟨_,g1,g2,fun i hi=>?_,by rw [hv']; rfl,_,look_add ..,Nat.le_refl _,fun _=>by simp [Mp.addBf]⟩
       obtain ⟨h1,h2⟩:=hfree i (by omega)
       refine ⟨h1,?_⟩
       simp only [Mp.addBf]
       split
       ·omega
       ·exact h2
      ·exact h.elim
     ·exact h.elim
    ·exact h.elim
   ·exact h.elim
  ·exact h.elim
 ·exact h.elim

def zeroC (P : Program) (e : TypeId) (zs : List Value) (n : Nat) : Option C:=match P.underlying e,zs with
 | some (.int k),[.int k' 0]=>if k = k' then some (.ints k (List.replicate n 0)) else none
 | some .bool,[.bool false]=>some (.bools (List.replicate n false))
 | some (.int _),_=>none
 | some .bool,_=>none
 | some _,zs=>if zs.all oneCell then some (.sl zs.length (List.replicate n (zs.map ofC))) else none
 | none,_=>none

theorem zeroC_rows {e : TypeId} {zs : List Value} {n : Nat} {c : C} (h : zeroC P e zs n = some c) : zs.all oneCell = true ∧ c.rows = some (zs.length,List.replicate n (zs.map ofC)):=by
 unfold zeroC at h
 split at h
 ·split at h
  ·rename_i he; subst he; cases h; exact ⟨rfl,by simp [C.rows,ofC]⟩
  ·cases h
 ·cases h; exact ⟨rfl,by simp [C.rows,ofC]⟩
 ·cases h
 ·cases h
 ·split at h
  ·rename_i hall; cases h; exact ⟨hall,rfl⟩
  ·cases h
 ·cases h

def makeT (P : Program) (H : Hp) (nx : Nat) (t : TypeId) (l c : AV) (K : AV → Hp → Nat → Prop) : Prop :=
 match elO P t,l,c with
 | some e,.c (.i _ a),.c (.i _ b)=>match szO P e,byO P e,zeroO P e with
  | some z,some by_,some zs=>match zeroC P e zs a.toNat with
   | some con=>(zs.length = z ∧ 0 < z ∧ 0 < by_) ∧ (0 ≤ a ∧ a ≤ b ∧ b * by_ ≤ 140737488355328) ∧ K (.own nx (verN H nx)) (H.addBuf nx ⟨verN H nx,e,z,con⟩) (nx + 1)
   | none=>False
  | _,_,_=>False
 | _,_,_=>False

theorem madeCells_get (z : Array Value) (n i j : Nat) (hz : 0 < z.size) (hj : j < z.size) (h : i * z.size + j < n) : (madeCells z n)[i * z.size + j]? = z[j]?:=by
 have e : (i * z.size + j) % z.size = j:=by rw [Nat.mul_comm,Nat.mul_add_mod,Nat.mod_eq_of_lt hj]
 simp only [madeCells,Array.getElem?_map]
 rw [Array.getElem?_eq_getElem (by simp; exact h)]
 simp only [Array.getElem_range,Option.map_some,e]
 rw [Array.getElem?_eq_getElem hj]
 simp [getElem!_pos,hj]

theorem makeT_sound {H : Hp} {nx : Nat} {o : Oper} {ev : Operand → AV} {t : TypeId} {l c : Operand} (ho : o.op = .makeSlice t l c) {K : AV → Hp → Nat → Prop} (h : makeT P H nx t (ev l) (ev c) K) :
  ∃ r H' nx',K r H' nx' ∧ ∀ F : Fr,OpW P F H H' nx nx' o ev r:=by
 unfold makeT at h
 split at h
 ·rename_i e kl a kc b he hl hc
  split at h
  ·rename_i z by_ zs hsz hby hze
   split at h
   ·rename_i con hcon
    obtain ⟨⟨hzl,hz0,hb0⟩,⟨ha0,hab,hroom⟩,hK⟩:=h
    refine ⟨_,_,_,hK,fun F m w ρ hrep hfree hops=>?_⟩
    have hx:=hops l (by simp [ho,Op.operands])
    have hy:=hops c (by simp [ho,Op.operands])
    rw [hl] at hx
    rw [hc] at hy
    have hρl:=rep_i hx
    have hρc:=rep_i hy
    obtain ⟨i,z0,hi,hib,his,hiz,rfl⟩:=byO_some hby hsz hze
    have hzc : z0.cells.size = z:=by rw [← hzl]; simp
    have hbb : b ≤ b * by_:=by
     have h1 : b * 1 ≤ b * by_:=Int.mul_le_mul_of_nonneg_left (by omega) (by omega)
     omega
    have hrun:=run_make (P:=P) w t e i z0 (elO_some he) hi hiz kl kc a b ha0 hab (by rw [hib,Int.mul_comm]; omega) (by omega)
    unfold Exec
    have hex : (execOp ρ o).run P w = .ok (.value (.slice (some ⟨w.heap.size,0,none⟩) a.toNat b.toNat)) (w.alloc (.cells (madeCells z0.cells (b.toNat * i.size)) e)):=by
     simp only [execOp,ho,hρl,hρc,Sem.run_bind,hrun,Result.andThen_ok,Sem.run_pure]
    rw [hex]
    obtain ⟨hall,hrows⟩:=zeroC_rows hcon
    have hzll : z0.cells.toList.length = z:=hzl
    rw [hzll] at hrows
    have hrl : ∀ r ∈ List.replicate a.toNat (z0.cells.toList.map ofC),r.length = z:=fun r hr=>by
     have:=List.eq_of_mem_replicate hr; subst this; simp [hzc]
    have hmul : a.toNat * z ≤ b.toNat * z:=Nat.mul_le_mul_right _ (by omega)
    have hown : (w.alloc (.cells (madeCells z0.cells (b.toNat * i.size)) e)).ownsR 0 e z (.slice (some ⟨w.heap.size,0,none⟩) a.toNat b.toNat) (List.replicate a.toNat (z0.cells.toList.map ofC)).length ((madeCells z0.cells (b.toNat * i.size)).toList.take (a.toNat * z)):=by
     have hsm : (madeCells z0.cells (b.toNat * i.size)).size = b.toNat * z:=by rw [size_madeCells,his]
     refine ⟨by rw [List.length_take,Array.length_toList,hsm,List.length_replicate]; omega,.inr ⟨w.heap.size,b.toNat,_,by simp,Nat.zero_le _,⟨_,heap_alloc_new w _,.inl (Nat.le_refl _)⟩,by simp; omega,?_,hsm,by simp⟩⟩
     unfold maxLen; omega
    have hrd : RdRow w (F.S m) z (List.replicate a.toNat (z0.cells.toList.map ofC)) ((madeCells z0.cells (b.toNat * i.size)).toList.take (a.toNat * z)):=by
     intro p q y hy
     obtain ⟨h1,h2⟩:=at2_lt hrl hy
     rw [List.length_replicate] at h1
     have hk : p * z + q < a.toNat * z:=by
      have : (p + 1) * z ≤ a.toNat * z:=Nat.mul_le_mul_right _ h1
      rw [Nat.add_mul] at this; omega
     have hy2 : y = ofC (z0.cells[q]'(by omega)):=by
      unfold at2 at hy
      rw [List.getElem?_replicate,if_pos h1] at hy
      simp [Array.getElem?_eq_getElem (show q < z0.cells.size by omega)] at hy
      exact hy.symm
     refine ⟨z0.cells[q]'(by omega),?_,?_⟩
     ·rw [List.getElem?_take,if_pos hk]
      have:=madeCells_get z0.cells (b.toNat * i.size) p q (by omega) (by omega) (by rw [hzc,his]; omega)
      rw [hzc] at this
      rw [Array.getElem?_toList,this]
      exact Array.getElem?_eq_getElem _
     ·subst hy2
      exact rd_ofC w _ _ (List.all_eq_true.1 hall _ (by simp))
    have hm0:=(hfree nx (Nat.le_refl _)).2
    obtain ⟨g1,g2⟩:=hrep.bufStep (id:=nx) (row:=none) (B':=⟨verN H nx,e,z,con⟩) (H':=H.addBuf nx ⟨verN H nx,e,z,con⟩) (World.grownBy_alloc w _ none) (fun g hg=>by cases hg)
     (fun g hg=>by simp [Value.ownBlock] at hg; right; omega) (fun B hB=>.inl (verN_lt B hB)) (look_add ..) (fun i hi=>look_add_ne _ _ _ _ hi) rfl rfl hrows hz0 hrl hown hrd
    refine ⟨_,g1,g2,fun j hj=>?_,rfl,_,look_add ..,Nat.le_refl _,fun _=>by simp [Mp.addBf]⟩
    obtain ⟨h1,h2⟩:=hfree j (by omega)
    refine ⟨h1,?_⟩
    simp only [Mp.addBf]
    split
    ·omega
    ·exact h2
   ·exact h.elim
  ·exact h.elim
 ·exact h.elim

def makeQ (P : Program) (t : TypeId) (l c : AV) (K : AV → Prop) : Prop :=
 match elO P t,l,c with
 | some e,.c (.i _ a),.c (.i _ b)=>match szO P e,byO P e,zeroO P e with
  | some z,some by_,some zs=>match zeroC P e zs a.toNat with
   | some con=>(zs.length = z ∧ 0 < z ∧ 0 < by_) ∧ (0 ≤ a ∧ a = b ∧ b * by_ ≤ 140737488355328) ∧ K (.vf con)
   | none=>False
  | _,_,_=>False
 | _,_,_=>False

theorem makeQ_sound {o : Oper} {ev : Operand → AV} {t : TypeId} {l c : Operand} (ho : o.op = .makeSlice t l c) {K : AV → Prop} (h : makeQ P t (ev l) (ev c) K) :
  ∃ r,K r ∧ ∀ (F : Fr) (H : Hp) (nx : Nat),OpQ P F H nx nx o ev r:=by
 unfold makeQ at h
 split at h
 ·rename_i e kl a kc b he hl hc
  split at h
  ·rename_i z by_ zs hsz hby hze
   split at h
   ·rename_i con hcon
    obtain ⟨⟨hzl,hz0,hb0⟩,⟨ha0,hab,hroom⟩,hK⟩:=h
    subst hab
    refine ⟨_,hK,fun F H nx=>OpQ.of_ext fun H' m w ρ hsup hrep hops=>?_⟩
    have hx:=hops l (by simp [ho,Op.operands])
    have hy:=hops c (by simp [ho,Op.operands])
    rw [hl] at hx
    rw [hc] at hy
    have hρl:=rep_i hx
    have hρc:=rep_i hy
    obtain ⟨i,z0,hi,hib,his,hiz,rfl⟩:=byO_some hby hsz hze
    have hzc : z0.cells.size = z:=by rw [← hzl]; simp
    have hbb : a ≤ a * by_:=by
     have h1 : a * 1 ≤ a * by_:=Int.mul_le_mul_of_nonneg_left (by omega) (by omega)
     omega
    have hrun:=run_make (P:=P) w t e i z0 (elO_some he) hi hiz kl kc a a ha0 (Int.le_refl _) (by rw [hib,Int.mul_comm]; omega) (by omega)
    unfold Exec
    have hex : (execOp ρ o).run P w = .ok (.value (.slice (some ⟨w.heap.size,0,none⟩) a.toNat a.toNat)) (w.alloc (.cells (madeCells z0.cells (a.toNat * i.size)) e)):=by
     simp only [execOp,ho,hρl,hρc,Sem.run_bind,hrun,Result.andThen_ok,Sem.run_pure]
    rw [hex]
    obtain ⟨hall,hrows⟩:=zeroC_rows hcon
    have hzll : z0.cells.toList.length = z:=hzl
    rw [hzll] at hrows
    have hrl : ∀ r ∈ List.replicate a.toNat (z0.cells.toList.map ofC),r.length = z:=fun r hr=>by
     have:=List.eq_of_mem_replicate hr; subst this; simp [hzc]
    have hrd : RdRow w (F.S m) z (List.replicate a.toNat (z0.cells.toList.map ofC)) (madeCells z0.cells (a.toNat * i.size)).toList:=by
     intro p q y hy
     obtain ⟨h1,h2⟩:=at2_lt hrl hy
     rw [List.length_replicate] at h1
     have hk : p * z + q < a.toNat * z:=by
      have : (p + 1) * z ≤ a.toNat * z:=Nat.mul_le_mul_right _ h1
      rw [Nat.add_mul] at this; omega
     have hy2 : y = ofC (z0.cells[q]'(by omega)):=by
      unfold at2 at hy
      rw [List.getElem?_replicate,if_pos h1] at hy
      simp [Array.getElem?_eq_getElem (show q < z0.cells.size by omega)] at hy
      exact hy.symm
     refine ⟨z0.cells[q]'(by omega),?_,?_⟩
     ·have:=madeCells_get z0.cells (a.toNat * i.size) p q (by omega) (by omega) (by rw [hzc,his]; omega)
      rw [hzc] at this
      rw [Array.getElem?_toList,this]
      exact Array.getElem?_eq_getElem _
     ·subst hy2
      exact rd_ofC w _ _ (List.all_eq_true.1 hall _ (by simp))
    refine ⟨alloc_ext w _,_,_,rfl,?_⟩
    have:=new_rd hrep hrows hz0 hrl (by rw [List.length_replicate]; unfold maxLen; omega) (madeCells z0.cells (a.toNat * i.size)) e a.toNat (by rw [List.length_replicate]; exact Nat.le_refl _) hrd
    rw [List.length_replicate] at this
    exact this
   ·exact h.elim
  ·exact h.elim
 ·exact h.elim

def litVT (P : Program) (t : TypeId) (len : Nat) (ps : List (Nat × AV)) (K : AV → Prop) : Prop:=match elO P t with
 | some e=>match litO P e (ps.map (·.2)) with
  | some c=>(ps.map (·.1) = List.range len ∧ szO P e = some c.z ∧ (zeroO P e).isSome = true ∧ len * c.z ≤ 16777216 ∧ 0 < c.z) ∧ K (.vf c)
  | none=>False
 | none=>False
theorem litVT_sound {o : Oper} {ev : Operand → AV} {t : TypeId} {n : Nat} {ps : Array (Nat × Operand)} (ho : o.op = .buildSlice t n ps) {K : AV → Prop} (h : litVT P t n (ps.toList.map fun p=>(p.1,ev p.2)) K) :
  ∃ r,K r ∧ ∀ (F : Fr) (H : Hp) (nx : Nat),OpQ P F H nx nx o ev r:=by
 unfold litVT at h
 split at h
 ·rename_i e he
  split at h
  ·rename_i c hc
   obtain ⟨⟨hidx,hsz,hzero,hle,hz0⟩,hK⟩:=h
   refine ⟨_,hK,fun F H nx=>OpQ.of_ext fun H' m w ρ hsup hrep hops=>?_⟩
   obtain ⟨rs,arr,hrun,hrows,hrl,hmax,hsz2,hrd⟩:=lit_core (F:=F) (H:=H') (m:=m) (w:=w) (vs:=ps.map fun (i,x)=>(i,ρ x)) he hc hidx hsz hzero hle hz0 (by simp) (fun j x v hx hv=>by
    simp only [List.getElem?_map,Array.getElem?_toList,Option.map_eq_some_iff] at hx
    obtain ⟨p,hp,rfl⟩:=hx
    simp [hp] at hv
    subst hv
    exact hops p.2 (by simp [ho,Op.operands]; exact ⟨p.1,by have:=Array.mem_of_getElem? hp; simpa using this⟩))
   unfold Exec
   have hex : (execOp ρ o).run P w = .ok (.value (.slice (some ⟨w.heap.size,0,none⟩) rs.length rs.length)) (w.alloc (.cells arr e)):=by simp only [execOp,ho,Sem.run_bind,hrun,Result.andThen_ok,Sem.run_pure]
   rw [hex]
   exact ⟨alloc_ext w _,_,_,rfl,new_rd hrep hrows hz0 hrl hmax _ e rs.length (Nat.le_refl _) hrd⟩
  ·exact h.elim
 ·exact h.elim

def litOT (P : Program) (H : Hp) (nx : Nat) (t : TypeId) (len : Nat) (ps : List (Nat × AV)) (K : AV → Hp → Nat → Prop) : Prop:=match elO P t with
 | some e=>match litO P e (ps.map (·.2)) with
  | some c=>(ps.map (·.1) = List.range len ∧ szO P e = some c.z ∧ (zeroO P e).isSome = true ∧ len * c.z ≤ 16777216 ∧ 0 < c.z) ∧ K (.own nx (verN H nx)) (H.addBuf nx ⟨verN H nx,e,c.z,c⟩) (nx + 1)
  | none=>False
 | none=>False

theorem litOT_sound {H : Hp} {nx : Nat} {o : Oper} {ev : Operand → AV} {t : TypeId} {n : Nat} {ps : Array (Nat × Operand)} (ho : o.op = .buildSlice t n ps) {K : AV → Hp → Nat → Prop} (h : litOT P H nx t n (ps.toList.map fun p=>(p.1,ev p.2)) K) :
  ∃ r H' nx',K r H' nx' ∧ ∀ F : Fr,OpW P F H H' nx nx' o ev r:=by
 unfold litOT at h
 split at h
 ·rename_i e he
  split at h
  ·rename_i c hc
   obtain ⟨⟨hidx,hsz,hzero,hle,hz0⟩,hK⟩:=h
   refine ⟨_,_,_,hK,fun F m w ρ hrep hfree hops=>?_⟩
   obtain ⟨rs,arr,hrun,hrows,hrl,hmax,hsz2,hrd⟩:=lit_core (F:=F) (H:=H) (m:=m) (w:=w) (vs:=ps.map fun (i,x)=>(i,ρ x)) he hc hidx hsz hzero hle hz0 (by simp) (fun j x v hx hv=>by
    simp only [List.getElem?_map,Array.getElem?_toList,Option.map_eq_some_iff] at hx
    obtain ⟨p,hp,rfl⟩:=hx
    simp [hp] at hv
    subst hv
    exact hops p.2 (by simp [ho,Op.operands]; exact ⟨p.1,by have:=Array.mem_of_getElem? hp; simpa using this⟩))
   unfold Exec
   have hex : (execOp ρ o).run P w = .ok (.value (.slice (some ⟨w.heap.size,0,none⟩) rs.length rs.length)) (w.alloc (.cells arr e)):=by simp only [execOp,ho,Sem.run_bind,hrun,Result.andThen_ok,Sem.run_pure]
   rw [hex]
   have hown : (w.alloc (.cells arr e)).ownsR 0 e c.z (.slice (some ⟨w.heap.size,0,none⟩) rs.length rs.length) rs.length arr.toList:=by
    refine ⟨by rw [Array.length_toList,hsz2],.inr ⟨w.heap.size,rs.length,arr,rfl,Nat.zero_le _,⟨_,heap_alloc_new w _,.inl (Nat.le_refl _)⟩,Nat.le_refl _,hmax,hsz2,?_⟩⟩
    rw [← hsz2]; exact List.take_of_length_le (by simp)
   obtain ⟨g1,g2⟩:=hrep.bufStep (id:=nx) (row:=none) (B':=⟨verN H nx,e,c.z,c⟩) (H':=H.addBuf nx ⟨verN H nx,e,c.z,c⟩) (World.grownBy_alloc w _ none) (fun g hg=>by cases hg)
    (fun g hg=>by simp [Value.ownBlock] at hg; right; omega) (fun B hB=>.inl (verN_lt B hB)) (look_add ..) (fun i hi=>look_add_ne _ _ _ _ hi) rfl rfl hrows hz0 hrl hown hrd
   refine ⟨_,g1,g2,fun j hj=>?_,rfl,_,look_add ..,Nat.le_refl _,fun _=>by simp [Mp.addBf]⟩
   obtain ⟨h1,h2⟩:=hfree j (by omega)
   refine ⟨h1,?_⟩
   simp only [Mp.addBf]
   split
   ·omega
   ·exact h2
  ·exact h.elim
 ·exact h.elim

def lit0T (P : Program) (H : Hp) (nx : Nat) (t : TypeId) (K : AV → Hp → Nat → Prop) : Prop:=match elO P t with
 | some e=>match emptyO P e with
  | some c=>szO P e = some c.z ∧ c.rows = some (c.z,[]) ∧ 0 < c.z ∧ K (.own nx (verN H nx)) (H.addBuf nx ⟨verN H nx,e,c.z,c⟩) (nx + 1)
  | none=>False
 | none=>False

theorem lit0T_sound {H : Hp} {nx : Nat} {o : Oper} {ev : Operand → AV} {t : TypeId} {ps : Array (Nat × Operand)} (ho : o.op = .buildSlice t 0 ps) (hps : ps.size = 0) {K : AV → Hp → Nat → Prop} (h : lit0T P H nx t K) :
  ∃ r H' nx',K r H' nx' ∧ ∀ F : Fr,OpW P F H H' nx nx' o ev r:=by
 unfold lit0T at h
 split at h
 ·rename_i e he
  split at h
  ·rename_i c hc
   obtain ⟨hsz,hrows,hz0,hK⟩:=h
   refine ⟨_,_,_,hK,fun F m w ρ hrep hfree hops=>?_⟩
   have hp0 : ps = #[]:=Array.eq_empty_of_size_eq_zero hps
   subst hp0
   unfold Exec
   have hex : (execOp ρ o).run P w = .ok (.value (.slice (some ⟨w.heap.size,0,none⟩) 0 0)) (w.alloc (.cells #[] e)):=by
    simp only [execOp,ho]
    simp only [Instr.buildSlice,Sem.run_bind,run_underlying (elO_some he),Result.andThen_ok,szO_run hsz,Nat.zero_mul]
    simp [Instr.fill,newRow_run]
    congr 2
    apply Array.eq_empty_of_size_eq_zero
    simp
   rw [hex]
   have hown : (w.alloc (.cells #[] e)).ownsR 0 e c.z (.slice (some ⟨w.heap.size,0,none⟩) 0 0) ([] : List (List C)).length [] :=
    ⟨by simp,.inr ⟨w.heap.size,0,_,by simp,Nat.zero_le _,⟨_,heap_alloc_new w _,.inl (Nat.le_refl _)⟩,by simp,by simp,by simp,by simp⟩⟩
   have hrd : RdRow w (F.S m) c.z [] []:=by
    intro p q y hy
    simp [at2] at hy
   have hm0:=(hfree nx (Nat.le_refl _)).2
   obtain ⟨g1,g2⟩:=hrep.bufStep (id:=nx) (row:=none) (B':=⟨verN H nx,e,c.z,c⟩) (H':=H.addBuf nx ⟨verN H nx,e,c.z,c⟩) (World.grownBy_alloc w _ none) (fun g hg=>by cases hg)
    (fun g hg=>by simp [Value.ownBlock] at hg; right; omega) (fun B hB=>.inl (verN_lt B hB)) (look_add ..) (fun i hi=>look_add_ne _ _ _ _ hi) rfl rfl hrows hz0 (by simp) hown hrd
   refine ⟨_,g1,g2,fun j hj=>?_,rfl,_,look_add ..,Nat.le_refl _,fun _=>by simp [Mp.addBf]⟩
   obtain ⟨h1,h2⟩:=hfree j (by omega)
   refine ⟨h1,?_⟩
   simp only [Mp.addBf]
   split
   ·omega
   ·exact h2
  ·exact h.elim
 ·exact h.elim

def cutT (P : Program) (H : Hp) (nx : Nat) (t : TypeId) (x : AV) (lo hi : Option AV) (K : AV → Hp → Nat → Prop) : Prop :=
 match elO P t,x,lo,hi with
 | some e,.own id ver,none,some (.c (.i _ b))=>match curB H id ver with
  | some B=>match B.con.len with
   | some l=>szO P e = some B.z ∧ (0 ≤ b ∧ b ≤ (l : Int)) ∧ K (.own id (ver + 1)) (H.addBuf id ⟨ver + 1,B.e,B.z,B.con.sub 0 b.toNat⟩) nx
   | none=>False
  | none=>False
 | some e,.own id ver,some (.c (.i _ a)),some (.c (.i _ b))=>match curB H id ver with
  | some B=>match B.con.len with
   | some l=>szO P e = some B.z ∧ (0 ≤ a ∧ a ≤ b ∧ b ≤ (l : Int)) ∧ K (.win id ver a.toNat (b.toNat - a.toNat)) H nx
   | none=>False
  | none=>False
 | _,_,_,_=>False

theorem cutT_sound {H : Hp} {nx : Nat} {o : Oper} {ev : Operand → AV} {t : TypeId} {x : Operand} {lo hi : Option Operand} (ho : o.op = .slice t x lo hi none) {K : AV → Hp → Nat → Prop} (h : cutT P H nx t (ev x) (lo.map ev) (hi.map ev) K) :
  ∃ r H' nx',K r H' nx' ∧ ∀ F : Fr,OpW P F H H' nx nx' o ev r:=by
 unfold cutT at h
 split at h
 ·rename_i e id ver k b he hevx hlo hhi
  split at h
  ·rename_i B hB
   split at h
   ·rename_i l hl
    obtain ⟨hsz,⟨h0,h1⟩,hK⟩:=h
    refine ⟨_,_,_,hK,fun F m w ρ hrep hfree hops=>?_⟩
    cases lo with
    | some lo=>simp at hlo
    | none =>
     cases hi with
     | none=>simp at hhi
     | some hi =>
      simp only [Option.map_some,Option.some.injEq] at hhi
      have hx:=hops x (by simp [ho,Op.operands])
      have hy:=hops hi (by simp [ho,Op.operands])
      rw [hevx] at hx
      rw [hhi] at hy
      have hρ:=rep_i hy
      obtain ⟨hB1,hB2⟩:=curB_spec hB
      obtain ⟨rs,xs,hm,hrows,hz0,hr,hown,hrd⟩:=own_slice hrep hB1 hB2 hx
      have hl2:=(rows_z hrows).2
      rw [hl] at hl2; simp at hl2; subst hl2
      obtain ⟨p,cap,hu,hcap,hmax,hp⟩:=ownsRow_val hown
      have hrun:=slice_run (P:=P) he hsz p rs.length cap 0 b.toNat (Nat.zero_le _) (by omega) hcap w none (some (.int k b)) (.inl ⟨rfl,rfl⟩) (.inr ⟨k,by congr 2; omega⟩)
      have hval : (Value.slice (if cap = 0 then p else p.map (·.add (0 * B.z))) (b.toNat - 0) (cap - 0)) = .slice p b.toNat cap:=by
       have : p.map (·.add (0 * B.z)) = p:=by cases p <;> simp [Addr.add]
       rw [this]; simp
      rw [hval] at hrun
      unfold Exec
      have hex : (execOp ρ o).run P w = .ok (.value (.slice p b.toNat cap)) w:=by
       simp only [execOp,ho,hu,hρ,Option.map_none,Option.map_some,Sem.run_bind,hrun,Result.andThen_ok,Sem.run_pure]
      rw [hex]
      have hsub:=rows_sub hrows 0 b.toNat
      rw [List.drop_zero] at hsub
      have hrl : ∀ r ∈ rs.take b.toNat,r.length = B.z:=fun r hrm=>hr r (List.mem_of_mem_take hrm)
      have htl : (rs.take b.toNat).length = b.toNat:=by simp; omega
      have hmul : b.toNat * B.z ≤ rs.length * B.z:=Nat.mul_le_mul_right _ (by omega)
      have hown' : w.ownsR 0 B.e B.z (.slice p b.toNat cap) (rs.take b.toNat).length (xs.take (b.toNat * B.z)):=by
       rw [htl]
       refine ⟨by rw [List.length_take,hown.1]; omega,?_⟩
       rcases hown.2 with ⟨h2,h3⟩ | ⟨g,cap',cur,h2,hbg,hgg,hnc,hcm,hcs,htake⟩
       ·rw [hu] at h2
        simp only [Value.slice.injEq] at h2
        obtain ⟨h4,_,h5⟩:=h2
        subst h4; subst h5
        have hb0 : b.toNat = 0:=by omega
        exact .inl ⟨by rw [hb0],hb0⟩
       ·rw [hu] at h2; cases h2
        refine .inr ⟨g,cap,cur,rfl,hbg,hgg,by omega,hcm,hcs,?_⟩
        rw [← htake,List.take_take]
        congr 1; omega
      have hrd' : RdRow w (F.S m) B.z (rs.take b.toNat) (xs.take (b.toNat * B.z)):=by
       intro i j y hy
       obtain ⟨h2,h3⟩:=at2_lt hrl hy
       have hat : at2 rs i j = some y:=by
        unfold at2 at hy ⊢
        rw [List.getElem?_take,if_pos (by omega)] at hy
        exact hy
       obtain ⟨u,hu',hrr⟩:=hrd i j y hat
       refine ⟨u,?_,hrr⟩
       rw [List.getElem?_take,if_pos]
       ·exact hu'
       ·have : (i + 1) * B.z ≤ b.toNat * B.z:=Nat.mul_le_mul_right _ (by omega)
        rw [Nat.add_mul] at this; omega
      obtain ⟨g1,g2⟩:=hrep.bufStep (id:=id) (row:=(ρ x).ownBlock) (B':=⟨ver + 1,B.e,B.z,B.con.sub 0 b.toNat⟩) (v':=.slice p b.toNat cap) (H':=H.addBuf id ⟨ver + 1,B.e,B.z,B.con.sub 0 b.toNat⟩)
       ⟨rfl,rfl,rfl,Nat.le_refl _,fun _ _ _=>rfl⟩ (fun g hg=>⟨_,hm,hg⟩) (fun g hg=>.inl (by rw [hu]; cases p <;> exact hg))
       (fun B2 hB2'=>by rw [hB1] at hB2'; cases hB2'; left; show B.ver < ver + 1; omega) (look_add ..) (fun i hi=>look_add_ne _ _ _ _ hi) rfl rfl hsub hz0 hrl hown' hrd'
      refine ⟨_,g1,g2,fun i hi=>?_,rfl,_,look_add ..,Nat.le_refl _,fun _=>by simp [Mp.addBf]⟩
      obtain ⟨h2,h3⟩:=hfree i hi
      refine ⟨h2,?_⟩
      simp only [Mp.addBf]
      split
      ·subst i; rw [hm] at h3; cases h3
      ·exact h3
   ·exact h.elim
  ·exact h.elim
 ·rename_i e id ver ka a k b he hevx hlo hhi
  split at h
  ·rename_i B hB
   split at h
   ·rename_i l hl
    obtain ⟨hsz,⟨h0,h1,h2⟩,hK⟩:=h
    refine ⟨_,_,_,hK,fun F m w ρ hrep hfree hops=>?_⟩
    cases lo with
    | none=>simp at hlo
    | some lo =>
     cases hi with
     | none=>simp at hhi
     | some hi =>
      simp only [Option.map_some,Option.some.injEq] at hhi hlo
      have hx:=hops x (by simp [ho,Op.operands])
      have hy:=hops hi (by simp [ho,Op.operands])
      have hz:=hops lo (by simp [ho,Op.operands])
      rw [hevx] at hx
      rw [hhi] at hy
      rw [hlo] at hz
      have hρ:=rep_i hy
      have hρ2:=rep_i hz
      obtain ⟨hB1,hB2⟩:=curB_spec hB
      obtain ⟨rs,xs,hm,hrows,hz0,hr,hown,hrd⟩:=own_slice hrep hB1 hB2 hx
      have hl2:=(rows_z hrows).2
      rw [hl] at hl2; simp at hl2; subst hl2
      obtain ⟨p,cap,hu,hcap,hmax,hp⟩:=ownsRow_val hown
      have hrun:=slice_run (P:=P) he hsz p rs.length cap a.toNat b.toNat (by omega) (by omega) hcap w (some (.int ka a)) (some (.int k b)) (.inr ⟨ka,by congr 2; omega⟩) (.inr ⟨k,by congr 2; omega⟩)
      have hlat : Later F H m w H m w:=(hrep.hp (H':=H) (fun _ _ _=>rfl) (fun _ _ h=>h) rfl).2
      unfold Exec
      rw [show (execOp ρ o).run P w = .ok (.value (.slice (if cap = a.toNat then p else p.map (·.add (a.toNat * B.z))) (b.toNat - a.toNat) (cap - a.toNat))) w by
       simp only [execOp,ho,hu,hρ,hρ2,Option.map_none,Option.map_some,Sem.run_bind,hrun,Result.andThen_ok,Sem.run_pure]]
      refine ⟨m,hrep,hlat,hfree,rfl,B,hB1,by omega,fun _=>⟨p,rs.length,cap,by rw [hm,hu],by omega,rfl⟩⟩
   ·exact h.elim
  ·exact h.elim
 ·exact h.elim

def winT (P : Program) (H : Hp) (t : TypeId) (id ver : Nat) (lo hi : Option AV) (K : AV → Prop) : Prop:=match elO P t,lo,hi with
 | some e,some (.c (.i _ a)),some (.c (.i _ b))=>match curB H id ver with
  | some B=>match B.con.len with
   | some l=>szO P e = some B.z ∧ (0 ≤ a ∧ a ≤ b ∧ b ≤ (l : Int)) ∧ K (.win id ver a.toNat (b.toNat - a.toNat))
   | none=>False
  | none=>False
 | some e,some (.c (.i _ a)),none=>match curB H id ver with
  | some B=>match B.con.len with
   | some l=>szO P e = some B.z ∧ (0 ≤ a ∧ a ≤ (l : Int)) ∧ K (.win id ver a.toNat (l - a.toNat))
   | none=>False
  | none=>False
 | some e,none,some (.c (.i _ b))=>match curB H id ver with
  | some B=>match B.con.len with
   | some l=>szO P e = some B.z ∧ (0 ≤ b ∧ b ≤ (l : Int)) ∧ K (.win id ver 0 b.toNat)
   | none=>False
  | none=>False
 | _,_,_=>False
theorem winT_sound {H : Hp} {t : TypeId} {id ver : Nat} {lo hi : Option AV} {K : AV → Prop} (h : winT P H t id ver lo hi K) :
  ∃ r,K r ∧ ∀ (F : Fr) (H' : Hp) (m : Mp) (w : World) (u : Value) (ua ub : Option Value),Sup H' H → HRep F H' m w → RepA F H' m w (.own id ver) u →
   (∀ y,lo = some y → ∃ v,ua = some v ∧ RepA F H' m w y v) → (∀ y,hi = some y → ∃ v,ub = some v ∧ RepA F H' m w y v) → (lo = none → ua = none) → (hi = none → ub = none) → Yl P F H' m w (Instr.sliceAt t u ua ub none) r:=by
 have key : ∀ {e : TypeId} {B : Buf} {l a b : Nat},elO P t = some e → curB H id ver = some B → B.con.len = some l → szO P e = some B.z → a ≤ b → b ≤ l → ∀ (F : Fr) (H' : Hp) (m : Mp) (w : World) (u : Value) (ua ub : Option Value),Sup H' H → HRep F H' m w → RepA F H' m w (.own id ver) u →
   (ua = none ∧ a = 0 ∨ ∃ k,ua = some (.int k (a : Int))) → (ub = none ∧ b = l ∨ ∃ k,ub = some (.int k (b : Int))) → Yl P F H' m w (Instr.sliceAt t u ua ub none) (.win id ver a (b - a)):=by
  intro e B l a b he hB hl hsz hab hbl F H' m w u ua ub hsup hrep hx hua hub
  obtain ⟨hB1,hB2⟩:=curB_spec hB
  rw [← hsup.2] at hB1
  obtain ⟨rs,xs,hm,hrows,hz0,hr,hown,hrd⟩:=own_slice hrep hB1 hB2 hx
  have hl2:=(rows_z hrows).2
  rw [hl] at hl2; simp at hl2; subst hl2
  obtain ⟨p,cap,hu,hcap,hmax,hp⟩:=ownsRow_val hown
  have hrun:=slice_run (P:=P) he hsz p rs.length cap a b hab hbl hcap w ua ub hua hub
  subst hu
  exact ⟨_,hrun,rfl,B,hB1,by omega,fun _=>⟨p,rs.length,cap,hm,by omega,rfl⟩⟩
 unfold winT at h
 split at h
 ·rename_i e ka a k b he
  split at h
  ·rename_i B hB
   split at h
   ·rename_i l hl
    obtain ⟨hsz,⟨h0,h1,h2⟩,hK⟩:=h
    refine ⟨_,hK,fun F H' m w u ua ub hsup hrep hx hlo hhi _ _=>?_⟩
    obtain ⟨va,rfl,hz⟩:=hlo _ rfl
    obtain ⟨vb,rfl,hy⟩:=hhi _ rfl
    exact key he hB hl hsz (by omega) (by omega) F H' m w u _ _ hsup hrep hx (.inr ⟨ka,by rw [rep_i hz]; congr 2; omega⟩) (.inr ⟨k,by rw [rep_i hy]; congr 2; omega⟩)
   ·exact h.elim
  ·exact h.elim
 ·rename_i e ka a he
  split at h
  ·rename_i B hB
   split at h
   ·rename_i l hl
    obtain ⟨hsz,⟨h0,h1⟩,hK⟩:=h
    refine ⟨_,hK,fun F H' m w u ua ub hsup hrep hx hlo hhi _ hn=>?_⟩
    obtain ⟨va,rfl,hz⟩:=hlo _ rfl
    exact key he hB hl hsz (by omega) (Nat.le_refl _) F H' m w u _ _ hsup hrep hx (.inr ⟨ka,by rw [rep_i hz]; congr 2; omega⟩) (.inl ⟨hn rfl,rfl⟩)
   ·exact h.elim
  ·exact h.elim
 ·rename_i e k b he
  split at h
  ·rename_i B hB
   split at h
   ·rename_i l hl
    obtain ⟨hsz,⟨h0,h1⟩,hK⟩:=h
    refine ⟨_,hK,fun F H' m w u ua ub hsup hrep hx hlo hhi hn _=>?_⟩
    obtain ⟨vb,rfl,hy⟩:=hhi _ rfl
    have:=key he hB hl hsz (Nat.zero_le b.toNat) (by omega) F H' m w u ua (some vb) hsup hrep hx (.inl ⟨hn rfl,rfl⟩) (.inr ⟨k,by rw [rep_i hy]; congr 2; omega⟩)
    rw [Nat.sub_zero] at this
    exact this
   ·exact h.elim
  ·exact h.elim
 ·exact h.elim

def bcutT (P : Program) (H : Hp) (t : TypeId) (k lo len : Nat) (a b : Option AV) (K : AV → Prop) : Prop:=match elO P t,look H.bor k,a,b with
 | some e,some B,none,some (.c (.i _ y))=>szO P e = some B.con.z ∧ (0 ≤ y ∧ y ≤ (len : Int)) ∧ K (.bw k lo y.toNat)
 | _,_,_,_=>False

theorem bcutT_sound {H : Hp} {t : TypeId} {k lo len : Nat} {a b : Option AV} {K : AV → Prop} (h : bcutT P H t k lo len a b K) :
  ∃ r,K r ∧ ∀ (F : Fr) (H' : Hp) (m : Mp) (w : World) (u : Value) (va vb : Option Value),Sup H' H → HRep F H' m w → RepA F H' m w (.bw k lo len) u → (a = none → va = none) → (∀ y,b = some y → ∃ v,vb = some v ∧ RepA F H' m w y v) →
   Yl P F H' m w (Instr.sliceAt t u va vb none) r:=by
 unfold bcutT at h
 split at h
 ·rename_i e B kk y he hB
  obtain ⟨hz,⟨h0,h1⟩,hK⟩:=h
  refine ⟨_,hK,fun F H' m w u va vb hsup hrep hu hva hvb=>?_⟩
  rw [← hsup.1.2] at hB
  obtain ⟨h2,B2,p,n,cap,hB2,hF,hle,rfl⟩:=hu
  rw [hB] at hB2; cases hB2
  obtain ⟨B3,rs,xs,hB4,hrows,hz0,hr,hown,hrd⟩:=hrep.bor k _ hF
  rw [hB] at hB4; cases hB4
  obtain ⟨p2,cap2,hsv,hcap,_,hp⟩:=ownsRow_val hown
  cases hsv
  have hva:=hva rfl
  obtain ⟨v,rfl,hv⟩:=hvb _ rfl
  obtain rfl:=rep_i hv
  subst hva
  have hrun:=slice_run (P:=P) he hz (if cap = lo then p else p.map (·.add (lo * B.con.z))) len (cap - lo) 0 y.toNat (Nat.zero_le _) (by omega) (by omega) w none (some (.int kk y)) (.inl ⟨rfl,rfl⟩) (.inr ⟨kk,by congr 2; omega⟩)
  refine ⟨_,hrun,rfl,B,p,_,cap,hB,hF,by omega,?_⟩
  generalize (if cap = lo then p else p.map (·.add (lo * B.con.z))) = q
  have : q.map (·.add (0 * B.con.z)) = q:=by cases q <;> simp [Addr.add]
  rw [this]; simp
 ·exact h.elim

end Go.Abs

namespace Go.Abs
set_option linter.unusedSimpArgs false
set_option linter.unusedVariables false
open Go.RowKit

variable {P : Program}

def RdR (w : World) (S : Nat → Prop) : AV → Value → Prop
 | .c x,v=>Rd w S x v
 | .g xs,v=>∃ vs,v = .agg vs ∧ RdL w S xs vs.toList
 | .t l,v=>∃ vs,v = .tuple vs ∧ vs.size = l.length ∧ ∀ (j : Nat) y u,l[j]? = some y → vs[j]? = some u → RdS w S y u
 | _,_=>False

def Enters (P : Program) (f : FuncId) : Prop := ∃ fn, P.funcs[f]? = some fn ∧ (fn.name == "runtime.NumGoroutine") = false ∧ fn.body.isNone = false

def Ret (P : Program) (f : FuncId) (fresh : Bool) (as : List (C ⊕ List C)) (r : AV) : Prop :=
 ∀ (w : World) (S : Nat → Prop) (vs : Array Value),vs.size = as.length → (∀ (j : Nat) y u,as[j]? = some y → vs[j]? = some u → RdS w S y u) →
  Calls P f vs w fun e w'=>∃ v,e = .returned v ∧ Ext w w' ∧ RdR w' (fun b=>(fresh = false ∧ S b ∧ b < w.heap.size) ∨ w.heap.size ≤ b) r v

def RetO (P : Program) (f : FuncId) (as : List (C ⊕ List C)) (e : TypeId) (z : Nat) (con : C) : Prop :=
 ∀ (w : World) (S : Nat → Prop) (vs : Array Value),vs.size = as.length → (∀ (j : Nat) y u,as[j]? = some y → vs[j]? = some u → RdS w S y u) →
  Calls P f vs w fun ed w'=>∃ v,ed = .returned v ∧ Ext w w' ∧ ∃ rs xs,con.rows = some (z,rs) ∧ 0 < z ∧ (∀ r ∈ rs,r.length = z) ∧ w'.ownsR w.heap.size e z v rs.length xs ∧ RdRow w' (fun _=>False) z rs xs

def plainC : C → Bool
 | .a _ | .i _ _ | .b _ | .str _ | .nil | .e0=>true
 | _=>false
def plainS : C ⊕ List C → Bool
 | .inl x=>plainC x
 | .inr xs=>xs.all plainC
def plainAV : AV → Bool
 | .c x=>plainC x
 | .g xs=>xs.all plainC
 | .t l=>l.all plainS
 | _=>false

theorem Rd.plain {w : World} {S S' : Nat → Prop} {c : C} {v : Value} (hp : plainC c = true) (h : Rd w S c v) : Rd w S' c v:=by
 cases h with
 | a _ h=>exact .a _ h
 | i _ _=>exact .i _ _
 | b _=>exact .b _
 | str _=>exact .str _
 | nil=>exact .nil
 | e0 _ _=>exact .e0 _ _
 | emp c z p cap h=>cases c <;> simp_all [plainC,C.rows]
 | sl c z rs b off cap us h=>cases c <;> simp_all [plainC,C.rows]
 | ptr=>simp [plainC] at hp
 | m=>simp [plainC] at hp

theorem RdL.plain {w : World} {S S' : Nat → Prop} {xs : List C} {vs : List Value} (hp : xs.all plainC = true) (h : RdL w S xs vs) : RdL w S' xs vs :=
 ⟨h.1,fun j y u hy hu=>(h.2 j y u hy hu).plain (List.all_eq_true.1 hp y (List.mem_of_getElem? hy))⟩

theorem RdR.plain {w : World} {S S' : Nat → Prop} {r : AV} {v : Value} (hp : plainAV r = true) (h : RdR w S r v) : RdR w S' r v:=by
 cases r <;> simp only [plainAV] at hp <;> try cases hp
 ·exact Rd.plain hp h
 ·obtain ⟨vs,rfl,hl⟩:=h; exact ⟨vs,rfl,hl.plain hp⟩
 ·obtain ⟨vs,rfl,hs,hl⟩:=h
  refine ⟨vs,rfl,hs,fun j y u hy hu=>?_⟩
  have h1:=hl j y u hy hu
  have h2:=List.all_eq_true.1 hp y (List.mem_of_getElem? hy)
  cases y with
  | inl y=>exact Rd.plain h2 h1
  | inr ys=>obtain ⟨vs,rfl,hl⟩:=h1; exact ⟨vs,rfl,hl.plain h2⟩

def flatC : C → Bool
 | .ints _ _ | .bools _=>true
 | _=>false

theorem flat_plain {con : C} {z : Nat} {rs : List (List C)} (hf : flatC con = true) (hr : con.rows = some (z,rs)) {i j : Nat} {y : C} (hy : at2 rs i j = some y) : plainC y = true:=by
 cases con <;> simp [flatC] at hf
 ·simp [C.rows] at hr
  obtain ⟨_,rfl⟩:=hr
  simp only [at2,List.getElem?_map] at hy
  obtain ⟨r,hr,hy⟩:=Option.bind_eq_some_iff.1 hy
  obtain ⟨n,hn,rfl⟩:=Option.map_eq_some_iff.1 hr
  match j with
  | 0=>simp at hy; subst hy; rfl
  | j + 1=>simp at hy
 ·simp [C.rows] at hr
  obtain ⟨_,rfl⟩:=hr
  simp only [at2,List.getElem?_map] at hy
  obtain ⟨r,hr,hy⟩:=Option.bind_eq_some_iff.1 hy
  obtain ⟨n,hn,rfl⟩:=Option.map_eq_some_iff.1 hr
  match j with
  | 0=>simp at hy; subst hy; rfl
  | j + 1=>simp at hy

def resAV : List (C ⊕ List C) → AV
 | [x]=>q_y x
 | l=>.t l

def WinOf (sv : Value) (z lo len : Nat) (v : Value) : Prop:=oneCell v = true ∧ ∃ p n cap,sv = .slice p n cap ∧ lo + len ≤ n ∧
 v = .slice (if cap = lo then p else p.map (·.add (lo * z))) len (cap - lo)

def RetW (P : Program) (f : FuncId) (e : TypeId) (con : C) (lo len : Nat) (as : List (C ⊕ List C)) (con' : C) (l : List (C ⊕ List C)) : Prop :=
 ∀ (w : World) (S : Nat → Prop) (sv v0 : Value) (vs : Array Value) (rs : List (List C)) (xs : List Value),vs.size = as.length + 1 → vs[0]? = some v0 → (∀ (j : Nat) y u,as[j]? = some y → vs[j + 1]? = some u → RdS w S y u) →
  con.rows = some (con.z,rs) → 0 < con.z → (∀ r ∈ rs,r.length = con.z) → w.ownsR 0 e con.z sv rs.length xs → RdRow w (fun _=>False) con.z rs xs → (∀ b,sv.ownBlock = some b → ¬ S b) → WinOf sv con.z lo len v0 →
  Calls P f vs w fun ed w'=>∃ v,ed = .returned v ∧ w.grownBy w' sv.ownBlock ∧ RdR w' (fun _=>False) (resAV l) v ∧ ∃ rs' xs',con'.z = con.z ∧ con'.rows = some (con.z,rs') ∧ (∀ r ∈ rs',r.length = con.z) ∧
   w'.ownsR 0 e con.z sv rs'.length xs' ∧ RdRow w' (fun _=>False) con.z rs' xs'

def RetC (P : Program) (f : FuncId) (e : TypeId) (con con' : C) : Prop :=
 ∀ (w : World) (sv : Value) (rs : List (List C)) (xs : List Value),con.rows = some (con.z,rs) → 0 < con.z → (∀ r ∈ rs,r.length = con.z) → w.ownsR 0 e con.z sv rs.length xs → RdRow w (fun _=>False) con.z rs xs →
  Calls P f #[sv] w fun ed w'=>∃ p n cap k,sv = .slice p n cap ∧ k ≤ rs.length ∧ con'.rows = some (con.z,rs.take k) ∧ ed = .returned (.slice p k cap) ∧ w.grownBy w' sv.ownBlock ∧
   ∃ xs',w'.ownsR 0 e con.z sv rs.length xs' ∧ RdRow w' (fun _=>False) con.z rs xs'

def tupV (vs : List Value) : Value:=match vs with
 | [x]=>x
 | l=>.tuple l.toArray
def RetG (P : Program) (f : FuncId) (H : Hp) (as : List AV) (H' : Hp) (rs : List AV) : Prop :=
 ∀ (w : World) (S : Nat → Prop) (G : List Nat) (m : Mp) (vs : Array Value) (bs : Nat → Nat),HRep ⟨w,S,G,G,fun _=>none⟩ H m w → (∀ i,i < H.box.length → m.bx i = some (bs i)) → (∀ i,H.box.length ≤ i → m.bx i = none) → (∀ i,H.buf.length ≤ i → m.bf i = none) →
  vs.size = as.length → (∀ (j : Nat) y u,as[j]? = some y → vs[j]? = some u → RepA ⟨w,S,G,G,fun _=>none⟩ H m w y u) →
  Calls P f vs w fun e w'=>∃ m' vs' v,e = .returned v ∧ HRep ⟨w,S,G,G,fun _=>none⟩ H' m' w' ∧ (∀ i,i < H.box.length → m'.bx i = some (bs i)) ∧ vs'.length = rs.length ∧ v = tupV vs' ∧
   ∀ (j : Nat) y u,rs[j]? = some y → vs'[j]? = some u → RepA ⟨w,S,G,G,fun _=>none⟩ H' m' w' y u
def GOk (P : Program) (f : FuncId) (ct : CT) : Prop:=∀ tr,ct.g = some tr → ∀ H as K,tr H as K → ∃ H' rs,RetG P f H as H' rs ∧ K H' rs
def TblOk (P : Program) (cf : Cfg) : Prop:=(∀ t ∈ cf.flt,FltOk P t) ∧ ∀ f ct,cf.tbl f = some ct → Enters P f ∧ GOk P f ct ∧
 (ct.own = none → ct.win = none → ∀ as K,ct.tr as K → ∃ r,Ret P f ct.fresh as r ∧ K r) ∧ (∀ e z,ct.own = some (e,z) → ct.win = none → ∀ as K,ct.tr as K → ∃ con,RetO P f as e z con ∧ K (.c con)) ∧
 (∀ e,ct.win = some e → ∀ as K,ct.tr as K → ∃ con lo len as' con' l,as = .inl con :: .inl (.i .i64 (lo : Nat)) :: .inl (.i .i64 (len : Nat)) :: as' ∧ RetW P f e con lo len as' con' l ∧ K (.t (.inl con' :: l))) ∧
 (∀ e,ct.cut = some e → ∀ con K,ct.ctr con K → ∃ con',RetC P f e con con' ∧ K con')

def teC (H : Hp) (ln : Bool) : TE → Option C
 | .s (.inl c)=>some c
 | .own id ver=>match curB H id ver with | some B=>some B.con | none=>none
 | .ln c=>if ln then some c else none
 | _=>none
def gtO (H : Hp) (ln : Bool) : List TE → Option (List C)
 | []=>some []
 | x :: l=>match teC H ln x,gtO H ln l with | some y,some ys=>some (y :: ys) | _,_=>none
def wC (H : Hp) : C ⊕ (Nat × Nat × Nat × Nat) → Option C
 | .inl c=>some c
 | .inr (id,ver,lo,len)=>match curB H id ver with | some B=>(match B.con.len with | some _=>some (B.con.sub lo (lo + len)) | none=>none) | none=>none
def lwO (H : Hp) : List (C ⊕ (Nat × Nat × Nat × Nat)) → Option (List (List C))
 | []=>some []
 | x :: l=>match wC H x,lwO H l with | some y,some ys=>some ([y] :: ys) | _,_=>none
def avC (H : Hp) (ln : Bool) : AV → Option C
 | .c x=>some x
 | .own id ver=>match curB H id ver with | some B=>some B.con | none=>none
 | .ln x=>if ln then some x else none
 | .mp id=>match look H.box id with | some [.mc (.s f n)]=>some (.m f n) | _=>none
 | _=>none
def cellsO (H : Hp) (ln : Bool) : List AV → Option (List C)
 | []=>some []
 | x :: l=>match avC H ln x,cellsO H ln l with | some y,some ys=>some (y :: ys) | _,_=>none
def argO (H : Hp) (ln : Bool) : AV → Option (C ⊕ List C)
 | .c x=>some (.inl x)
 | .g xs=>some (.inr xs)
 | .own id ver=>match curB H id ver with | some B=>some (.inl B.con) | none=>none
 | .bx id off=>match look H.box id with | some cs=>if isM cs then none else (match cellsO H ln (cs.drop off) with | some xs=>some (.inl (.ptr xs)) | none=>none) | none=>none
 | .gt l=>match gtO H ln l with | some xs=>some (.inr xs) | none=>none
 | .lw l=>match lwO H l with | some rs=>some (.inl (.sl 1 rs)) | none=>none
 | .ln x=>if ln then some (.inl x) else none
 | .vf x=>some (.inl x)
 | _=>none
def argsO (H : Hp) (ln : Bool) : List AV → Option (List (C ⊕ List C))
 | []=>some []
 | x :: l=>match argO H ln x,argsO H ln l with | some y,some ys=>some (y :: ys) | _,_=>none
def isOwn : AV → Bool
 | .own _ _=>true
 | .gt _=>true
 | .lw _=>true
 | .ln _=>true
 | _=>false
def isOwnX : AV → Bool
 | .bx _ _=>true
 | x=>isOwn x
def isOwB : AV → Bool
 | .own _ _=>true
 | .gt _=>true
 | .lw _=>true
 | .ln _=>true
 | .bw _ _ _=>true
 | _=>false
theorem isOwB_f2 {a : AV} {b : Bool} (h : (isOwB a && b) = false) : (isOwn a && b) = false:=by cases a <;> first | rfl | exact h | (simp [isOwn])
theorem isOwB_f3 {a : AV} {wr b : Bool} (h : (isOwB a && (wr || b)) = false) : (isOwn a && b) = false:=by
 cases b
 ·simp
 ·rw [Bool.or_true] at h; exact isOwB_f2 h
def callT (cf : Cfg) (H : Hp) (f : FuncId) (args : List AV) (K : AV → Prop) : Prop:=match cf.tbl f,argsO H true args with
 | some ct,some as=>(ct.fresh || !args.any isOwnX) = true ∧ ct.own = none ∧ ct.win = none ∧ ct.tr as K
 | _,_=>False

def winA (H : Hp) : AV → Option (Nat × Nat × Nat × Nat)
 | .win id ver lo len=>some (id,ver,lo,len)
 | .own id ver=>match curB H id ver with
  | some B=>match B.con.len with | some l=>some (id,ver,0,l) | none=>none
  | none=>none
 | _=>none

def callWT (ct : CT) (e : TypeId) (H : Hp) (nx : Nat) (args : List AV) (K : AV → Hp → Nat → Prop) : Prop:=match args with
 | x :: rest=>match winA H x with
  | some (id,ver,lo,len)=>match curB H id ver,argsO H true rest with
   | some B,some as=>B.e = e ∧ B.con.z = B.z ∧ rest.any isOwnX = false ∧ flatC B.con = true ∧
    ct.tr (.inl B.con :: .inl (.i .i64 (lo : Nat)) :: .inl (.i .i64 (len : Nat)) :: as) (fun r=>match r with | .t (.inl con' :: l)=>K (resAV l) (H.addBuf id ⟨B.ver,B.e,B.z,con'⟩) nx | _=>False)
   | _,_=>False
  | none=>False
 | []=>False

def isOne : List AV → Bool
 | [.own _ _]=>true
 | _=>false
def callCT (cf : Cfg) (H : Hp) (nx : Nat) (f : FuncId) (args : List AV) (K : AV → Hp → Nat → Prop) : Prop:=match cf.tbl f,args with
 | some ct,[.own id ver]=>match ct.cut,curB H id ver with
  | some e,some B=>B.e = e ∧ B.con.z = B.z ∧ flatC B.con = true ∧ ct.ctr B.con (fun con'=>K (.own id (ver + 1)) (H.addBuf id ⟨ver + 1,B.e,B.z,con'⟩) nx)
  | _,_=>False
 | _,_=>False

def callOT (cf : Cfg) (H : Hp) (nx : Nat) (f : FuncId) (args : List AV) (K : AV → Hp → Nat → Prop) : Prop:=match cf.tbl f with
 | some ct=>match ct.win with
  | some e=>callWT ct e H nx args K
  | none=>match argsO H true args with
   | some as=>match ct.own with
    | some (e,z)=>ct.tr as (fun r=>match r with | .c con=>K (.own nx (verN H nx)) (H.addBuf nx ⟨verN H nx,e,z,con⟩) (nx + 1) | _=>False)
    | none=>False
   | none=>False
 | none=>False

def callS (F : Fr) (m : Mp) (own ln : Bool) (b : Nat) : Prop:=F.S m b ∨ (own = true ∧ ((∃ i v,m.bf i = some v ∧ v.ownBlock = some b) ∨ (∃ i,m.bx i = some b) ∨ ln = true ∧ b < F.w0.heap.size ∧ b ∉ F.B0))
theorem lent_rd {F : Fr} {H : Hp} {m : Mp} {w : World} (h : HRep F H m w) {x : C} {v : Value} (hv : F.Lent x v) {S : Nat → Prop} (hS : ∀ b,b < F.w0.heap.size → b ∉ F.B0 → S b) : Rd w S x v:=by
 obtain ⟨T,h1,h2⟩:=hv
 exact h2.mono fun b hb _=>⟨hS b (h1 b hb).1 (h1 b hb).2,h.block b (h1 b hb).1 (h1 b hb).2⟩

theorem own_rd1 {F : Fr} {H : Hp} {m : Mp} {w : World} (hrep : HRep F H m w) {id ver : Nat} {B : Buf} {u : Value} (hB : look H.buf id = some B) (hv : B.ver = ver) (hu : RepA F H m w (.own id ver) u) : Rd w (fun b=>F.S m b ∨ u.ownBlock = some b) B.con u:=by
 obtain ⟨rs,xs,hm,hrows,hz0,hr,hown,hrd⟩:=own_slice hrep hB hv hu
 have hst : ∀ g,Stays (F.S m) (fun b=>F.S m b ∨ g = some b) w w:=fun g b h _=>⟨.inl h,rfl⟩
 rcases hown.2 with ⟨rfl,h0⟩ | ⟨g,cap,cur,rfl,hbg,hgg,hnc,hcm,hcs,htake⟩
 ·have : rs = []:=List.eq_nil_of_length_eq_zero h0
  subst this
  exact .emp _ _ none 0 hrows (fun _=>rfl)
 ·by_cases he : rs = []
  ·subst he; exact .emp _ _ _ cap hrows (fun h=>by cases h)
  ·refine .sl B.con B.z rs g 0 cap (fun i j=>(xs[i * B.z + j]?).getD undef) hrows he hz0 (Nat.le_trans hnc hcm) hnc hr (.inr rfl) ?_ ?_
   ·intro i j y hy
    obtain ⟨u2,hu2,_⟩:=hrd i j y hy
    have:=hown.cells (g:=g) rfl (i * B.z + j) u2 hu2
    rw [addr_add] at this
    simp only [hu2,Option.getD_some]
    exact this
   ·intro i j y hy
    obtain ⟨u2,hu2,hr2⟩:=hrd i j y hy
    simp only [hu2,Option.getD_some]
    exact hr2.mono (hst _)

theorem own_rd {ln : Bool} {F : Fr} {H : Hp} {m : Mp} {w : World} (hrep : HRep F H m w) {id ver : Nat} {B : Buf} {u : Value} (hB : look H.buf id = some B) (hv : B.ver = ver) (hu : RepA F H m w (.own id ver) u) : Rd w (callS F m true ln) B.con u:=by
 obtain ⟨rs,xs,hm,_⟩:=own_slice hrep hB hv hu
 exact (own_rd1 hrep hB hv hu).mono fun b hb _=>⟨hb.elim .inl fun ho=>.inr ⟨rfl,.inl ⟨id,_,hm,ho⟩⟩,rfl⟩

theorem argsO_spec {H : Hp} {ln : Bool} : ∀ {l : List AV} {as : List (C ⊕ List C)},argsO H ln l = some as → as.length = l.length ∧ ∀ (j : Nat) x y,l[j]? = some x → as[j]? = some y → argO H ln x = some y
 | [],as,h=>by simp [argsO] at h; subst h; simp
 | x :: l,as,h=>by
  simp only [argsO] at h
  split at h
  ·rename_i y ys hy hys
   cases h
   obtain ⟨h1,h2⟩:=argsO_spec hys
   refine ⟨by simp [h1],fun j a b ha hb=>?_⟩
   match j with
   | 0=>simp at ha hb; subst ha; subst hb; exact hy
   | j + 1=>exact h2 j a b (by simpa using ha) (by simpa using hb)
  ·cases h

theorem teC_rep {F : Fr} {H H' : Hp} {m : Mp} {w : World} (hbuf : H'.buf = H.buf) (hrep : HRep F H' m w) {x : TE} {y : C} {u : Value} {ln : Bool} (h : teC H ln x = some y) (hu : RepT F H' m w x u) : Rd w (callS F m true ln) y u:=by
 have hst : Stays (F.S m) (callS F m true ln) w w:=fun b h _=>⟨.inl h,rfl⟩
 unfold teC at h
 split at h
 ·cases h; exact Rd.mono hst hu
 ·split at h
  ·rename_i B hB
   cases h
   obtain ⟨h1,h2⟩:=curB_spec hB
   rw [← hbuf] at h1
   exact own_rd hrep h1 h2 hu
  ·cases h
 ·split at h
  ·rename_i hln; cases h; exact lent_rd hrep hu fun b h1 h2=>.inr ⟨rfl,.inr (.inr ⟨hln,h1,h2⟩)⟩
  ·cases h
 ·cases h
theorem gtO_spec {H : Hp} {ln : Bool} : ∀ {l : List TE} {ys : List C},gtO H ln l = some ys → ys.length = l.length ∧ ∀ (j : Nat) x y,l[j]? = some x → ys[j]? = some y → teC H ln x = some y
 | [],ys,h=>by simp [gtO] at h; subst h; simp
 | x :: l,ys,h=>by
  simp only [gtO] at h
  split at h
  ·rename_i y ys' h1 h2
   cases h
   obtain ⟨g1,g2⟩:=gtO_spec h2
   refine ⟨by simp [g1],fun j a b ha hb=>?_⟩
   match j with
   | 0=>simp at ha hb; subst ha; subst hb; exact h1
   | j + 1=>exact g2 j a b (by simpa using ha) (by simpa using hb)
  ·cases h
theorem wC_rep {ln : Bool} {F : Fr} {H H' : Hp} {m : Mp} {w : World} (hbuf : H'.buf = H.buf) (hrep : HRep F H' m w) {x : C ⊕ (Nat × Nat × Nat × Nat)} {y : C} {u : Value} (h : wC H x = some y) (hu : RepW F H' m w x u) : Rd w (callS F m true ln) y u:=by
 have hst : Stays (F.S m) (callS F m true ln) w w:=fun b h _=>⟨.inl h,rfl⟩
 rcases x with c | ⟨id,ver,lo,len⟩
 ·simp only [wC] at h; cases h; exact Rd.mono hst hu
 ·simp only [wC] at h
  split at h
  ·rename_i B hB
   split at h
   ·rename_i n0 hn0
    cases h
    obtain ⟨h1,h2⟩:=curB_spec hB
    rw [← hbuf] at h1
    obtain ⟨ho,B',hB',hle,hh⟩:=hu
    rw [h1] at hB'; cases hB'
    obtain ⟨p,n,cap,hm,hlo,rfl⟩:=hh h2
    have hrd:=own_rd (ln:=ln) hrep h1 h2 (u:=.slice p n cap) ⟨rfl,B,h1,by omega,fun _=>hm⟩
    obtain ⟨B2,rs,xs,hB2,hrows,hz0,_⟩:=hrep.buf id _ hm
    rw [h1] at hB2; cases hB2
    obtain ⟨p',cap',he,hc1,_⟩:=rd_slice hrd hn0
    cases he
    have:=rd_sub hrd hn0 (rows_z hrows).1 (Nat.le_add_right lo len) hlo hc1
    rwa [Nat.add_sub_cancel_left] at this
   ·cases h
  ·cases h
theorem lwO_spec {H : Hp} : ∀ {l : List (C ⊕ (Nat × Nat × Nat × Nat))} {ys : List (List C)},lwO H l = some ys → ys.length = l.length ∧ ∀ (j : Nat) x y,l[j]? = some x → ys[j]? = some y → ∃ c,y = [c] ∧ wC H x = some c
 | [],ys,h=>by simp [lwO] at h; subst h; simp
 | x :: l,ys,h=>by
  simp only [lwO] at h
  split at h
  ·rename_i y ys' h1 h2
   cases h
   obtain ⟨g1,g2⟩:=lwO_spec h2
   refine ⟨by simp [g1],fun j a b ha hb=>?_⟩
   match j with
   | 0=>simp at ha hb; subst ha; subst hb; exact ⟨_,rfl,h1⟩
   | j + 1=>exact g2 j a b (by simpa using ha) (by simpa using hb)
  ·cases h
theorem lwO_rep {ln : Bool} {F : Fr} {H H' : Hp} {m : Mp} {w : World} (hbuf : H'.buf = H.buf) (hrep : HRep F H' m w) {l : List (C ⊕ (Nat × Nat × Nat × Nat))} {rs : List (List C)} {u : Value} (h : lwO H l = some rs) (hu : RepA F H' m w (.lw l) u) : Rd w (callS F m true ln) (.sl 1 rs) u:=by
 obtain ⟨b,cap,rfl,⟨hne,hcap,hmax⟩,hS,hc⟩:=hu
 obtain ⟨g1,g2⟩:=lwO_spec h
 have hel : ∀ (i : Nat),i < rs.length → ∃ c,rs[i]? = some [c] ∧ ∃ x,l[i]? = some x ∧ wC H x = some c:=by
  intro i hi
  have hx:=List.getElem?_eq_getElem hi
  have hl:=List.getElem?_eq_getElem (show i < l.length by omega)
  obtain ⟨c,h1,h2⟩:=g2 i _ _ hl hx
  exact ⟨c,by rw [hx,h1],_,hl,h2⟩
 have hat : ∀ i j y,at2 rs i j = some y → j = 0 ∧ ∃ x,l[i]? = some x ∧ wC H x = some y:=by
  intro i j y hy
  unfold at2 at hy
  cases hr : rs[i]? with
  | none=>simp [hr] at hy
  | some r =>
   obtain ⟨c,h1,x,h2,h3⟩:=hel i (List.getElem?_eq_some_iff.1 hr).1
   rw [h1] at hr; cases hr
   rw [h1] at hy
   simp only [Option.bind_some] at hy
   match j with
   | 0=>simp at hy; subst hy; exact ⟨rfl,x,h2,h3⟩
   | j + 1=>simp at hy
 rw [← g1]
 refine .sl (.sl 1 rs) 1 rs b 0 cap (fun i _=>(w.cell? ⟨b,i,none⟩).getD undef) rfl (fun h0=>hne (List.eq_nil_of_length_eq_zero (by rw [← g1,h0]; rfl))) (by omega) (by rw [g1]; exact hmax) (by rw [g1]; exact hcap) ?_ (.inl hS) ?_ ?_
 ·intro r hr
  obtain ⟨i,hi⟩:=List.getElem?_of_mem hr
  obtain ⟨c,h1,_⟩:=hel i (List.getElem?_eq_some_iff.1 hi).1
  rw [h1] at hi; cases hi; rfl
 ·intro i j y hy
  obtain ⟨rfl,x,h1,h2⟩:=hat i j y hy
  obtain ⟨v,hv,_⟩:=hc i x h1
  simp only [Nat.mul_one,Nat.add_zero,Nat.zero_add,hv,Option.getD_some]
 ·intro i j y hy
  obtain ⟨rfl,x,h1,h2⟩:=hat i j y hy
  obtain ⟨v,hv,hr⟩:=hc i x h1
  simp only [hv,Option.getD_some]
  exact wC_rep hbuf hrep h2 hr
theorem avC_rep {F : Fr} {H H' : Hp} {m : Mp} {w : World} (hbuf : H'.buf = H.buf) (hbx : ∀ i cs,look H.box i = some cs → look H'.box i = some cs) (hrep : HRep F H' m w) {x : AV} {y : C} {u : Value} {ln : Bool} (h : avC H ln x = some y) (hu : RepA F H' m w x u) : Rd w (callS F m true ln) y u:=by
 have hst : Stays (F.S m) (callS F m true ln) w w:=fun b h _=>⟨.inl h,rfl⟩
 cases x <;> simp only [avC] at h <;> try cases h
 ·exact Rd.mono hst hu
 ·split at h
  ·rename_i B hB
   cases h
   obtain ⟨h1,h2⟩:=curB_spec hB
   rw [← hbuf] at h1
   exact own_rd hrep h1 h2 hu
  ·cases h
 ·split at h
  ·rename_i f n hl
   cases h
   obtain ⟨b,hb,rfl⟩:=hu
   obtain ⟨cs,h1,h2⟩:=hrep.box _ b hb
   rw [hbx _ _ hl] at h1
   cases h1
   obtain ⟨es,ck,h3,h4⟩:=h2
   exact m_rd (.inr ⟨rfl,.inr (.inl ⟨_,hb⟩)⟩) h3 (h4.mono hst)
  ·cases h
 ·split at h
  ·rename_i hln; cases h; exact lent_rd hrep hu fun b h1 h2=>.inr ⟨rfl,.inr (.inr ⟨hln,h1,h2⟩)⟩
  ·cases h
theorem cellsO_spec {H : Hp} {ln : Bool} : ∀ {l : List AV} {ys : List C},cellsO H ln l = some ys → ys.length = l.length ∧ ∀ (j : Nat) x y,l[j]? = some x → ys[j]? = some y → avC H ln x = some y
 | [],ys,h=>by simp [cellsO] at h; subst h; simp
 | x :: l,ys,h=>by
  simp only [cellsO] at h
  split at h
  ·rename_i y ys' h1 h2
   cases h
   obtain ⟨g1,g2⟩:=cellsO_spec h2
   refine ⟨by simp [g1],fun j a b ha hb=>?_⟩
   match j with
   | 0=>simp at ha hb; subst ha; subst hb; exact h1
   | j + 1=>exact g2 j a b (by simpa using ha) (by simpa using hb)
  ·cases h
theorem argO_rep {F : Fr} {H H' : Hp} {m : Mp} {w : World} (hbuf : H'.buf = H.buf) (hbox : ∀ i cs,look H.box i = some cs → look H'.box i = some cs) (hrep : HRep F H' m w) {x : AV} {y : C ⊕ List C} {u : Value} {own ln : Bool} (h : argO H ln x = some y) (hown : isOwnX x = true → own = true) (hu : RepA F H' m w x u) : RdS w (callS F m own ln) y u:=by
 have hst : Stays (F.S m) (callS F m own ln) w w:=fun b h _=>⟨.inl h,rfl⟩
 cases x <;> simp only [argO] at h <;> try cases h
 ·exact Rd.mono hst hu
 ·obtain ⟨vs,rfl,hl⟩:=hu; exact ⟨vs,rfl,hl.mono hst⟩
 ·rename_i id off
  split at h
  ·rename_i cs hcs
   split at h
   ·cases h
   ·rename_i hm
    simp only [Bool.not_eq_true] at hm
    split at h
    ·rename_i xs hxs
     cases h
     obtain rfl:=hown rfl
     obtain ⟨b,hb,rfl⟩:=hu
     obtain ⟨cs',h1,hbx⟩:=hrep.box id b hb
     rw [hbox id cs hcs] at h1; cases h1
     obtain ⟨arr,e,h2,h3,h4⟩:=hbx.cells hm
     obtain ⟨g1,g2⟩:=cellsO_spec hxs
     have key : ∀ (j : Nat) y,xs[j]? = some y → ∃ u,arr[off + j]? = some u ∧ Rd w (callS F m true ln) y u:=by
      intro j y hy
      have hj:=(List.getElem?_eq_some_iff.1 hy).1
      have hx:=List.getElem?_eq_getElem (show j < (cs.drop off).length by omega)
      have hc:=g2 j _ y hx hy
      have hx2:=hx
      rw [List.getElem?_drop] at hx2
      have hlt:=(List.getElem?_eq_some_iff.1 hx2).1
      have harr : arr[off + j]? = some arr[off + j]:=Array.getElem?_eq_getElem (by omega)
      exact ⟨_,harr,avC_rep hbuf hbox hrep hc (h4 (off + j) _ _ hx2 harr).2⟩
     refine .ptr xs b off (fun j=>(arr[off + j]?).getD undef) (.inr ⟨rfl,.inr (.inl ⟨id,hb⟩)⟩) hbx.lt (fun j y hy=>?_) (fun j y hy=>?_)
     ·obtain ⟨u,hu,_⟩:=key j y hy
      simp [World.cell?,h2,hu]
     ·obtain ⟨u,hu,hr⟩:=key j y hy
      simp only [hu,Option.getD_some]; exact hr
    ·cases h
  ·cases h
 ·rename_i id ver
  split at h
  ·rename_i B hB
   cases h
   obtain ⟨h1,h2⟩:=curB_spec hB
   rw [← hbuf] at h1
   obtain rfl:=hown rfl
   exact own_rd hrep h1 h2 hu
  ·cases h
 ·split at h
  ·rename_i xs hxs
   cases h
   obtain rfl:=hown rfl
   obtain ⟨vs,rfl,hs,hl⟩:=hu
   obtain ⟨g1,g2⟩:=gtO_spec hxs
   refine ⟨vs,rfl,by simp; omega,fun j y u hy hu=>?_⟩
   have hlt:=(List.getElem?_eq_some_iff.1 hy).1
   have hx:=List.getElem?_eq_getElem (l:=_) (show j < _ by rw [g1] at hlt; exact hlt)
   exact teC_rep hbuf hrep (g2 j _ y hx hy) (hl j _ u hx (by simpa using hu))
  ·cases h
 ·split at h
  ·rename_i rs hrs
   cases h
   obtain rfl:=hown rfl
   exact lwO_rep hbuf hrep hrs hu
  ·cases h
 ·obtain rfl:=hown rfl
  split at h
  ·rename_i hln; cases h; exact lent_rd hrep hu fun b h1 h2=>.inr ⟨rfl,.inr (.inr ⟨hln,h1,h2⟩)⟩
  ·cases h
 ·obtain ⟨p,n,rfl,hrd⟩:=hu; exact Rd.mono hst hrd

theorem RdR.rep {F : Fr} {H : Hp} {m : Mp} {w' : World} {S : Nat → Prop} {r : AV} {v : Value} (hst : Stays S (F.S m) w' w') (h : RdR w' S r v) : RepA F H m w' r v:=by
 cases r <;> simp only [RdR] at h
 ·exact Rd.mono hst h
 ·obtain ⟨vs,rfl,hl⟩:=h; exact ⟨vs,rfl,hl.mono hst⟩
 ·obtain ⟨vs,rfl,hs,hl⟩:=h; exact ⟨vs,rfl,hs,fun j y u hy hu=>(hl j y u hy hu).mono hst⟩

def fnA : AV → Option (FuncId × List TE)
 | .c (.a (.func (.func f) a b))=>if a.size = 0 ∧ b.size = 0 then some (f,[]) else none
 | .fn f caps=>some (f,caps)
 | _=>none
theorem fnA_rep {F : Fr} {H : Hp} {m : Mp} {w : World} {x : AV} {f : FuncId} {caps : List TE} {v : Value} (h : fnA x = some (f,caps)) (hv : RepA F H m w x v) :
  ∃ cvs,v = .func (.func f) #[] cvs ∧ cvs.size = caps.length ∧ ∀ (j : Nat) y u,caps[j]? = some y → cvs[j]? = some u → RepT F H m w y u:=by
 unfold fnA at h
 split at h
 ·rename_i g a b
  split at h
  ·rename_i hs
   cases h
   have ha : a = #[]:=Array.eq_empty_of_size_eq_zero hs.1
   have hb : b = #[]:=Array.eq_empty_of_size_eq_zero hs.2
   subst ha; subst hb
   exact ⟨#[],rd_a hv,rfl,by simp⟩
  ·cases h
 ·cases h; exact hv
 ·cases h
theorem args_rep {F : Fr} {H : Hp} {m : Mp} {w : World} {ev : Operand → AV} {ρ : Operand → Value} {args : Array Operand} {caps : List TE} {cvs : Array Value} (ha : ∀ x ∈ args,RepA F H m w (ev x) (ρ x)) (hs : cvs.size = caps.length)
  (hc : ∀ (j : Nat) y u,caps[j]? = some y → cvs[j]? = some u → RepT F H m w y u) : (args.map ρ ++ cvs).size = (args.toList.map ev ++ caps.map teAV).length ∧ ∀ (j : Nat) y u,(args.toList.map ev ++ caps.map teAV)[j]? = some y → (args.map ρ ++ cvs)[j]? = some u → RepA F H m w y u:=by
 refine ⟨by simp [hs],fun j y u hy hu=>?_⟩
 rcases Nat.lt_or_ge j args.size with hj | hj
 ·rw [List.getElem?_append_left (by simpa using hj)] at hy
  rw [Array.getElem?_append_left (by simpa using hj)] at hu
  have h1 : y = ev args[j]:=by simp [Array.getElem?_eq_getElem hj] at hy; exact hy.symm
  have h2 : u = ρ args[j]:=by simp [Array.getElem?_eq_getElem hj] at hu; exact hu.symm
  rw [h1,h2]
  exact ha _ (Array.getElem_mem hj)
 ·rw [List.getElem?_append_right (by simpa using hj),List.getElem?_map] at hy
  rw [Array.getElem?_append_right (by simpa using hj)] at hu
  obtain ⟨y',hy',rfl⟩:=Option.map_eq_some_iff.1 hy
  exact teAV_rep (hc _ y' u (by simpa using hy') (by simpa using hu))
theorem enter_run {cf : Cfg} (hcf : TblOk P cf) {f : FuncId} {ct : CT} (hct : cf.tbl f = some ct) {o : Oper} {fo : Operand} {args : Array Operand} {ts : Array TypeId} (ho : o.op = .call { callee:=.value fo,args,argTypes:=ts }) {ρ : Operand → Value} {cvs : Array Value}
  (hρ : ρ fo = .func (.func f) #[] cvs) (w : World) : (execOp ρ o).run P w = .ok (.enter f (args.map ρ ++ cvs)) w:=by
 obtain ⟨⟨fn,hfn,hname,hbody⟩,_⟩:=hcf.2 f ct hct
 have hn : ¬ fn.name = "runtime.NumGoroutine" := by simpa using hname
 have hb : ¬ fn.body = none:=by intro h; rw [h] at hbody; simp at hbody
 simp [execOp,ho,resolve,Deferred.ofValue,hρ,invoke,callFunc,program,Sem.run,hfn,hn,hb]
theorem callT_sound {cf : Cfg} (hcf : TblOk P cf) {H : Hp} {nx : Nat} {o : Oper} {ev : Operand → AV} {f : FuncId} {caps : List TE} {fo : Operand} {args : Array Operand} {ts : Array TypeId} (hf : fnA (ev fo) = some (f,caps))
  (ho : o.op = .call { callee:=.value fo,args,argTypes:=ts }) {K : AV → Prop} (h : callT cf H f (args.toList.map ev ++ caps.map teAV) K) : ∃ r,K r ∧ ∀ F : Fr,OpQ P F H nx nx o ev r:=by
 unfold callT at h
 split at h
 ·rename_i ct as hct has
  obtain ⟨hfo,hno,hnw,htr⟩:=h
  obtain ⟨_,_,hret,_⟩:=hcf.2 f ct hct
  obtain ⟨r,hr,hK⟩:=hret hno hnw as K htr
  refine ⟨r,hK,fun F=>OpQ.of_ext fun H' m w ρ hsup hrep hops=>?_⟩
  obtain ⟨cvs,hρf,hcs,hcr⟩:=fnA_rep hf (hops fo (by simp [ho,Op.operands,Call.operands]))
  obtain ⟨hal,hai⟩:=argsO_spec has
  unfold Exec
  rw [enter_run hcf hct ho hρf w]
  obtain ⟨k1,k2⟩:=args_rep (args:=args) (ev:=ev) (ρ:=ρ) (fun x hx=>hops x (by simp only [ho,Op.operands,Call.operands]; simp [hx])) hcs hcr
  have hownS : ∀ x ∈ args.toList.map ev ++ caps.map teAV,isOwnX x = true → ct.fresh = true:=by
   intro x hx ho'
   cases hfr : ct.fresh with
   | true=>rfl
   | false =>
    simp only [hfr,Bool.false_or,Bool.not_eq_true',List.any_eq_false] at hfo
    exact absurd ho' (hfo x hx)
  refine (hr w (callS F m ct.fresh true) (args.map ρ ++ cvs) (by rw [hal]; exact k1) (fun j y u hy hu=>?_)).mono fun e w' ⟨v,he,hext,hrd⟩=>⟨v,he,hext,?_⟩
  ·have hj:=(List.getElem?_eq_some_iff.1 hy).1
   rw [hal] at hj
   have hx:=List.getElem?_eq_getElem hj
   exact argO_rep hsup.2 hsup.1.1 hrep (hai j _ y hx hy) (fun ho'=>hownS _ (List.mem_of_getElem? hx) ho') (k2 j _ u hx hu)
  ·refine RdR.rep (S:=_) ?_ hrd
   intro b hb hlt
   refine ⟨?_,rfl⟩
   rcases hb with ⟨h1,h2 | ⟨h3,_⟩,_⟩ | hb
   ·exact h2
   ·rw [h1] at h3; cases h3
   ·exact .inr ⟨.inl (Nat.le_trans hrep.size hb),fun ho'=>by have:=own_lt hrep ho'; omega⟩
 ·exact h.elim

theorem Rd.none {w w' : World} {S : Nat → Prop} {c : C} {v : Value} (h : Rd w' (fun _=>False) c v) : Rd w S c v:=by
 cases h with
 | a _ h=>exact .a _ h
 | i _ _=>exact .i _ _
 | b _=>exact .b _
 | str _=>exact .str _
 | nil=>exact .nil
 | e0 _ _=>exact .e0 _ _
 | emp c z p cap h hp=>exact .emp c z p cap h hp
 | sl c z rs b off cap us h hne hz hm hcap hr hS=>exact hS.elim
 | ptr xs b off us hS=>exact hS.elim
 | m f n b es ck cs qs hS=>exact hS.elim

theorem winA_rep {F : Fr} {H : Hp} {m : Mp} {w : World} (hrep : HRep F H m w) {x : AV} {u : Value} {id ver lo len : Nat} (h : winA H x = some (id,ver,lo,len)) (hu : RepA F H m w x u) {B : Buf} (hB : curB H id ver = some B) :
  ∃ sv,m.bf id = some sv ∧ WinOf sv B.z lo len u:=by
 obtain ⟨hB1,hB2⟩:=curB_spec hB
 unfold winA at h
 split at h
 ·rename_i id' ver' lo' len'
  cases h
  obtain ⟨h1,B2,hB3,hv2,hcur⟩:=hu
  rw [hB1] at hB3; cases hB3
  obtain ⟨p,n,cap,hm,hn,hor⟩:=hcur hB2
  exact ⟨_,hm,h1,p,n,cap,rfl,hn,hor⟩
 ·rename_i id' ver'
  split at h
  ·rename_i B' hB'
   split at h
   ·rename_i l hl
    cases h
    rw [hB] at hB'; cases hB'
    obtain ⟨rs,xs,hm,hrows,hz0,hr,hown,hrd⟩:=own_slice hrep hB1 hB2 hu
    have hl2:=(rows_z hrows).2
    rw [hl] at hl2; simp at hl2; subst hl2
    obtain ⟨p,cap,rfl,hcap,hmax,hp⟩:=ownsRow_val hown
    refine ⟨_,hm,rfl,p,_,cap,rfl,by omega,?_⟩
    have : p.map (·.add (0 * B.z)) = p:=by cases p <;> simp [Addr.add]
    rw [this]; simp
   ·cases h
  ·cases h
 ·cases h

theorem callOT_sound {cf : Cfg} (hcf : TblOk P cf) {H : Hp} {nx : Nat} {o : Oper} {ev : Operand → AV} {f : FuncId} {args : Array Operand} {ts : Array TypeId} (hf : ev (.func f) = .c (.a (.func (.func f) #[] #[])))
  (ho : o.op = .call { callee:=.value (.func f),args,argTypes:=ts }) {K : AV → Hp → Nat → Prop} (h : callOT cf H nx f (args.toList.map ev) K) : ∃ r H' nx',K r H' nx' ∧ H'.box = H.box ∧ nx ≤ nx' ∧ ∀ F : Fr,OpW P F H H' nx nx' o ev r:=by
 unfold callOT at h
 split at h
 ·rename_i ct hct
  split at h
  ·rename_i e hwin
   unfold callWT at h
   split at h
   ·rename_i x rest hargs
    split at h
    ·rename_i id ver lo len hwa
     split at h
     ·rename_i B as hB has
      obtain ⟨hBe,hBz,hnown,hflat,htr⟩:=h
      obtain ⟨⟨fn,hfn,hname,hbody⟩,_,_,_,hret,_⟩:=hcf.2 f ct hct
      obtain ⟨con,lo',len',as',con',l,hase,hr,hK⟩:=hret e hwin _ _ htr
      simp only [List.cons.injEq,Sum.inl.injEq,C.i.injEq,true_and] at hase
      obtain ⟨rfl,hlo,hlen,rfl⟩:=hase
      have hlo2 : lo' = lo:=by omega
      have hlen2 : len' = len:=by omega
      subst hlo2; subst hlen2
      refine ⟨_,_,_,hK,rfl,Nat.le_refl _,fun F m w ρ hrep hfree hops=>?_⟩
      have hρf : ρ (.func f) = .func (.func f) #[] #[]:=rd_a (by have:=hops (.func f) (by simp [ho,Op.operands,Call.operands]); rw [hf] at this; exact this)
      obtain ⟨hal,hai⟩:=argsO_spec has
      have hn : ¬ fn.name = "runtime.NumGoroutine" := by simpa using hname
      have hb : ¬ fn.body = none:=by intro h; rw [h] at hbody; simp at hbody
      have hex : (execOp ρ o).run P w = .ok (.enter f (args.map ρ)) w:=by
       simp [execOp,ho,resolve,Deferred.ofValue,hρf,invoke,callFunc,program,Sem.run,hfn,hn,hb]
      have hlen3 : args.size = rest.length + 1:=by have:=congrArg List.length hargs; simpa using this
      have h0 : (args.toList.map ev)[0]? = some x:=by rw [hargs]; rfl
      have hx0 : ev args[0] = x:=by simpa [Array.getElem?_eq_getElem (show 0 < args.size by omega)] using h0
      have hxr:=hops args[0] (by simp [ho,Op.operands,Call.operands])
      rw [hx0] at hxr
      obtain ⟨sv,hsv,hwo⟩:=winA_rep hrep hwa hxr hB
      obtain ⟨hB1,hB2⟩:=curB_spec hB
      obtain ⟨B2,rs,xs,hB3,hrows,hz0,hrl,hown,hrd⟩:=hrep.buf id sv hsv
      rw [hB1] at hB3; cases hB3
      unfold Exec
      rw [hex]
      refine (hr w (callS F m false true) sv (ρ args[0]) (args.map ρ) rs xs (by simp [hal,hlen3]) (by simp [Array.getElem?_eq_getElem (show 0 < args.size by omega)]) (fun j y u hy hu=>?_) (by rw [hBz]; exact hrows) (by rw [hBz]; exact hz0) (by rw [hBz]; exact hrl)
       (by rw [hBz,← hBe]; exact hown) (fun i j y hy=>let ⟨u,hu,hrr⟩:=hrd i j y hy; ⟨u,by rw [hBz]; exact hu,hrr.plain (flat_plain hflat hrows hy)⟩) (fun b hb' hS=>?_) (by rw [hBz]; exact hwo)).mono fun ed w' ⟨v,he,hg,hres,rs',xs',hz',hrows',hrl',hown',hrd'⟩=>⟨v,he,?_⟩
      ·have hj:=(List.getElem?_eq_some_iff.1 hy).1
       rw [hal] at hj
       have hj2 : j + 1 < args.size:=by omega
       have hxx : (args.toList.map ev)[j + 1]? = some (ev args[j + 1]):=by simp [Array.getElem?_eq_getElem hj2]
       have hxr2 : rest[j]? = some (ev args[j + 1]):=by rw [hargs] at hxx; simpa using hxx
       have hu2 : u = ρ args[j + 1]:=by simp [Array.getElem?_eq_getElem hj2] at hu; exact hu.symm
       subst hu2
       exact argO_rep rfl (fun _ _ h=>h) hrep (hai j _ y hxr2 hy) (fun ho'=>by
        have:=List.any_eq_false.1 hnown _ (List.mem_of_getElem? hxr2)
        exact absurd ho' this) (hops _ (by simp [ho,Op.operands,Call.operands]))
      ·rcases hS with hS | ⟨hS,_⟩
       ·exact own_not_S hrep (.inr ⟨id,sv,hsv,hb'⟩) hS
       ·cases hS
      ·obtain ⟨g1,g2⟩:=hrep.bufStep (id:=id) (row:=sv.ownBlock) (B':=⟨B.ver,B.e,B.z,con'⟩) (v':=sv) (rs:=rs') (xs:=xs') (H':=H.addBuf id ⟨B.ver,B.e,B.z,con'⟩) hg (fun g hg=>⟨sv,hsv,hg⟩)
        (fun g hg=>.inl hg) (fun B2 hB2'=>by rw [hB1] at hB2'; cases hB2'; exact .inr ⟨rfl,hsv,rfl⟩) (look_add ..) (fun i hi=>look_add_ne _ _ _ _ hi) rfl rfl (by show con'.rows = some (B.z,rs'); rw [hrows',hBz]) hz0 (by rw [hBz] at hrl'; exact hrl')
        (by rw [hBz,← hBe] at hown'; exact hown') (by rw [hBz] at hrd'; exact fun i j y hy=>let ⟨u,hu,hr⟩:=hrd' i j y hy; ⟨u,hu,hr.none⟩)
       refine ⟨_,g1,g2,fun i hi=>?_,RdR.rep (fun b hb _=>hb.elim) hres⟩
       obtain ⟨h1,h2⟩:=hfree i hi
       refine ⟨h1,?_⟩
       simp only [Mp.addBf]
       split
       ·subst i; rw [hsv] at h2; cases h2
       ·exact h2
     ·exact h.elim
    ·exact h.elim
   ·exact h.elim
  ·rename_i hwin
   split at h
   ·rename_i as has
    split at h
    ·rename_i e z hown
     obtain ⟨⟨fn,hfn,hname,hbody⟩,_,_,hret,_⟩:=hcf.2 f ct hct
     obtain ⟨con,hr,hK⟩:=hret e z hown hwin as _ h
     refine ⟨_,_,_,hK,rfl,Nat.le_succ _,fun F m w ρ hrep hfree hops=>?_⟩
     have hρf : ρ (.func f) = .func (.func f) #[] #[]:=rd_a (by have:=hops (.func f) (by simp [ho,Op.operands,Call.operands]); rw [hf] at this; exact this)
     obtain ⟨hal,hai⟩:=argsO_spec has
     have hn : ¬ fn.name = "runtime.NumGoroutine" := by simpa using hname
     have hb : ¬ fn.body = none:=by intro h; rw [h] at hbody; simp at hbody
     have hex : (execOp ρ o).run P w = .ok (.enter f (args.map ρ)) w:=by
      simp [execOp,ho,resolve,Deferred.ofValue,hρf,invoke,callFunc,program,Sem.run,hfn,hn,hb]
     unfold Exec
     rw [hex]
     refine (hr w (callS F m true true) (args.map ρ) (by simp [hal]) (fun j y u hy hu=>?_)).mono fun ed w' ⟨v,he,hext,rs,xs,hrows,hz,hrl,howns,hrd⟩=>⟨v,he,?_⟩
     ·have hj:=(List.getElem?_eq_some_iff.1 hy).1
      rw [hal] at hj
      simp at hj
      have hx : (args.toList.map ev)[j]? = some (ev args[j]):=by simp [Array.getElem?_eq_getElem hj]
      have hu2 : u = ρ args[j]:=by simp [Array.getElem?_eq_getElem hj] at hu; exact hu.symm
      subst hu2
      exact argO_rep rfl (fun _ _ h=>h) hrep (hai j _ y hx hy) (fun _=>rfl) (hops _ (by simp [ho,Op.operands,Call.operands]))
     ·have howns2 : w'.ownsR 0 e z v rs.length xs:=by
       refine ⟨howns.1,?_⟩
       rcases howns.2 with h | ⟨g,cap,cur,h1,h2,h3⟩
       ·exact .inl h
       ·exact .inr ⟨g,cap,cur,h1,Nat.le_trans (Nat.zero_le _) h2,h3⟩
      obtain ⟨g1,g2⟩:=hrep.bufStep (id:=nx) (row:=none) (B':=⟨verN H nx,e,z,con⟩) (v':=v) (rs:=rs) (xs:=xs) (H':=H.addBuf nx ⟨verN H nx,e,z,con⟩) ⟨hext.os,hext.tape,hext.output,hext.size,fun k hk _=>hext.block k hk⟩ (fun g hg=>by cases hg)
       (fun g hg=>.inr (howns.lt g hg).1) (fun B hB=>.inl (verN_lt B hB)) (look_add ..) (fun i hi=>look_add_ne _ _ _ _ hi) rfl rfl hrows hz hrl howns2 (fun i j y hy=>let ⟨u,hu,hr⟩:=hrd i j y hy; ⟨u,hu,hr.none⟩)
      obtain ⟨p,cap,hv',_⟩:=ownsRow_val howns
      refine ⟨_,g1,g2,fun i hi=>?_,by rw [hv']; rfl,_,look_add ..,Nat.le_refl _,fun _=>by simp [Mp.addBf]⟩
      obtain ⟨h1,h2⟩:=hfree i (by omega)
      refine ⟨h1,?_⟩
      simp only [Mp.addBf]
      split
      ·omega
      ·exact h2
    ·exact h.elim
   ·exact h.elim
 ·exact h.elim

theorem ownsRow_cut {w : World} {e : TypeId} {z n k cap : Nat} {p : Option Addr} {xs : List Value} (h : w.ownsR 0 e z (.slice p n cap) n xs) (hk : k ≤ n) : w.ownsR 0 e z (.slice p k cap) k (xs.take (k * z)):=by
 have hmul : k * z ≤ n * z:=Nat.mul_le_mul_right _ hk
 refine ⟨by rw [List.length_take,h.1]; omega,?_⟩
 rcases h.2 with ⟨h2,h3⟩ | ⟨g,cap',cur,h2,hbg,hgg,hnc,hcm,hcs,htake⟩
 ·simp only [Value.slice.injEq] at h2
  obtain ⟨h4,_,h5⟩:=h2
  subst h4; subst h5
  have hb0 : k = 0:=by omega
  exact .inl ⟨by rw [hb0],hb0⟩
 ·cases h2
  refine .inr ⟨g,cap,cur,rfl,hbg,hgg,by omega,hcm,hcs,?_⟩
  rw [← htake,List.take_take]
  congr 1; omega

theorem RdRow.cut {w : World} {S : Nat → Prop} {z k : Nat} {rs : List (List C)} {xs : List Value} (hr : ∀ r ∈ rs,r.length = z) (h : RdRow w S z rs xs) : RdRow w S z (rs.take k) (xs.take (k * z)):=by
 intro i j y hy
 have hrl : ∀ r ∈ rs.take k,r.length = z:=fun r hrm=>hr r (List.mem_of_mem_take hrm)
 obtain ⟨h2,h3⟩:=at2_lt hrl hy
 rw [List.length_take] at h2
 have hat : at2 rs i j = some y:=by
  unfold at2 at hy ⊢
  rw [List.getElem?_take,if_pos (by omega)] at hy
  exact hy
 obtain ⟨u,hu',hrr⟩:=h i j y hat
 refine ⟨u,?_,hrr⟩
 rw [List.getElem?_take,if_pos]
 ·exact hu'
 ·have : (i + 1) * z ≤ k * z:=Nat.mul_le_mul_right _ (by omega)
  rw [Nat.add_mul] at this; omega

theorem callCT_sound {cf : Cfg} (hcf : TblOk P cf) {H : Hp} {nx : Nat} {o : Oper} {ev : Operand → AV} {f : FuncId} {args : Array Operand} {ts : Array TypeId} (hf : ev (.func f) = .c (.a (.func (.func f) #[] #[])))
  (ho : o.op = .call { callee:=.value (.func f),args,argTypes:=ts }) {K : AV → Hp → Nat → Prop} (h : callCT cf H nx f (args.toList.map ev) K) : ∃ r H',K r H' nx ∧ ∀ F : Fr,OpW P F H H' nx nx o ev r:=by
 unfold callCT at h
 split at h
 ·rename_i ct id ver hct hargs
  split at h
  ·rename_i e B hcut hB
   obtain ⟨hBe,hBz,hflat,htr⟩:=h
   obtain ⟨⟨fn,hfn,hname,hbody⟩,_,_,_,_,hret⟩:=hcf.2 f ct hct
   obtain ⟨con',hr,hK⟩:=hret e hcut _ _ htr
   refine ⟨_,_,hK,fun F m w ρ hrep hfree hops=>?_⟩
   have hρf : ρ (.func f) = .func (.func f) #[] #[]:=rd_a (by have:=hops (.func f) (by simp [ho,Op.operands,Call.operands]); rw [hf] at this; exact this)
   have hn : ¬ fn.name = "runtime.NumGoroutine" := by simpa using hname
   have hb : ¬ fn.body = none:=by intro h; rw [h] at hbody; simp at hbody
   have hlen3 : args.size = 1:=by have:=congrArg List.length hargs; simpa using this
   have hone : ∃ x,args = #[x]:=by
    obtain ⟨l⟩:=args
    match l,hlen3 with
    | [x],_=>exact ⟨x,rfl⟩
   obtain ⟨x,rfl⟩:=hone
   have hex : (execOp ρ o).run P w = .ok (.enter f #[ρ x]) w:=by
    simp [execOp,ho,resolve,Deferred.ofValue,hρf,invoke,callFunc,program,Sem.run,hfn,hn,hb]
   have hx0 : ev x = .own id ver:=by simpa using hargs
   have hxr:=hops x (by simp [ho,Op.operands,Call.operands])
   rw [hx0] at hxr
   obtain ⟨hB1,hB2⟩:=curB_spec hB
   obtain ⟨rs,xs,hm,hrows,hz0,hrl,hown,hrd⟩:=own_slice hrep hB1 hB2 hxr
   unfold Exec
   rw [hex]
   refine (hr w (ρ x) rs xs (by rw [hBz]; exact hrows) (by rw [hBz]; exact hz0) (by rw [hBz]; exact hrl) (by rw [hBz,← hBe]; exact hown) (fun i j y hy=>let ⟨u,hu,hrr⟩:=hrd i j y hy; ⟨u,by rw [hBz]; exact hu,hrr.plain (flat_plain hflat hrows hy)⟩)).mono
    fun ed w' ⟨p,n,cap,k,hsv,hk,hrows',he,hg,xs',hown',hrd'⟩=>⟨_,he,?_⟩
   rw [hBz] at hrows' hown' hrd'
   rw [← hBe] at hown'
   have hrl' : ∀ r ∈ rs.take k,r.length = B.z:=fun r hrm=>hrl r (List.mem_of_mem_take hrm)
   have hn2 : n = rs.length:=by
    obtain ⟨p2,cap2,h1,_⟩:=ownsRow_val hown
    rw [hsv] at h1; cases h1; rfl
   subst hn2
   rw [hsv] at hown' hg hm
   have hown2:=ownsRow_cut hown' hk
   have hlen4 : (rs.take k).length = k:=by simp; omega
   obtain ⟨g1,g2⟩:=hrep.bufStep (id:=id) (row:=(Value.slice p rs.length cap).ownBlock) (B':=⟨ver + 1,B.e,B.z,con'⟩) (v':=.slice p k cap) (rs:=rs.take k) (xs:=xs'.take (k * B.z)) (H':=H.addBuf id ⟨ver + 1,B.e,B.z,con'⟩)
    hg (fun g hg=>⟨_,hm,hg⟩) (fun g hg=>.inl (by cases p <;> exact hg))
    (fun B2 hB2'=>by rw [hB1] at hB2'; cases hB2'; left; show B.ver < ver + 1; omega) (look_add ..) (fun i hi=>look_add_ne _ _ _ _ hi) rfl rfl hrows' hz0 hrl' (by rw [hlen4]; exact hown2) (fun i j y hy=>let ⟨u,hu,hr⟩:=(RdRow.cut hrl hrd') i j y hy; ⟨u,hu,hr.none⟩)
   refine ⟨_,g1,g2,fun i hi=>?_,rfl,_,look_add ..,Nat.le_refl _,fun _=>by simp [Mp.addBf]⟩
   obtain ⟨h2,h3⟩:=hfree i hi
   refine ⟨h2,?_⟩
   simp only [Mp.addBf]
   split
   ·subst i; rw [hm] at h3; cases h3
   ·exact h3
  ·exact h.elim
 ·exact h.elim

def minT (x y : AV) (K : AV → Prop) : Prop:=match x,y with
 | .c (.i k a),.c (.i k' b)=>k = k' ∧ K (.c (.i k (min a b)))
 | _,_=>False
def maxT (x y : AV) (K : AV → Prop) : Prop:=match x,y with
 | .c (.i k a),.c (.i k' b)=>k = k' ∧ K (.c (.i k (max a b)))
 | _,_=>False

theorem minT_sound {x y : AV} {K : AV → Prop} (h : minT x y K) : ∃ r,K r ∧ ∀ (F : Fr) (H : Hp) (m : Mp) (w : World) (u v : Value) (ts : Array TypeId) (ty : TypeId),RepA F H m w x u → RepA F H m w y v → Yl P F H m w (Builtin.min_ ts ty #[u,v]) r:=by
 unfold minT at h
 split at h
 ·obtain ⟨rfl,hK⟩:=h
  refine ⟨_,hK,fun F H m w u v ts ty hu hv=>?_⟩
  obtain rfl:=rep_i hu
  obtain rfl:=rep_i hv
  rename_i ka a b
  refine ⟨_,by simp [Builtin.min_,Builtin.min2]; rfl,?_⟩
  have : min a b = if b < a then b else a:=by rw [Int.min_def]; split <;> split <;> omega
  rw [this]; exact rep_int ..
 ·exact h.elim
theorem maxT_sound {x y : AV} {K : AV → Prop} (h : maxT x y K) : ∃ r,K r ∧ ∀ (F : Fr) (H : Hp) (m : Mp) (w : World) (u v : Value) (ts : Array TypeId) (ty : TypeId),RepA F H m w x u → RepA F H m w y v → Yl P F H m w (Builtin.max_ ts ty #[u,v]) r:=by
 unfold maxT at h
 split at h
 ·obtain ⟨rfl,hK⟩:=h
  refine ⟨_,hK,fun F H m w u v ts ty hu hv=>?_⟩
  obtain rfl:=rep_i hu
  obtain rfl:=rep_i hv
  rename_i ka a b
  refine ⟨_,by simp [Builtin.max_,Builtin.max2]; rfl,?_⟩
  have : max a b = if a < b then b else a:=by rw [Int.max_def]; split <;> split <;> omega
  rw [this]; exact rep_int ..
 ·exact h.elim

end Go.Abs

namespace Go.Abs
set_option linter.unusedSimpArgs false
set_option linter.unusedVariables false
open Go.RowKit

variable {P : Program}

def strO (P : Program) (t : TypeId) : Bool:=match P.underlying t with | some .string=>true | _=>false
def u8O (P : Program) (t : TypeId) : Bool:=match P.underlying t with | some (.slice e)=>(match P.underlying e with | some (.int .u8)=>true | _=>false) | _=>false
def strOf (xs : List Int) : ByteArray:=xs.foldl (fun r n=>r.push (UInt8.ofNat n.toNat)) ByteArray.empty
def bytesOf (s : ByteArray) : List Int:=s.data.toList.map fun b=>(b.toNat : Int)
def bytesC : C → Option (List Int)
 | .nil=>some []
 | .e0=>some []
 | .ints .u8 xs=>some xs
 | _=>none

def convE (P : Program) (s d : TypeId) (x : AV) (K : AV → Prop) : Prop:=match strO P d with
 | true=>match x with
  | .c (.str b)=>strO P s = true ∧ K (.c (.str b))
  | .c c=>match bytesC c with | some xs=>u8O P s = true ∧ K (.c (.str (strOf xs))) | none=>False
  | _=>False
 | false=>match u8O P d with
  | true=>match x with
   | .c (.str b)=>(strO P s = true ∧ b.size ≤ maxLen) ∧ K (.c (.ints .u8 (bytesOf b)))
   | _=>False
  | false=>(P.underlying s).isSome = true ∧ convT P d x K

theorem strO_some {t : TypeId} (h : strO P t = true) : P.underlying t = some .string:=by
 unfold strO at h
 split at h
 ·assumption
 ·cases h
theorem u8O_some {t : TypeId} (h : u8O P t = true) : ∃ e,P.underlying t = some (.slice e) ∧ P.underlying e = some (.int .u8):=by
 unfold u8O at h
 split at h
 ·rename_i e he
  split at h
  ·rename_i h2; exact ⟨e,he,h2⟩
  ·cases h
 ·cases h

theorem map_u8 {w : World} {S : Nat → Prop} {xs : List Int} {news : List Value} (hl : news.length = xs.length) (hr : RdRow w S 1 (xs.map fun x=>[C.i .u8 x]) news) : news = xs.map (Value.int .u8):=by
 apply List.ext_getElem?
 intro j
 rcases Nat.lt_or_ge j xs.length with hj | hj
 ·obtain ⟨u,hu,hrd⟩:=hr j 0 (.i .u8 xs[j]) (by simp [at2,List.getElem?_eq_getElem hj])
  simp only [Nat.mul_one,Nat.add_zero] at hu
  have:=rd_i hrd
  subst this
  rw [hu]; simp [List.getElem?_eq_getElem hj]
 ·rw [List.getElem?_eq_none (by omega),List.getElem?_eq_none (by simpa using hj)]

theorem str_run {F : Fr} {H : Hp} {m : Mp} {w : World} (hrep : HRep F H m w) {y : AV} {xs : List Int} {v : Value} (hs : (srcC H y).bind bytesC = some xs) (hy : RepA F H m w y v) :
  ∃ p l c,v = .slice p l c ∧ (Conv.bytesToString v).run P w = .ok (.string (strOf xs)) w:=by
 obtain ⟨c,hc,hb⟩:=Option.bind_eq_some_iff.1 hs
 have h0 : ∀ (a : Addr) (cap : Nat),(Conv.bytesToString (.slice (some a) 0 cap)).run P w = .ok (.string (strOf [])) w:=fun a cap=>by
  exact run_bytesToString w a 0 cap [] (run_loadCells_list (P:=P) w a [] (by simp))
 rcases src_cells hrep hc hy with ⟨rfl,rfl⟩ | ⟨rfl,a,cap,rfl⟩ | ⟨z,rs,hrows,⟨rfl,p,cap,rfl,hp⟩ | ⟨b,off,cap,news,hz0,hr,rfl,hl,hcell,hrow⟩⟩
 ·cases hb; exact ⟨_,_,_,rfl,rfl⟩
 ·cases hb; exact ⟨_,_,_,rfl,h0 a cap⟩
 ·have : xs = []:=by
   cases c <;> simp [C.rows] at hrows <;> simp [bytesC] at hb
   rename_i k ys
   obtain ⟨-,rfl⟩:=hrows
   cases k <;> simp at hb
   exact hb
  subst this
  cases p with
  | none=>exact ⟨_,_,_,rfl,rfl⟩
  | some a=>exact ⟨_,_,_,rfl,h0 a cap⟩
 ·have : c = .ints .u8 xs:=by
   cases c <;> simp [C.rows] at hrows <;> simp [bytesC] at hb
   rename_i k ys
   cases k <;> simp at hb
   subst hb; rfl
  subst this
  simp [C.rows] at hrows
  obtain ⟨rfl,rfl⟩:=hrows
  have hn:=map_u8 (by simpa using hl) hrow
  refine ⟨_,_,_,rfl,run_bytesToString w _ _ _ xs ?_⟩
  have:=run_loadCells_list (P:=P) w ⟨b,off,none⟩ news (fun j v hv=>by rw [addr_add]; exact (hcell j v hv).1)
  rw [hl] at this
  simpa [hn] using this

theorem convE_sound {o : Oper} {ev : Operand → AV} {s d : TypeId} {x : Operand} (ho : o.op = .convert s d x) {K : AV → Prop} (h : convE P s d (ev x) K) :
  ∃ r,K r ∧ ∀ (F : Fr) (H : Hp) (nx : Nat),OpQ P F H nx nx o ev r:=by
 have hx : x ∈ o.op.operands:=by simp [ho,Op.operands]
 unfold convE at h
 split at h
 ·rename_i hd
  have hd:=strO_some hd
  split at h
  ·rename_i b hb
   obtain ⟨hs,hK⟩:=h
   have hs:=strO_some hs
   refine ⟨_,hK,fun F H nx=>OpQ.of_yl fun H' m w ρ hsup hrep hops=>⟨convert s d (ρ x),by simp [execOp,ho],?_⟩⟩
   have hu:=hops x hx
   rw [hb] at hu
   have:=rd_str hu
   rw [this]
   exact ⟨_,by simp [convert,run_underlying hs,run_underlying hd],Rd.str b⟩
  ·rename_i c hcs hc
   split at h
   ·rename_i xs hxs
    obtain ⟨hs,hK⟩:=h
    obtain ⟨e,hs,he⟩:=u8O_some hs
    refine ⟨_,hK,fun F H nx=>OpQ.of_yl fun H' m w ρ hsup hrep hops=>⟨convert s d (ρ x),by simp [execOp,ho],?_⟩⟩
    obtain ⟨p,l,c,hv,hrun⟩:=str_run (P:=P) hrep (y:=ev x) (xs:=xs) (by
     rw [hc]
     have : ∃ l,c.len = some l:=by
      cases c <;> simp [bytesC] at hxs <;> exact ⟨_,rfl⟩
     obtain ⟨l,hl⟩:=this
     simp only [srcC,hl,Option.bind_some]; exact hxs) (hops x hx)
    rw [hv] at hrun ⊢
    exact ⟨_,by rw [run_convert_bytes_string w s d e p l c hs he hd]; exact hrun,Rd.str _⟩
   ·exact h.elim
  ·exact h.elim
 ·split at h
  ·rename_i hd
   obtain ⟨e,hd,he⟩:=u8O_some hd
   split at h
   ·rename_i b hb
    obtain ⟨⟨hs,hm⟩,hK⟩:=h
    have hs:=strO_some hs
    refine ⟨_,hK,fun F H nx=>OpQ.of_ext fun H' m w ρ hsup hrep hops=>?_⟩
    have hu:=hops x hx
    rw [hb] at hu
    have:=rd_str hu
    have hrun:=Lib.run_convert_string_bytes (P:=P) w s d e b hs hd he
    unfold Exec
    have hex : (execOp ρ o).run P w = .ok (.value (.slice (some ⟨w.heap.size,0,none⟩) b.size (grownCap w b.size 0 e))) (Lib.bytesWorld w e b):=by
     simp only [execOp,ho,this,Sem.run_bind,hrun,Result.andThen_ok,Sem.run_pure]
    rw [hex]
    have hext : Ext w (Lib.bytesWorld w e b):=⟨rfl,rfl,rfl,by rw [Lib.bytesWorld_size]; omega,fun k hk=>Lib.bytesWorld_at_old w e b k hk⟩
    refine ⟨hext,?_⟩
    have hlen : (bytesOf b).length = b.size:=by simp only [bytesOf,List.length_map,Array.length_toList]; rfl
    have hsz : b.size = ((bytesOf b).map fun x=>[C.i .u8 x]).length:=by rw [List.length_map,hlen]
    show Rd _ _ _ _
    rcases Nat.eq_zero_or_pos b.size with h0 | h0
    ·have : bytesOf b = []:=List.eq_nil_of_length_eq_zero (by rw [hlen,h0])
     rw [this,h0]
     exact .emp _ 1 _ _ rfl (fun h=>by cases h)
    ·have:=Rd.sl (w:=Lib.bytesWorld w e b) (S:=F.S m) (.ints .u8 (bytesOf b)) 1 ((bytesOf b).map fun x=>[C.i .u8 x]) w.heap.size 0 (grownCap w b.size 0 e) (fun i _=>.int .u8 (b.data.toList.getD i 0).toNat) rfl
      (by intro h; rw [h] at hsz; simp only [List.length_nil] at hsz; omega) (by omega) (by rw [← hsz]; exact hm) (by
       rw [← hsz]
       exact grownCap_ge w b.size 0 e) (by simp) (.inr ⟨.inl hrep.size,fun ho'=>by have:=own_lt hrep ho'; omega⟩) (by
       intro i j y hy
       have:=at2_lt (z:=1) (by simp) hy
       obtain ⟨hi,hj⟩:=this
       have hj0 : j = 0:=by omega
       subst hj0
       rw [← hsz] at hi
       simpa using Lib.bytesWorld_cell w e b i hi) (by
       intro i j y hy
       obtain ⟨hi,hj⟩:=at2_lt (z:=1) (by simp) hy
       have hj0 : j = 0:=by omega
       subst hj0
       rw [← hsz] at hi
       have hi2 : i < b.data.toList.length:=by rw [Array.length_toList]; exact hi
       simp [at2,bytesOf,List.getElem?_eq_getElem hi2] at hy
       subst hy
       have : b.data.toList.getD i 0 = b.data.toList[i]:=by simp [List.getD_eq_getElem?_getD,List.getElem?_eq_getElem hi2]
       rw [this]
       exact Rd.i _ _)
     rw [← hsz] at this
     exact this
   ·exact h.elim
  ·obtain ⟨hs,h⟩:=h
   obtain ⟨r,hK,hr⟩:=convT_sound (P:=P) hs h
   exact ⟨r,hK,fun F H nx=>OpQ.of_yl fun H' m w ρ hsup hrep hops=>⟨convert s d (ρ x),by simp [execOp,ho],hr F H' m w _ (hops x hx)⟩⟩

def convO (P : Program) (H : Hp) (nx : Nat) (s d : TypeId) (x : AV) (K : AV → Hp → Nat → Prop) : Prop:=match x,elO P d with
 | .c (.str b),some e=>(strO P s = true ∧ u8O P d = true ∧ b.size ≤ maxLen) ∧ K (.own nx (verN H nx)) (H.addBuf nx ⟨verN H nx,e,1,.ints .u8 (bytesOf b)⟩) (nx + 1)
 | _,_=>False
theorem convO_sound {H : Hp} {nx : Nat} {o : Oper} {ev : Operand → AV} {s d : TypeId} {x : Operand} (ho : o.op = .convert s d x) {K : AV → Hp → Nat → Prop} (h : convO P H nx s d (ev x) K) :
  ∃ r H' nx',(nx ≤ nx' ∧ K r H' nx') ∧ ∀ F : Fr,OpW P F H H' nx nx' o ev r:=by
 unfold convO at h
 split at h
 ·rename_i b e hb he
  obtain ⟨⟨hs,hd,hm⟩,hK⟩:=h
  refine ⟨_,_,_,⟨Nat.le_succ _,hK⟩,fun F m w ρ hrep hfree hops=>?_⟩
  have hs:=strO_some hs
  obtain ⟨e',hd,hu8⟩:=u8O_some hd
  have hee : e' = e:=by have:=elO_some he; rw [hd] at this; cases this; rfl
  subst hee
  have hu:=hops x (by simp [ho,Op.operands])
  rw [hb] at hu
  have hx:=rd_str hu
  have hrun:=Lib.run_convert_string_bytes (P:=P) w s d e' b hs hd hu8
  unfold Exec
  have hex : (execOp ρ o).run P w = .ok (.value (.slice (some ⟨w.heap.size,0,none⟩) b.size (grownCap w b.size 0 e'))) (Lib.bytesWorld w e' b):=by
   simp only [execOp,ho,hx,Sem.run_bind,hrun,Result.andThen_ok,Sem.run_pure]
  rw [hex]
  have hlen : (bytesOf b).length = b.size:=by simp only [bytesOf,List.length_map,Array.length_toList]; rfl
  have hgrow : w.grownBy (Lib.bytesWorld w e' b) none:=⟨rfl,rfl,rfl,by rw [Lib.bytesWorld_size]; omega,fun k hk _=>Lib.bytesWorld_at_old w e' b k hk⟩
  have hcsz : (Lib.bytesCells w e' b).size = grownCap w b.size 0 e':=by
   have:=grownCap_ge w b.size 0 e'
   have hbs : b.data.size = b.size:=rfl
   simp [Lib.bytesCells,hbs]; omega
  have hrows : (C.ints .u8 (bytesOf b)).rows = some (1,(bytesOf b).map fun x=>[C.i .u8 x]):=rfl
  have hown : (Lib.bytesWorld w e' b).ownsR 0 e' 1 (.slice (some ⟨w.heap.size,0,none⟩) b.size (grownCap w b.size 0 e')) ((bytesOf b).map fun x=>[C.i .u8 x]).length (b.data.toList.map fun y=>Value.int .u8 y.toNat):=by
   rw [List.length_map,hlen]
   refine ⟨by first | (simp; done) | (simp; rfl),.inr ⟨w.heap.size,_,_,rfl,Nat.zero_le _,⟨_,Lib.bytesWorld_at_new w e' b,.inr (Nat.le_refl _)⟩,grownCap_ge w b.size 0 e',grownCap_le_maxLen w b.size 0 e' hm,by rw [hcsz,Nat.mul_one],?_⟩⟩
   rw [Nat.mul_one]
   simp only [Lib.bytesCells,Array.toList_append,Array.toList_map]
   rw [List.take_left']
   first | (simp; done) | (simp; rfl)
  have hrd : RdRow w (F.S m) 1 ((bytesOf b).map fun x=>[C.i .u8 x]) (b.data.toList.map fun y=>Value.int .u8 y.toNat):=by
   intro i j y hy
   obtain ⟨hi,hj⟩:=at2_lt (z:=1) (by simp) hy
   have hj0 : j = 0:=by omega
   subst hj0
   rw [List.length_map,hlen] at hi
   have hi2 : i < b.data.toList.length:=by rw [Array.length_toList]; exact hi
   simp [at2,bytesOf,List.getElem?_eq_getElem hi2] at hy
   subst hy
   refine ⟨.int .u8 (b.data.toList[i]).toNat,?_,Rd.i _ _⟩
   rw [Nat.mul_one,Nat.add_zero,List.getElem?_map,List.getElem?_eq_getElem hi2]; rfl
  have hm0:=(hfree nx (Nat.le_refl _)).2
  obtain ⟨g1,g2⟩:=hrep.bufStep (id:=nx) (row:=none) (B':=⟨verN H nx,e',1,.ints .u8 (bytesOf b)⟩) (H':=H.addBuf nx ⟨verN H nx,e',1,.ints .u8 (bytesOf b)⟩) hgrow (fun g hg=>by cases hg)
   (fun g hg=>by simp [Value.ownBlock] at hg; right; omega) (fun B hB=>.inl (verN_lt B hB)) (look_add ..) (fun i hi=>look_add_ne _ _ _ _ hi) rfl rfl hrows Nat.one_pos (by simp) hown hrd
  refine ⟨_,g1,g2,fun j hj=>?_,rfl,_,look_add ..,Nat.le_refl _,fun _=>by simp [Mp.addBf]⟩
  obtain ⟨h1,h2⟩:=hfree j (by omega)
  refine ⟨h1,?_⟩
  simp only [Mp.addBf]
  split
  ·omega
  ·exact h2
 ·exact h.elim

end Go.Abs

namespace Go.Abs
set_option linter.unusedSimpArgs false
set_option linter.unusedVariables false
open Go.RowKit

variable {P : Program}

def C.over : C → Nat → C → Nat → Option C
 | .ints k xs,o,.ints k' ys,n=>if k = k' then some (.ints k (xs.take o ++ ys.take n ++ xs.drop (o + n))) else none
 | .bools xs,o,.bools ys,n=>some (.bools (xs.take o ++ ys.take n ++ xs.drop (o + n)))
 | .sl z xs,o,.sl z' ys,n=>if z = z' then some (.sl z (xs.take o ++ ys.take n ++ xs.drop (o + n))) else none
 | c,_,.nil,_=>some c
 | c,_,.e0,_=>some c
 | _,_,_,_=>none

theorem over_rows {c c2 c3 : C} {o n l2 z : Nat} {rs : List (List C)} (h : c.rows = some (z,rs)) (hl : c2.len = some l2) (hn : n ≤ l2) (ho : c.over o c2 n = some c3) :
  ((n = 0 ∧ c3.rows = some (z,rs)) ∧ (c2 = .nil ∨ c2 = .e0)) ∨ ∃ rsB,c2.rows = some (z,rsB) ∧ rsB.length = l2 ∧ c3.rows = some (z,rs.take o ++ rsB.take n ++ rs.drop (o + n)):=by
 cases c <;> simp [C.rows] at h
 ·obtain ⟨rfl,rfl⟩:=h
  cases c2 <;> simp [C.over] at ho
  ·simp [C.len] at hl; subst ho; exact .inl ⟨⟨by omega,rfl⟩,.inl rfl⟩
  ·simp [C.len] at hl; subst ho; exact .inl ⟨⟨by omega,rfl⟩,.inr rfl⟩
  ·obtain ⟨rfl,rfl⟩:=ho
   simp [C.len] at hl
   exact .inr ⟨_,rfl,by simp [hl],by simp [C.rows]⟩
 ·obtain ⟨rfl,rfl⟩:=h
  cases c2 <;> simp [C.over] at ho
  ·simp [C.len] at hl; subst ho; exact .inl ⟨⟨by omega,rfl⟩,.inl rfl⟩
  ·simp [C.len] at hl; subst ho; exact .inl ⟨⟨by omega,rfl⟩,.inr rfl⟩
  ·subst ho
   simp [C.len] at hl
   exact .inr ⟨_,rfl,by simp [hl],by simp [C.rows]⟩
 ·obtain ⟨rfl,rfl⟩:=h
  cases c2 <;> simp [C.over] at ho
  ·simp [C.len] at hl; subst ho; exact .inl ⟨⟨by omega,rfl⟩,.inl rfl⟩
  ·simp [C.len] at hl; subst ho; exact .inl ⟨⟨by omega,rfl⟩,.inr rfl⟩
  ·obtain ⟨rfl,rfl⟩:=ho
   simp [C.len] at hl
   exact .inr ⟨_,rfl,by simp [hl],by simp [C.rows]⟩

def dstO (H : Hp) : AV → Option (Nat × Nat × Nat × Nat × Buf)
 | .own id ver=>match curB H id ver with
  | some B=>(match B.con.len with | some l=>some (id,ver,0,l,B) | none=>none)
  | none=>none
 | .win id ver lo len=>match curB H id ver with | some B=>some (id,ver,lo,len,B) | none=>none
 | _=>none

def copyT (P : Program) (H : Hp) (t : TypeId) (x y : AV) (K : AV → Hp → Prop) : Prop:=match dstO H x,srcC H y with
 | some (id,_,lo,dl,B),some c2=>match c2.len with
  | some sl=>match B.con.over lo c2 (Nat.min sl dl) with
   | some c=>((elO P t).bind (szO P) = some 1 ∧ B.z = 1) ∧ K (.c (.i .i64 (Nat.min sl dl : Nat))) (H.addBuf id { B with con:=c })
   | none=>False
  | none=>False
 | _,_=>False

theorem dst_own {F : Fr} {H : Hp} {m : Mp} {w : World} (hrep : HRep F H m w) {x : AV} {u : Value} {id ver lo dl : Nat} {B : Buf} (hd : dstO H x = some (id,ver,lo,dl,B)) (hz : B.z = 1) (hx : RepA F H m w x u) :
  look H.buf id = some B ∧ ∃ rs xs p n cap,m.bf id = some (.slice p n cap) ∧ B.con.rows = some (1,rs) ∧ n = rs.length ∧ (∀ r ∈ rs,r.length = 1) ∧ w.ownsR 0 B.e 1 (.slice p n cap) n xs ∧ RdRow w (F.S m) 1 rs xs ∧ lo + dl ≤ n ∧
   u = .slice (if cap = lo then p else p.map (·.add lo)) dl (cap - lo):=by
 have fin : ∀ {v : Value},m.bf id = some v → look H.buf id = some B → ∃ rs xs p n cap,v = .slice p n cap ∧ B.con.rows = some (1,rs) ∧ n = rs.length ∧ (∀ r ∈ rs,r.length = 1) ∧ w.ownsR 0 B.e 1 (.slice p n cap) n xs ∧ RdRow w (F.S m) 1 rs xs:=by
  intro v hv hB
  obtain ⟨B',rs,xs,h1,h2,h3,h4,h5,h6⟩:=hrep.buf id v hv
  rw [hB] at h1; cases h1
  rw [hz] at h2 h4 h5 h6
  obtain ⟨p,cap,rfl,_⟩:=ownsRow_val h5
  exact ⟨rs,xs,p,rs.length,cap,rfl,h2,rfl,h4,h5,h6⟩
 cases x <;> simp only [dstO] at hd <;> try cases hd
 ·rename_i id' ver'
  split at hd
  ·rename_i B' hB
   split at hd
   ·rename_i l hl
    cases hd
    obtain ⟨hB1,hB2⟩:=curB_spec hB
    obtain ⟨h1,B2,hB3,hv,hh⟩:=hx
    rw [hB1] at hB3; cases hB3
    obtain ⟨rs,xs,p,n,cap,rfl,g2,g3,g4,g5,g6⟩:=fin (hh hB2) hB1
    have : n = dl:=by have:=(rows_z g2).2; rw [hl] at this; simp at this; omega
    subst this
    refine ⟨hB1,rs,xs,p,n,cap,hh hB2,g2,g3,g4,g5,g6,by omega,?_⟩
    rcases g5.2 with ⟨h7,h8⟩ | ⟨g,cap',cur,h7,_⟩
    ·cases h7; simp
    ·cases h7
     split
     ·simp [*]
     ·simp [Addr.add]
   ·cases hd
  ·cases hd
 ·rename_i id' ver' lo' len'
  split at hd
  ·rename_i B' hB
   cases hd
   obtain ⟨hB1,hB2⟩:=curB_spec hB
   obtain ⟨h1,B2,hB3,hv,hh⟩:=hx
   rw [hB1] at hB3; cases hB3
   obtain ⟨p,n,cap,hm,hn,hu⟩:=hh hB2
   obtain ⟨rs,xs,p',n',cap',e1,g2,g3,g4,g5,g6⟩:=fin hm hB1
   cases e1
   rw [hz,Nat.mul_one] at hu
   exact ⟨hB1,rs,xs,p,n,cap,hm,g2,g3,g4,g5,g6,hn,hu⟩
  ·cases hd

def clearT (P : Program) (H : Hp) (t : TypeId) (x : AV) (K : Hp → Prop) : Prop:=match elO P t,dstO H x with
 | some e,some (id,_,lo,dl,B)=>match B.con,zeroO P e with
  | .sl z xs,some zs=>(zs.length = z ∧ zs.all oneCell = true ∧ B.z = z) ∧ K (H.addBuf id { B with con:=.sl z (xs.take lo ++ List.replicate dl (zs.map ofC) ++ xs.drop (lo + dl)) })
  | _,_=>False
 | _,_=>False
theorem dst_ownZ {F : Fr} {H : Hp} {m : Mp} {w : World} (hrep : HRep F H m w) {x : AV} {u : Value} {id ver lo dl : Nat} {B : Buf} (hd : dstO H x = some (id,ver,lo,dl,B)) (hx : RepA F H m w x u) :
  look H.buf id = some B ∧ ∃ rs xs p n cap,m.bf id = some (.slice p n cap) ∧ B.con.rows = some (B.z,rs) ∧ 0 < B.z ∧ n = rs.length ∧ (∀ r ∈ rs,r.length = B.z) ∧ w.ownsR 0 B.e B.z (.slice p n cap) n xs ∧ RdRow w (F.S m) B.z rs xs ∧ lo + dl ≤ n ∧
   u = .slice (if cap = lo then p else p.map (·.add (lo * B.z))) dl (cap - lo):=by
 have fin : ∀ {v : Value},m.bf id = some v → look H.buf id = some B → ∃ rs xs p n cap,v = .slice p n cap ∧ B.con.rows = some (B.z,rs) ∧ 0 < B.z ∧ n = rs.length ∧ (∀ r ∈ rs,r.length = B.z) ∧ w.ownsR 0 B.e B.z (.slice p n cap) n xs ∧ RdRow w (F.S m) B.z rs xs:=by
  intro v hv hB
  obtain ⟨B',rs,xs,h1,h2,h3,h4,h5,h6⟩:=hrep.buf id v hv
  rw [hB] at h1; cases h1
  obtain ⟨p,cap,rfl,_⟩:=ownsRow_val h5
  exact ⟨rs,xs,p,rs.length,cap,rfl,h2,h3,rfl,h4,h5,h6⟩
 cases x <;> simp only [dstO] at hd <;> try cases hd
 ·rename_i id' ver'
  split at hd
  ·rename_i B' hB
   split at hd
   ·rename_i l hl
    cases hd
    obtain ⟨hB1,hB2⟩:=curB_spec hB
    obtain ⟨h1,B2,hB3,hv,hh⟩:=hx
    rw [hB1] at hB3; cases hB3
    obtain ⟨rs,xs,p,n,cap,rfl,g2,g2',g3,g4,g5,g6⟩:=fin (hh hB2) hB1
    have : n = dl:=by have:=(rows_z g2).2; rw [hl] at this; simp at this; omega
    subst this
    refine ⟨hB1,rs,xs,p,n,cap,hh hB2,g2,g2',g3,g4,g5,g6,by omega,?_⟩
    rcases g5.2 with ⟨h7,h8⟩ | ⟨g,cap',cur,h7,_⟩
    ·cases h7; simp
    ·cases h7
     split
     ·simp [*]
     ·simp [Addr.add]
   ·cases hd
  ·cases hd
 ·rename_i id' ver' lo' len'
  split at hd
  ·rename_i B' hB
   cases hd
   obtain ⟨hB1,hB2⟩:=curB_spec hB
   obtain ⟨h1,B2,hB3,hv,hh⟩:=hx
   rw [hB1] at hB3; cases hB3
   obtain ⟨p,n,cap,hm,hn,hu⟩:=hh hB2
   obtain ⟨rs,xs,p',n',cap',e1,g2,g2',g3,g4,g5,g6⟩:=fin hm hB1
   cases e1
   exact ⟨hB1,rs,xs,p,n,cap,hm,g2,g2',g3,g4,g5,g6,hn,hu⟩
  ·cases hd
theorem zeros_at (cs : Array Value) (n i j : Nat) (hj : j < cs.size) (hi : i < n) : (Builtin.zeroCells cs n).toList[i * cs.size + j]? = some (cs[j]'hj):=by
 have hlt : i * cs.size + j < n * cs.size:=by
  have : (i + 1) * cs.size ≤ n * cs.size:=Nat.mul_le_mul_right _ hi
  rw [Nat.add_mul] at this; omega
 have hm : (i * cs.size + j) % cs.size = j:=by rw [Nat.mul_comm,Nat.mul_add_mod,Nat.mod_eq_of_lt hj]
 rw [Array.getElem?_toList]
 unfold Builtin.zeroCells
 rw [Array.getElem?_map,Array.getElem?_range,if_pos hlt]
 simp only [Option.map_some,hm]
 rw [getElem!_pos cs j hj]
theorem zeros_mem (cs : Array Value) (n : Nat) (v : Value) (h : v ∈ (Builtin.zeroCells cs n).toList) : v ∈ cs.toList:=by
 obtain ⟨k,hk⟩:=List.getElem?_of_mem h
 have hlt:=(List.getElem?_eq_some_iff.1 hk).1
 simp [Builtin.zeroCells] at hlt
 rw [Array.getElem?_toList] at hk
 unfold Builtin.zeroCells at hk
 rw [Array.getElem?_map,Array.getElem?_range,if_pos hlt] at hk
 simp only [Option.map_some,Option.some.injEq] at hk
 have hs : 0 < cs.size:=by
  rcases Nat.eq_zero_or_pos cs.size with h0 | h0
  ·rw [h0] at hlt; omega
  ·exact h0
 have hj : k % cs.size < cs.size:=Nat.mod_lt _ hs
 rw [getElem!_pos cs _ hj] at hk
 rw [← hk]
 simp
theorem clearT_sound {H : Hp} {nx : Nat} {o : Oper} {ev : Operand → AV} {t : TypeId} {x : Operand} (ho : o.op = .call { callee:=.builtin .clear,args:=#[x],argTypes:=#[t] }) {K : Hp → Prop} (h : clearT P H t (ev x) K) :
  ∃ H',K H' ∧ ∀ F : Fr,OpW P F H H' nx nx o ev (.t []):=by
 unfold clearT at h
 split at h
 ·rename_i e id ver lo dl B he hd
  split at h
  ·rename_i z xs0 zs hcon hz
   obtain ⟨⟨hzl,hone,hBz⟩,hK⟩:=h
   refine ⟨_,hK,fun F m w ρ hrep hfree hops=>?_⟩
   have hx:=hops x (by simp [ho,Op.operands,Call.operands])
   obtain ⟨it,zv,hit,hzz,rfl⟩:=zeroO_some hz
   obtain ⟨hB,rs,xs,p,n,cap,hm,hrows,hz0,hn,hrl,hown,hrd,hfit,hρ⟩:=dst_ownZ hrep hd hx
   have hu:=elO_some he
   have hrs : rs = xs0:=by rw [hcon] at hrows; simp [C.rows] at hrows; exact hrows.2.symm
   subst hrs
   have hzc : zv.cells.size = B.z:=by simpa [hBz] using hzl
   have hfr : ∀ j,nx ≤ j → ∀ v',(m.addBf id (some v')).bx j = none ∧ (m.addBf id (some v')).bf j = none:=fun j hj v'=>by
    obtain ⟨hf1,hf2⟩:=hfree j hj
    refine ⟨hf1,?_⟩
    simp only [Mp.addBf]
    split
    ·subst j; rw [hm] at hf2; cases hf2
    ·exact hf2
   have htup : ∀ (H' : Hp) (m' : Mp) (w' : World),RepA F H' m' w' (.t []) (.tuple #[]):=fun _ _ _=>⟨#[],rfl,rfl,fun j y u hy=>by simp at hy⟩
   by_cases h0 : dl = 0
   ·subst h0
    have hrun : (execOp ρ o).run P w = .ok (.value (.tuple #[])) w:=by
     generalize (if cap = lo then p else p.map (·.add (lo * B.z))) = q at hρ
     cases q <;> simp [execOp,ho,resolve,invoke,builtin,hρ,Builtin.clear_,run_underlying hu,Result.andThen]
    unfold Exec
    rw [hrun]
    obtain ⟨g1,g2⟩:=hrep.bufStep (id:=id) (row:=(Value.slice p n cap).ownBlock) (B':={ B with con:=.sl z (rs.take lo ++ List.replicate 0 (zv.cells.toList.map ofC) ++ rs.drop (lo + 0)) }) (v':=.slice p n cap) (rs:=rs) (xs:=xs) (H':=H.addBuf id { B with con:=.sl z (rs.take lo ++ List.replicate 0 (zv.cells.toList.map ofC) ++ rs.drop (lo + 0)) }) (w':=w)
     ⟨rfl,rfl,rfl,Nat.le_refl _,fun _ _ _=>rfl⟩ (fun g hg=>⟨_,hm,hg⟩) (fun g hg=>.inl hg) (fun B2 hB2=>by rw [hB] at hB2; cases hB2; exact .inr ⟨rfl,hm,rfl⟩) (addBuf_eq ..) (fun j hj=>addBuf_ne _ _ _ _ hj) rfl rfl (by simp [C.rows,hBz]) hz0 hrl
     (by rw [hn] at hown; rw [hn]; exact hown) hrd
    exact ⟨_,g1,g2,fun j hj=>hfr j hj _,htup _ _ _⟩
   ·obtain ⟨g,cap',cur,hv,hbg,⟨fz,hgg,hokf⟩,hnc,hrest⟩ : ∃ g cap' cur,Value.slice p n cap = .slice (some ⟨g,0,none⟩) n cap' ∧ 0 ≤ g ∧ (∃ fz,w.heap[g]? = some (.cells cur B.e fz) ∧ okF fz cur.size) ∧ n ≤ cap' ∧ cap' ≤ maxLen ∧ cur.size = cap' * B.z ∧ cur.toList.take (n * B.z) = xs:=by
     rcases hown.2 with ⟨h7,h8⟩ | h7
     ·omega
     ·exact h7
    cases hv
    subst hn
    have hzs : (Builtin.zeroCells zv.cells dl).toList.length = (List.replicate dl (zv.cells.toList.map ofC)).length * B.z:=by
     simp [Builtin.zeroCells,hzc]
    obtain ⟨w',hst,g1,g2⟩:=own_over (P:=P) (lo:=lo) (R:=List.replicate dl (zv.cells.toList.map ofC)) (news:=(Builtin.zeroCells zv.cells dl).toList) (c:=.sl z (rs.take lo ++ List.replicate dl (zv.cells.toList.map ofC) ++ rs.drop (lo + dl))) hrep hB hm hrl hz0 hown hrd
     (fun r hr=>by rw [(List.mem_replicate.1 hr).2]; simp [hzc]) hzs
     (fun u hu=>List.all_eq_true.1 hone u (zeros_mem _ _ _ hu))
     (fun i j q hq=>by
      unfold at2 at hq
      have hi : i < dl:=by
       cases hri : (List.replicate dl (zv.cells.toList.map ofC))[i]? with
       | none=>rw [hri] at hq; cases hq
       | some r=>have:=(List.getElem?_eq_some_iff.1 hri).1; simpa using this
      rw [List.getElem?_replicate,if_pos hi] at hq
      simp only [Option.bind_some,List.getElem?_map,Option.map_eq_some_iff] at hq
      obtain ⟨v,hv,rfl⟩:=hq
      have hj : j < zv.cells.size:=by have:=(List.getElem?_eq_some_iff.1 hv).1; simpa using this
      refine ⟨v,?_,rd_ofC w _ v (List.all_eq_true.1 hone v (List.mem_of_getElem? hv))⟩
      have:=zeros_at zv.cells dl i j hj hi
      rw [hzc] at this
      rw [this]
      rw [Array.getElem?_toList,Array.getElem?_eq_getElem hj] at hv
      exact hv)
     (by simpa using hfit) (by simp [C.rows,hBz])
    have hrun : (execOp ρ o).run P w = .ok (.value (.tuple #[])) w':=by
     obtain ⟨dl',rfl⟩ : ∃ k,dl = k + 1:=⟨dl - 1,by omega⟩
     rw [if_neg (by omega)] at hρ
     simp only [Option.map_some,addr_add,Nat.zero_add] at hρ
     simp [execOp,ho,resolve,invoke,builtin,hρ,Builtin.clear_,run_underlying hu,zeroValue,typeInfo,hit,hzz,hst,Result.andThen]
    unfold Exec
    rw [hrun]
    exact ⟨_,g1,g2,fun j hj=>hfr j hj _,htup _ _ _⟩
  ·exact h.elim
 ·exact h.elim

theorem take_over (l m : List Value) (o n : Nat) (h : o + m.length ≤ n) (ho : o ≤ l.length) : ((l.take o ++ m ++ l.drop (o + m.length)).take n) = (l.take n).take o ++ m ++ (l.take n).drop (o + m.length):=by
 have h1 : (l.take o ++ m).length = o + m.length:=by simp; omega
 rw [List.take_append,List.take_of_length_le (by omega),h1,List.take_take,Nat.min_eq_left (by omega),List.drop_take]

theorem RdRow.over {w : World} {S : Nat → Prop} {rs rs2 : List (List C)} {xs ys : List Value} {o k : Nat} (h : RdRow w S 1 rs xs) (h2 : RdRow w S 1 rs2 ys) (hx : xs.length = rs.length) (hy : ys.length = rs2.length) (hk : k ≤ rs2.length) (ho : o + k ≤ rs.length)
  (hrl : ∀ r ∈ rs.take o ++ rs2.take k ++ rs.drop (o + k),r.length = 1) :
  RdRow w S 1 (rs.take o ++ rs2.take k ++ rs.drop (o + k)) (xs.take o ++ ys.take k ++ xs.drop (o + k)):=by
 intro i j q hq
 obtain ⟨_,hj⟩:=at2_lt hrl hq
 obtain rfl : j = 0:=by omega
 unfold at2 at hq
 have e1 : (rs2.take k).length = k:=by simp; omega
 have e2 : (ys.take k).length = k:=by simp; omega
 have g1:=getElem?_splice rs (rs2.take k) o (by omega) i
 have g2:=getElem?_splice xs (ys.take k) o (by omega) i
 rw [e1] at g1
 rw [e2] at g2
 rw [g1] at hq
 rw [Nat.mul_one,Nat.add_zero,g2]
 by_cases hi : o ≤ i ∧ i < o + k
 ·rw [if_pos hi] at hq ⊢
  rw [List.getElem?_take,if_pos (by omega)] at hq ⊢
  obtain ⟨u,hu,hr⟩:=h2 (i - o) 0 q hq
  exact ⟨u,by simpa using hu,hr⟩
 ·rw [if_neg hi] at hq ⊢
  obtain ⟨u,hu,hr⟩:=h i 0 q hq
  exact ⟨u,by simpa using hu,hr⟩

theorem copyT_sound {H : Hp} {nx : Nat} {o : Oper} {ev : Operand → AV} {dT sT : TypeId} {x y : Operand} (ho : o.op = .call { callee:=.builtin .copy,args:=#[x,y],argTypes:=#[dT,sT] }) {K : AV → Hp → Prop} (h : copyT P H dT (ev x) (ev y) K) :
  ∃ r H',K r H' ∧ ∀ F : Fr,OpW P F H H' nx nx o ev r:=by
 unfold copyT at h
 split at h
 ·rename_i id ver lo dl B c2 hd hs
  split at h
  ·rename_i sl hsl
   split at h
   ·rename_i c hc
    obtain ⟨⟨hty,hz⟩,hK⟩:=h
    refine ⟨_,_,hK,fun F m w ρ hrep hfree hops=>?_⟩
    have hx:=hops x (by simp [ho,Op.operands,Call.operands])
    have hy:=hops y (by simp [ho,Op.operands,Call.operands])
    obtain ⟨e,he,hesz⟩:=Option.bind_eq_some_iff.1 hty
    have hu:=elO_some he
    have hsz : (P.info? e).map (·.size) = some 1:=hesz
    obtain ⟨hB,rs,xs,p,n,cap,hm,hrows,hn,hr1,hown,hrd,hfit,hρx⟩:=dst_own hrep hd hz hx
    have hmin1 : Nat.min sl dl ≤ sl:=Nat.min_le_left _ _
    have hmin2 : Nat.min sl dl ≤ dl:=Nat.min_le_right _ _
    have hver : ∀ B2,look H.buf id = some B2 → B2.ver < ({ B with con:=c } : Buf).ver ∨ (({ B with con:=c } : Buf).ver = B2.ver ∧ m.bf id = some (.slice p n cap) ∧ ({ B with con:=c } : Buf).z = B2.z):=fun B2 hB2=>by
     rw [hB] at hB2; cases hB2; exact .inr ⟨rfl,hm,rfl⟩
    -- what the source's cells are
    have hsrc : ∃ sp scap,ρ y = .slice sp sl scap ∧ (Nat.min sl dl = 0 ∨ ∃ a news rsB,sp = some a ∧ c2.rows = some (1,rsB) ∧ rsB.length = sl ∧ news.length = sl ∧ (∀ (j : Nat) v,news[j]? = some v → w.cell? (a.add j) = some v ∧ oneCell v = true) ∧ RdRow w (F.S m) 1 rsB news):=by
     rcases over_rows hrows hsl hmin1 hc with ⟨⟨h0,_⟩,hc2⟩ | ⟨rsB,h2,h3,h4⟩
     ·rcases src_cells hrep hs hy with ⟨rfl,hv⟩ | ⟨rfl,a,cap',hv⟩ | ⟨z,rs',hr',_⟩
      ·simp [C.len] at hsl; subst hsl; exact ⟨_,_,hv,.inl h0⟩
      ·simp [C.len] at hsl; subst hsl; exact ⟨_,_,hv,.inl h0⟩
      ·rcases hc2 with rfl | rfl <;> simp [C.rows] at hr'
     ·rcases src_cells hrep hs hy with ⟨rfl,hv⟩ | ⟨rfl,a,cap',hv⟩ | ⟨z,rs',hr',⟨rfl,p',cap',hv,hp'⟩ | ⟨b,off,cap',news,hz0,hr,hv,hl,hcell,hrow⟩⟩
      ·simp [C.rows] at h2
      ·simp [C.rows] at h2
      ·rw [h2] at hr'; cases hr'
       simp at h3; subst h3
       exact ⟨_,_,hv,.inl (by have : Nat.min 0 dl = 0:=Nat.zero_min _; exact this)⟩
      ·rw [h2] at hr'; cases hr'
       rw [h3] at hv
       exact ⟨_,_,hv,.inr ⟨_,news,rsB,rfl,h2,h3,by omega,fun j v hj=>by rw [addr_add]; exact hcell j v hj,hrow⟩⟩
    obtain ⟨sp,scap,hρy,hsrc⟩:=hsrc
    by_cases h0 : Nat.min sl dl = 0
    ·have hcr : c.rows = some (1,rs):=by
      rcases over_rows hrows hsl hmin1 hc with ⟨⟨_,h1⟩,_⟩ | ⟨rsB,h2,h3,h4⟩
      ·exact h1
      ·rw [h0] at h4; simpa using h4
     have hrun:=run_copy_none (P:=P) w dT sT o.type e (if cap = lo then p else p.map (·.add lo)) sp dl (cap - lo) sl scap hu hsz h0
     unfold Exec
     have hex : (execOp ρ o).run P w = .ok (.value (goInt 0)) w:=by
      simp [execOp,ho,resolve,invoke,builtin,hρx,hρy,hrun,Result.andThen]
     rw [hex]
     obtain ⟨g1,g2⟩:=hrep.bufStep (id:=id) (row:=(Value.slice p n cap).ownBlock) (B':={ B with con:=c }) (v':=.slice p n cap) (rs:=rs) (xs:=xs) (H':=H.addBuf id { B with con:=c }) (w':=w)
      ⟨rfl,rfl,rfl,Nat.le_refl _,fun _ _ _=>rfl⟩ (fun g hg=>⟨_,hm,hg⟩) (fun g hg=>.inl hg) hver (look_add ..) (fun j hj=>look_add_ne _ _ _ _ hj) rfl rfl (by rw [hz]; exact hcr) (by show 0 < B.z; omega) (by show ∀ r ∈ rs,r.length = B.z; rw [hz]; exact hr1)
      (by show w.ownsR 0 B.e B.z _ rs.length _; rw [hz,← hn]; exact hown) (by show RdRow w _ B.z _ _; rw [hz]; exact hrd)
     refine ⟨_,g1,g2,fun j hj=>?_,?_⟩
     ·obtain ⟨hf1,hf2⟩:=hfree j hj
      refine ⟨hf1,?_⟩
      simp only [Mp.addBf]
      split
      ·subst j; rw [hm] at hf2; cases hf2
      ·exact hf2
     ·rw [h0]; exact rep_int ..
    ·rcases hsrc with hsrc | ⟨a,news,rsB,rfl,hr2,hlB,hln,hcell,hrow⟩
     ·exact absurd hsrc h0
     obtain ⟨g,cap',cur,hv,hbg,⟨fz,hgg,hokf⟩,hnc,hcm,hcs,htake⟩ : ∃ g cap' cur,Value.slice p n cap = .slice (some ⟨g,0,none⟩) n cap' ∧ 0 ≤ g ∧ (∃ fz,w.heap[g]? = some (.cells cur B.e fz) ∧ okF fz cur.size) ∧ n ≤ cap' ∧ cap' ≤ maxLen ∧ cur.size = cap' * 1 ∧ cur.toList.take (n * 1) = xs:=by
      rcases hown.2 with ⟨h7,h8⟩ | h7
      ·omega
      ·exact h7
     cases hv
     rw [Nat.mul_one] at hcs htake
     have hcr : c.rows = some (1,rs.take lo ++ rsB.take (Nat.min sl dl) ++ rs.drop (lo + Nat.min sl dl)):=by
      rcases over_rows hrows hsl hmin1 hc with ⟨⟨h1,_⟩,_⟩ | ⟨rsB',h2,h3,h4⟩
      ·exact absurd h1 h0
      ·rw [hr2] at h2; cases h2; exact h4
     have hcl : (news.take (Nat.min sl dl)).length = Nat.min sl dl:=by rw [List.length_take,hln]; omega
     have hdst : (if cap = lo then (some ⟨g,0,none⟩ : Option Addr) else (some ⟨g,0,none⟩ : Option Addr).map (·.add lo)) = some ⟨g,lo,none⟩:=by
      rw [if_neg (by omega)]; simp [addr_add]
     have hrun:=run_copy_row' (P:=P) w dT sT o.type e g lo dl (cap - lo) a sl scap cur B.e fz (news.take (Nat.min sl dl)) hu hsz hgg hokf hcl
      (fun j v hv=>by
       have:=(List.getElem?_eq_some_iff.1 hv).1
       rw [List.getElem?_take,if_pos (by omega)] at hv
       exact (hcell j v hv).1) (by omega) (fun v hv=>by
       obtain ⟨j,hj⟩:=List.getElem?_of_mem (List.mem_of_mem_take hv)
       exact (hcell j v hj).2)
     rw [hcl] at hrun
     unfold Exec
     have hex : (execOp ρ o).run P w = .ok (.value (goInt (Nat.min sl dl))) (w.setRow g (cur.toList.take lo ++ news.take (Nat.min sl dl) ++ cur.toList.drop (lo + Nat.min sl dl)).toArray):=by
      rw [hdst] at hρx
      simp [execOp,ho,resolve,invoke,builtin,hρx,hρy,hrun,Result.andThen]
     rw [hex]
     have hcur : cur.toList.length = cap:=by simpa using hcs
     have hrl : ∀ r ∈ rs.take lo ++ rsB.take (Nat.min sl dl) ++ rs.drop (lo + Nat.min sl dl),r.length = 1:=by
      intro r hr'
      rcases List.mem_append.1 hr' with h | h
      ·rcases List.mem_append.1 h with h | h
       ·exact hr1 r (List.mem_of_mem_take h)
       ·have hm2:=List.mem_of_mem_take h
        obtain ⟨j,hj⟩:=List.getElem?_of_mem hm2
        have hj1:=(List.getElem?_eq_some_iff.1 hj).1
        rcases src_cells hrep hs hy with ⟨rfl,hv⟩ | ⟨rfl,a',cap',hv⟩ | ⟨z,rs',hr',⟨rfl,p',cap',hv,hp'⟩ | ⟨b,off,cap',news',hz0,hr,hv,hl,hcell',hrow'⟩⟩
        ·simp [C.rows] at hr2
        ·simp [C.rows] at hr2
        ·rw [hr2] at hr'; cases hr'; simp at hj1
        ·rw [hr2] at hr'; cases hr'; exact hr r hm2
      ·exact hr1 r (List.mem_of_mem_drop h)
     have hlen' : (rs.take lo ++ rsB.take (Nat.min sl dl) ++ rs.drop (lo + Nat.min sl dl)).length = n:=by
      simp only [List.length_append,List.length_take,List.length_drop]; omega
     have hxsl : xs.length = n:=by have:=hown.1; omega
     obtain ⟨g1,g2⟩:=hrep.bufStep (id:=id) (row:=some g) (B':={ B with con:=c }) (v':=.slice (some ⟨g,0,none⟩) n cap) (rs:=rs.take lo ++ rsB.take (Nat.min sl dl) ++ rs.drop (lo + Nat.min sl dl))
      (xs:=xs.take lo ++ news.take (Nat.min sl dl) ++ xs.drop (lo + Nat.min sl dl)) (H':=H.addBuf id { B with con:=c })
      (w':=w.setRow g (cur.toList.take lo ++ news.take (Nat.min sl dl) ++ cur.toList.drop (lo + Nat.min sl dl)).toArray)
      ⟨rfl,rfl,rfl,by rw [setRow_size]; exact Nat.le_refl _,fun k _ hk=>setRow_other w g k _ (fun e=>hk (by rw [e]))⟩
      (fun g' hg'=>by cases hg'; exact ⟨_,hm,rfl⟩) (fun g' hg'=>by simp [Value.ownBlock] at hg'; subst hg'; exact .inl rfl) hver (look_add ..) (fun j hj=>look_add_ne _ _ _ _ hj) rfl rfl
      (by show c.rows = some (B.z,_); rw [hz]; exact hcr) (by show 0 < B.z; omega) (fun r hr'=>by rw [hrl r hr']; exact hz.symm)
      (by
       show World.ownsR _ 0 B.e B.z _ _ _
       rw [hz,hlen']
       have hszz : ((cur.toList.take lo ++ news.take (Nat.min sl dl) ++ cur.toList.drop (lo + Nat.min sl dl)).toArray).size = cur.size:=by
        simp only [List.size_toArray,List.length_append,List.length_take,List.length_drop,Array.length_toList]; omega
       refine ⟨by simp only [List.length_append,List.length_take,List.length_drop]; omega,.inr ⟨g,cap,_,rfl,Nat.zero_le _,⟨fz,setRow_heap w g cur _ B.e fz hgg,by rw [hszz]; exact hokf⟩,hnc,hcm,?_,?_⟩⟩
       ·simp only [List.size_toArray,List.length_append,List.length_take,List.length_drop]; omega
       ·simp only [Nat.mul_one]
        rw [← htake]
        have:=take_over cur.toList (news.take (Nat.min sl dl)) lo n (by omega) (by omega)
        rw [hcl] at this
        exact this)
      (by
       show RdRow w _ B.z _ _
       rw [hz]
       exact RdRow.over hrd hrow (by omega) (by omega) (by omega) (by omega) hrl)
     refine ⟨_,g1,g2,fun j hj=>?_,?_⟩
     ·obtain ⟨hf1,hf2⟩:=hfree j hj
      refine ⟨hf1,?_⟩
      simp only [Mp.addBf]
      split
      ·subst j; rw [hm] at hf2; cases hf2
      ·exact hf2
     ·exact rep_int ..
   ·exact h.elim
  ·exact h.elim
 ·exact h.elim

end Go.Abs

namespace Go.Abs
set_option linter.unusedSimpArgs false
set_option linter.unusedVariables false
open Go.RowKit

variable {P : Program}

def strSlT (P : Program) (t : TypeId) (b : ByteArray) (lo hi : Option AV) (K : AV → Prop) : Prop:=match lo,hi with
 | none,none=>strO P t = true ∧ K (.c (.str (b.extract 0 b.size)))
 | some (.c (.i _ a)),none=>strO P t = true ∧ (0 ≤ a ∧ a ≤ (b.size : Int)) ∧ K (.c (.str (b.extract a.toNat b.size)))
 | none,some (.c (.i _ c))=>strO P t = true ∧ (0 ≤ c ∧ c ≤ (b.size : Int)) ∧ K (.c (.str (b.extract 0 c.toNat)))
 | some (.c (.i _ a)),some (.c (.i _ c))=>strO P t = true ∧ (0 ≤ a ∧ a ≤ c ∧ c ≤ (b.size : Int)) ∧ K (.c (.str (b.extract a.toNat c.toNat)))
 | _,_=>False

theorem strSl_run {t : TypeId} (ht : strO P t = true) (s : ByteArray) (a b : Nat) (hab : a ≤ b) (hbl : b ≤ s.size) (w : World)
  (lo hi : Option Value) (hlo : lo = none ∧ a = 0 ∨ ∃ k,lo = some (.int k (a : Int))) (hhi : hi = none ∧ b = s.size ∨ ∃ k,hi = some (.int k (b : Int))) :
  (Instr.sliceAt t (.string s) lo hi none).run P w = .ok (.string (s.extract a b)) w:=by
 have h1 : (Instr.sliceBounds false s.size s.size lo hi none).run P w = .ok (a,b,s.size) w:=by
  have hb:=fun (k : IntKind) (code : BoundsCode)=>sliceBound_run (P:=P) k b s.size code hbl w
  have ha:=fun (k : IntKind) (code : BoundsCode)=>sliceBound_run (P:=P) k a b code hab w
  rcases hlo with ⟨rfl,rfl⟩ | ⟨k,rfl⟩ <;> rcases hhi with ⟨rfl,rfl⟩ | ⟨k',rfl⟩ <;> simp [Instr.sliceBounds,ha,hb]
 simp [Instr.sliceAt,Instr.slice,run_underlying (strO_some ht),h1]

theorem strSlT_sound {t : TypeId} {s : ByteArray} {lo hi : Option AV} {K : AV → Prop} (h : strSlT P t s lo hi K) :
  ∃ r,K r ∧ ∀ (F : Fr) (H : Hp) (m : Mp) (w : World) (u : Value) (ul uh : Option Value),RepA F H m w (.c (.str s)) u →
   (∀ y,lo = some y → ∃ v,ul = some v ∧ RepA F H m w y v) → (lo = none → ul = none) → (∀ y,hi = some y → ∃ v,uh = some v ∧ RepA F H m w y v) → (hi = none → uh = none) →
   Yl P F H m w (Instr.sliceAt t u ul uh none) r:=by
 have key : ∀ a b : Nat,a ≤ b → b ≤ s.size → strO P t = true → ∀ (F : Fr) (H : Hp) (m : Mp) (w : World) (u : Value) (ul uh : Option Value),RepA F H m w (.c (.str s)) u →
   (ul = none ∧ a = 0 ∨ ∃ k,ul = some (.int k (a : Int))) → (uh = none ∧ b = s.size ∨ ∃ k,uh = some (.int k (b : Int))) → Yl P F H m w (Instr.sliceAt t u ul uh none) (.c (.str (s.extract a b))):=by
  intro a b hab hbl ht F H m w u ul uh hu h1 h2
  obtain rfl:=rd_str hu
  exact ⟨_,strSl_run ht s a b hab hbl w ul uh h1 h2,Rd.str _⟩
 unfold strSlT at h
 split at h
 ·obtain ⟨hz,hK⟩:=h
  refine ⟨_,hK,fun F H m w u ul uh hu h2 h3 h4 h5=>?_⟩
  exact key 0 s.size (by omega) (Nat.le_refl _) hz F H m w u _ _ hu (.inl ⟨h3 rfl,rfl⟩) (.inl ⟨h5 rfl,rfl⟩)
 ·rename_i k a
  obtain ⟨hz,⟨h0,h1⟩,hK⟩:=h
  refine ⟨_,hK,fun F H m w u ul uh hu h2 h3 h4 h5=>?_⟩
  obtain ⟨v,rfl,hv⟩:=h2 _ rfl
  obtain rfl:=rep_i hv
  exact key a.toNat s.size (by omega) (Nat.le_refl _) hz F H m w u _ _ hu (.inr ⟨k,by congr 2; omega⟩) (.inl ⟨h5 rfl,rfl⟩)
 ·rename_i k b
  obtain ⟨hz,⟨h0,h1⟩,hK⟩:=h
  refine ⟨_,hK,fun F H m w u ul uh hu h2 h3 h4 h5=>?_⟩
  obtain ⟨v,rfl,hv⟩:=h4 _ rfl
  obtain rfl:=rep_i hv
  exact key 0 b.toNat (by omega) (by omega) hz F H m w u _ _ hu (.inl ⟨h3 rfl,rfl⟩) (.inr ⟨k,by congr 2; omega⟩)
 ·rename_i k a k' b
  obtain ⟨hz,⟨h0,h1,h2'⟩,hK⟩:=h
  refine ⟨_,hK,fun F H m w u ul uh hu h2 h3 h4 h5=>?_⟩
  obtain ⟨v,rfl,hv⟩:=h2 _ rfl
  obtain rfl:=rep_i hv
  obtain ⟨v,rfl,hv⟩:=h4 _ rfl
  obtain rfl:=rep_i hv
  exact key a.toNat b.toNat (by omega) (by omega) hz F H m w u _ _ hu (.inr ⟨k,by congr 2; omega⟩) (.inr ⟨k',by congr 2; omega⟩)
 ·exact h.elim

end Go.Abs

namespace Go.Abs
set_option linter.unusedSimpArgs false
set_option linter.unusedVariables false
open Go.RowKit
variable {P : Program}
def mapO (P : Program) (t : TypeId) : Option (TypeId × TypeId):=match P.underlying t with | some (.map k e)=>some (k,e) | _=>none
def MC.at : MC → C → Option (Option C)
 | .i k f _,.i k' x=>if k' = k then some (f x) else none
 | .s f _,.str b=>some (f b)
 | _,_=>none
def MC.ok (P : Program) (kt : TypeId) : MC → Prop
 | .i k _ _=>intO P kt = some k
 | .s _ _=>strO P kt = true
def MC.put : MC → C → Option C → Nat → MC
 | .i k f _,.i _ x,c,n=>.i k (fun y=>if y = x then c else f y) n
 | .s f _,.str b,c,n=>.s (fun y=>if y = b then c else f y) n
 | con,_,_,_=>con
def zvO (P : Program) (t : TypeId) : Option Value:=(P.info? t).bind fun i=>match i.zero with | some z=>if oneCell z then some z else none | none=>none
def optK (r : Option C) (A : C → Prop) (B : Prop) : Prop:=(∀ c,r = some c → A c) ∧ (r = none → B)
def resL (ok : Bool) (c : C) (b : Bool) : AV:=match ok with
 | true=>.t [.inl c,.inl (.b b)]
 | false=>.c c
def lookupT (P : Program) (H : Hp) (t : TypeId) (x i : AV) (ok : Bool) (K : AV → Prop) : Prop:=match mapO P t,x,i with
 | some (kt,et),.mp id,.c q=>match look H.box id,zvO P et with
  | some [.mc con],some z=>match con.at q with
   | some r=>con.ok P kt ∧ optK r (fun c=>K (resL ok c true)) (K (resL ok (ofC z) false))
   | none=>False
  | _,_=>False
 | some (kt,et),.c (.m f _),.c (.str q)=>match zvO P et with
  | some z=>strO P kt = true ∧ optK (f q) (fun c=>K (resL ok c true)) (K (resL ok (ofC z) false))
  | none=>False
 | _,_,_=>False
def putT (P : Program) (H : Hp) (t : TypeId) (x i y : AV) (K : Hp → Prop) : Prop:=match mapO P t,x,i,y with
 | some (kt,_),.mp id,.c q,.c c=>match look H.box id with
  | some [.mc con]=>match con.at q with
   | some r=>con.ok P kt ∧ optK r (fun _=>K (H.addBox id [.mc (con.put q (some c) con.n)])) (K (H.addBox id [.mc (con.put q (some c) (con.n + 1))]))
   | none=>False
  | _=>False
 | _,_,_,_=>False
def delT (P : Program) (H : Hp) (t : TypeId) (x i : AV) (K : Hp → Prop) : Prop:=match mapO P t,x,i with
 | some (kt,_),.mp id,.c q=>match look H.box id with
  | some [.mc con]=>match con.at q with
   | some r=>con.ok P kt ∧ optK r (fun _=>K (H.addBox id [.mc (con.put q none (con.n - 1))])) (K H)
   | none=>False
  | _=>False
 | _,_,_=>False
def lenMT (H : Hp) (x : AV) (K : AV → Prop) : Prop:=match x with
 | .mp id=>match look H.box id with
  | some [.mc con]=>K (.c (.i .i64 con.n))
  | _=>False
 | _=>False
def mc0 (P : Program) (kt : TypeId) : Option MC:=match intO P kt with
 | some k=>some (.i k (fun _=>none) 0)
 | none=>match strO P kt with | true=>some (.s (fun _=>none) 0) | false=>none

def keyC : C → Option Key
 | .i k x=>some (.i k x)
 | .str b=>some (.s b)
 | _=>none
theorem Key.val_inj {a b : Key} (h : a.val = b.val) : a = b:=by
 cases a <;> cases b <;> simp [Key.val] at h <;> simp_all
def MC.kd : MC → Key → Prop
 | .i k _ _,.i k' _=>k' = k
 | .s _ _,.s _=>True
 | _,_=>False
theorem MC.fn_kd {con : MC} {q : Key} {c : C} (h : con.fn q = some c) : con.kd q:=by
 cases con <;> cases q <;> simp only [MC.fn,MC.kd] at h ⊢
 ·split at h
  ·assumption
  ·cases h
 ·cases h
 ·cases h
theorem at_some {con : MC} {q : C} {r : Option C} (h : con.at q = some r) : ∃ k,keyC q = some k ∧ con.fn k = r ∧ con.kd k:=by
 cases con <;> cases q <;> simp only [MC.at] at h <;> first | (cases h; done) | skip
 ·split at h
  ·rename_i hk
   subst hk
   cases h
   exact ⟨_,rfl,by simp [MC.fn],rfl⟩
  ·cases h
 ·cases h
  exact ⟨_,rfl,rfl,trivial⟩
theorem put_fn {con : MC} {q : C} {k : Key} (h : keyC q = some k) (hk : con.kd k) (c : Option C) (n : Nat) : (con.put q c n).fn k = c ∧ (∀ k',k' ≠ k → (con.put q c n).fn k' = con.fn k') ∧ (con.put q c n).n = n:=by
 cases con <;> cases q <;> simp only [keyC] at h <;> first | (cases h; done) | skip
 ·cases h
  simp only [MC.kd] at hk
  subst hk
  refine ⟨by simp [MC.put,MC.fn],fun k' e=>?_,rfl⟩
  cases k' with
  | i k2 x2 =>
   simp only [MC.put,MC.fn]
   split
   ·rename_i h2
    subst h2
    rw [if_neg (fun hx=>e (by rw [hx]))]
   ·rfl
  | s b=>rfl
 ·cases h; exact hk.elim
 ·cases h; exact hk.elim
 ·cases h
  refine ⟨by simp [MC.put,MC.fn],fun k' e=>?_,rfl⟩
  cases k' with
  | i k2 x2=>rfl
  | s b =>
   simp only [MC.put,MC.fn]
   rw [if_neg (fun hx=>e (by rw [hx]))]
open Go.MapKept in
theorem ok_desc {con : MC} {kt : TypeId} (h : con.ok P kt) : ∃ d,P.underlying kt = some d ∧ ∀ k,con.kd k → IsKey d k.val:=by
 cases con with
 | i q f n =>
  refine ⟨_,intO_some h,fun k hk=>?_⟩
  cases k with
  | s b=>exact hk.elim
  | i q' x=>simp only [MC.kd] at hk; subst hk; simp [IsKey,Key.val]
 | s f n =>
  refine ⟨_,strO_some h,fun k hk=>?_⟩
  cases k with
  | i q' x=>exact hk.elim
  | s b=>simp [IsKey,Key.val]
theorem keyC_rd {w : World} {S : Nat → Prop} {q : C} {k : Key} {v : Value} (h : keyC q = some k) (hr : Rd w S q v) : v = k.val:=by
 cases q <;> simp only [keyC] at h <;> first | (cases h; done) | skip
 ·cases h; exact rd_i hr
 ·cases h; exact rd_str hr
theorem mapO_some {t kt et : TypeId} (h : mapO P t = some (kt,et)) : P.underlying t = some (.map kt et):=by
 unfold mapO at h
 split at h
 ·cases h; assumption
 ·cases h
open Go.MapKept in
theorem map_find {w : World} {S : Nat → Prop} {con : MC} {es : Array MapEntry} {d : TypeDesc} {k : Key} (hm : MapRep w S con es) (hd : ∀ k,con.kd k → IsKey d k.val) (hk : con.kd k) :
  (Instr.findNow d k.val es.toList 0 = some none ∧ con.fn k = none ∧ ∀ x ∈ es.toList,x.key ≠ k.val) ∨
  ∃ (j : Nat) (e : MapEntry) (c : C),Instr.findNow d k.val es.toList 0 = some (some (j,e.val)) ∧ es[j]? = some e ∧ e.key = k.val ∧ con.fn k = some c ∧ Rd w S c e.val:=by
 obtain ⟨_,h1,h2,_⟩:=hm
 have hks : ∀ x ∈ es.toList,IsKey d x.key:=fun x hx=>by
  obtain ⟨q,c,e1,e2,_⟩:=h1 x hx
  rw [e1]; exact hd q (MC.fn_kd e2)
 rcases findNow_spec (hd k hk) es.toList 0 hks with ⟨g1,g2⟩ | ⟨j,e,g1,g2,g3⟩
 ·refine .inl ⟨g1,?_,g2⟩
  cases hf : con.fn k with
  | none=>rfl
  | some c =>
   obtain ⟨e,he,hek⟩:=h2 k c hf
   exact absurd hek (g2 e he)
 ·obtain ⟨q,c,e1,e2,e3⟩:=h1 e (List.mem_of_getElem? g2)
  have:=Key.val_inj (e1.symm.trans g3)
  subst this
  exact .inr ⟨j,e,c,by simpa using g1,by simpa using g2,g3,e2,e3⟩
theorem lookC {H : Hp} {id : Nat} {con : MC} {F : Fr} {m : Mp} {w : World} {b : Nat} (hrep : HRep F H m w) (hl : look H.box id = some [.mc con]) (hb : m.bx id = some b) : ∃ es ck,w.heap[b]? = some (.map es ck) ∧ MapRep w (F.S m) con es:=by
 obtain ⟨cs,h1,h2⟩:=hrep.box id b hb
 rw [hl] at h1; cases h1
 exact h2
theorem zvO_run {et : TypeId} {z : Value} (h : zvO P et = some z) (w : World) : oneCell z = true ∧ (zeroValue et).run P w = .ok z w:=by
 unfold zvO at h
 cases hi : P.info? et with
 | none=>rw [hi] at h; cases h
 | some i =>
  rw [hi] at h
  simp only [Option.bind_some] at h
  cases hz : i.zero with
  | none=>rw [hz] at h; cases h
  | some z' =>
   rw [hz] at h
   simp only at h
   split at h
   ·rename_i h1
    cases h
    exact ⟨h1,by simp [zeroValue,typeInfo,hi,hz]⟩
   ·cases h
open Go.MapKept in
def rsL (ok : Bool) (z : Value) (r : Option C) : AV:=match r with
 | some c=>resL ok c true
 | none=>resL ok (ofC z) false
theorem lookup_rep {F : Fr} {H' : Hp} {m : Mp} {w : World} {t kt et : TypeId} {z : Value} {con : MC} {q : C} {r : Option C} {ok : Bool} (hmo : mapO P t = some (kt,et)) (hz : zvO P et = some z) (hat : con.at q = some r) (hok : con.ok P kt)
  {b : Nat} {es : Array MapEntry} {ck : Nat} {v : Value} (hheap : w.heap[b]? = some (.map es ck)) (hmr : MapRep w (F.S m) con es) (hv : Rd w (F.S m) q v) :
  Yl P F H' m w (Instr.lookup t (.map (some b)) v ok) (rsL ok z r):=by
 obtain ⟨k,hk,hf,hkd⟩:=at_some hat
 obtain ⟨d,hd,hkeys⟩:=ok_desc hok
 have hm:=mapO_some hmo
 have run : (r = none ∧ (Instr.lookup t (.map (some b)) v ok).run P w = .ok (if ok then .tuple #[z,.bool false] else z) w) ∨ (∃ c val,r = some c ∧ Rd w (F.S m) c val ∧ (Instr.lookup t (.map (some b)) v ok).run P w = .ok (if ok then .tuple #[val,.bool true] else val) w):=by
  have hv':=keyC_rd hk hv
  subst hv'
  obtain ⟨hz1,hz2⟩:=zvO_run hz w
  rcases map_find hmr hkeys hkd with ⟨g1,g2,g3⟩ | ⟨j,e,c,g1,g2,g3,g4,g5⟩
  ·refine .inl ⟨by rw [← hf,g2],?_⟩
   simp [Instr.lookup,run_underlying hm,MapKept.run_getObj_map hheap,MapKept.run_checkKey hd (hkeys k hkd),MapKept.run_findKey hd g1,hz2]
  ·refine .inr ⟨c,e.val,by rw [← hf,g4],g5,?_⟩
   simp [Instr.lookup,run_underlying hm,MapKept.run_getObj_map hheap,MapKept.run_checkKey hd (hkeys k hkd),MapKept.run_findKey hd g1]
 have hz1:=(zvO_run hz w).1
 rcases run with ⟨rfl,hr⟩ | ⟨c,val,rfl,hrd,hr⟩
 ·refine ⟨_,hr,?_⟩
  have hrd:=rd_ofC w (F.S m) z hz1
  cases ok with
  | false=>exact hrd
  | true =>
   refine ⟨_,rfl,rfl,fun j y u hy hu=>?_⟩
   match j with
   | 0=>simp at hy hu; subst hy; subst hu; exact hrd
   | 1=>simp at hy hu; subst hy; subst hu; exact .b false
   | j + 2=>simp at hy
 ·refine ⟨_,hr,?_⟩
  cases ok with
  | false=>exact hrd
  | true =>
   refine ⟨_,rfl,rfl,fun j y u hy hu=>?_⟩
   match j with
   | 0=>simp at hy hu; subst hy; subst hu; exact hrd
   | 1=>simp at hy hu; subst hy; subst hu; exact .b true
   | j + 2=>simp at hy
theorem lookupT_sound {H : Hp} {t : TypeId} {x i : AV} {ok : Bool} {K : AV → Prop} (h : lookupT P H t x i ok K) :
  ∃ r,K r ∧ ∀ (F : Fr) (H' : Hp) (m : Mp) (w : World) (u v : Value),Sup H' H → HRep F H' m w → RepA F H' m w x u → RepA F H' m w i v → Yl P F H' m w (Instr.lookup t u v ok) r:=by
 have pick : ∀ {r : Option C} {z : Value},optK r (fun c=>K (resL ok c true)) (K (resL ok (ofC z) false)) → K (rsL ok z r):=by
  intro r z ⟨h1,h2⟩
  cases r with
  | some c=>exact h1 c rfl
  | none=>exact h2 rfl
 unfold lookupT at h
 split at h
 ·rename_i kt et id q hmo
  split at h
  ·rename_i con z hl hz
   split at h
   ·rename_i r hat
    obtain ⟨hok,h1⟩:=h
    refine ⟨_,pick h1,fun F H' m w u v hsup hrep hu hv=>?_⟩
    obtain ⟨b,hb,rfl⟩:=hu
    obtain ⟨es,ck,hheap,hmr⟩:=lookC hrep (hsup.1.1 id _ hl) hb
    exact lookup_rep hmo hz hat hok hheap hmr hv
   ·exact h.elim
  ·exact h.elim
 ·rename_i kt et f n q hmo
  split at h
  ·rename_i z hz
   obtain ⟨hok,h1⟩:=h
   refine ⟨_,pick h1,fun F H' m w u v hsup hrep hu hv=>?_⟩
   obtain ⟨b,es,ck,rfl,hS,hheap,hmr⟩:=rd_m hu
   exact lookup_rep (con:=.s f n) hmo hz rfl hok hheap hmr hv
  ·exact h.elim
 ·exact h.elim
theorem lenMT_sound {H : Hp} {t : TypeId} (ht : (mapO P t).isSome = true) {x : AV} {K : AV → Prop} (h : lenMT H x K) :
  ∃ r,K r ∧ ∀ (F : Fr) (H' : Hp) (m : Mp) (w : World) (u : Value) (ty : TypeId),Sup H' H → HRep F H' m w → RepA F H' m w x u → Yl P F H' m w (Builtin.len_ #[t] ty #[u]) r:=by
 obtain ⟨⟨kt,et⟩,hm⟩:=Option.isSome_iff_exists.1 ht
 have hm:=mapO_some hm
 unfold lenMT at h
 split at h
 ·rename_i id
  split at h
  ·rename_i con hl
   refine ⟨_,h,fun F H' m w u ty hsup hrep hu=>?_⟩
   obtain ⟨b,hb,rfl⟩:=hu
   obtain ⟨es,ck,hheap,hmr⟩:=lookC hrep (hsup.1.1 id _ hl) hb
   have : es.size = con.n:=hmr.1
   exact ⟨.int .i64 con.n,by simp [Builtin.len_,run_underlying hm,MapKept.run_getObj_map hheap,goInt,this],.i _ _⟩
  ·exact h.elim
 ·exact h.elim
theorem HRep.setMap {F : Fr} {H : Hp} {m : Mp} {w : World} (h : HRep F H m w) {id b : Nat} {con' : MC} {es es' : Array MapEntry} {ck ck' : Nat} (hb : m.bx id = some b) (hh : w.heap[b]? = some (.map es ck)) (hr : MapRep w (F.S m) con' es') :
  HRep F (H.addBox id [.mc con']) m { w with heap:=w.heap.setIfInBounds b (.map es' ck') } ∧ Later F H m w (H.addBox id [.mc con']) m { w with heap:=w.heap.setIfInBounds b (.map es' ck') } :=
 h.setObj (cs':=[.mc con']) hb ⟨rfl,rfl,rfl,by simp⟩ (fun k hk=>(MapKept.heap_set hh).2 k hk) (fun hlat=>⟨es',ck',(MapKept.heap_set hh).1,hr.mono hlat.st⟩) (look_add ..) (fun i hi=>look_add_ne _ _ _ _ hi) rfl rfl
theorem putT_sound {H : Hp} {nx : Nat} {o : Oper} {ev : Operand → AV} {t : TypeId} {x i y : Operand} (ho : o.op = .mapUpdate t x i y) {K : Hp → Prop} (h : putT P H t (ev x) (ev i) (ev y) K) :
  ∃ H',K H' ∧ (∃ id cs,H' = H.addBox id cs) ∧ ∀ F : Fr,OpW P F H H' nx nx o ev .u:=by
 unfold putT at h
 split at h
 ·rename_i kt et id q c hmo hx hi hy
  split at h
  ·rename_i con hl
   split at h
   ·rename_i r hat
    obtain ⟨hok,h1,h2⟩:=h
    obtain ⟨k,hk,hf,hkd⟩:=at_some hat
    obtain ⟨d,hd,hkeys⟩:=ok_desc hok
    have hm:=mapO_some hmo
    have core : ∀ (n : Nat),(n = if r.isSome then con.n else con.n + 1) → ∀ F : Fr,OpW P F H (H.addBox id [.mc (con.put q (some c) n)]) nx nx o ev .u:=by
     intro n hn F m w ρ hrep hfree hops
     have hu:=hops x (by simp [ho,Op.operands])
     have hv:=hops i (by simp [ho,Op.operands])
     have hw:=hops y (by simp [ho,Op.operands])
     rw [hx] at hu
     rw [hi] at hv
     rw [hy] at hw
     obtain ⟨b,hb,hρx⟩:=hu
     have hρi:=keyC_rd hk hv
     obtain ⟨es,ck,hheap,hmr⟩:=lookC hrep hl hb
     obtain ⟨p1,p2,p3⟩:=put_fn hk hkd (some c) n
     have fin : ∀ es' ck',(execOp ρ o).run P w = .ok .skip { w with heap:=w.heap.setIfInBounds b (.map es' ck') } → MapRep w (F.S m) (con.put q (some c) n) es' →
       Exec P o ρ w fun v w'=>∃ m',HRep F (H.addBox id [.mc (con.put q (some c) n)]) m' w' ∧ Later F H m w (H.addBox id [.mc (con.put q (some c) n)]) m' w' ∧ (∀ i,nx ≤ i → m'.bx i = none ∧ m'.bf i = none) ∧ RepA F (H.addBox id [.mc (con.put q (some c) n)]) m' w' .u v:=by
      intro es' ck' hrun hr
      unfold Exec
      rw [hrun]
      obtain ⟨g1,g2⟩:=hrep.setMap (ck':=ck') hb hheap hr
      exact ⟨m,g1,g2,hfree,trivial⟩
     rcases map_find hmr hkeys hkd with ⟨g1,g2,g3⟩ | ⟨j,e,c0,g1,g2,g3,g4,g5⟩
     ·refine fin (es.push { key:=k.val,val:=ρ y,born:=ck }) (ck + 1) ?_ ?_
      ·simp [execOp,ho,Instr.mapUpdate,hρx,hρi,run_underlying hm,MapKept.run_getObj_map hheap,MapKept.run_checkKey hd (hkeys k hkd),MapKept.run_findKey hd g1,MapKept.run_setObj_map _ hheap]
      ·have hr : r = none:=by rw [← hf,g2]
       subst hr
       simp at hn
       refine ⟨by rw [p3,hn,Array.size_push,hmr.1],fun e he=>?_,fun q' c' hq=>?_,?_⟩
       ·simp only [Array.toList_push,List.mem_append,List.mem_singleton] at he
        rcases he with he | rfl
        ·obtain ⟨q',c',e1,e2,e3⟩:=hmr.2.1 e he
         refine ⟨q',c',e1,?_,e3⟩
         rw [p2 q' (fun hh=>by subst hh; rw [g2] at e2; cases e2)]; exact e2
        ·exact ⟨k,c,rfl,p1,hw⟩
       ·simp only [Array.toList_push,List.mem_append,List.mem_singleton]
        by_cases hh : q' = k
        ·subst hh; exact ⟨_,.inr rfl,rfl⟩
        ·rw [p2 q' hh] at hq
         obtain ⟨e,he,hek⟩:=hmr.2.2.1 q' c' hq
         exact ⟨e,.inl he,hek⟩
       ·rw [Array.toList_push,List.pairwise_append]
        refine ⟨hmr.2.2.2,by simp,fun a ha b hb=>?_⟩
        simp at hb; subst hb
        exact g3 a ha
     ·have hr : r = some c0:=by rw [← hf,g4]
      subst hr
      simp at hn
      have hj:=(Array.getElem?_eq_some_iff.1 g2).1
      have hje:=(Array.getElem?_eq_some_iff.1 g2).2
      have hlist : (es.modify j fun e=>{ e with key:=k.val,val:=ρ y }).toList = es.toList.set j { e with key:=k.val,val:=ρ y }:=by
       apply List.ext_getElem?
       intro i
       rw [Array.getElem?_toList,Array.getElem?_modify,List.getElem?_set]
       by_cases hij : j = i
       ·subst hij
        simp [hj]
        exact congrArg MapEntry.born hje
       ·simp [hij]
      refine fin (es.modify j fun e=>{ e with key:=k.val,val:=ρ y }) ck ?_ ?_
      ·simp [execOp,ho,Instr.mapUpdate,hρx,hρi,run_underlying hm,MapKept.run_getObj_map hheap,MapKept.run_checkKey hd (hkeys k hkd),MapKept.run_findKey hd g1,hj,hje,g3,MapKept.run_keyThatStays (hkeys k hkd),MapKept.run_setObj_map _ hheap]
      ·have hpw:=hmr.2.2.2
       have huniq : ∀ (i : Nat) (e' : MapEntry),es.toList[i]? = some e' → e'.key = k.val → i = j:=by
        intro i e' hi hek
        by_cases hij : i = j
        ·exact hij
        ·exfalso
         have hil:=(List.getElem?_eq_some_iff.1 hi)
         have hjl : es.toList[j]? = some e:=by simpa using g2
         have hjl2:=(List.getElem?_eq_some_iff.1 hjl)
         rw [List.pairwise_iff_getElem] at hpw
         rcases Nat.lt_or_gt_of_ne hij with h | h
         ·have:=hpw i j hil.1 hjl2.1 h
          rw [hil.2,hjl2.2,hek,g3] at this; exact this rfl
         ·have:=hpw j i hjl2.1 hil.1 h
          rw [hil.2,hjl2.2,hek,g3] at this; exact this rfl
       refine ⟨by rw [p3,hn,Array.size_modify,hmr.1],fun e' he=>?_,fun q' c' hq=>?_,?_⟩
       ·rw [hlist] at he
        obtain ⟨i,hi⟩:=List.getElem?_of_mem he
        rw [List.getElem?_set] at hi
        split at hi
        ·split at hi
         ·cases hi; exact ⟨k,c,rfl,p1,hw⟩
         ·cases hi
        ·rename_i hij
         obtain ⟨q',c',e1,e2,e3⟩:=hmr.2.1 e' (List.mem_of_getElem? hi)
         refine ⟨q',c',e1,?_,e3⟩
         rw [p2 q' (fun hh=>by subst hh; exact hij (huniq i e' hi e1).symm)]; exact e2
       ·rw [hlist]
        by_cases hh : q' = k
        ·subst hh
         exact ⟨_,List.mem_of_getElem? (i:=j) (by rw [List.getElem?_set_self (by simpa using hj)]),rfl⟩
        ·rw [p2 q' hh] at hq
         obtain ⟨e',he,hek⟩:=hmr.2.2.1 q' c' hq
         obtain ⟨i,hi⟩:=List.getElem?_of_mem he
         refine ⟨e',List.mem_of_getElem? (i:=i) ?_,hek⟩
         rw [List.getElem?_set,if_neg]
         ·exact hi
         ·intro hji
          subst hji
          have : es.toList[j]? = some e:=by simpa using g2
          rw [this] at hi
          cases hi
          exact hh (Key.val_inj (hek.symm.trans g3))
       ·rw [hlist]
        have hmap : (es.toList.set j { e with key:=k.val,val:=ρ y }).map (·.key) = es.toList.map (·.key):=by
         rw [List.map_set]
         apply List.ext_getElem?
         intro i
         rw [List.getElem?_set]
         split
         ·rename_i hij
          subst hij
          simp [hj,hje,g3]
         ·rfl
        have : (es.toList.map (·.key)).Pairwise (· ≠ ·):=List.pairwise_map.2 hpw
        rw [← hmap] at this
        exact List.pairwise_map.1 this
    cases r with
    | none=>exact ⟨_,h2 rfl,⟨_,_,rfl⟩,core _ (by simp)⟩
    | some c0=>exact ⟨_,h1 c0 rfl,⟨_,_,rfl⟩,core _ (by simp)⟩
   ·exact h.elim
  ·exact h.elim
 ·exact h.elim
theorem MapRep.erase {w : World} {S : Nat → Prop} {con con' : MC} {es : Array MapEntry} {k : Key} {j : Nat} {e : MapEntry} (h : MapRep w S con es) (hj : es[j]? = some e) (hk : e.key = k.val) (h1 : con'.fn k = none) (h2 : ∀ k',k' ≠ k → con'.fn k' = con.fn k') (h3 : con'.n = con.n - 1) :
  MapRep w S con' (es.eraseIdxIfInBounds j):=by
 have hlt:=(Array.getElem?_eq_some_iff.1 hj).1
 have hl : (es.eraseIdxIfInBounds j).toList = es.toList.eraseIdx j:=by
  unfold Array.eraseIdxIfInBounds
  rw [dif_pos hlt,Array.toList_eraseIdx]
 have hsz : (es.eraseIdxIfInBounds j).size = es.size - 1:=by
  rw [← Array.length_toList,hl,List.length_eraseIdx,if_pos (by simpa using hlt),Array.length_toList]
 have hpw:=h.2.2.2
 rw [List.pairwise_iff_getElem] at hpw
 have hjl : es.toList[j]? = some e:=by simpa using hj
 have hjl2:=List.getElem?_eq_some_iff.1 hjl
 refine ⟨by rw [hsz,h3,h.1],fun x hx=>?_,fun q c hq=>?_,?_⟩
 ·rw [hl] at hx
  obtain ⟨i,hij,hi⟩:=List.mem_eraseIdx_iff_getElem?.1 hx
  obtain ⟨q,c,e1,e2,e3⟩:=h.2.1 x (List.mem_of_getElem? hi)
  refine ⟨q,c,e1,?_,e3⟩
  rw [h2 q fun hq=>?_]
  ·exact e2
  ·subst hq
   have hil:=List.getElem?_eq_some_iff.1 hi
   rcases Nat.lt_or_gt_of_ne hij with g | g
   ·have:=hpw i j hil.1 hjl2.1 g
    rw [hil.2,hjl2.2,e1,hk] at this; exact this rfl
   ·have:=hpw j i hjl2.1 hil.1 g
    rw [hil.2,hjl2.2,e1,hk] at this; exact this rfl
 ·have hne : q ≠ k:=fun hh=>by subst hh; rw [h1] at hq; cases hq
  rw [h2 q hne] at hq
  obtain ⟨x,hx,hxk⟩:=h.2.2.1 q c hq
  refine ⟨x,?_,hxk⟩
  rw [hl]
  obtain ⟨i,hi⟩:=List.getElem?_of_mem hx
  refine List.mem_eraseIdx_iff_getElem?.2 ⟨i,fun hij=>?_,hi⟩
  subst hij
  rw [hjl] at hi; cases hi
  exact hne (Key.val_inj (hxk.symm.trans hk))
 ·rw [hl]
  exact h.2.2.2.sublist (List.eraseIdx_sublist _ _)
theorem delT_sound {H : Hp} {nx : Nat} {o : Oper} {ev : Operand → AV} {t t' : TypeId} {x i : Operand} (ho : o.op = .call { callee:=.builtin .delete,args:=#[x,i],argTypes:=#[t,t'] }) {K : Hp → Prop} (h : delT P H t (ev x) (ev i) K) :
  ∃ H',K H' ∧ ∀ F : Fr,OpW P F H H' nx nx o ev (.t []):=by
 unfold delT at h
 split at h
 ·rename_i kt et id q hmo hx hi
  split at h
  ·rename_i con hl
   split at h
   ·rename_i r hat
    obtain ⟨hok,h1,h2⟩:=h
    obtain ⟨k,hk,hf,hkd⟩:=at_some hat
    obtain ⟨d,hd,hkeys⟩:=ok_desc hok
    have hm:=mapO_some hmo
    have core : ∀ (H' : Hp),(∀ (F : Fr) (m : Mp) (w : World) (b : Nat) (es : Array MapEntry) (ck : Nat),HRep F H m w → m.bx id = some b → w.heap[b]? = some (.map es ck) → MapRep w (F.S m) con es →
      ∃ es',(Builtin.delete_ #[t,t'] o.type #[.map (some b),k.val]).run P w = .ok (.tuple #[]) { w with heap:=w.heap.setIfInBounds b (.map es' ck) } ∧ HRep F H' m { w with heap:=w.heap.setIfInBounds b (.map es' ck) } ∧ Later F H m w H' m { w with heap:=w.heap.setIfInBounds b (.map es' ck) }) →
      ∀ F : Fr,OpW P F H H' nx nx o ev (.t []):=by
     intro H' hh F m w ρ hrep hfree hops
     have hu:=hops x (by simp [ho,Op.operands,Call.operands])
     have hv:=hops i (by simp [ho,Op.operands,Call.operands])
     rw [hx] at hu
     rw [hi] at hv
     obtain ⟨b,hb,hρx⟩:=hu
     have hρi:=keyC_rd hk hv
     obtain ⟨es,ck,hheap,hmr⟩:=lookC hrep hl hb
     obtain ⟨es',hrun,g1,g2⟩:=hh F m w b es ck hrep hb hheap hmr
     unfold Exec
     have : (execOp ρ o).run P w = .ok (.value (.tuple #[])) { w with heap:=w.heap.setIfInBounds b (.map es' ck) }:=by
      simp [execOp,ho,resolve,invoke,builtin,hρx,hρi,hrun]
     rw [this]
     exact ⟨m,g1,g2,hfree,#[],rfl,rfl,fun j y u hy=>by simp at hy⟩
    cases r with
    | none =>
     refine ⟨_,h2 rfl,core _ fun F m w b es ck hrep hb hheap hmr=>?_⟩
     rcases map_find hmr hkeys hkd with ⟨g1,g2,g3⟩ | ⟨j,e,c0,g1,g2,g3,g4,g5⟩
     ·have e0 : ({ w with heap:=w.heap.setIfInBounds b (.map es ck) } : World) = w:=by
       cases w; simp only [World.mk.injEq,and_true]
       apply Array.ext_getElem?
       intro j
       rw [Array.getElem?_setIfInBounds]
       split
       ·rename_i hj; subst hj
        split
        ·exact hheap.symm
        ·rename_i hlt; simp [Array.getElem?_eq_none (Nat.not_lt.1 hlt)]
       ·rfl
      refine ⟨es,?_,by rw [e0]; exact hrep,by rw [e0]; exact (hrep.hp (fun _ _ _=>rfl) (fun _ _ h=>h) rfl).2⟩
      simp [Builtin.delete_,run_underlying hm,MapKept.run_getObj_map hheap,MapKept.run_checkKey hd (hkeys k hkd),MapKept.run_findKey hd g1,MapKept.run_setObj_map _ hheap]
     ·rw [hf] at g4; cases g4
    | some c0 =>
     refine ⟨_,h1 c0 rfl,core _ fun F m w b es ck hrep hb hheap hmr=>?_⟩
     obtain ⟨p1,p2,p3⟩:=put_fn hk hkd none (con.n - 1)
     rcases map_find hmr hkeys hkd with ⟨g1,g2,g3⟩ | ⟨j,e,c1,g1,g2,g3,g4,g5⟩
     ·rw [hf] at g2; cases g2
     ·obtain ⟨q1,q2⟩:=hrep.setMap (ck':=ck) hb hheap (hmr.erase g2 g3 p1 p2 p3)
      refine ⟨_,?_,q1,q2⟩
      simp [Builtin.delete_,run_underlying hm,MapKept.run_getObj_map hheap,MapKept.run_checkKey hd (hkeys k hkd),MapKept.run_findKey hd g1,MapKept.run_setObj_map _ hheap]
   ·exact h.elim
  ·exact h.elim
 ·exact h.elim
def mkMT (P : Program) (H : Hp) (nx : Nat) (t : TypeId) (hint : Option AV) (K : AV → Hp → Nat → Prop) : Prop:=match mapO P t,hint with
 | some (kt,_),none=>match mc0 P kt with | some con=>K (.mp nx) (H.addBox nx [.mc con]) (nx + 1) | none=>False
 | some (kt,_),some (.c (.i _ _))=>match mc0 P kt with | some con=>K (.mp nx) (H.addBox nx [.mc con]) (nx + 1) | none=>False
 | _,_=>False
theorem mc0_fn {kt : TypeId} {con : MC} (h : mc0 P kt = some con) : con.n = 0 ∧ ∀ q,con.fn q = none:=by
 unfold mc0 at h
 split at h
 ·cases h; exact ⟨rfl,fun q=>by cases q <;> simp [MC.fn]⟩
 ·split at h
  ·cases h; exact ⟨rfl,fun q=>by cases q <;> simp [MC.fn]⟩
  ·cases h
theorem mkMT_sound {H : Hp} {nx : Nat} {o : Oper} {ev : Operand → AV} {t : TypeId} {hint : Option Operand} (ho : o.op = .makeMap t hint) {K : AV → Hp → Nat → Prop} (h : mkMT P H nx t (hint.map ev) K) :
  ∃ r con,K r (H.addBox nx [.mc con]) (nx + 1) ∧ ∀ F : Fr,OpQ P F (H.addBox nx [.mc con]) nx (nx + 1) o ev r:=by
 have core : ∀ kt et con,mapO P t = some (kt,et) → mc0 P kt = some con → (∀ (ρ : Operand → Value) (w : World) (F : Fr) (H' : Hp) (m : Mp),(∀ x ∈ o.op.operands,RepA F H' m w (ev x) (ρ x)) → (execOp ρ o).run P w = .ok (.value (.map (some w.heap.size))) (w.alloc (.map #[] 0))) →
   ∀ F : Fr,OpQ P F (H.addBox nx [.mc con]) nx (nx + 1) o ev (.mp nx):=by
  intro kt et con hmo hc hrun F H' m w ρ hsup hrep hfree hops
  have hl:=hsup.1.1 nx [.mc con] (by simp [Hp.addBox,look])
  obtain ⟨n0,hfn⟩:=mc0_fn hc
  unfold Exec
  rw [hrun ρ w F H' m hops]
  have hmr : ∀ m' : Mp,MapRep (w.alloc (.map #[] 0)) (F.S m') con #[]:=fun m'=>by
   refine ⟨by simp [n0],by simp,fun q c hq=>?_,by simp⟩
   rw [hfn q] at hq; cases hq
  obtain ⟨g1,g2⟩:=hrep.newObj nx (hfree nx (Nat.le_refl _) (by omega)) (.map #[] 0) [.mc con] hl (fun m' _=>⟨#[],0,heap_alloc_new w _,hmr m'⟩)
  exact ⟨_,g1,g2,rfl,fun i hi hn=>by simp only [Mp.addBx]; rw [if_neg (by omega)]; exact hn,w.heap.size,by simp [Mp.addBx],rfl⟩
 unfold mkMT at h
 split at h
 ·rename_i kt et hmo hh
  split at h
  ·rename_i con hc
   have hn : hint = none:=by simpa using hh
   subst hn
   exact ⟨_,con,h,core kt et con hmo hc fun ρ w _ _ _ _=>by simp only [execOp,ho,Instr.makeMap]; rfl⟩
  ·exact h.elim
 ·rename_i kt et k n hmo hh
  split at h
  ·rename_i con hc
   obtain ⟨y,rfl,hy⟩:=Option.map_eq_some_iff.1 hh
   refine ⟨_,con,h,core kt et con hmo hc fun ρ w F H' m hops=>?_⟩
   have hv:=hops y (by simp [ho,Op.operands])
   rw [hy] at hv
   have hρ:=rep_i hv
   simp only [execOp,ho,Instr.makeMap,Option.map_some,hρ,Sem.run_bind,run_underlying (mapO_some hmo),Result.andThen_ok,asInt,asIntOf]
   rfl
  ·exact h.elim
 ·exact h.elim
end Go.Abs

namespace Go.Abs
set_option linter.unusedSimpArgs false
set_option linter.unusedVariables false
open Go.RowKit
variable {P : Program}
def idx : List Nat → Nat → Option Nat
 | [],_=>none
 | i :: l,id=>if i == id then some 0 else (idx l id).map (· + 1)
theorem idx_some : ∀ {l : List Nat} {id k : Nat},idx l id = some k → l[k]? = some id
 | [],id,k,h=>by simp [idx] at h
 | i :: l,id,k,h=>by
  simp only [idx] at h
  split at h
  ·rename_i he; cases h; simp at he; subst he; rfl
  ·obtain ⟨k',h1,rfl⟩:=Option.map_eq_some_iff.1 h
   simpa using idx_some h1
def nodupB : List Nat → Bool
 | []=>true
 | i :: l=>!l.contains i && nodupB l
theorem nodupB_inj : ∀ {l : List Nat},nodupB l = true → ∀ {i j x : Nat},l[i]? = some x → l[j]? = some x → i = j
 | [],_,i,j,x,h,_=>by simp at h
 | y :: l,hn,i,j,x,hi,hj=>by
  simp only [nodupB,Bool.and_eq_true,Bool.not_eq_true',List.contains_eq_mem,decide_eq_false_iff_not] at hn
  match i,j with
  | 0,0=>rfl
  | 0,j + 1=>simp at hi hj; subst hi; exact absurd (List.mem_of_getElem? hj) hn.1
  | i + 1,0=>simp at hi hj; subst hj; exact absurd (List.mem_of_getElem? hi) hn.1
  | i + 1,j + 1=>exact congrArg (· + 1) (nodupB_inj hn.2 (x:=x) (by simpa using hi) (by simpa using hj))
def teId : TE → List Nat
 | .bx id _=>[id]
 | .mp id=>[id]
 | .s _=>[]
 | .own _ _=>[]
 | .ln _=>[]
 | .u=>[]
def avId : AV → List Nat
 | .bx id _=>[id]
 | .mp id=>[id]
 | .fn _ caps=>caps.flatMap teId
 | .c _=>[]
 | .g _=>[]
 | .t _=>[]
 | .own _ _=>[]
 | .oel _ _ _ _=>[]
 | .win _ _ _ _=>[]
 | .bw _ _ _=>[]
 | .bel _ _ _=>[]
 | .el _=>[]
 | .mc _=>[]
 | .tt _=>[]
 | .gt _=>[]
 | .lw _=>[]
 | .anc _ _=>[]
 | .ln _=>[]
 | .lk _ _ _=>[]
 | .vf _=>[]
 | .u=>[]
def avOf : AV → List Nat
 | .own id _=>[id]
 | .bx _ _=>[]
 | .mp _=>[]
 | .fn _ _=>[]
 | .c _=>[]
 | .g _=>[]
 | .t _=>[]
 | .oel _ _ _ _=>[]
 | .win _ _ _ _=>[]
 | .bw _ _ _=>[]
 | .bel _ _ _=>[]
 | .el _=>[]
 | .mc _=>[]
 | .tt _=>[]
 | .gt _=>[]
 | .lw _=>[]
 | .anc _ _=>[]
 | .ln _=>[]
 | .lk _ _ _=>[]
 | .vf _=>[]
 | .u=>[]
def dd : List Nat → List Nat
 | []=>[]
 | i :: l=>if l.contains i then dd l else i :: dd l
theorem dd_mem : ∀ {l : List Nat} {x : Nat},x ∈ dd l → x ∈ l
 | i :: l,x,h=>by
  simp only [dd] at h
  split at h
  ·exact List.mem_cons_of_mem _ (dd_mem h)
  ·rcases List.mem_cons.1 h with rfl | h
   ·exact List.mem_cons_self ..
   ·exact List.mem_cons_of_mem _ (dd_mem h)
def cellsB (H : Hp) : List Nat → List AV
 | []=>[]
 | id :: l=>(match look H.box id with | some cs=>cs | none=>[]) ++ cellsB H l
theorem cellsB_mem {H : Hp} : ∀ {l : List Nat} {x : AV},x ∈ cellsB H l → ∃ id cs,id ∈ l ∧ look H.box id = some cs ∧ x ∈ cs
 | id :: l,x,h=>by
  simp only [cellsB,List.mem_append] at h
  rcases h with h | h
  ·split at h
   ·rename_i cs hcs; exact ⟨id,cs,List.mem_cons_self ..,hcs,h⟩
   ·simp at h
  ·obtain ⟨id',cs,h1,h2⟩:=cellsB_mem h; exact ⟨id',cs,List.mem_cons_of_mem _ h1,h2⟩
def handA (H : Hp) (as : List AV) : List Nat:=dd (as.flatMap avId)
def handB (H : Hp) (as : List AV) : List Nat:=handA H as ++ (dd ((cellsB H (handA H as)).flatMap avId)).filter (fun i=>!(handA H as).contains i)
def handF (H : Hp) (as : List AV) : List Nat:=dd ((as ++ cellsB H (handB H as)).flatMap avOf)

def renT (H : Hp) (hb hf : List Nat) : TE → Option TE
 | .s x=>some (.s x)
 | .bx id off=>(idx hb id).map (TE.bx · off)
 | .mp id=>(idx hb id).map TE.mp
 | .own id ver=>match curB H id ver with | some B=>if hf.contains id then none else some (.ln B.con) | none=>none
 | .ln x=>some (.ln x)
 | .u=>some .u
def renTs (H : Hp) (hb hf : List Nat) : List TE → Option (List TE)
 | []=>some []
 | x :: l=>match renT H hb hf x,renTs H hb hf l with | some y,some ys=>some (y :: ys) | _,_=>none
def renA (H : Hp) (hb hf : List Nat) : AV → Option AV
 | .c x=>some (.c x)
 | .g x=>some (.g x)
 | .t x=>some (.t x)
 | .bx id off=>(idx hb id).map (AV.bx · off)
 | .mp id=>(idx hb id).map AV.mp
 | .own id ver=>match curB H id ver with | some _=>(idx hf id).map (AV.own · 0) | none=>none
 | .fn f caps=>(renTs H hb hf caps).map (AV.fn f)
 | .mc con=>some (.mc con)
 | .oel _ _ _ _=>none
 | .win _ _ _ _=>none
 | .bw _ _ _=>none
 | .bel _ _ _=>none
 | .el _=>none
 | .tt _=>none
 | .gt l=>(renTs H hb hf l).map AV.gt
 | .lw _=>none
 | .anc _ _=>none
 | .ln x=>some (.ln x)
 | .lk _ _ _=>none
 | .vf _=>none
 | .u=>some .u
def renL (H : Hp) (hb hf : List Nat) : List AV → Option (List AV)
 | []=>some []
 | x :: l=>match renA H hb hf x,renL H hb hf l with | some y,some ys=>some (y :: ys) | _,_=>none
theorem renL_get {H : Hp} {hb hf : List Nat} : ∀ {l ys : List AV},renL H hb hf l = some ys → ys.length = l.length ∧ ∀ (j : Nat) x y,l[j]? = some x → ys[j]? = some y → renA H hb hf x = some y
 | [],ys,h=>by simp [renL] at h; subst h; simp
 | x :: l,ys,h=>by
  simp only [renL] at h
  split at h
  ·rename_i y ys' h1 h2
   cases h
   obtain ⟨g1,g2⟩:=renL_get h2
   refine ⟨by simp [g1],fun j a b ha hb=>?_⟩
   match j with
   | 0=>simp at ha hb; subst ha; subst hb; exact h1
   | j + 1=>exact g2 j a b (by simpa using ha) (by simpa using hb)
  ·cases h
theorem renTs_get {H : Hp} {hb hf : List Nat} : ∀ {l ys : List TE},renTs H hb hf l = some ys → ys.length = l.length ∧ ∀ (j : Nat) x y,l[j]? = some x → ys[j]? = some y → renT H hb hf x = some y
 | [],ys,h=>by simp [renTs] at h; subst h; simp
 | x :: l,ys,h=>by
  simp only [renTs] at h
  split at h
  ·rename_i y ys' h1 h2
   cases h
   obtain ⟨g1,g2⟩:=renTs_get h2
   refine ⟨by simp [g1],fun j a b ha hb=>?_⟩
   match j with
   | 0=>simp at ha hb; subst ha; subst hb; exact h1
   | j + 1=>exact g2 j a b (by simpa using ha) (by simpa using hb)
  ·cases h
def hpB (H : Hp) (hb hf : List Nat) : Nat → List Nat → Option (List (Nat × List AV))
 | _,[]=>some []
 | k,id :: l=>match look H.box id with
  | some cs=>match renL H hb hf cs,hpB H hb hf (k + 1) l with | some cs',some r=>some ((k,cs') :: r) | _,_=>none
  | none=>none
def hpF (H : Hp) : Nat → List Nat → Option (List (Nat × Buf))
 | _,[]=>some []
 | k,id :: l=>match look H.buf id with
  | some B=>match hpF H (k + 1) l with | some r=>some ((k,{ B with ver:=0 }) :: r) | none=>none
  | none=>none
theorem hpB_get {H : Hp} {hb hf : List Nat} : ∀ {l : List Nat} {k : Nat} {r : List (Nat × List AV)},hpB H hb hf k l = some r → ∀ {i id : Nat},l[i]? = some id → ∃ cs cs',look H.box id = some cs ∧ renL H hb hf cs = some cs' ∧ look r (k + i) = some cs'
 | [],k,r,_,i,id,hi=>by simp at hi
 | id0 :: l,k,r,h,i,id,hi=>by
  simp only [hpB] at h
  split at h
  ·rename_i cs hcs
   split at h
   ·rename_i cs' r' h1 h2
    cases h
    match i with
    | 0=>simp at hi; subst hi; exact ⟨cs,cs',hcs,h1,by simp [look]⟩
    | i + 1 =>
     obtain ⟨c1,c2,e1,e2,e3⟩:=hpB_get h2 (i:=i) (id:=id) (by simpa using hi)
     refine ⟨c1,c2,e1,e2,?_⟩
     rw [look_add_ne _ _ _ _ (by omega),show k + (i + 1) = k + 1 + i by omega]; exact e3
   ·cases h
  ·cases h
theorem hpF_get {H : Hp} : ∀ {l : List Nat} {k : Nat} {r : List (Nat × Buf)},hpF H k l = some r → r.length = l.length ∧ ∀ {i id : Nat},l[i]? = some id → ∃ B,look H.buf id = some B ∧ look r (k + i) = some { B with ver:=0 }
 | [],k,r,h=>by simp [hpF] at h; subst h; exact ⟨rfl,fun h=>by simp at h⟩
 | id0 :: l,k,r,h=>by
  simp only [hpF] at h
  split at h
  ·rename_i B hB
   split at h
   ·rename_i r' h2
    cases h
    obtain ⟨g1,g2⟩:=hpF_get h2
    refine ⟨by simp [g1],fun {i id} hi=>?_⟩
    match i with
    | 0=>simp at hi; subst hi; exact ⟨B,hB,by simp [look]⟩
    | i + 1 =>
     obtain ⟨B',e1,e2⟩:=g2 (i:=i) (id:=id) (by simpa using hi)
     refine ⟨B',e1,?_⟩
     rw [look_add_ne _ _ _ _ (by omega),show k + (i + 1) = k + 1 + i by omega]; exact e2
   ·cases h
  ·cases h
def bk (nx : Nat) (hb : List Nat) (i : Nat) : Nat:=match hb[i]? with | some id=>id | none=>nx + i
def bakT (nx : Nat) (hb : List Nat) : TE → TE
 | .s x=>.s x
 | .own id ver=>.own (nx + id) ver
 | .bx id off=>.bx (bk nx hb id) off
 | .mp id=>.mp (bk nx hb id)
 | .ln _=>.u
 | .u=>.u
def bakA (nx : Nat) (hb : List Nat) : AV → AV
 | .c x=>.c x
 | .g x=>.g x
 | .t x=>.t x
 | .bx id off=>.bx (bk nx hb id) off
 | .mp id=>.mp (bk nx hb id)
 | .own id ver=>.own (nx + id) ver
 | .fn f caps=>.fn f (caps.map (bakT nx hb))
 | .tt l=>.tt (l.map (bakT nx hb))
 | .gt l=>.gt (l.map (bakT nx hb))
 | .lw _=>.u
 | .mc con=>.mc con
 | .oel _ _ _ _=>.u
 | .win _ _ _ _=>.u
 | .bw _ _ _=>.u
 | .bel _ _ _=>.u
 | .el xs=>.el xs
 | .anc _ _=>.u
 | .ln _=>.u
 | .lk _ _ _=>.u
 | .vf _=>.u
 | .u=>.u
def topN {α : Type} : List (Nat × α) → Nat
 | []=>0
 | (i,_) :: l=>if topN l ≤ i then i + 1 else topN l
theorem topN_lt {α : Type} : ∀ {l : List (Nat × α)} {i : Nat} {x : α},look l i = some x → i < topN l
 | (j,y) :: l,i,x,h=>by
  simp only [look] at h
  simp only [topN]
  split at h
  ·rename_i he; simp at he; subst he; split <;> omega
  ·have:=topN_lt h; split <;> omega
def bump (H : Hp) : List Nat → List (Nat × Buf)
 | []=>[]
 | id :: l=>match look H.buf id with | some B=>(id,{ B with ver:=B.ver + 1 }) :: bump H l | none=>bump H l
theorem bump_get {H : Hp} : ∀ {l : List Nat} {id : Nat},(id ∈ l → look (bump H l) id = (look H.buf id).map fun B=>{ B with ver:=B.ver + 1 }) ∧ (id ∉ l → look (bump H l) id = none)
 | [],id=>⟨fun h=>by simp at h,fun _=>rfl⟩
 | i :: l,id=>by
  have ih:=bump_get (H:=H) (l:=l) (id:=id)
  simp only [bump]
  by_cases hi : i = id
  ·subst hi
   refine ⟨fun _=>?_,fun h=>by simp at h⟩
   cases hB : look H.buf i with
   | some B=>simp [look]
   | none =>
    simp only [Option.map_none]
    by_cases hm : i ∈ l
    ·rw [ih.1 hm,hB]; rfl
    ·exact ih.2 hm
  ·have hne : ∀ (X : List (Nat × Buf)) (B : Buf),look ((i,B) :: X) id = look X id:=fun X B=>look_add_ne _ _ _ _ (fun e=>hi e.symm)
   constructor
   ·intro h
    have : id ∈ l:=by rcases List.mem_cons.1 h with h | h; exact absurd h.symm hi; exact h
    split
    ·rw [hne]; exact ih.1 this
    ·exact ih.1 this
   ·intro h
    have : id ∉ l:=fun h2=>h (List.mem_cons_of_mem _ h2)
    split
    ·rw [hne]; exact ih.2 this
    ·exact ih.2 this
def backH (H : Hp) (nx : Nat) (hb hf : List Nat) (H' : Hp) : Hp :=
 ⟨(H'.box.map fun p=>(bk nx hb p.1,p.2.map (bakA nx hb))) ++ H.box,(H'.buf.map fun p=>(nx + p.1,p.2)) ++ (bump H hf ++ H.buf),H.bor⟩
def allTE : List AV → Option (List (C ⊕ List C))
 | []=>some []
 | .c x :: l=>(allTE l).map (Sum.inl x :: ·)
 | .g x :: l=>(allTE l).map (Sum.inr x :: ·)
 | _ :: _=>none
def toTE : AV → TE
 | .c x=>.s (.inl x)
 | .g x=>.s (.inr x)
 | .own id ver=>.own id ver
 | .bx id off=>.bx id off
 | .mp id=>.mp id
 | _=>.s (.inl (.a undef))
def okTE : AV → Bool
 | .c _=>true
 | .g _=>true
 | .own _ _=>true
 | .bx _ _=>true
 | .mp _=>true
 | _=>false
def tupA (rs : List AV) : AV:=match rs with
 | [x]=>x
 | l=>match allTE l with
  | some l'=>.t l'
  | none=>if l.all okTE then .tt (l.map toTE) else .u
def callGT (tr : Hp → List AV → (Hp → List AV → Prop) → Prop) (H : Hp) (nx : Nat) (as : List AV) (K : AV → Hp → Nat → Prop) : Prop :=
 match hpB H (handB H as) (handF H as) 0 (handB H as),hpF H 0 (handF H as),renL H (handB H as) (handF H as) as with
 | some bx,some bf,some as'=>(nodupB (handB H as) && nodupB (handF H as) && (H.box.all fun p=>decide (p.1 < nx)) && (H.buf.all fun p=>decide (p.1 < nx))) = true ∧
   tr ⟨bx,bf,[]⟩ as' (fun H' rs=>(rs.all fun x=>!isMc x) = true ∧ H'.bor = [] ∧ K (tupA (rs.map (bakA nx (handB H as)))) (backH H nx (handB H as) (handF H as) H') (nx + (topN H'.box + topN H'.buf)))
 | _,_,_=>False
theorem hpB_len {H : Hp} {hb hf : List Nat} : ∀ {l : List Nat} {k : Nat} {r : List (Nat × List AV)},hpB H hb hf k l = some r → r.length = l.length
 | [],k,r,h=>by simp [hpB] at h; subst h; rfl
 | id0 :: l,k,r,h=>by
  simp only [hpB] at h
  split at h
  ·split at h
   ·rename_i h1 h2
    cases h
    simp [hpB_len h2]
   ·cases h
  ·cases h
theorem ownsR_same {w w' : World} {base : Nat} {e : TypeId} {size : Nat} {v : Value} {n : Nat} {xs : List Value} (h : w.ownsR base e size v n xs) (hb : ∀ g,v.ownBlock = some g → w'.heap[g]? = w.heap[g]?) : w'.ownsR base e size v n xs:=by
 refine ⟨h.1,?_⟩
 rcases h.2 with hn | ⟨g,cap,cur,rfl,hbg,⟨fz,hgg,hok⟩,rest⟩
 ·exact .inl hn
 ·exact .inr ⟨g,cap,cur,rfl,hbg,⟨fz,(hb g rfl).trans hgg,hok⟩,rest⟩
def hMp (m : Mp) (hb hf : List Nat) : Mp:=⟨fun i=>(hb[i]?).bind m.bx,fun i=>(hf[i]?).bind m.bf⟩
def hG (m : Mp) (hb hf : List Nat) : List Nat:=hb.filterMap m.bx ++ hf.filterMap fun id=>(m.bf id).bind Value.ownBlock
theorem hG_mem {m : Mp} {hb hf : List Nat} {b : Nat} : b ∈ hG m hb hf ↔ (∃ id,id ∈ hb ∧ m.bx id = some b) ∨ ∃ id v,id ∈ hf ∧ m.bf id = some v ∧ v.ownBlock = some b:=by
 simp only [hG,List.mem_append,List.mem_filterMap,Option.bind_eq_some_iff]
 constructor
 ·rintro (⟨id,h1,h2⟩ | ⟨id,h1,v,h2,h3⟩)
  ·exact .inl ⟨id,h1,h2⟩
  ·exact .inr ⟨id,v,h1,h2,h3⟩
 ·rintro (⟨id,h1,h2⟩ | ⟨id,v,h1,h2,h3⟩)
  ·exact .inl ⟨id,h1,h2⟩
  ·exact .inr ⟨id,h1,v,h2,h3⟩
theorem hG_own {m : Mp} {hb hf : List Nat} {b : Nat} (h : b ∈ hG m hb hf) : Own m b:=by
 rcases hG_mem.1 h with ⟨id,_,h2⟩ | ⟨id,v,_,h2,h3⟩
 ·exact .inl ⟨id,h2⟩
 ·exact .inr ⟨id,v,h2,h3⟩
theorem hMp_own {m : Mp} {hb hf : List Nat} {b : Nat} (h : Own (hMp m hb hf) b) : b ∈ hG m hb hf:=by
 rcases h with ⟨i,hi⟩ | ⟨i,v,hv,hb'⟩
 ·obtain ⟨id,h1,h2⟩:=Option.bind_eq_some_iff.1 hi
  exact hG_mem.2 (.inl ⟨id,List.mem_of_getElem? h1,h2⟩)
 ·obtain ⟨id,h1,h2⟩:=Option.bind_eq_some_iff.1 hv
  exact hG_mem.2 (.inr ⟨id,v,List.mem_of_getElem? h1,h2,hb'⟩)
section
variable {F : Fr} {H : Hp} {m : Mp} {w : World} {hb hf : List Nat}
abbrev hFr (F : Fr) (m : Mp) (w : World) (hb hf : List Nat) : Fr:=⟨w,F.S m,hG m hb hf,hG m hb hf,fun _=>none⟩
theorem hStays (h : HRep F H m w) : Stays (F.S m) ((hFr F m w hb hf).S (hMp m hb hf)) w w:=fun b hS hlt =>
 ⟨.inl ⟨hS,hlt,fun hg=>own_not_S h (hG_own hg) hS⟩,rfl⟩
theorem lent_hand (h : HRep F H m w) {x : C} {v : Value} (hv : F.Lent x v) : (hFr F m w hb hf).Lent x v:=by
 obtain ⟨T,h1,h2⟩:=hv
 exact ⟨T,fun b hb=>⟨Nat.lt_of_lt_of_le (h1 b hb).1 h.size,fun hg=>(h1 b hb).2 (own_out h (hG_own hg) (h1 b hb).1)⟩,h2.mono fun b hb _=>⟨hb,h.block b (h1 b hb).1 (h1 b hb).2⟩⟩
theorem renT_rep {x y : TE} {v : Value} (h : HRep F H m w) {H2 : Hp} (hr : renT H hb hf x = some y) (hv : RepT F H m w x v) : RepT (hFr F m w hb hf) H2 (hMp m hb hf) w y v:=by
 cases x with
 | s x=>cases hr; exact RdS.mono (hStays h) hv
 | ln x=>cases hr; exact lent_hand h hv
 | u=>cases hr; trivial
 | own id ver =>
  simp only [renT] at hr
  split at hr
  ·rename_i B hB
   split at hr
   ·cases hr
   ·rename_i hc
    cases hr
    obtain ⟨hB1,hB2⟩:=curB_spec hB
    obtain ⟨rs,xs,hm,_⟩:=own_slice h hB1 hB2 hv
    refine ⟨fun b=>(F.S m b ∨ v.ownBlock = some b) ∧ b < w.heap.size,fun b hb=>⟨hb.2,fun hg=>?_⟩,(own_rd1 h hB1 hB2 hv).mono fun b hb hlt=>⟨⟨hb,hlt⟩,rfl⟩⟩
    rcases hb.1 with hS | ho
    ·exact own_not_S h (hG_own hg) hS
    ·rcases hG_mem.1 hg with ⟨i,h1,h2⟩ | ⟨i,v2,h1,h2,h3⟩
     ·exact h.ibf i id b v h2 hm ho
     ·have:=h.iff i id b v2 v h2 hm h3 ho
      subst this; simp at hc; exact hc h1
  ·cases hr
 | bx id off =>
  obtain ⟨k,hk,rfl⟩:=Option.map_eq_some_iff.1 hr
  obtain ⟨b,hb,rfl⟩:=hv
  exact ⟨b,by simp [hMp,idx_some hk,hb],rfl⟩
 | mp id =>
  obtain ⟨k,hk,rfl⟩:=Option.map_eq_some_iff.1 hr
  obtain ⟨b,hb,rfl⟩:=hv
  exact ⟨b,by simp [hMp,idx_some hk,hb],rfl⟩
theorem renA_rep {x y : AV} {v : Value} (h : HRep F H m w) {H2 : Hp} {bf : List (Nat × Buf)} (hbf : hpF H 0 hf = some bf) (hH2 : H2.buf = bf) (hr : renA H hb hf x = some y) (hv : RepA F H m w x v) : RepA (hFr F m w hb hf) H2 (hMp m hb hf) w y v:=by
 have hst:=hStays (hb:=hb) (hf:=hf) h
 cases x with
 | c x=>cases hr; exact Rd.mono hst hv
 | g xs=>cases hr; obtain ⟨vs,rfl,hl⟩:=hv; exact ⟨vs,rfl,hl.mono hst⟩
 | t l=>cases hr; obtain ⟨vs,rfl,hs,hl⟩:=hv; exact ⟨vs,rfl,hs,fun j y u hy hu=>(hl j y u hy hu).mono hst⟩
 | bx id off =>
  obtain ⟨k,hk,rfl⟩:=Option.map_eq_some_iff.1 hr
  obtain ⟨b,hb,rfl⟩:=hv
  exact ⟨b,by simp [hMp,idx_some hk,hb],rfl⟩
 | mp id =>
  obtain ⟨k,hk,rfl⟩:=Option.map_eq_some_iff.1 hr
  obtain ⟨b,hb,rfl⟩:=hv
  exact ⟨b,by simp [hMp,idx_some hk,hb],rfl⟩
 | own id ver =>
  simp only [renA] at hr
  split at hr
  ·rename_i B hB
   obtain ⟨k,hk,rfl⟩:=Option.map_eq_some_iff.1 hr
   obtain ⟨hB1,hB2⟩:=curB_spec hB
   obtain ⟨h1,B',hB',hle,hm⟩:=hv
   rw [hB1] at hB'; cases hB'
   obtain ⟨B'',g1,g2⟩:=(hpF_get hbf).2 (idx_some hk)
   rw [hB1] at g1; cases g1
   rw [Nat.zero_add] at g2
   exact ⟨h1,{ B with ver:=0 },by rw [hH2]; exact g2,Nat.zero_le _,fun _=>by simp [hMp,idx_some hk,hm hB2]⟩
  ·cases hr
 | fn f caps =>
  obtain ⟨l,hl,rfl⟩:=Option.map_eq_some_iff.1 hr
  obtain ⟨vs,rfl,hs,hrep⟩:=hv
  obtain ⟨g1,g2⟩:=renTs_get hl
  refine ⟨vs,rfl,by omega,fun j y u hy hu=>?_⟩
  have hj : j < caps.length:=by have:=(List.getElem?_eq_some_iff.1 hy).1; omega
  have hx : caps[j]? = some caps[j]:=List.getElem?_eq_getElem hj
  exact renT_rep h (g2 j _ y hx hy) (hrep j _ u hx hu)
 | mc con=>exact hv.elim
 | u=>cases hr; trivial
 | oel id ver i off=>cases hr
 | win id ver i off=>cases hr
 | bw k lo len=>cases hr
 | bel k i off=>cases hr
 | el xs=>cases hr
 | tt l=>cases hr
 | gt l =>
  obtain ⟨l',hl,rfl⟩:=Option.map_eq_some_iff.1 hr
  obtain ⟨vs,rfl,hs,hrep⟩:=hv
  obtain ⟨g1,g2⟩:=renTs_get hl
  refine ⟨vs,rfl,by omega,fun j y u hy hu=>?_⟩
  have hj : j < l.length:=by have:=(List.getElem?_eq_some_iff.1 hy).1; omega
  have hx : l[j]? = some l[j]:=List.getElem?_eq_getElem hj
  exact renT_rep h (g2 j _ y hx hy) (hrep j _ u hx hu)
 | lw l=>cases hr
 | anc id b=>cases hr
 | ln x=>cases hr; exact lent_hand h hv
 | lk id ver v=>cases hr
 | vf c=>cases hr
theorem hand_rep (h : HRep F H m w) {bx : List (Nat × List AV)} {bf : List (Nat × Buf)} (hbx : hpB H hb hf 0 hb = some bx) (hbf : hpF H 0 hf = some bf) (hn1 : nodupB hb = true) (hn2 : nodupB hf = true) :
  HRep (hFr F m w hb hf) ⟨bx,bf,[]⟩ (hMp m hb hf) w:=by
 have hst:=hStays (hb:=hb) (hf:=hf) h
 refine ⟨rfl,rfl,rfl,Nat.le_refl _,fun _ _ _=>rfl,fun b ho=>.inr (hMp_own ho),fun b hbG=>⟨hbG,own_lt h (hG_own hbG)⟩,(fun _ _ _ hh=>by cases hh),(fun _ _ _ _ _ hh=>by cases hh),?_,?_,?_,?_,?_,(fun _ _ hh=>by cases hh)⟩
 ·intro i j b hi hj
  obtain ⟨x,hx,hx2⟩:=Option.bind_eq_some_iff.1 hi
  obtain ⟨y,hy,hy2⟩:=Option.bind_eq_some_iff.1 hj
  have:=h.ibb x y b hx2 hy2
  subst this
  exact nodupB_inj hn1 hx hy
 ·intro i j b v hi hj
  obtain ⟨x,hx,hx2⟩:=Option.bind_eq_some_iff.1 hi
  obtain ⟨y,hy,hy2⟩:=Option.bind_eq_some_iff.1 hj
  exact h.ibf x y b v hx2 hy2
 ·intro i j b u v hi hj hu hv
  obtain ⟨x,hx,hx2⟩:=Option.bind_eq_some_iff.1 hi
  obtain ⟨y,hy,hy2⟩:=Option.bind_eq_some_iff.1 hj
  have:=h.iff x y b u v hx2 hy2 hu hv
  subst this
  exact nodupB_inj hn2 hx hy
 ·intro i b hi
  obtain ⟨x,hx,hx2⟩:=Option.bind_eq_some_iff.1 hi
  obtain ⟨cs,cs',e1,e2,e3⟩:=hpB_get hbx hx
  rw [Nat.zero_add] at e3
  obtain ⟨cs2,f1,f2⟩:=h.box x b hx2
  rw [e1] at f1; cases f1
  refine ⟨cs',e3,?_⟩
  obtain ⟨g1,g2⟩:=renL_get e2
  cases hm : isM cs with
  | true =>
   obtain ⟨con,rfl⟩:=isM_some hm
   obtain ⟨es,ck,k1,k2⟩:=f2
   have : cs' = [.mc con]:=by
    match cs',g1 with
    | [y],_ =>
     have:=g2 0 _ _ rfl rfl
     cases this; rfl
   subst this
   exact ⟨es,ck,k1,k2.mono hst⟩
  | false =>
   obtain ⟨arr,e,k1,k2,k3⟩:=f2.cells hm
   refine .of k1 (by omega) fun j y u hy hu=>?_
   have hj : j < cs.length:=by have:=(List.getElem?_eq_some_iff.1 hy).1; omega
   have hxx : cs[j]? = some cs[j]:=List.getElem?_eq_getElem hj
   exact ⟨(k3 j _ u hxx hu).1,renA_rep h hbf rfl (g2 j _ y hxx hy) (k3 j _ u hxx hu).2⟩
 ·intro i v hi
  obtain ⟨x,hx,hx2⟩:=Option.bind_eq_some_iff.1 hi
  obtain ⟨B,e1,e2⟩:=(hpF_get hbf).2 hx
  rw [Nat.zero_add] at e2
  obtain ⟨B2,rs,xs,f1,f2,f3,f4,f5,f6⟩:=h.buf x v hx2
  rw [e1] at f1; cases f1
  exact ⟨_,rs,xs,e2,f2,f3,f4,f5,fun i j y hy=>let ⟨u,hu,hr⟩:=f6 i j y hy; ⟨u,hu,hr.mono hst⟩⟩
end
end Go.Abs
namespace Go.Abs
set_option linter.unusedSimpArgs false
set_option linter.unusedVariables false
open Go.RowKit
variable {P : Program}
theorem look_append {α : Type} : ∀ (l l2 : List (Nat × α)) (k : Nat),look (l ++ l2) k = match look l k with | some x=>some x | none=>look l2 k
 | [],l2,k=>rfl
 | (i,x) :: l,l2,k=>by
  simp only [List.cons_append,look]
  split
  ·rfl
  ·exact look_append l l2 k
theorem look_mapk {α β : Type} (f : Nat → Nat) (g : α → β) (hinj : ∀ i j,f i = f j → i = j) : ∀ (l : List (Nat × α)) (i : Nat),look (l.map fun p=>(f p.1,g p.2)) (f i) = (look l i).map g
 | [],i=>rfl
 | (j,x) :: l,i=>by
  simp only [List.map_cons,look,look_mapk f g hinj l i]
  by_cases h : j = i
  ·subst h; simp
  ·have h1 : (j == i) = false:=by simp [h]
   have h2 : (f j == f i) = false:=by simp; exact fun e=>h (hinj _ _ e)
   simp [h1,h2]
theorem look_mapn {α β : Type} (f : Nat → Nat) (g : α → β) (k : Nat) (hk : ∀ i,f i ≠ k) : ∀ (l : List (Nat × α)),look (l.map fun p=>(f p.1,g p.2)) k = none
 | []=>rfl
 | (j,x) :: l=>by
  have h2 : (f j == k) = false:=by simp; exact hk j
  simp [look,h2,look_mapn f g k hk l]
section
variable {F : Fr} {H H' : Hp} {m m' : Mp} {w w' : World} {hb hf : List Nat} {nx : Nat} {bs : Nat → Nat}
def bMp (m m' : Mp) (nx : Nat) (hb hf : List Nat) : Mp :=
 ⟨fun i=>if nx ≤ i then (if hb.length ≤ i - nx then m'.bx (i - nx) else none) else m.bx i,fun i=>if nx ≤ i then m'.bf (i - nx) else if hf.contains i then none else m.bf i⟩
structure Back (F : Fr) (H H' : Hp) (m m' : Mp) (w w' : World) (hb hf : List Nat) (nx : Nat) : Prop where
 h : HRep F H m w
 h' : HRep (hFr F m w hb hf) H' m' w'
 free : ∀ i,nx ≤ i → m.bx i = none ∧ m.bf i = none
 n1 : nodupB hb = true
 lt : ∀ id,id ∈ hb → id < nx
 ltF : ∀ id B,look H.buf id = some B → id < nx
 an : ∀ i id,hb[i]? = some id → ∃ b,m.bx id = some b ∧ m'.bx i = some b
theorem Back.own (k : Back F H H' m m' w w' hb hf nx) {b : Nat} (ho : Own (bMp m m' nx hb hf) b) : (Own m b ∧ b ∉ hG m hb hf) ∨ Own m' b:=by
 have old : ∀ b,Own m b → b ∈ hG m hb hf → (∃ i,m.bx i = some b) → Own m' b:=by
  rintro b _ hg ⟨i,hi⟩
  rcases hG_mem.1 hg with ⟨id,h1,h2⟩ | ⟨id,v,h1,h2,h3⟩
  ·obtain ⟨j,hj⟩:=List.getElem?_of_mem h1
   obtain ⟨b',e1,e2⟩:=k.an j id hj
   rw [h2] at e1; cases e1
   exact .inl ⟨j,e2⟩
  ·exact absurd h3 (k.h.ibf i id b v hi h2)
 rcases ho with ⟨i,hi⟩ | ⟨i,v,hv,hvb⟩
 ·simp only [bMp] at hi
  split at hi
  ·split at hi
   ·exact .inr (.inl ⟨_,hi⟩)
   ·cases hi
  ·by_cases hg : b ∈ hG m hb hf
   ·exact .inr (old b (.inl ⟨i,hi⟩) hg ⟨i,hi⟩)
   ·exact .inl ⟨.inl ⟨i,hi⟩,hg⟩
 ·simp only [bMp] at hv
  split at hv
  ·exact .inr (.inr ⟨_,v,hv,hvb⟩)
  ·split at hv
   ·cases hv
   ·rename_i hc
    refine .inl ⟨.inr ⟨i,v,hv,hvb⟩,fun hg=>?_⟩
    rcases hG_mem.1 hg with ⟨id,h1,h2⟩ | ⟨id,v2,h1,h2,h3⟩
    ·exact k.h.ibf id i b v h2 hv hvb
    ·have:=k.h.iff i id b v v2 hv h2 hvb h3
     subst this
     simp at hc; exact hc h1
theorem Back.apart (k : Back F H H' m m' w w' hb hf nx) {b : Nat} (ho : Own m' b) (hlt : b < w.heap.size) : b ∈ hG m hb hf:=by
 rcases k.h'.fresh b ho with h | h
 ·exact absurd hlt (Nat.not_lt.2 h)
 ·exact h
theorem Back.block (k : Back F H H' m m' w w' hb hf nx) {b : Nat} (hlt : b < w.heap.size) (hg : b ∉ hG m hb hf) : w'.heap[b]? = w.heap[b]?:=k.h'.block b hlt hg
theorem Back.S (k : Back F H H' m m' w w' hb hf nx) {b : Nat} (hS : F.S m b) (hlt : b < w.heap.size) : F.S (bMp m m' nx hb hf) b:=by
 have hno : ¬ Own m b:=fun ho=>own_not_S k.h ho hS
 rcases hS with hS | ⟨h1,_⟩
 ·exact .inl hS
 ·refine .inr ⟨h1,fun ho=>?_⟩
  rcases k.own ho with ⟨h,_⟩ | h
  ·exact hno h
  ·exact hno (hG_own (k.apart h hlt))
theorem Back.stays (k : Back F H H' m m' w w' hb hf nx) : Stays ((hFr F m w hb hf).S m') (F.S (bMp m m' nx hb hf)) w' w':=by
 intro b hS _
 refine ⟨?_,rfl⟩
 rcases hS with ⟨h1,h2,_⟩ | ⟨h1,h2⟩
 ·exact k.S h1 h2
 ·refine .inr ⟨?_,fun ho=>?_⟩
  ·rcases h1 with h1 | h1
   ·exact .inl (Nat.le_trans k.h.size h1)
   ·exact k.h.fresh b (hG_own h1)
  ·rcases k.own ho with ⟨h,hg⟩ | h
   ·rcases h1 with h1 | h1
    ·exact absurd (own_lt k.h h) (Nat.not_lt.2 h1)
    ·exact hg h1
   ·exact h2 h
theorem Back.inj (k : Back F H H' m m' w w' hb hf nx) (i j : Nat) (he : bk nx hb i = bk nx hb j) : i = j:=by
 unfold bk at he
 cases hi : hb[i]? with
 | some a =>
  cases hj : hb[j]? with
  | some b =>
   rw [hi,hj] at he
   simp only at he
   subst he
   exact nodupB_inj k.n1 hi hj
  | none =>
   rw [hi,hj] at he
   have:=k.lt a (List.mem_of_getElem? hi); simp only at he; omega
 | none =>
  cases hj : hb[j]? with
  | some b =>
   rw [hi,hj] at he
   have:=k.lt b (List.mem_of_getElem? hj); simp only at he; omega
  | none=>rw [hi,hj] at he; simp only at he; omega
theorem Back.buf (k : Back F H H' m m' w w' hb hf nx) {i : Nat} {B : Buf} (hB : look H'.buf i = some B) : look (backH H nx hb hf H').buf (nx + i) = some B:=by
 show look ((H'.buf.map fun p=>(nx + p.1,p.2)) ++ _) (nx + i) = _
 rw [look_append,look_mapk (fun i=>nx + i) (fun B : Buf=>B) (fun i j h=>by simpa using h),hB]; rfl
theorem Back.box (k : Back F H H' m m' w w' hb hf nx) {i : Nat} {cs : List AV} (hB : look H'.box i = some cs) : look (backH H nx hb hf H').box (bk nx hb i) = some (cs.map (bakA nx hb)):=by
 show look ((H'.box.map fun p=>(bk nx hb p.1,p.2.map (bakA nx hb))) ++ _) _ = _
 rw [look_append,look_mapk (bk nx hb) (List.map (bakA nx hb)) k.inj,hB]; rfl
theorem Back.bxe (k : Back F H H' m m' w w' hb hf nx) {i b : Nat} (hi : m'.bx i = some b) : (bMp m m' nx hb hf).bx (bk nx hb i) = some b:=by
 unfold bk
 cases hx : hb[i]? with
 | some id =>
  obtain ⟨b',e1,e2⟩:=k.an i id hx
  rw [hi] at e2; cases e2
  have:=k.lt id (List.mem_of_getElem? hx)
  simp only [bMp]
  rw [if_neg (by omega)]; exact e1
 | none =>
  have:=List.getElem?_eq_none_iff.1 hx
  simp only [bMp]
  rw [if_pos (by omega),if_pos (by omega),show nx + i - nx = i by omega]; exact hi
theorem Back.repT (k : Back F H H' m m' w w' hb hf nx) {x : TE} {v : Value} (h : RepT (hFr F m w hb hf) H' m' w' x v) : RepT F (backH H nx hb hf H') (bMp m m' nx hb hf) w' (bakT nx hb x) v:=by
 cases x with
 | s x=>exact RdS.mono k.stays h
 | own id ver =>
  obtain ⟨h1,B,hB,hv,hm⟩:=h
  refine ⟨h1,B,k.buf hB,hv,fun e=>?_⟩
  simp only [bMp]
  rw [if_pos (by omega),show nx + id - nx = id by omega]; exact hm e
 | bx id off=>obtain ⟨b,hb,rfl⟩:=h; exact ⟨b,k.bxe hb,rfl⟩
 | mp id=>obtain ⟨b,hb,rfl⟩:=h; exact ⟨b,k.bxe hb,rfl⟩
 | ln x=>trivial
 | u=>trivial
theorem Back.rep (k : Back F H H' m m' w w' hb hf nx) {x : AV} {v : Value} (h : RepA (hFr F m w hb hf) H' m' w' x v) : RepA F (backH H nx hb hf H') (bMp m m' nx hb hf) w' (bakA nx hb x) v:=by
 have caps : ∀ (l : List TE) (vs : Array Value),(∀ (j : Nat) y u,l[j]? = some y → vs[j]? = some u → RepT (hFr F m w hb hf) H' m' w' y u) → ∀ (j : Nat) y u,(l.map (bakT nx hb))[j]? = some y → vs[j]? = some u → RepT F (backH H nx hb hf H') (bMp m m' nx hb hf) w' y u:=by
  intro l vs hl j y u hy hu
  rw [List.getElem?_map] at hy
  obtain ⟨y',hy',rfl⟩:=Option.map_eq_some_iff.1 hy
  exact k.repT (hl j y' u hy' hu)
 cases x with
 | c x=>exact Rd.mono k.stays h
 | g xs=>obtain ⟨vs,rfl,hl⟩:=h; exact ⟨vs,rfl,hl.mono k.stays⟩
 | t l=>obtain ⟨vs,rfl,hs,hl⟩:=h; exact ⟨vs,rfl,hs,fun j y u hy hu=>(hl j y u hy hu).mono k.stays⟩
 | bx id off=>exact k.repT (x:=.bx id off) h
 | mp id=>exact k.repT (x:=.mp id) h
 | own id ver=>exact k.repT (x:=.own id ver) h
 | fn f l=>obtain ⟨vs,rfl,hs,hl⟩:=h; exact ⟨vs,rfl,by simpa using hs,caps l vs hl⟩
 | tt l=>obtain ⟨vs,rfl,hs,hl⟩:=h; exact ⟨vs,rfl,by simpa using hs,caps l vs hl⟩
 | gt l=>obtain ⟨vs,rfl,hs,hl⟩:=h; exact ⟨vs,rfl,by simpa using hs,caps l vs hl⟩
 | lw l=>trivial
 | mc con=>exact h
 | el xs =>
  obtain ⟨b,off,rfl,hS,hc⟩:=h
  refine ⟨b,off,rfl,fun hne=>?_,fun j y hy=>let ⟨u,hu,hr⟩:=hc j y hy; ⟨u,hu,hr.mono k.stays⟩⟩
  obtain ⟨y,ys,rfl⟩:=List.exists_cons_of_ne_nil hne
  obtain ⟨u,hu,_⟩:=hc 0 y rfl
  exact (k.stays b (hS hne) (block_lt hu)).1
 | oel id ver i off=>trivial
 | win id ver i off=>trivial
 | bw k lo len=>trivial
 | bel k i off=>trivial
 | anc id b=>trivial
 | ln x=>trivial
 | lk id ver v=>trivial
 | vf c=>trivial
 | u=>trivial
theorem Back.later (k : Back F H H' m m' w w' hb hf nx) : Later F H m w (backH H nx hb hf H') (bMp m m' nx hb hf) w':=by
 refine ⟨fun b hS hlt=>⟨k.S hS hlt,k.block hlt fun hg=>own_not_S k.h (hG_own hg) hS⟩,fun i b hi=>?_,fun id B hB=>?_,fun j B hB=>⟨B,hB,rfl⟩⟩
 ·have : i < nx:=by
   rcases Nat.lt_or_ge i nx with h | h
   ·exact h
   ·rw [(k.free i h).1] at hi; cases hi
  simp only [bMp]; rw [if_neg (by omega)]; exact hi
 ·have hlt:=k.ltF id B hB
  have e1 : look (backH H nx hb hf H').buf id = look (bump H hf ++ H.buf) id:=by
   show look ((H'.buf.map fun p=>(nx + p.1,p.2)) ++ _) id = _
   rw [look_append,look_mapn (fun i=>nx + i) (fun B=>B) id (fun i=>by omega)]
  by_cases hm : id ∈ hf
  ·refine ⟨{ B with ver:=B.ver + 1 },?_,Nat.le_succ _,fun e=>absurd e (Nat.succ_ne_self _)⟩
   rw [e1,look_append,(bump_get (H:=H)).1 hm,hB]; rfl
  ·refine ⟨B,?_,Nat.le_refl _,fun _=>⟨fun v hv=>?_,rfl⟩⟩
   ·rw [e1,look_append,(bump_get (H:=H)).2 hm]; exact hB
   ·simp only [bMp]; rw [if_neg (by omega),if_neg (by simpa using hm)]; exact hv
theorem Back.hrep (k : Back F H H' m m' w w' hb hf nx) : HRep F (backH H nx hb hf H') (bMp m m' nx hb hf) w':=by
 have hlat:=k.later
 have hold : ∀ {i : Nat} {v : Value},¬ nx ≤ i → (if hf.contains i then none else m.bf i) = some v → m.bf i = some v ∧ i ∉ hf:=by
  intro i v _ h
  split at h
  ·cases h
  ·rename_i hc; exact ⟨h,by simpa using hc⟩
 refine ⟨k.h'.os.trans k.h.os,k.h'.tape.trans k.h.tape,k.h'.output.trans k.h.output,Nat.le_trans k.h.size k.h'.size,?_,?_,k.h.gB,k.h.brB,k.h.bri,?_,?_,?_,?_,?_,?_⟩
 ·intro b hb1 hb2
  rw [k.block (Nat.lt_of_lt_of_le hb1 k.h.size) (fun hg=>hb2 (own_out k.h (hG_own hg) hb1))]
  exact k.h.block b hb1 hb2
 ·intro b ho
  rcases k.own ho with ⟨h,_⟩ | h
  ·exact k.h.fresh b h
  ·rcases k.h'.fresh b h with h2 | h2
   ·exact .inl (Nat.le_trans k.h.size h2)
   ·exact k.h.fresh b (hG_own h2)
 ·-- boxes
  have cross : ∀ i j b,m.bx i = some b → m'.bx j = some b → hb.length ≤ j → False:=by
   intro i j b hi hj hlj
   have hg:=k.apart (.inl ⟨j,hj⟩) (own_lt k.h (.inl ⟨i,hi⟩))
   rcases hG_mem.1 hg with ⟨id,h1,h2⟩ | ⟨id,v,h1,h2,h3⟩
   ·obtain ⟨q,hq⟩:=List.getElem?_of_mem h1
    obtain ⟨b',e1,e2⟩:=k.an q id hq
    rw [h2] at e1; cases e1
    have:=k.h'.ibb q j b e2 hj
    have:=(List.getElem?_eq_some_iff.1 hq).1
    omega
   ·exact k.h.ibf i id b v hi h2 h3
  intro i j b hi hj
  simp only [bMp] at hi hj
  split at hi <;> split at hj
  ·split at hi
   ·split at hj
    ·have:=k.h'.ibb _ _ b hi hj; omega
    ·cases hj
   ·cases hi
  ·split at hi
   ·rename_i hl; exact (cross j _ b hj hi hl).elim
   ·cases hi
  ·split at hj
   ·rename_i hl; exact (cross i _ b hi hj hl).elim
   ·cases hj
  ·exact k.h.ibb i j b hi hj
 ·intro i j b v hi hj hv
  simp only [bMp] at hi hj
  split at hi <;> split at hj
  ·split at hi
   ·exact k.h'.ibf _ _ b v hi hj hv
   ·cases hi
  ·split at hi
   ·rename_i hnj hl
    obtain ⟨hj,hnf⟩:=hold hnj hj
    have hg:=k.apart (.inl ⟨_,hi⟩) (own_lt k.h (.inr ⟨j,v,hj,hv⟩))
    rcases hG_mem.1 hg with ⟨id,h1,h2⟩ | ⟨id,v2,h1,h2,h3⟩
    ·exact k.h.ibf id j b v h2 hj hv
    ·have:=k.h.iff j id b v v2 hj h2 hv h3
     subst this; exact hnf h1
   ·cases hi
  ·have hg:=k.apart (.inr ⟨_,v,hj,hv⟩) (own_lt k.h (.inl ⟨i,hi⟩))
   rcases hG_mem.1 hg with ⟨id,h1,h2⟩ | ⟨id,v2,h1,h2,h3⟩
   ·obtain ⟨q,hq⟩:=List.getElem?_of_mem h1
    obtain ⟨b',e1,e2⟩:=k.an q id hq
    rw [h2] at e1; cases e1
    exact k.h'.ibf q _ b v e2 hj hv
   ·exact k.h.ibf i id b v2 hi h2 h3
  ·rename_i hnj
   exact k.h.ibf i j b v hi (hold hnj hj).1 hv
 ·have cross : ∀ i j b u v,m.bf i = some u → i ∉ hf → m'.bf j = some v → u.ownBlock = some b → v.ownBlock = some b → False:=by
   intro i j b u v hi hnf hj hu hv
   have hg:=k.apart (.inr ⟨j,v,hj,hv⟩) (own_lt k.h (.inr ⟨i,u,hi,hu⟩))
   rcases hG_mem.1 hg with ⟨id,h1,h2⟩ | ⟨id,v2,h1,h2,h3⟩
   ·exact k.h.ibf id i b u h2 hi hu
   ·have:=k.h.iff i id b u v2 hi h2 hu h3
    subst this; exact hnf h1
  intro i j b u v hi hj hu hv
  simp only [bMp] at hi hj
  split at hi <;> split at hj
  ·have:=k.h'.iff _ _ b u v hi hj hu hv; omega
  ·rename_i hnj
   obtain ⟨hj,hnf⟩:=hold hnj hj
   exact (cross j _ b v u hj hnf hi hv hu).elim
  ·rename_i hni _
   obtain ⟨hi,hnf⟩:=hold hni hi
   exact (cross i _ b u v hi hnf hj hu hv).elim
  ·rename_i hni hnj
   exact k.h.iff i j b u v (hold hni hi).1 (hold hnj hj).1 hu hv
 ·have fromC : ∀ q b,m'.bx q = some b → ∃ cs,look (backH H nx hb hf H').box (bk nx hb q) = some cs ∧ BoxIs F (backH H nx hb hf H') (bMp m m' nx hb hf) w' b cs:=by
   intro q b hq
   obtain ⟨cs,h1,h2⟩:=k.h'.box q b hq
   refine ⟨_,k.box h1,?_⟩
   cases hm : isM cs with
   | true =>
    obtain ⟨con,rfl⟩:=isM_some hm
    obtain ⟨es,ck,e1,e2⟩:=h2
    exact ⟨es,ck,e1,e2.mono k.stays⟩
   | false =>
    obtain ⟨arr,e,e1,e2,e3⟩:=h2.cells hm
    refine .of e1 (by simpa using e2) fun j y u hy hu=>?_
    rw [List.getElem?_map] at hy
    obtain ⟨y',hy',rfl⟩:=Option.map_eq_some_iff.1 hy
    exact ⟨(e3 j y' u hy' hu).1,k.rep (e3 j y' u hy' hu).2⟩
  intro i b hi
  simp only [bMp] at hi
  split at hi
  ·rename_i hni
   split at hi
   ·rename_i hl
    obtain ⟨cs,h1,h2⟩:=fromC _ b hi
    have e : bk nx hb (i - nx) = i:=by
     unfold bk
     rw [List.getElem?_eq_none hl]; simp only; omega
    rw [e] at h1
    exact ⟨cs,h1,h2⟩
   ·cases hi
  ·rename_i hni
   by_cases hm : i ∈ hb
   ·obtain ⟨q,hq⟩:=List.getElem?_of_mem hm
    obtain ⟨b',e1,e2⟩:=k.an q i hq
    rw [hi] at e1; cases e1
    obtain ⟨cs,h1,h2⟩:=fromC q b e2
    have e : bk nx hb q = i:=by unfold bk; rw [hq]
    rw [e] at h1
    exact ⟨cs,h1,h2⟩
   ·obtain ⟨cs,h1,h2⟩:=k.h.box i b hi
    refine ⟨cs,?_,h2.mono hlat (k.block h2.lt fun hg=>?_)⟩
    ·show look ((H'.box.map fun p=>(bk nx hb p.1,p.2.map (bakA nx hb))) ++ _) i = _
     rw [look_append,look_mapn (bk nx hb) (List.map (bakA nx hb)) i fun q hq=>?_]
     ·exact h1
     ·unfold bk at hq
      split at hq
      ·rename_i id hid; subst hq; exact hm (List.mem_of_getElem? hid)
      ·omega
    ·rcases hG_mem.1 hg with ⟨id,g1,g2⟩ | ⟨id,v2,g1,g2,g3⟩
     ·have:=k.h.ibb i id b hi g2
      subst this; exact hm g1
     ·exact k.h.ibf i id b v2 hi g2 g3
 ·intro i v hv
  simp only [bMp] at hv
  split at hv
  ·rename_i hni
   obtain ⟨B,rs,xs,h1,h2,h3,h4,h5,h6⟩:=k.h'.buf _ v hv
   have:=k.buf h1
   rw [show nx + (i - nx) = i by omega] at this
   exact ⟨B,rs,xs,this,h2,h3,h4,h5,fun i j y hy=>let ⟨u,hu,hr⟩:=h6 i j y hy; ⟨u,hu,hr.mono k.stays⟩⟩
  ·rename_i hni
   obtain ⟨hv,hnf⟩:=hold hni hv
   obtain ⟨B,rs,xs,h1,h2,h3,h4,h5,h6⟩:=k.h.buf i v hv
   refine ⟨B,rs,xs,?_,h2,h3,h4,ownsR_same h5 fun g hg=>?_,fun i j y hy=>let ⟨u,hu,hr⟩:=h6 i j y hy; ⟨u,hu,hr.mono hlat.st⟩⟩
   ·show look ((H'.buf.map fun p=>(nx + p.1,p.2)) ++ _) i = _
    rw [look_append,look_mapn (fun i=>nx + i) (fun B=>B) i (fun j=>by omega)]
    simp only
    rw [look_append,(bump_get (H:=H)).2 hnf]; exact h1
   ·refine k.block (own_lt k.h (.inr ⟨i,v,hv,hg⟩)) fun hgg=>?_
    rcases hG_mem.1 hgg with ⟨id,g1,g2⟩ | ⟨id,v2,g1,g2,g3⟩
    ·exact k.h.ibf id i g v g2 hv hg
    ·have:=k.h.iff i id g v v2 hv g2 hg g3
     subst this; exact hnf g1
 ·intro j v hv
  obtain ⟨B,rs,xs,h1,h2,h3,h4,h5,h6⟩:=k.h.bor j v hv
  refine ⟨B,rs,xs,h1,h2,h3,h4,ownsR_same h5 fun g hg=>?_,fun i j y hy=>let ⟨u,hu,hr⟩:=h6 i j y hy; ⟨u,hu,hr.mono hlat.st⟩⟩
  exact k.block (Nat.lt_of_lt_of_le (k.h.brB j v g hv hg).2.1 k.h.size) fun hgg=>(br_not_S k.h hv hg).2 (hG_own hgg)
theorem Back.fr (k : Back F H H' m m' w w' hb hf nx) : ∀ i,nx + (topN H'.box + topN H'.buf) ≤ i → (bMp m m' nx hb hf).bx i = none ∧ (bMp m m' nx hb hf).bf i = none:=by
 intro i hi
 have e : nx ≤ i:=by omega
 simp only [bMp,if_pos e]
 constructor
 ·split
  ·cases hx : m'.bx (i - nx) with
   | none=>rfl
   | some b =>
    obtain ⟨cs,h1,_⟩:=k.h'.box _ b hx
    have:=topN_lt h1; omega
  ·rfl
 ·cases hx : m'.bf (i - nx) with
  | none=>rfl
  | some v =>
   obtain ⟨B,_,_,h1,_⟩:=k.h'.buf _ v hx
   have:=topN_lt h1; omega
end
theorem tupA_rep {F : Fr} {H : Hp} {m : Mp} {w : World} {rs : List AV} {vs : List Value} {v : Value} (hl : vs.length = rs.length) (hv : v = tupV vs) (h : ∀ (j : Nat) y u,rs[j]? = some y → vs[j]? = some u → RepA F H m w y u) : RepA F H m w (tupA rs) v:=by
 have all : ∀ {l : List AV} {l' : List (C ⊕ List C)},allTE l = some l' → l'.length = l.length ∧ ∀ (j : Nat) x y u,l[j]? = some x → l'[j]? = some y → RepA F H m w x u → RdS w (F.S m) y u:=by
  intro l
  induction l with
  | nil=>intro l' h; simp [allTE] at h; subst h; simp
  | cons x l ih =>
   intro l' h
   cases x with
   | c x =>
    obtain ⟨l2,h2,rfl⟩:=Option.map_eq_some_iff.1 h
    obtain ⟨g1,g2⟩:=ih h2
    refine ⟨by simp [g1],fun j a b u ha hb hu=>?_⟩
    match j with
    | 0=>simp at ha hb; subst ha; subst hb; exact hu
    | j + 1=>exact g2 j a b u (by simpa using ha) (by simpa using hb) hu
   | g x =>
    obtain ⟨l2,h2,rfl⟩:=Option.map_eq_some_iff.1 h
    obtain ⟨g1,g2⟩:=ih h2
    refine ⟨by simp [g1],fun j a b u ha hb hu=>?_⟩
    match j with
    | 0=>simp at ha hb; subst ha; subst hb; exact hu
    | j + 1=>exact g2 j a b u (by simpa using ha) (by simpa using hb) hu
   | _=>simp [allTE] at h
 unfold tupA
 split
 ·rename_i x
  match vs,hl with
  | [u],_ =>
   have hv' : v = u:=hv
   rw [hv']; exact h 0 x u rfl rfl
 ·rename_i hne
  have hv2 : v = .tuple vs.toArray:=by
   match vs,hl with
   | [],_=>exact hv
   | [u],hl=>match rs,hl with | [x],_=>exact absurd rfl (hne x)
   | _ :: _ :: _,_=>exact hv
  split
  ·rename_i l' hl'
   obtain ⟨g1,g2⟩:=all hl'
   refine ⟨_,hv2,by simp; omega,fun j y u hy hu=>?_⟩
   have hj : j < rs.length:=by have:=(List.getElem?_eq_some_iff.1 hy).1; omega
   have hx : rs[j]? = some rs[j]:=List.getElem?_eq_getElem hj
   exact g2 j _ y u hx hy (h j _ u hx (by simpa using hu))
  ·split
   ·rename_i hok
    refine ⟨_,hv2,by simpa using hl,fun j y u hy hu=>?_⟩
    rw [List.getElem?_map] at hy
    obtain ⟨x,hx,rfl⟩:=Option.map_eq_some_iff.1 hy
    have hr:=h j x u hx (by simpa using hu)
    have:=List.all_eq_true.1 hok x (List.mem_of_getElem? hx)
    cases x <;> first | exact hr | (simp [okTE] at this)
   ·trivial
theorem avId_bx {F : Fr} {H : Hp} {m : Mp} {w : World} {x : AV} {v : Value} {id : Nat} (h : RepA F H m w x v) (hi : id ∈ avId x) : ∃ b,m.bx id = some b:=by
 cases x <;> simp only [avId,List.mem_singleton,List.not_mem_nil,List.mem_flatMap] at hi
 ·subst hi; obtain ⟨b,hb,_⟩:=h; exact ⟨b,hb⟩
 ·subst hi; obtain ⟨b,hb,_⟩:=h; exact ⟨b,hb⟩
 ·obtain ⟨y,hy,hiy⟩:=hi
  obtain ⟨vs,rfl,hs,hl⟩:=h
  obtain ⟨j,hj⟩:=List.getElem?_of_mem hy
  have hlt:=(List.getElem?_eq_some_iff.1 hj).1
  have hr:=hl j y _ hj (Array.getElem?_eq_getElem (by omega))
  cases y <;> simp only [teId,List.mem_singleton,List.not_mem_nil] at hiy
  ·subst hiy; obtain ⟨b,hb,_⟩:=hr; exact ⟨b,hb⟩
  ·subst hiy; obtain ⟨b,hb,_⟩:=hr; exact ⟨b,hb⟩
theorem hand_ev {F : Fr} {H : Hp} {m : Mp} {w : World} {as : List AV} {vs : Array Value} (h : HRep F H m w) (hsz : vs.size = as.length) (hv : ∀ (j : Nat) y u,as[j]? = some y → vs[j]? = some u → RepA F H m w y u) : ∀ id,id ∈ handB H as → ∃ b,m.bx id = some b:=by
 have lvl : ∀ id,id ∈ handA H as → ∃ b,m.bx id = some b:=by
  intro id hid
  obtain ⟨x,hx,hi⟩:=List.mem_flatMap.1 (dd_mem hid)
  obtain ⟨j,hj⟩:=List.getElem?_of_mem hx
  have hlt:=(List.getElem?_eq_some_iff.1 hj).1
  exact avId_bx (hv j x _ hj (Array.getElem?_eq_getElem (by omega))) hi
 intro id hid
 rcases List.mem_append.1 hid with h1 | h1
 ·exact lvl id h1
 ·obtain ⟨x,hx,hi⟩:=List.mem_flatMap.1 (dd_mem (List.mem_filter.1 h1).1)
  obtain ⟨id2,cs,g1,g2,g3⟩:=cellsB_mem hx
  obtain ⟨b2,hb2⟩:=lvl id2 g1
  obtain ⟨cs',e1,e2⟩:=h.box id2 b2 hb2
  rw [g2] at e1; cases e1
  obtain ⟨j,hj⟩:=List.getElem?_of_mem g3
  cases hm : isM cs with
  | true =>
   obtain ⟨con,rfl⟩:=isM_some hm
   simp at g3; subst g3
   simp [avId] at hi
  | false =>
   obtain ⟨arr,e,k1,k2,k3⟩:=e2.cells hm
   have hlt:=(List.getElem?_eq_some_iff.1 hj).1
   exact avId_bx (k3 j x _ hj (Array.getElem?_eq_getElem (by omega))).2 hi
theorem callGT_core {f : FuncId} {tr : Hp → List AV → (Hp → List AV → Prop) → Prop} (htr : ∀ H as K,tr H as K → ∃ H' rs,RetG P f H as H' rs ∧ K H' rs) {H : Hp} {nx : Nat} {as : List AV} {K : AV → Hp → Nat → Prop} (h : callGT tr H nx as K) :
  ∃ r H' nx',K r H' nx' ∧ nx ≤ nx' ∧ ∀ (F : Fr) (m : Mp) (w : World) (vs : Array Value),HRep F H m w → (∀ i,nx ≤ i → m.bx i = none ∧ m.bf i = none) → vs.size = as.length → (∀ (j : Nat) y u,as[j]? = some y → vs[j]? = some u → RepA F H m w y u) →
   Calls P f vs w fun e w'=>∃ v,e = .returned v ∧ ∃ m',HRep F H' m' w' ∧ Later F H m w H' m' w' ∧ (∀ i,nx' ≤ i → m'.bx i = none ∧ m'.bf i = none) ∧ RepA F H' m' w' r v:=by
 unfold callGT at h
 split at h
 ·rename_i bx bf as' hbx hbf has
  obtain ⟨hck,htrK⟩:=h
  simp only [Bool.and_eq_true] at hck
  obtain ⟨⟨⟨n1,n2⟩,hlb⟩,hlf⟩:=hck
  obtain ⟨H',rs,hret,hmc,hbo,hK⟩:=htr _ _ _ htrK
  generalize hhb : handB H as = hb at *
  generalize hhf : handF H as = hf at *
  refine ⟨_,_,_,hK,Nat.le_add_right _ _,fun F m w vs hrep hfree hsz hv=>?_⟩
  have hev:=hand_ev hrep hsz hv
  rw [hhb] at hev
  have hlt : ∀ {α : Type} {l : List (Nat × α)},(l.all fun p=>decide (p.1 < nx)) = true → ∀ {i : Nat} {x : α},look l i = some x → i < nx:=by
   intro α l
   induction l with
   | nil=>intro _ i x h; simp [look] at h
   | cons p l ih =>
    intro hall i x hx
    simp only [List.all_cons,Bool.and_eq_true,decide_eq_true_eq] at hall
    simp only [look] at hx
    split at hx
    ·rename_i he; simp at he; omega
    ·exact ih hall.2 hx
  have hrepC:=hand_rep hrep hbx hbf n1 n2
  obtain ⟨g1,g2⟩:=renL_get has
  have hlen:=hpB_len hbx
  have hmx : ∀ i id,hb[i]? = some id → (hMp m hb hf).bx i = m.bx id:=fun i id hi=>by simp [hMp,hi]
  have hbs : ∀ i,i < (⟨bx,bf,[]⟩ : Hp).box.length → (hMp m hb hf).bx i = some (((hMp m hb hf).bx i).getD 0):=by
   intro i hi
   have hi2 : i < hb.length:=by rw [← hlen]; exact hi
   obtain ⟨b,hbb⟩:=hev _ (List.getElem_mem hi2)
   rw [hmx i _ (List.getElem?_eq_getElem hi2),hbb]; rfl
  refine (hret w (F.S m) (hG m hb hf) (hMp m hb hf) vs (fun i=>((hMp m hb hf).bx i).getD 0) hrepC hbs (fun i hi=>?_) (fun i hi=>?_) (by omega) (fun j y u hy hu=>?_)).mono fun e w' ⟨m',vs',v,he,h',han,hl,hv',hres⟩=>?_
  ·have : hb[i]? = none:=List.getElem?_eq_none (by rw [← hlen]; exact hi)
   simp [hMp,this]
  ·have : hf[i]? = none:=List.getElem?_eq_none (by rw [← (hpF_get hbf).1]; exact hi)
   simp [hMp,this]
  ·have hj : j < as.length:=by have:=(List.getElem?_eq_some_iff.1 hy).1; omega
   have hx : as[j]? = some as[j]:=List.getElem?_eq_getElem hj
   exact renA_rep hrep hbf rfl (g2 j _ y hx hy) (hv j _ u hx hu)
  ·have k : Back F H H' m m' w w' hb hf nx:=by
    refine ⟨hrep,h',hfree,n1,fun id hid=>?_,fun id B hB=>hlt hlf hB,fun i id hi=>?_⟩
    ·obtain ⟨b,hbb⟩:=hev id hid
     rcases Nat.lt_or_ge id nx with h | h
     ·exact h
     ·rw [(hfree id h).1] at hbb; cases hbb
    ·obtain ⟨b,hbb⟩:=hev id (List.mem_of_getElem? hi)
     have hi2:=(List.getElem?_eq_some_iff.1 hi).1
     refine ⟨b,hbb,?_⟩
     rw [han i (by show i < bx.length; omega),hmx i id hi,hbb]; rfl
   refine ⟨v,he,_,k.hrep,k.later,k.fr,tupA_rep (vs:=vs') (by simpa using hl) hv' fun j y u hy hu=>?_⟩
   rw [List.getElem?_map] at hy
   obtain ⟨y',hy',rfl⟩:=Option.map_eq_some_iff.1 hy
   exact k.rep (hres j y' u hy' hu)
 ·exact h.elim
theorem callGT_sound {cf : Cfg} (hcf : TblOk P cf) {H : Hp} {nx : Nat} {o : Oper} {ev : Operand → AV} {f : FuncId} {ct : CT} {caps : List TE} {fo : Operand} {args : Array Operand} {ts : Array TypeId} (hf : fnA (ev fo) = some (f,caps)) (hct : cf.tbl f = some ct) {tr : Hp → List AV → (Hp → List AV → Prop) → Prop} (hg : ct.g = some tr)
  (ho : o.op = .call { callee:=.value fo,args,argTypes:=ts }) {K : AV → Hp → Nat → Prop} (h : callGT tr H nx (args.toList.map ev ++ caps.map teAV) K) : ∃ r H' nx',K r H' nx' ∧ nx ≤ nx' ∧ ∀ F : Fr,OpW P F H H' nx nx' o ev r:=by
 obtain ⟨r,H',nx',hK,hnx,hcall⟩:=callGT_core ((hcf.2 f ct hct).2.1 tr hg) h
 refine ⟨r,H',nx',hK,hnx,fun F m w ρ hrep hfree hops=>?_⟩
 obtain ⟨cvs,hρf,hcs,hcr⟩:=fnA_rep hf (hops fo (by simp [ho,Op.operands,Call.operands]))
 obtain ⟨k1,k2⟩:=args_rep (args:=args) (ev:=ev) (ρ:=ρ) (fun x hx=>hops x (by simp only [ho,Op.operands,Call.operands]; simp [hx])) hcs hcr
 unfold Exec
 rw [enter_run hcf hct ho hρf w]
 exact hcall F m w _ hrep hfree k1 k2
end Go.Abs

namespace Go.Abs
set_option linter.unusedSimpArgs false
set_option linter.unusedVariables false
open Go.RowKit

variable {P : Program}

def gF (cf : Cfg) (f : FuncId) : Option (Hp → List AV → (Hp → List AV → Prop) → Prop):=match cf.tbl f with | some ct=>ct.g | none=>none
def gV (cf : Cfg) (x : AV) : Bool:=match fnA x with | some (f,_)=>(gF cf f).isSome | none=>false
def ownF (cf : Cfg) (f : FuncId) : Bool:=match cf.tbl f with | some ct=>ct.own.isSome || ct.win.isSome | none=>false
def cutA (cf : Cfg) (f : FuncId) (args : List AV) : Bool:=match cf.tbl f with | some ct=>ct.cut.isSome && isOne args | none=>false
def isOel : AV → Bool
 | .oel _ _ _ _=>true
 | _=>false
def fzB (cf : Cfg) (st : St) : Op → Bool
 | .store _ a x=>isOel (st.ev a) && isOwn (st.ev x)
 | .call c=>match c.callee with
  | .value (.func f)=>match cf.tbl f with | some ct=>!ct.fresh && !ct.own.isSome && !(ct.cut.isSome && isOne (c.args.toList.map st.ev)) && (c.args.toList.map st.ev).any isOwn | none=>false
  | _=>false
 | .build _ ps=>!cf.lq && (ps.toList.map fun p=>st.ev p.2).any isOwn
 | .convert _ _ x=>[st.ev x].any isOwn
 | _=>false

theorem wrap_i64' (n : Int) : IntKind.i64.wrap n = (n + 9223372036854775808) % 18446744073709551616 - 9223372036854775808:=by simp only [IntKind.wrap,IntKind.signed,IntKind.bits]; simp; split <;> omega
theorem run_append_zeros {P : Program} (w : World) (base : Nat) (t t' ty e : TypeId) (i : TypeInfo) (z : Value) (size bytes : Nat) (ht : P.underlying t = some (.slice e)) (ht' : P.underlying t' = some (.int .i64)) (hi : P.info? e = some i) (hz : i.zero = some z)
  (hsize : i.size = size) (hby : i.bytes = bytes) (hzs : z.cells.size = size) (hsz : 0 < size) (h1 : ∀ u ∈ z.cells.toList,u.oneCell' = true)
  (v : Value) (n : Nat) (xs : List Value) (hown : w.ownsR base e size v n xs) (k : IntKind) (m : Nat)
  (h63 : n + m ≤ maxLen) (hbytes : (n + m) * bytes ≤ 140737488355328) (hbase : base ≤ w.heap.size) :
  ∃ v' w',(Builtin.append_ #[t,t'] ty #[v,.int k m]).run P w = .ok v' w' ∧ w'.ownsR base e size v' (n + m) (xs ++ (madeCells z.cells (m * size)).toList) ∧ w.grownBy w' v.ownBlock ∧
   (∀ g,v'.ownBlock = some g → v.ownBlock = some g ∨ w.heap.size ≤ g):=by
 subst hsize
 subst hby
 have hsmall : n + m ≤ 9223372036854775807:=by simp only [maxLen] at h63; omega
 have hzc : Builtin.zeroCells z.cells m = madeCells z.cells (m * i.size):=by rw [← hzs]; rfl
 have hms : (madeCells z.cells (m * i.size)).size = m * i.size:=size_madeCells _ _
 have hlen : (xs ++ (madeCells z.cells (m * i.size)).toList).length = (n + m) * i.size:=by rw [List.length_append,hown.1,Array.length_toList,hms,Nat.add_mul]
 have hw : IntKind.i64.wrap (m : Int) = m:=by rw [wrap_i64']; omega
 have hneg : ¬ ((m : Int) < 0):=by omega
 have hb48 : ¬ ((m : Int) * (i.bytes : Int) > 281474976710656):=by
  have h2 : m * i.bytes ≤ (n + m) * i.bytes:=Nat.mul_le_mul_right _ (by omega)
  have h3 : ((m * i.bytes : Nat) : Int) ≤ 140737488355328:=by omega
  rw [Int.natCast_mul] at h3
  omega
 have grown : ∀ (old : Nat),old < n + m → ∀ (row : Option Nat),
   (w.drew.alloc (.cells (xs.toArray ++ Builtin.zeroCells z.cells m ++ Builtin.zeroCells z.cells (grownCap w (n + m) old e - (n + m))) e)).ownsR base e i.size
    (.slice (some ⟨w.heap.size,0,none⟩) (n + m) (grownCap w (n + m) old e)) (n + m) (xs ++ (madeCells z.cells (m * i.size)).toList) ∧
   w.grownBy (w.drew.alloc (.cells (xs.toArray ++ Builtin.zeroCells z.cells m ++ Builtin.zeroCells z.cells (grownCap w (n + m) old e - (n + m))) e)) row:=by
  intro old ho row
  have hge:=grownCap_ge w (n + m) old e
  have hcm : grownCap w (n + m) old e ≤ maxLen:=grownCap_le_maxLen w (n + m) old e h63
  refine ⟨⟨hlen,.inr ⟨w.heap.size,_,_,rfl,hbase,⟨_,heap_alloc_new w.drew _,.inl (Nat.le_refl _)⟩,hge,hcm,?_,?_⟩⟩,⟨rfl,rfl,rfl,by simp,fun k hk _=>heap_alloc_old w.drew _ k hk⟩⟩
  ·simp only [Array.size_append,List.size_toArray,size_zeroCells,hzs,hown.1,← Nat.add_mul]
   congr 1
   omega
  ·simp only [Array.toList_append,List.append_assoc,hzc]
   rw [← List.append_assoc,← hlen]
   exact List.take_left
 rcases hown.2 with ⟨rfl,rfl⟩ | ⟨g,cap,cur,rfl,hbg,⟨fz,hg,hokf⟩,hnc,hcm,hcs,htake⟩
 ·have hx : xs = []:=List.eq_nil_of_length_eq_zero (by simpa using hown.1)
  subst hx
  by_cases hm : m = 0
  ·subst hm
   have hn : (madeCells z.cells (0 * i.size)).toList = []:=List.eq_nil_of_length_eq_zero (by rw [Array.length_toList,hms,Nat.zero_mul])
   refine ⟨.slice none 0 0,w,?_,by rw [hn]; exact World.ownsR_nil w base e i.size,⟨rfl,rfl,rfl,Nat.le_refl _,fun _ _ _=>rfl⟩,fun g hg=>by simp [Value.ownBlock] at hg⟩
   simp [Builtin.append_,run_underlying ht,run_underlying ht',sizeOf,typeInfo,hi,asInt,asIntOf,wrap_i64']
  ·have hms0 : ¬ m * i.size = 0:=by
    have : 0 < m * i.size:=Nat.mul_pos (by omega) hsz
    omega
   have h63' : ¬ (9223372036854775807 < (m : Int)):=by omega
   have h48' : ¬ (281474976710656 < Builtin.nextslicecap m 0 * i.bytes):=by
    rw [nextslicecap_zero (by omega)]; rw [Nat.zero_add] at hbytes; omega
   have hgr:=grown 0 (by omega) (Value.ownBlock (.slice none 0 0))
   simp only [Nat.zero_add,List.nil_append,Array.empty_append] at hgr ⊢
   refine ⟨_,_,?_,hgr.1,hgr.2,fun g hg=>by simp [Value.ownBlock] at hg; right; omega⟩
   simp [Builtin.append_,run_underlying ht,run_underlying ht',sizeOf,typeInfo,zeroValue,hi,hz,asInt,asIntOf,hw,hneg,hb48,hm,hms0,h63',h48',Question.forced,run_firstCells_none,newRow,grownCap]
 ·have hsl : ∀ j u,xs[j]? = some u → w.cell? ((⟨g,0,none⟩ : Addr).add j) = some u:=hown.cells (g:=g) rfl
  by_cases hroom : n + m ≤ cap
  ·have hfit : n * i.size + (madeCells z.cells (m * i.size)).toList.length ≤ cur.size:=by rw [Array.length_toList,hms,hcs,← Nat.add_mul]; exact Nat.mul_le_mul_right _ hroom
   have h1' : ∀ u ∈ (madeCells z.cells (m * i.size)).toList,u.oneCell' = true:=fun u hu=>by
    obtain ⟨q,hq,rfl⟩:=List.getElem_of_mem hu
    have hq2 : q < m * i.size:=by rw [Array.length_toList,hms] at hq; exact hq
    have hqm : q % i.size < i.size:=Nat.mod_lt _ hsz
    have e1 : q = (q / i.size) * i.size + q % i.size:=by rw [Nat.mul_comm]; exact (Nat.div_add_mod q i.size).symm
    have:=madeCells_get z.cells (m * i.size) (q / i.size) (q % i.size) (by omega) (by omega) (by rw [hzs,← e1]; exact hq2)
    rw [hzs,← e1] at this
    rw [Array.getElem?_eq_getElem (by rw [hms]; exact hq2),Array.getElem?_eq_getElem (by omega)] at this
    rw [Array.getElem_toList,Option.some.inj this]
    exact h1 _ (by simp)
   have hst:=run_storeCells_okF (P:=P) g (n * i.size) e fz (madeCells z.cells (m * i.size)).toList 0 cur w hg hokf (by simpa using hfit) h1'
   simp only [Nat.add_zero] at hst
   have hszz : ((cur.toList.take (n * i.size) ++ (madeCells z.cells (m * i.size)).toList ++ cur.toList.drop (n * i.size + (madeCells z.cells (m * i.size)).toList.length)).toArray).size = cur.size:=by
    simp only [List.size_toArray,List.length_append,List.length_take,List.length_drop,Array.length_toList,hms] at hfit ⊢
    omega
   refine ⟨.slice (some ⟨g,0,none⟩) (n + m) cap,w.setRow g (cur.toList.take (n * i.size) ++ (madeCells z.cells (m * i.size)).toList ++ cur.toList.drop (n * i.size + (madeCells z.cells (m * i.size)).toList.length)).toArray,?_,⟨hlen,.inr ⟨g,cap,_,rfl,hbg,⟨fz,setRow_heap w g cur _ e _ hg,by rw [hszz]; exact hokf⟩,hroom,hcm,?_,?_⟩⟩,⟨rfl,rfl,rfl,by simp,fun k _ hk=>setRow_other w g k _ (fun e=>hk (by simp [Value.ownBlock,e]))⟩,fun g' hg'=>.inl hg'⟩
   ·by_cases hm : m = 0
    ·have hn : (madeCells z.cells (m * i.size)).toList = []:=List.eq_nil_of_length_eq_zero (by rw [Array.length_toList,hms,hm,Nat.zero_mul])
     rw [hn] at hst ⊢
     subst hm
     simp [Builtin.append_,run_underlying ht,run_underlying ht',sizeOf,typeInfo,hi,asInt,asIntOf,wrap_i64',hnc,Addr.add_lit] at hst ⊢
     rw [hst]; simp
    ·have hms0 : ¬ m * i.size = 0:=by
      have : 0 < m * i.size:=Nat.mul_pos (by omega) hsz
      omega
     have hm0 : ¬ (m = 0 ∨ i.size = 0):=by omega
     simp [Builtin.append_,run_underlying ht,run_underlying ht',sizeOf,typeInfo,zeroValue,hi,hz,asInt,asIntOf,hw,hneg,hb48,hms0,hm0,hroom,Addr.add_lit,hzc] at hst ⊢
     rw [hst]; simp
   ·simp only [List.size_toArray,List.length_append,List.length_take,List.length_drop,Array.length_toList,hms] at hfit ⊢
    omega
   ·rw [htake,← hlen]
    exact List.take_left
  ·have hms0 : ¬ m * i.size = 0:=by
    have : 0 < m * i.size:=Nat.mul_pos (by omega) hsz
    omega
   have hm0 : ¬ (m = 0 ∨ i.size = 0):=by omega
   have h63' : ¬ (9223372036854775807 < ((n : Int) + (m : Int))):=by omega
   have h48' : ¬ (281474976710656 < Builtin.nextslicecap (n + m) cap * i.bytes):=by
    have:=growslice_fits (need:=n + m) (old:=cap) (by omega) hbytes
    omega
   have hfo:=run_firstCells_some (P:=P) w.drew i.size n ⟨g,0,none⟩ n cap xs hown.1 (by simpa using hsl)
   have hgr:=grown cap (by omega) (Value.ownBlock (.slice (some ⟨g,0,none⟩) n cap))
   refine ⟨_,_,?_,hgr.1,hgr.2,fun g hg=>by simp [Value.ownBlock] at hg; right; omega⟩
   simp [Builtin.append_,run_underlying ht,run_underlying ht',sizeOf,typeInfo,zeroValue,hi,hz,asInt,asIntOf,hw,hneg,hb48,hroom,hms0,hm0,h63',h48',Question.forced,hfo,newRow,grownCap]

def appZT (P : Program) (H : Hp) (nx : Nat) (t t' : TypeId) (x y : AV) (K : AV → Hp → Nat → Prop) : Prop:=match elO P t,intO P t',x,y with
 | some e,some .i64,.own id ver,.c (.i _ a)=>match szO P e,byO P e,zeroO P e with
  | some z,some by_,some zs=>match curB H id ver,zeroC P e zs a.toNat with
   | some B,some cz=>match B.con.app cz with
    | some c=>match c.len with
     | some n=>(zs.length = z ∧ 0 < z ∧ 0 < by_ ∧ B.z = z ∧ B.e = e ∧ notStr cz = true) ∧ (0 ≤ a ∧ n * by_ ≤ 140737488355328) ∧ K (.own id (ver + 1)) (H.addBuf id ⟨ver + 1,e,z,c⟩) nx
     | none=>False
    | none=>False
   | _,_=>False
  | _,_,_=>False
 | some e,some .i64,.c .nil,.c (.i _ a)=>match szO P e,byO P e,zeroO P e,emptyO P e with
  | some z,some by_,some zs,some c0=>match zeroC P e zs a.toNat with
   | some cz=>match c0.app cz with
    | some c=>match c.len with
     | some n=>(zs.length = z ∧ 0 < z ∧ 0 < by_ ∧ c0.z = z ∧ notStr cz = true) ∧ (0 ≤ a ∧ n * by_ ≤ 140737488355328) ∧ K (.own nx (verN H nx)) (H.addBuf nx ⟨verN H nx,e,z,c⟩) (nx + 1)
     | none=>False
    | none=>False
   | none=>False
  | _,_,_,_=>False
 | _,_,_,_=>False

theorem appZT_sound {H : Hp} {nx : Nat} {o : Oper} {ev : Operand → AV} {t t' : TypeId} {x y : Operand} (ho : o.op = .call { callee:=.builtin .append,args:=#[x,y],argTypes:=#[t,t'] }) {K : AV → Hp → Nat → Prop} (h : appZT P H nx t t' (ev x) (ev y) K) :
  ∃ r H' nx',(nx ≤ nx' ∧ K r H' nx') ∧ ∀ F : Fr,OpW P F H H' nx nx' o ev r:=by
 unfold appZT at h
 split at h
 ·rename_i e id ver kk a he hti hevx hevy
  split at h
  ·rename_i z by_ zs hsz hby hze
   split at h
   ·rename_i B cz hB hcz
    split at h
    ·rename_i c hc
     split at h
     ·rename_i n hn
      obtain ⟨⟨hzl,hz0,hb0,hBz,hBe,hns⟩,⟨ha0,hroom⟩,hK⟩:=h
      refine ⟨_,_,_,⟨Nat.le_refl _,hK⟩,fun F m w ρ hrep hfree hops=>?_⟩
      have hx:=hops x (by simp [ho,Op.operands,Call.operands])
      have hy:=hops y (by simp [ho,Op.operands,Call.operands])
      rw [hevx] at hx
      rw [hevy] at hy
      have hρy:=rep_i hy
      obtain ⟨i,z0,hi,hib,his,hiz,rfl⟩:=byO_some hby hsz hze
      have hzc : z0.cells.size = z:=by rw [← hzl]; simp
      obtain ⟨hB1,hB2⟩:=curB_spec hB
      obtain ⟨rs,xs,hm,hrows,_,hr,hown,hrd⟩:=own_slice hrep hB1 hB2 hx
      subst hBz; subst hBe
      obtain ⟨hall,hrowsz⟩:=zeroC_rows hcz
      have hzll : z0.cells.toList.length = B.z:=hzl
      rw [hzll] at hrowsz
      have hrows3 : c.rows = some (B.z,rs ++ List.replicate a.toNat (z0.cells.toList.map ofC)):=by
       rcases app_rows hrows hc (fun s e=>by subst e; simp [notStr] at hns) with ⟨h1 | h1,_⟩ | ⟨rs2,h2,h3⟩
       ·subst h1; simp [C.rows] at hrowsz
       ·subst h1; simp [C.rows] at hrowsz
       ·rw [hrowsz] at h2; cases h2; exact h3
      have hlenn:=(rows_z hrows3).2
      rw [hn] at hlenn
      simp at hlenn
      have h63 : rs.length + a.toNat ≤ maxLen:=by
       have : n ≤ n * by_:=Nat.le_mul_of_pos_right _ hb0
       unfold maxLen; omega
      have hint : P.underlying t' = some (.int .i64):=intO_some hti
      obtain ⟨v',w',hrun,ho',hg',hpl⟩:=run_append_zeros (P:=P) w 0 t t' o.type B.e i z0 B.z by_ (elO_some he) hint hi hiz his hib hzc hz0 (fun u hu=>List.all_eq_true.1 hall u hu) (ρ x) rs.length xs hown kk a.toNat h63 (by rw [← hlenn]; exact hroom) (Nat.zero_le _)
      have ha : ((a.toNat : Nat) : Int) = a:=by omega
      rw [ha] at hrun
      unfold Exec
      have hex : (execOp ρ o).run P w = .ok (.value v') w':=by
       simp only [execOp,ho,resolve,invoke,builtin,Sem.run_bind,Sem.run_pure,Result.andThen_ok,List.map_toArray,List.map_cons,List.map_nil,hρy,hrun]
      rw [hex]
      have hrl : ∀ r ∈ rs ++ List.replicate a.toNat (z0.cells.toList.map ofC),r.length = B.z:=fun r hr'=>by
       rcases List.mem_append.1 hr' with h | h
       ·exact hr r h
       ·have:=List.eq_of_mem_replicate h; subst this; simp [hzc]
      have hrdz : RdRow w (F.S m) B.z (List.replicate a.toNat (z0.cells.toList.map ofC)) (madeCells z0.cells (a.toNat * B.z)).toList:=by
       intro p q y hy
       obtain ⟨h1,h2⟩:=at2_lt (z:=B.z) (fun r hr'=>by have:=List.eq_of_mem_replicate hr'; subst this; simp [hzc]) hy
       rw [List.length_replicate] at h1
       have hk : p * B.z + q < a.toNat * B.z:=by
        have : (p + 1) * B.z ≤ a.toNat * B.z:=Nat.mul_le_mul_right _ h1
        rw [Nat.add_mul] at this; omega
       have hy2 : y = ofC (z0.cells[q]'(by omega)):=by
        unfold at2 at hy
        rw [List.getElem?_replicate,if_pos h1] at hy
        simp [Array.getElem?_eq_getElem (show q < z0.cells.size by omega)] at hy
        exact hy.symm
       refine ⟨z0.cells[q]'(by omega),?_,?_⟩
       ·have:=madeCells_get z0.cells (a.toNat * B.z) p q (by omega) (by omega) (by rw [hzc]; omega)
        rw [hzc] at this
        rw [Array.getElem?_toList,this]
        exact Array.getElem?_eq_getElem _
       ·subst hy2
        exact rd_ofC w _ _ (List.all_eq_true.1 hall _ (by simp))
      have hrd':=hrd.append hrdz hown.1 hr
      obtain ⟨g1,g2⟩:=hrep.bufStep (id:=id) (row:=(ρ x).ownBlock) (B':=⟨ver + 1,B.e,B.z,c⟩) (v':=v') (rs:=rs ++ List.replicate a.toNat (z0.cells.toList.map ofC)) (xs:=xs ++ (madeCells z0.cells (a.toNat * B.z)).toList) (H':=H.addBuf id ⟨ver + 1,B.e,B.z,c⟩) hg' (fun g hg=>⟨_,hm,hg⟩)
       hpl (fun B2 hB2'=>by rw [hB1] at hB2'; cases hB2'; left; show B.ver < ver + 1; omega) (look_add ..) (fun i hi=>look_add_ne _ _ _ _ hi) rfl rfl hrows3 hz0 hrl (by simpa using ho') hrd'
      obtain ⟨p,cap,hv',_⟩:=ownsRow_val ho'
      refine ⟨_,g1,g2,fun i hi=>?_,by rw [hv']; rfl,_,look_add ..,Nat.le_refl _,fun _=>by simp [Mp.addBf]⟩
      obtain ⟨h1,h2⟩:=hfree i hi
      refine ⟨h1,?_⟩
      simp only [Mp.addBf]
      split
      ·subst i; rw [hm] at h2; cases h2
      ·exact h2
     ·exact h.elim
    ·exact h.elim
   ·exact h.elim
  ·exact h.elim
 ·rename_i e kk a he hti hevx hevy
  split at h
  ·rename_i z by_ zs c0 hsz hby hze hc0
   split at h
   ·rename_i cz hcz
    split at h
    ·rename_i c hc
     split at h
     ·rename_i n hn
      obtain ⟨⟨hzl,hz0,hb0,hcz0,hns⟩,⟨ha0,hroom⟩,hK⟩:=h
      refine ⟨_,_,_,⟨Nat.le_succ _,hK⟩,fun F m w ρ hrep hfree hops=>?_⟩
      have hx:=hops x (by simp [ho,Op.operands,Call.operands])
      have hy:=hops y (by simp [ho,Op.operands,Call.operands])
      rw [hevx] at hx
      rw [hevy] at hy
      have hρx : ρ x = .slice none 0 0:=rd_nil hx
      have hρy:=rep_i hy
      obtain ⟨i,z0,hi,hib,his,hiz,rfl⟩:=byO_some hby hsz hze
      have hzc : z0.cells.size = z:=by rw [← hzl]; simp
      have hr0:=emptyO_rows hc0
      rw [hcz0] at hr0
      obtain ⟨hall,hrowsz⟩:=zeroC_rows hcz
      have hzll : z0.cells.toList.length = z:=hzl
      rw [hzll] at hrowsz
      have hrows3 : c.rows = some (z,[] ++ List.replicate a.toNat (z0.cells.toList.map ofC)):=by
       rcases app_rows hr0 hc (fun s e=>by subst e; simp [notStr] at hns) with ⟨h1 | h1,_⟩ | ⟨rs2,h2,h3⟩
       ·subst h1; simp [C.rows] at hrowsz
       ·subst h1; simp [C.rows] at hrowsz
       ·rw [hrowsz] at h2; cases h2; exact h3
      have hlenn:=(rows_z hrows3).2
      rw [hn] at hlenn
      simp at hlenn
      have h63 : 0 + a.toNat ≤ maxLen:=by
       have : n ≤ n * by_:=Nat.le_mul_of_pos_right _ hb0
       unfold maxLen; omega
      have hint : P.underlying t' = some (.int .i64):=intO_some hti
      have hrl0 : (([] : List (List C)) ++ List.replicate a.toNat (z0.cells.toList.map ofC)).length = a.toNat:=by simp
      obtain ⟨v',w',hrun,ho',hg',hpl⟩:=run_append_zeros (P:=P) w 0 t t' o.type e i z0 z by_ (elO_some he) hint hi hiz his hib hzc hz0 (fun u hu=>List.all_eq_true.1 hall u hu) (.slice none 0 0) 0 [] (World.ownsR_nil w 0 e z) kk a.toNat h63 (by rw [Nat.zero_add,← hlenn]; exact hroom) (Nat.zero_le _)
      have ha : ((a.toNat : Nat) : Int) = a:=by omega
      rw [ha] at hrun
      unfold Exec
      have hex : (execOp ρ o).run P w = .ok (.value v') w':=by
       simp only [execOp,ho,resolve,invoke,builtin,Sem.run_bind,Sem.run_pure,Result.andThen_ok,List.map_toArray,List.map_cons,List.map_nil,hρx,hρy,hrun]
      rw [hex]
      have hrl : ∀ r ∈ [] ++ List.replicate a.toNat (z0.cells.toList.map ofC),r.length = z:=fun r hr'=>by
       rcases List.mem_append.1 hr' with h | h
       ·cases h
       ·have:=List.eq_of_mem_replicate h; subst this; simp [hzc]
      have hrdz : RdRow w (F.S m) z ([] ++ List.replicate a.toNat (z0.cells.toList.map ofC)) ([] ++ (madeCells z0.cells (a.toNat * z)).toList):=by
       rw [List.nil_append,List.nil_append]
       intro p q y hy
       obtain ⟨h1,h2⟩:=at2_lt (z:=z) (fun r hr'=>by have:=List.eq_of_mem_replicate hr'; subst this; simp [hzc]) hy
       rw [List.length_replicate] at h1
       have hk : p * z + q < a.toNat * z:=by
        have : (p + 1) * z ≤ a.toNat * z:=Nat.mul_le_mul_right _ h1
        rw [Nat.add_mul] at this; omega
       have hy2 : y = ofC (z0.cells[q]'(by omega)):=by
        unfold at2 at hy
        rw [List.getElem?_replicate,if_pos h1] at hy
        simp [Array.getElem?_eq_getElem (show q < z0.cells.size by omega)] at hy
        exact hy.symm
       refine ⟨z0.cells[q]'(by omega),?_,?_⟩
       ·have:=madeCells_get z0.cells (a.toNat * z) p q (by omega) (by omega) (by rw [hzc]; omega)
        rw [hzc] at this
        rw [Array.getElem?_toList,this]
        exact Array.getElem?_eq_getElem _
       ·subst hy2
        exact rd_ofC w _ _ (List.all_eq_true.1 hall _ (by simp))
      have hm0:=(hfree nx (Nat.le_refl _)).2
      obtain ⟨g1,g2⟩:=hrep.bufStep (id:=nx) (row:=none) (B':=⟨verN H nx,e,z,c⟩) (v':=v') (rs:=[] ++ List.replicate a.toNat (z0.cells.toList.map ofC)) (xs:=[] ++ (madeCells z0.cells (a.toNat * z)).toList) (H':=H.addBuf nx ⟨verN H nx,e,z,c⟩) hg' (fun g hg=>by cases hg)
       (fun g hg=>by rcases hpl g hg with h | h; { simp [Value.ownBlock] at h }; exact .inr h) (fun B hB=>.inl (verN_lt B hB)) (look_add ..) (fun i hi=>look_add_ne _ _ _ _ hi) rfl rfl hrows3 hz0 hrl (by rw [hrl0]; simpa using ho') hrdz
      obtain ⟨p,cap,hv',_⟩:=ownsRow_val ho'
      refine ⟨_,g1,g2,fun i hi=>?_,by rw [hv']; rfl,_,look_add ..,Nat.le_refl _,fun _=>by simp [Mp.addBf]⟩
      obtain ⟨h1,h2⟩:=hfree i (by omega)
      refine ⟨h1,?_⟩
      simp only [Mp.addBf]
      split
      ·omega
      ·exact h2
     ·exact h.elim
    ·exact h.elim
   ·exact h.elim
  ·exact h.elim
 ·exact h.elim

theorem run_append_room_string_R {P : Program} (w : World) (t u ty e : TypeId) (i : TypeInfo) (ht : P.underlying t = some (.slice e)) (hu : P.underlying u = some .string) (hi : P.info? e = some i) (hs1 : i.size = 1)
  (g sLen sCap : Nat) (cur : Array Value) (fz : Nat × Nat) (hg : w.heap[g]? = some (.cells cur e fz)) (hok : okF fz cur.size) (s : ByteArray) (hroom : sLen + s.size ≤ sCap) (hfit : sLen + s.size ≤ cur.size) :
  (Builtin.append_ #[t,u] ty #[.slice (some ⟨g,0,none⟩) sLen sCap,.string s]).run P w =
   .ok (.slice (some ⟨g,0,none⟩) (sLen + s.size) sCap) (w.setRow g (cur.toList.take sLen ++ Lib.strCells s ++ cur.toList.drop (sLen + s.size)).toArray):=by
 have hf:=Lib.run_firstCells_string (P:=P) w 1 s
 have hst:=run_storeCells_okF (P:=P) g sLen e fz (Lib.strCells s) 0 cur w hg hok (by simpa [Lib.strCells_length] using hfit) (Lib.strCells_oneCell s)
 simp only [Nat.add_zero,Lib.strCells_length] at hst
 simp [Builtin.append_,run_underlying ht,run_underlying hu,sizeOf,typeInfo,hi,hs1,Builtin.lenOf,hroom,hf,Addr.add_lit,hst]
theorem run_append_string_R {P : Program} (w : World) (base : Nat) (t u ty e : TypeId) (i : TypeInfo) (ht : P.underlying t = some (.slice e)) (hu : P.underlying u = some .string) (hi : P.info? e = some i) (hz : i.zero = some (.int .u8 0))
  (hsize : i.size = 1) (hby : i.bytes = 1) (v : Value) (n : Nat) (xs : List Value) (hown : w.ownsR base e 1 v n xs) (s : ByteArray)
  (h63 : n + s.size ≤ maxLen) (hbytes : n + s.size ≤ 140737488355328) (hbase : base ≤ w.heap.size) :
  ∃ v' w',(Builtin.append_ #[t,u] ty #[v,.string s]).run P w = .ok v' w' ∧ w'.ownsR base e 1 v' (n + s.size) (xs ++ Lib.strCells s) ∧ w.grownBy w' v.ownBlock ∧
   (∀ g,v'.ownBlock = some g → v.ownBlock = some g ∨ w.heap.size ≤ g):=by
 have hxl : xs.length = n:=by simpa using hown.1
 rcases hown.2 with ⟨rfl,rfl⟩ | ⟨g,cap,cur,rfl,hbg,⟨fz,hg,hok⟩,hnc,hcm,hcs,htake⟩
 ·have hx : xs = []:=List.eq_nil_of_length_eq_zero hxl
  subst hx
  by_cases hm : s.size = 0
  ·have hn : Lib.strCells s = []:=List.eq_nil_of_length_eq_zero (by rw [Lib.strCells_length]; exact hm)
   refine ⟨.slice none 0 0,w,?_,by rw [hm,hn]; exact World.ownsR_nil w base e 1,⟨rfl,rfl,rfl,Nat.le_refl _,fun _ _ _=>rfl⟩,fun g hg=>.inl hg⟩
   have hf:=Lib.run_firstCells_string (P:=P) w 1 s
   rw [hm] at hf
   simp [Builtin.append_,run_underlying ht,run_underlying hu,sizeOf,typeInfo,hi,hsize,Builtin.lenOf,hm,hf]
  ·have hr:=run_append_nil_string (P:=P) w t u ty e i (.int .u8 0) ht hu hi hz s (by omega) (by simp only [maxLen] at h63; omega) (by rw [hby]; omega)
   obtain ⟨v',w',h1,h2,h3,_⟩:=Lib.run_append_own_string (P:=P) w base t u ty e i ht hu hi hz hsize hby (.slice none 0 0) 0 [] (World.ownsRow_nil w base e 1) s h63 hbytes hbase
   refine ⟨v',w',h1,h2.r,h3,fun g hg=>?_⟩
   rw [hr] at h1
   cases h1
   simp [Value.ownBlock] at hg
   omega
 ·by_cases hroom : n + s.size ≤ cap
  ·have hcs' : cur.size = cap:=by simpa using hcs
   have hr:=run_append_room_string_R (P:=P) w t u ty e i ht hu hi hsize g n cap cur fz hg hok s hroom (by omega)
   have hsz' : ((cur.toList.take n ++ Lib.strCells s ++ cur.toList.drop (n + s.size)).toArray).size = cur.size:=by
    simp only [List.size_toArray,List.length_append,List.length_take,List.length_drop,Array.length_toList,Lib.strCells_length]
    omega
   have hlen : (xs ++ Lib.strCells s).length = (n + s.size) * 1:=by rw [List.length_append,hxl,Lib.strCells_length,Nat.mul_one]
   refine ⟨_,_,hr,⟨hlen,.inr ⟨g,cap,_,rfl,hbg,⟨fz,setRow_heap w g cur _ e _ hg,by rw [hsz']; exact hok⟩,hroom,hcm,by rw [hsz']; exact hcs,?_⟩⟩,⟨rfl,rfl,rfl,by simp,fun k _ hk=>setRow_other w g k _ (fun e=>hk (by simp [Value.ownBlock,e]))⟩,fun g hg=>.inl hg⟩
   have ht' : cur.toList.take n = xs:=by simpa using htake
   rw [ht',← hlen]
   exact List.take_left
  ·have holds : ∀ j u,xs[j]? = some u → w.cell? ((⟨g,0,none⟩ : Addr).add j) = some u:=hown.cells (g:=g) rfl
   have hr:=Lib.run_append_grow_string (P:=P) w t u ty e i (.int .u8 0) ht hu hi hz ⟨g,0,none⟩ n cap xs (by rw [hsize]; simpa using hxl) holds s (by omega) (by simp only [maxLen] at h63; omega) (by rw [hby]; exact growslice_fits (by omega) (by omega))
   have hge:=grownCap_ge w (n + s.size) cap e
   have hcm' : grownCap w (n + s.size) cap e ≤ maxLen:=grownCap_le_maxLen w (n + s.size) cap e h63
   have hlen : (xs ++ Lib.strCells s).length = (n + s.size) * 1:=by rw [List.length_append,hxl,Lib.strCells_length,Nat.mul_one]
   refine ⟨_,_,hr,⟨hlen,.inr ⟨w.heap.size,_,_,rfl,hbase,⟨_,heap_alloc_new w.drew _,.inl (Nat.le_refl _)⟩,hge,hcm',?_,?_⟩⟩,⟨rfl,rfl,rfl,by simp,fun k hk _=>heap_alloc_old w.drew _ k hk⟩,fun g' hg'=>by simp [Value.ownBlock] at hg'; right; omega⟩
   ·have hz1 : (Value.int IntKind.u8 0).cells.size = 1:=rfl
    simp only [Array.size_append,List.size_toArray,size_zeroCells,hz1,hxl,Lib.strCells_length]
    omega
   ·simp only [Array.toList_append,List.append_assoc]
    rw [← List.append_assoc,← hlen]
    exact List.take_left
def appST (P : Program) (H : Hp) (nx : Nat) (t : TypeId) (x y : AV) (K : AV → Hp → Nat → Prop) : Prop:=match elO P t,x,y with
 | some e,.own id ver,.c (.str s)=>match curB H id ver with
  | some B=>match B.con with
   | .ints .u8 xs=>((szO P e = some 1 ∧ byO P e = some 1 ∧ zvO P e = some (.int .u8 0)) ∧ B.z = 1 ∧ B.e = e) ∧ xs.length + s.size ≤ 140737488355328 ∧ K (.own id (ver + 1)) (H.addBuf id ⟨ver + 1,e,1,.ints .u8 (xs ++ bytesOf s)⟩) nx
   | _=>False
  | none=>False
 | _,_,_=>False

theorem zvO_some {e : TypeId} {v : Value} (h : zvO P e = some v) : ∃ i,P.info? e = some i ∧ i.zero = some v:=by
 unfold zvO at h
 obtain ⟨i,hi,h⟩:=Option.bind_eq_some_iff.1 h
 refine ⟨i,hi,?_⟩
 split at h
 ·rename_i z hz
  split at h
  ·cases h; exact hz
  ·cases h
 ·cases h
theorem appST_sound {H : Hp} {nx : Nat} {o : Oper} {ev : Operand → AV} {t t' : TypeId} {x y : Operand} (ho : o.op = .call { callee:=.builtin .append,args:=#[x,y],argTypes:=#[t,t'] }) (ht' : strO P t' = true) {K : AV → Hp → Nat → Prop} (h : appST P H nx t (ev x) (ev y) K) :
  ∃ r H' nx',(nx ≤ nx' ∧ K r H' nx') ∧ ∀ F : Fr,OpW P F H H' nx nx' o ev r:=by
 unfold appST at h
 split at h
 ·rename_i e id ver s he hevx hevy
  split at h
  ·rename_i B hB
   split at h
   ·rename_i xs0 hcon
    obtain ⟨⟨⟨hsz,hby,hze⟩,hBz,hBe⟩,hroom,hK⟩:=h
    refine ⟨_,_,_,⟨Nat.le_refl _,hK⟩,fun F m w ρ hrep hfree hops=>?_⟩
    have hx:=hops x (by simp [ho,Op.operands,Call.operands])
    have hy:=hops y (by simp [ho,Op.operands,Call.operands])
    rw [hevx] at hx
    rw [hevy] at hy
    have hρy:=rd_str hy
    obtain ⟨i,hi,hz⟩:=zvO_some hze
    have hsi : i.size = 1:=by simpa [szO,hi] using hsz
    have hbi : i.bytes = 1:=by simpa [byO,hi] using hby
    have hstr : P.underlying t' = some .string:=by
     unfold strO at ht'
     split at ht'
     ·assumption
     ·cases ht'
    obtain ⟨hB1,hB2⟩:=curB_spec hB
    obtain ⟨rs,xs,hm,hrows,_,hr,hown,hrd⟩:=own_slice hrep hB1 hB2 hx
    rw [hBz] at hr hown hrd hrows
    subst hBe
    rw [hcon] at hrows
    simp only [C.rows,Option.some.injEq,Prod.mk.injEq,true_and] at hrows
    subst hrows
    rw [List.length_map] at hown
    obtain ⟨v',w',hrun,ho',hg',hpl⟩:=run_append_string_R (P:=P) w 0 t t' o.type B.e i (elO_some he) hstr hi hz hsi hbi (ρ x) xs0.length xs hown s (by unfold maxLen; omega) hroom (Nat.zero_le _)
    unfold Exec
    have hex : (execOp ρ o).run P w = .ok (.value v') w':=by
     simp only [execOp,ho,resolve,invoke,builtin,Sem.run_bind,Sem.run_pure,Result.andThen_ok,List.map_toArray,List.map_cons,List.map_nil,hρy,hrun]
    rw [hex]
    have hbl : (bytesOf s).length = s.size:=by simp only [bytesOf,List.length_map,Array.length_toList]; rfl
    have hrs : (C.ints .u8 (xs0 ++ bytesOf s)).rows = some (1,(xs0.map fun x=>[C.i .u8 x]) ++ (bytesOf s).map fun x=>[C.i .u8 x]):=by simp [C.rows]
    have hrds : RdRow w (F.S m) 1 ((bytesOf s).map fun x=>[C.i .u8 x]) (Lib.strCells s):=by
     intro p q y hy
     obtain ⟨h1,h2⟩:=at2_lt (z:=1) (fun r hr'=>by obtain ⟨_,_,rfl⟩:=List.mem_map.1 hr'; rfl) hy
     obtain rfl : q = 0:=by omega
     rw [List.length_map] at h1
     have hp : (bytesOf s)[p]? = some (bytesOf s)[p]:=List.getElem?_eq_getElem h1
     simp only [at2,List.getElem?_map,hp,Option.map_some,Option.bind_some,List.getElem?_cons_zero,Option.some.injEq] at hy
     subst hy
     refine ⟨.int .u8 (bytesOf s)[p],?_,.i _ _⟩
     have hp2 : p < s.data.toList.length:=by simpa [bytesOf] using h1
     simp only [Nat.mul_one,Nat.add_zero,Lib.strCells,List.getElem?_map,List.getElem?_eq_getElem hp2,Option.map_some,bytesOf,List.getElem_map]
    have hrd':=hrd.append hrds (by rw [List.length_map]; exact hown.1) hr
    have hlen : ((xs0.map fun x=>[C.i .u8 x]) ++ (bytesOf s).map fun x=>[C.i .u8 x]).length = xs0.length + s.size:=by rw [List.length_append,List.length_map,List.length_map,hbl]
    obtain ⟨g1,g2⟩:=hrep.bufStep (id:=id) (row:=(ρ x).ownBlock) (B':=⟨ver + 1,B.e,1,.ints .u8 (xs0 ++ bytesOf s)⟩) (v':=v') (rs:=(xs0.map fun x=>[C.i .u8 x]) ++ (bytesOf s).map fun x=>[C.i .u8 x]) (xs:=xs ++ Lib.strCells s) (H':=H.addBuf id ⟨ver + 1,B.e,1,.ints .u8 (xs0 ++ bytesOf s)⟩) hg' (fun g hg=>⟨_,hm,hg⟩)
     hpl (fun B2 hB2'=>by rw [hB1] at hB2'; cases hB2'; left; show B.ver < ver + 1; omega) (look_add ..) (fun i hi=>look_add_ne _ _ _ _ hi) rfl rfl hrs (by simp) (fun r hr'=>by
      rcases List.mem_append.1 hr' with hr' | hr' <;> obtain ⟨_,_,rfl⟩:=List.mem_map.1 hr' <;> rfl) (by rw [hlen]; exact ho') hrd'
    obtain ⟨p,cap,hv',_⟩:=ownsRow_val ho'
    refine ⟨_,g1,g2,fun i hi=>?_,by rw [hv']; rfl,_,look_add ..,Nat.le_refl _,fun _=>by simp [Mp.addBf]⟩
    obtain ⟨h1,h2⟩:=hfree i hi
    refine ⟨h1,?_⟩
    simp only [Mp.addBf]
    split
    ·subst i; rw [hm] at h2; cases h2
    ·exact h2
   ·exact h.elim
  ·exact h.elim
 ·exact h.elim
def capT (P : Program) (t : TypeId) (x : AV) (K : AV → Prop) : Prop:=match x with
 | .c .nil=>(elO P t).isSome = true ∧ K (.c (.i .i64 0))
 | _=>False

def callE (P : Program) (cf : Cfg) (st : St) (c : Call) (K : AV → St → Prop) : Prop:=match c.callee with
 | .builtin .len=>match c.args.toList,c.argTypes.toList with
  | [x],[t]=>match st.ev x with
   | .c (.str s)=>P.underlying t = some .string ∧ K (.c (.i .i64 s.size)) st
   | .mp id=>(mapO P t).isSome = true ∧ lenMT st.H (.mp id) (fun r=>K r st)
   | .c (.m f n)=>(mapO P t).isSome = true ∧ K (.c (.i .i64 n)) st
   | y=>(elO P t).isSome = true ∧ lenT st.H y (fun r=>K r st)
  | _,_=>False
 | .builtin .append=>match c.args.toList,c.argTypes.toList with
  | [x,y],[t,t']=>if t == t' then appT P st.H st.nx t (st.ev x) (st.ev y) (fun r H nx=>K r { st with H,nx }) else if strO P t' then appST P st.H st.nx t (st.ev x) (st.ev y) (fun r H nx=>K r { st with H,nx }) else appZT P st.H st.nx t t' (st.ev x) (st.ev y) (fun r H nx=>K r { st with H,nx })
  | _,_=>False
 | .builtin .cap=>match c.args.toList,c.argTypes.toList with
  | [x],[t]=>capT P t (st.ev x) (fun r=>K r st)
  | _,_=>False
 | .builtin .min=>match c.args.toList with
  | [x,y]=>minT (st.ev x) (st.ev y) (fun r=>K r st)
  | _=>False
 | .builtin .max=>match c.args.toList with
  | [x,y]=>maxT (st.ev x) (st.ev y) (fun r=>K r st)
  | _=>False
 | .value (.func f)=>match gF cf f with
  | some tr=>callGT tr st.H st.nx (c.args.toList.map st.ev) (fun r H nx=>K r { st with H,nx })
  | none=>if ownF cf f then callOT cf st.H st.nx f (c.args.toList.map st.ev) (fun r H nx=>K r { st with H,nx }) else if cutA cf f (c.args.toList.map st.ev) then callCT cf st.H st.nx f (c.args.toList.map st.ev) (fun r H nx=>K r { st with H,nx }) else callT cf st.H f (c.args.toList.map st.ev) (fun r=>K r st)
 | .value fo=>match fnA (st.ev fo) with
  | some (f,caps)=>match gF cf f with
   | some tr=>callGT tr st.H st.nx (c.args.toList.map st.ev ++ caps.map teAV) (fun r H nx=>K r { st with H,nx })
   | none=>(ownF cf f || cutA cf f (c.args.toList.map st.ev)) = false ∧ callT cf st.H f (c.args.toList.map st.ev ++ caps.map teAV) (fun r=>K r st)
  | none=>False
 | .builtin .delete=>match c.args.toList,c.argTypes.toList with
  | [x,y],[t,_]=>delT P st.H t (st.ev x) (st.ev y) (fun H=>K (.t []) { st with H })
  | _,_=>False
 | .builtin .copy=>match c.args.toList,c.argTypes.toList with
  | [x,y],[t,_]=>copyT P st.H t (st.ev x) (st.ev y) (fun r H=>K r { st with H })
  | _,_=>False
 | .builtin .clear=>match c.args.toList,c.argTypes.toList with
  | [x],[t]=>clearT P st.H t (st.ev x) (fun H=>K (.t []) { st with H })
  | _,_=>False
 | _=>False

def opE (P : Program) (cf : Cfg) (st : St) (o : Op) (K : AV → St → Prop) : Prop:=match o with
 | .move x=>K (st.ev x) st
 | .assign x=>K (st.ev x) st
 | .pick c a b=>pickT (st.ev c) (K (st.ev a) st) (K (st.ev b) st)
 | .alloc e=>match zeroO P e with
  | some zs=>zs.all oneCell = true ∧ K (.bx st.nx 0) { st with H:=st.H.addBox st.nx (zs.map fun v=>.c (ofC v)),nx:=st.nx + 1 }
  | none=>False
 | .box _ x=>match cellsOf (st.ev x) with
  | some cs=>K (.bx st.nx 0) { st with H:=st.H.addBox st.nx (cs.map .c),nx:=st.nx + 1 }
  | none=>match cellsAV (st.ev x) with
   | some cs=>K (.bx st.nx 0) { st with H:=st.H.addBox st.nx cs,nx:=st.nx + 1 }
   | none=>False
 | .build t ps=>buildT P t (ps.toList.map fun p=>(p.1,st.ev p.2)) (fun r=>K r st)
 | .buildSlice t n ps=>if n == 0 then ps.size = 0 ∧ lit0T P st.H st.nx t (fun r H nx=>K r { st with H,nx }) else if (ps.toList.map fun p=>st.ev p.2).any isWin then litWT P t n (ps.toList.map fun p=>(p.1,st.ev p.2)) (fun r=>K r st) else if cf.lq then litOT P st.H st.nx t n (ps.toList.map fun p=>(p.1,st.ev p.2)) (fun r H nx=>K r { st with H,nx }) else if cf.vq then litVT P t n (ps.toList.map fun p=>(p.1,st.ev p.2)) (fun r=>K r st) else litT P t n (ps.toList.map fun p=>(p.1,st.ev p.2)) (fun r=>K r st)
 | .load t x=>loadT P st.H t (st.ev x) (fun r=>K r st)
 | .store t a x=>storeT P st.H t (st.ev a) (st.ev x) (fun H=>K .u { st with H })
 | .binOp op t x y _=>binT P cf op t (st.ev x) (st.ev y) (fun r=>K r st)
 | .unOp op _ x=>unT op (st.ev x) (fun r=>K r st)
 | .convert s d x=>if cf.cv then convO P st.H st.nx s d (st.ev x) (fun r H nx=>K r { st with H,nx }) else convE P s d (st.ev x) (fun r=>K r st)
 | .makeSlice t l c=>if cf.mq then makeQ P t (st.ev l) (st.ev c) (fun r=>K r st) else makeT P st.H st.nx t (st.ev l) (st.ev c) (fun r H nx=>K r { st with H,nx })
 | .slice t x lo hi none=>match st.ev x with
  | .own id ver=>if lo.isSome || cf.wn then winT P st.H t id ver (lo.map st.ev) (hi.map st.ev) (fun r=>K r st) else cutT P st.H st.nx t (.own id ver) (lo.map st.ev) (hi.map st.ev) (fun r H nx=>K r { st with H,nx })
  | .bw k l n=>bcutT P st.H t k l n (lo.map st.ev) (hi.map st.ev) (fun r=>K r st)
  | .c (.str b)=>strSlT P t b (lo.map st.ev) (hi.map st.ev) (fun r=>K r st)
  | y=>sliceT P t y (lo.map st.ev) (hi.map st.ev) (fun r=>K r st)
 | .fieldAddr s x f=>fieldAddrT P s (st.ev x) f (fun r=>K r st)
 | .field s x f=>fieldT P s (st.ev x) f (fun r=>K r st)
 | .indexAddr t x i=>if cf.aq then indexQ P t (st.ev x) (st.ev i) (fun r=>K r st) else indexAddrT P st.H t (st.ev x) (st.ev i) (fun r=>K r st)
 | .extract x i=>extractT (st.ev x) i (fun r=>K r st)
 | .index t x i=>indexT P t (st.ev x) (st.ev i) (fun r=>K r st)
 | .call c=>callE P cf st c K
 | .lookup t x i ok=>lookupT P st.H t (st.ev x) (st.ev i) ok (fun r=>K r st)
 | .mapUpdate t x i y=>putT P st.H t (st.ev x) (st.ev i) (st.ev y) (fun H=>K .u { st with H })
 | .makeMap t r=>mkMT P st.H st.nx t (r.map st.ev) (fun r H nx=>K r { st with H,nx })
 | .makeFunc (.func f) first caps=>(first.size = 0 ∧ (caps.toList.map st.ev).all okTE = true) ∧ K (.fn f (caps.toList.map fun x=>toTE (st.ev x))) st
 | .nilCheck x=>match st.ev x with
  | .bx id off=>K (.bx id off) st
  | .el xs=>K (.el xs) st
  | .c (.ptr xs)=>K (.c (.ptr xs)) st
  | _=>False
 | _=>False

def cutB (cf : Cfg) (st : St) : Op → Bool
 | .slice _ x lo hi _=>isOwn (st.ev x) && !(lo.isSome && hi.isSome)
 | .call c=>match c.callee with | .value (.func f)=>(gF cf f).isSome || (ownF cf f || cutA cf f (c.args.toList.map st.ev)) || fzB cf st (.call c) | .value fo=>gV cf (st.ev fo) | _=>false
 | .build t ps=>fzB cf st (.build t ps)
 | .store t a x=>fzB cf st (.store t a x)
 | .convert s d x=>cf.cv || fzB cf st (.convert s d x)
 | _=>false
def mayW (cf : Cfg) : Op → Bool
 | .store _ _ _ | .alloc _ | .box _ _ | .makeMap _ _ | .mapUpdate _ _ _ _=>true
 | .makeSlice _ _ _=>!cf.mq
 | .buildSlice _ n _=>n == 0 || cf.lq
 | .call c=>match c.callee with | .builtin .append=>true | .builtin .copy=>true | .builtin .delete=>true | .builtin .clear=>true | _=>false
 | _=>false

def ownOp (cf : Cfg) : Op → Bool
 | .call c=>match c.callee with | .value (.func f)=>ownF cf f | _=>false
 | _=>false
def gOp (cf : Cfg) : Op → Bool
 | .call c=>match c.callee with | .value (.func f)=>(gF cf f).isSome | .value _=>true | _=>false
 | _=>false
def mayWc (cf : Cfg) (o : Op) : Bool:=mayW cf o || ownOp cf o || gOp cf o
def cutD (cf : Cfg) (wr : Bool) (st : St) : Op → Bool
 | .slice _ x lo hi _=>isOwB (st.ev x) && (wr || !(lo.isSome && hi.isSome))
 | .call c=>match c.callee with | .value (.func f)=>cutA cf f (c.args.toList.map st.ev) || fzB cf st (.call c) | _=>false
 | .build t ps=>fzB cf st (.build t ps)
 | .store t a x=>fzB cf st (.store t a x)
 | .convert s d x=>cf.cv || fzB cf st (.convert s d x)
 | _=>false
theorem cutB_of {cf : Cfg} {wr : Bool} {st : St} {o : Op} (h1 : ownOp cf o = false ∧ gOp cf o = false) (h2 : cutD cf wr st o = false) : cutB cf st o = false:=by
 cases o <;> first | exact isOwB_f3 h2 | exact h2 | skip
 rename_i c
 obtain ⟨callee,args,ts⟩:=c
 simp only [cutB,cutD,ownOp,gOp] at h1 h2 ⊢
 split
 ·rename_i f
  simp only at h1 h2
  rw [h1.2,Bool.false_or,h1.1,Bool.false_or]; exact h2
 ·rename_i fo hnf
  cases fo with
  | func f=>exact absurd rfl (hnf f)
  | _=>cases h1.2
 ·rfl
theorem mayWc_f {cf : Cfg} {o : Op} (h : mayWc cf o = false) : mayW cf o = false ∧ ownOp cf o = false ∧ gOp cf o = false:=by
 unfold mayWc at h
 rw [Bool.or_eq_false_iff,Bool.or_eq_false_iff] at h
 exact ⟨h.1.1,h.1.2,h.2⟩

def OpS (P : Program) (cf : Cfg) (st st' : St) (o : Oper) (r : AV) : Prop :=
 st'.n = st.n ∧ st'.sl = st.sl ∧ st.nx ≤ st'.nx ∧
 ((st'.H.buf = st.H.buf ∧ ((∀ i,i < st.nx → look st'.H.box i = look st.H.box i) ∧ st'.H.bor = st.H.bor) ∧ ∀ F : Fr,OpQ P F st'.H st.nx st'.nx o st.ev r) ∨ ((mayW cf o.op || cutB cf st o.op) = true ∧ ∀ F : Fr,OpW P F st.H st'.H st.nx st'.nx o st.ev r))

theorem OpS.same {cf : Cfg} {st : St} {o : Oper} {r : AV} (h : ∀ F : Fr,OpQ P F st.H st.nx st.nx o st.ev r) : OpS P cf st st o r:=⟨rfl,rfl,Nat.le_refl _,.inl ⟨rfl,⟨fun _ _=>rfl,rfl⟩,h⟩⟩
theorem OpS.writes {cf : Cfg} {st : St} {o : Oper} {r : AV} {H : Hp} {nx : Nat} (hm : (mayW cf o.op || cutB cf st o.op) = true) (hnx : st.nx ≤ nx) (h : ∀ F : Fr,OpW P F st.H H st.nx nx o st.ev r) : OpS P cf st { st with H,nx } o r:=⟨rfl,rfl,hnx,.inr ⟨hm,h⟩⟩

theorem len_exec {o : Oper} {x : Operand} {c : Call} (ho : o.op = .call c) (hc : c.callee = .builtin .len) (hx : c.args.toList = [x]) (t : TypeId) (ht : c.argTypes.toList = [t]) (ρ : Operand → Value) :
  execOp ρ o = (do pure (Next.value (← Builtin.len_ #[t] o.type #[ρ x]))):=by
 obtain ⟨callee,args,tys⟩:=c
 obtain ⟨args⟩:=args
 obtain ⟨tys⟩:=tys
 simp at hx ht hc
 subst hx; subst ht; subst hc
 have e : Array.map ρ ⟨[x]⟩ = #[ρ x]:=by simp
 simp only [execOp,ho,resolve,pure_bind,invoke,builtin,e]

theorem cap_exec {o : Oper} {x : Operand} {c : Call} (ho : o.op = .call c) (hc : c.callee = .builtin .cap) (hx : c.args.toList = [x]) (t : TypeId) (ht : c.argTypes.toList = [t]) (ρ : Operand → Value) :
  execOp ρ o = (do pure (Next.value (← Builtin.cap_ #[t] o.type #[ρ x]))):=by
 obtain ⟨callee,args,tys⟩:=c
 obtain ⟨args⟩:=args
 obtain ⟨tys⟩:=tys
 simp at hx ht hc
 subst hx; subst ht; subst hc
 have e : Array.map ρ ⟨[x]⟩ = #[ρ x]:=by simp
 simp only [execOp,ho,resolve,pure_bind,invoke,builtin,e]

theorem min_exec {o : Oper} {x y : Operand} {c : Call} (ho : o.op = .call c) (hc : c.callee = .builtin .min) (hx : c.args.toList = [x,y]) (ρ : Operand → Value) :
  execOp ρ o = (do pure (Next.value (← Builtin.min_ c.argTypes o.type #[ρ x,ρ y]))):=by
 obtain ⟨callee,args,tys⟩:=c
 obtain ⟨args⟩:=args
 simp at hx hc
 subst hx; subst hc
 have e : Array.map ρ ⟨[x,y]⟩ = #[ρ x,ρ y]:=by simp
 simp only [execOp,ho,resolve,pure_bind,invoke,builtin,e]
theorem max_exec {o : Oper} {x y : Operand} {c : Call} (ho : o.op = .call c) (hc : c.callee = .builtin .max) (hx : c.args.toList = [x,y]) (ρ : Operand → Value) :
  execOp ρ o = (do pure (Next.value (← Builtin.max_ c.argTypes o.type #[ρ x,ρ y]))):=by
 obtain ⟨callee,args,tys⟩:=c
 obtain ⟨args⟩:=args
 simp at hx hc
 subst hx; subst hc
 have e : Array.map ρ ⟨[x,y]⟩ = #[ρ x,ρ y]:=by simp
 simp only [execOp,ho,resolve,pure_bind,invoke,builtin,e]

theorem appT_nx {H : Hp} {nx : Nat} {t : TypeId} {x y : AV} {K : AV → Hp → Nat → Prop} (h : appT P H nx t x y K) : appT P H nx t x y (fun r H' nx'=>nx ≤ nx' ∧ K r H' nx'):=by
 unfold appT at *
 repeat' split at h
 all_goals first | exact h.elim | skip
 all_goals simp [*]

theorem makeT_nx {H : Hp} {nx : Nat} {t : TypeId} {x y : AV} {K : AV → Hp → Nat → Prop} (h : makeT P H nx t x y K) : makeT P H nx t x y (fun r H' nx'=>nx ≤ nx' ∧ K r H' nx'):=by
 unfold makeT at *
 repeat' split at h
 all_goals first | exact h.elim | skip
 all_goals simp [*]

theorem litOT_nx {H : Hp} {nx : Nat} {t : TypeId} {n : Nat} {ps : List (Nat × AV)} {K : AV → Hp → Nat → Prop} (h : litOT P H nx t n ps K) : litOT P H nx t n ps (fun r H' nx'=>nx ≤ nx' ∧ K r H' nx'):=by
 unfold litOT at *
 repeat' split at h
 all_goals first | exact h.elim | skip
 all_goals simp [*]

theorem lit0T_nx {H : Hp} {nx : Nat} {t : TypeId} {K : AV → Hp → Nat → Prop} (h : lit0T P H nx t K) : lit0T P H nx t (fun r H' nx'=>nx ≤ nx' ∧ K r H' nx'):=by
 unfold lit0T at *
 repeat' split at h
 all_goals first | exact h.elim | skip
 all_goals simp [*]

theorem cutT_nx {H : Hp} {nx : Nat} {t : TypeId} {x : AV} {lo hi : Option AV} {K : AV → Hp → Nat → Prop} (h : cutT P H nx t x lo hi K) : cutT P H nx t x lo hi (fun r H' nx'=>nx ≤ nx' ∧ K r H' nx'):=by
 unfold cutT at *
 repeat' split at h
 all_goals first | exact h.elim | skip
 all_goals simp [*]

theorem call_ext {c : Call} {b : Callee} {xs : List Operand} {ts : List TypeId} (h1 : c.callee = b) (h2 : c.args.toList = xs) (h3 : c.argTypes.toList = ts) : c = { callee:=b,args:=xs.toArray,argTypes:=ts.toArray }:=by
 obtain ⟨callee,args,tys⟩:=c
 simp at h1 h2 h3
 subst h1; subst h2; subst h3
 simp

theorem callE_sound {cf : Cfg} (hcf : TblOk P cf) {st : St} {o : Oper} {c : Call} (ho : o.op = .call c) {K : AV → St → Prop} (h : callE P cf st c K) : ∃ r st',K r st' ∧ OpS P cf st st' o r:=by
 unfold callE at h
 split at h
 ·rename_i hc
  split at h
  ·rename_i x t hx ht
   split at h
   ·rename_i s hs
    obtain ⟨hu,hK⟩:=h
    refine ⟨_,st,hK,OpS.same fun F=>OpQ.of_yl fun H' m w ρ hsup hrep hops=>⟨_,len_exec ho hc hx t ht ρ,?_⟩⟩
    have hxr:=hops x (by simp [ho,Op.operands,Call.operands,hc]; rw [← Array.mem_toList_iff,hx]; simp)
    rw [hs] at hxr
    obtain hρ:=rd_str hxr
    rw [hρ]
    exact ⟨_,by simp [Builtin.len_,run_underlying hu,goInt],rep_int ..⟩
   ·rename_i id hs
    obtain ⟨he,hl⟩:=h
    obtain ⟨r,hK,hr⟩:=lenMT_sound (P:=P) he hl
    refine ⟨r,st,hK,OpS.same fun F=>OpQ.of_yl fun H' m w ρ hsup hrep hops=>⟨_,len_exec ho hc hx t ht ρ,?_⟩⟩
    have hxr:=hops x (by simp [ho,Op.operands,Call.operands,hc]; rw [← Array.mem_toList_iff,hx]; simp)
    rw [hs] at hxr
    exact hr F H' m w _ _ hsup hrep hxr
   ·rename_i f n hs
    obtain ⟨he,hK⟩:=h
    refine ⟨_,st,hK,OpS.same fun F=>OpQ.of_yl fun H' m w ρ hsup hrep hops=>⟨_,len_exec ho hc hx t ht ρ,?_⟩⟩
    have hxr:=hops x (by simp [ho,Op.operands,Call.operands,hc]; rw [← Array.mem_toList_iff,hx]; simp)
    rw [hs] at hxr
    obtain ⟨b,es,ck,hρ,hS,hheap,hmr⟩:=rd_m hxr
    obtain ⟨⟨kt,et⟩,hm⟩:=Option.isSome_iff_exists.1 he
    have : es.size = n:=hmr.1
    rw [hρ]
    exact ⟨.int .i64 n,by simp [Builtin.len_,run_underlying (mapO_some hm),MapKept.run_getObj_map hheap,goInt,this],.i _ _⟩
   ·rename_i hns _ _
    obtain ⟨he,hl⟩:=h
    obtain ⟨r,hK,hr⟩:=lenT_sound (P:=P) (t:=t) (.inl he) hl
    refine ⟨r,st,hK,OpS.same fun F=>OpQ.of_yl fun H' m w ρ hsup hrep hops=>⟨_,len_exec ho hc hx t ht ρ,?_⟩⟩
    have hxr:=hops x (by simp [ho,Op.operands,Call.operands,hc]; rw [← Array.mem_toList_iff,hx]; simp)
    refine hr F H' m w (ρ x) o.type hsup hrep hxr (fun hu=>?_) (fun _ s=>hns s)
    obtain ⟨e,he⟩:=Option.isSome_iff_exists.1 he
    rw [elO_some he] at hu; cases hu
  ·exact h.elim
 ·rename_i hc
  split at h
  ·rename_i x y t t' hx ht
   have hcc:=call_ext hc hx ht
   split at h
   ·rename_i htt
    obtain rfl : t = t':=by simpa using htt
    obtain ⟨r,H',nx',⟨hnx,hK⟩,hr⟩:=appT_sound (P:=P) (o:=o) (ev:=st.ev) (x:=x) (y:=y) (by rw [ho,hcc]) (appT_nx h)
    exact ⟨r,_,hK,OpS.writes (by simp [ho,mayW,hc]) hnx hr⟩
   split at h
   ·rename_i hst
    obtain ⟨r,H',nx',⟨hnx,hK⟩,hr⟩:=appST_sound (P:=P) (o:=o) (ev:=st.ev) (x:=x) (y:=y) (by rw [ho,hcc]) hst h
    exact ⟨r,_,hK,OpS.writes (by simp [ho,mayW,hc]) hnx hr⟩
   ·obtain ⟨r,H',nx',⟨hnx,hK⟩,hr⟩:=appZT_sound (P:=P) (o:=o) (ev:=st.ev) (x:=x) (y:=y) (by rw [ho,hcc]) h
    exact ⟨r,_,hK,OpS.writes (by simp [ho,mayW,hc]) hnx hr⟩
  ·exact h.elim
 ·rename_i hc
  split at h
  ·rename_i x t hx ht
   unfold capT at h
   split at h
   ·rename_i hevx
    obtain ⟨he,hK⟩:=h
    refine ⟨_,st,hK,OpS.same fun F=>OpQ.of_yl fun H' m w ρ hsup hrep hops=>⟨_,cap_exec ho hc hx t ht ρ,?_⟩⟩
    have hxr:=hops x (by simp [ho,Op.operands,Call.operands,hc]; rw [← Array.mem_toList_iff,hx]; simp)
    rw [hevx] at hxr
    rw [rd_nil hxr]
    obtain ⟨e,he⟩:=Option.isSome_iff_exists.1 he
    exact ⟨_,by simp [Builtin.cap_,run_underlying (elO_some he),goInt],rep_int ..⟩
   ·exact h.elim
  ·exact h.elim
 ·rename_i hc
  split at h
  ·rename_i x y hx
   obtain ⟨r,hK,hr⟩:=minT_sound (P:=P) h
   refine ⟨r,st,hK,OpS.same fun F=>OpQ.of_yl fun H' m w ρ hsup hrep hops=>⟨_,min_exec ho hc hx ρ,?_⟩⟩
   exact hr F H' m w _ _ _ _ (hops x (by simp [ho,Op.operands,Call.operands,hc]; rw [← Array.mem_toList_iff,hx]; simp)) (hops y (by simp [ho,Op.operands,Call.operands,hc]; rw [← Array.mem_toList_iff,hx]; simp))
  ·exact h.elim
 ·rename_i hc
  split at h
  ·rename_i x y hx
   obtain ⟨r,hK,hr⟩:=maxT_sound (P:=P) h
   refine ⟨r,st,hK,OpS.same fun F=>OpQ.of_yl fun H' m w ρ hsup hrep hops=>⟨_,max_exec ho hc hx ρ,?_⟩⟩
   exact hr F H' m w _ _ _ _ (hops x (by simp [ho,Op.operands,Call.operands,hc]; rw [← Array.mem_toList_iff,hx]; simp)) (hops y (by simp [ho,Op.operands,Call.operands,hc]; rw [← Array.mem_toList_iff,hx]; simp))
  ·exact h.elim
 ·rename_i f hc
  have hcc : c = { callee:=.value (.func f),args:=c.args,argTypes:=c.argTypes }:=by obtain ⟨a,b,d⟩:=c; simp at hc; subst hc; rfl
  split at h
  ·rename_i tr hg
   obtain ⟨ct,hct,hcg⟩ : ∃ ct,cf.tbl f = some ct ∧ ct.g = some tr:=by
    unfold gF at hg
    split at hg
    ·rename_i ct hct; exact ⟨ct,hct,hg⟩
    ·cases hg
   obtain ⟨r,H',nx',hK,hnx,hr⟩:=callGT_sound (P:=P) hcf (nx:=st.nx) (o:=o) (ev:=st.ev) (f:=f) (caps:=[]) (fo:=.func f) (args:=c.args) (ts:=c.argTypes) rfl hct hcg (by rw [ho,hcc]) (by rw [List.map_nil,List.append_nil]; exact h)
   exact ⟨r,_,hK,OpS.writes (by simp [ho,cutB,hc,hg]) hnx hr⟩
  split at h
  ·rename_i hof
   obtain ⟨r,H',nx',hK, -,hnx,hr⟩:=callOT_sound (P:=P) hcf (nx:=st.nx) (o:=o) (ev:=st.ev) (f:=f) (args:=c.args) (ts:=c.argTypes) rfl (by rw [ho,hcc]) h
   exact ⟨r,_,hK,OpS.writes (by simp [ho,cutB,hc,hof]) hnx hr⟩
  split at h
  ·rename_i hof hca
   obtain ⟨r,H',hK,hr⟩:=callCT_sound (P:=P) hcf (nx:=st.nx) (o:=o) (ev:=st.ev) (f:=f) (args:=c.args) (ts:=c.argTypes) rfl (by rw [ho,hcc]) h
   exact ⟨r,_,hK,OpS.writes (by simp [ho,cutB,hc,hca]) (Nat.le_refl _) hr⟩
  ·obtain ⟨r,hK,hr⟩:=callT_sound (P:=P) hcf (nx:=st.nx) (o:=o) (ev:=st.ev) (f:=f) (caps:=[]) (fo:=.func f) (args:=c.args) (ts:=c.argTypes) rfl (by rw [ho,hcc]) (by rw [List.map_nil,List.append_nil]; exact h)
   exact ⟨r,st,hK,OpS.same hr⟩
 ·rename_i fo hnf hc
  have hcc : c = { callee:=.value fo,args:=c.args,argTypes:=c.argTypes }:=by obtain ⟨a,b,d⟩:=c; simp at hc; subst hc; rfl
  split at h
  ·rename_i f caps hf
   split at h
   ·rename_i tr hg
    obtain ⟨ct,hct,hcg⟩ : ∃ ct,cf.tbl f = some ct ∧ ct.g = some tr:=by
     unfold gF at hg
     split at hg
     ·rename_i ct hct; exact ⟨ct,hct,hg⟩
     ·cases hg
    obtain ⟨r,H',nx',hK,hnx,hr⟩:=callGT_sound (P:=P) hcf (nx:=st.nx) (o:=o) (ev:=st.ev) (f:=f) (caps:=caps) (fo:=fo) (args:=c.args) (ts:=c.argTypes) hf hct hcg (by rw [ho,hcc]) h
    refine ⟨r,_,hK,OpS.writes ?_ hnx hr⟩
    rw [ho]
    unfold cutB
    simp only
    split
    ·rename_i f2 hc2
     rw [hc] at hc2; cases hc2
     exact absurd rfl (hnf f2)
    ·rename_i fo2 _ hc2
     rw [hc] at hc2; cases hc2
     simp [gV,hf,hg]
    ·rename_i hc2; exact absurd hc (hc2 fo)
   ·obtain ⟨-,h⟩:=h
    obtain ⟨r,hK,hr⟩:=callT_sound (P:=P) hcf (nx:=st.nx) (o:=o) (ev:=st.ev) (f:=f) (caps:=caps) (fo:=fo) (args:=c.args) (ts:=c.argTypes) hf (by rw [ho,hcc]) h
    exact ⟨r,st,hK,OpS.same hr⟩
  ·exact h.elim
 ·rename_i hc
  split at h
  ·rename_i x y t t' hx ht
   have hcc:=call_ext hc hx ht
   obtain ⟨H',hK,hr⟩:=delT_sound (P:=P) (nx:=st.nx) (o:=o) (ev:=st.ev) (x:=x) (i:=y) (by rw [ho,hcc]) h
   exact ⟨_,_,hK,OpS.writes (by simp [ho,mayW,hc]) (Nat.le_refl _) hr⟩
  ·exact h.elim
 ·rename_i hc
  split at h
  ·rename_i x y t t' hx ht
   have hcc:=call_ext hc hx ht
   obtain ⟨r,H',hK,hr⟩:=copyT_sound (P:=P) (nx:=st.nx) (o:=o) (ev:=st.ev) (x:=x) (y:=y) (by rw [ho,hcc]) h
   exact ⟨r,_,hK,OpS.writes (by simp [ho,mayW,hc]) (Nat.le_refl _) hr⟩
  ·exact h.elim
 ·rename_i hc
  split at h
  ·rename_i x t hx ht
   have hcc:=call_ext hc hx ht
   obtain ⟨H',hK,hr⟩:=clearT_sound (P:=P) (nx:=st.nx) (o:=o) (ev:=st.ev) (x:=x) (by rw [ho,hcc]) h
   exact ⟨_,_,hK,OpS.writes (by simp [ho,mayW,hc]) (Nat.le_refl _) hr⟩
  ·exact h.elim
 ·exact h.elim

theorem opE_sound {cf : Cfg} (hcf : TblOk P cf) {st : St} {o : Oper} {K : AV → St → Prop} (h : opE P cf st o.op K) : ∃ r st',K r st' ∧ OpS P cf st st' o r:=by
 unfold opE at h
 have yl : ∀ {r : AV} {f : (Operand → Value) → Sem Value},(∀ ρ,execOp ρ o = (do pure (Next.value (← f ρ)))) → (∀ (F : Fr) (H' : Hp) (m : Mp) (w : World) (ρ : Operand → Value),Sup H' st.H → HRep F H' m w → (∀ x ∈ o.op.operands,RepA F H' m w (st.ev x) (ρ x)) → Yl P F H' m w (f ρ) r) → OpS P cf st st o r :=
  fun h1 h2=>OpS.same fun F=>OpQ.of_yl fun H' m w ρ hsup hrep hops=>⟨_,h1 ρ,h2 F H' m w ρ hsup hrep hops⟩
 split at h
 ·rename_i x ho
  exact ⟨_,st,h,yl (f:=fun ρ=>pure (ρ x)) (fun ρ=>by simp [execOp,ho]) fun F H' m w ρ _ _ hops=>⟨ρ x,rfl,hops x (by simp [ho,Op.operands])⟩⟩
 ·rename_i x ho
  exact ⟨_,st,h,yl (f:=fun ρ=>pure (ρ x)) (fun ρ=>by simp [execOp,ho]) fun F H' m w ρ _ _ hops=>⟨ρ x,rfl,hops x (by simp [ho,Op.operands])⟩⟩
 ·rename_i c a b ho
  unfold pickT at h
  split at h
  ·rename_i hc
   refine ⟨_,st,h,yl (f:=fun ρ=>do pure (if ← asBool (ρ c) then ρ a else ρ b)) (fun ρ=>by simp [execOp,ho]) fun F H' m w ρ _ _ hops=>⟨ρ a,?_,hops a (by simp [ho,Op.operands])⟩⟩
   have:=hops c (by simp [ho,Op.operands])
   rw [hc] at this
   simp [rep_b this,asBool]
  ·rename_i hc
   refine ⟨_,st,h,yl (f:=fun ρ=>do pure (if ← asBool (ρ c) then ρ a else ρ b)) (fun ρ=>by simp [execOp,ho]) fun F H' m w ρ _ _ hops=>⟨ρ b,?_,hops b (by simp [ho,Op.operands])⟩⟩
   have:=hops c (by simp [ho,Op.operands])
   rw [hc] at this
   simp [rep_b this,asBool]
  ·exact h.elim
 ·rename_i e ho
  split at h
  ·rename_i zs hz
   obtain ⟨h1,hK⟩:=h
   exact ⟨_,_,hK,rfl,rfl,Nat.le_succ _,.inl ⟨rfl,⟨fun i hi=>look_add_ne _ _ _ _ (by omega),rfl⟩,fun F=>OpQ.alloc ho hz h1⟩⟩
  ·exact h.elim
 ·rename_i e x ho
  split at h
  ·rename_i cs hc
   exact ⟨_,_,h,rfl,rfl,Nat.le_succ _,.inl ⟨rfl,⟨fun i hi=>look_add_ne _ _ _ _ (by omega),rfl⟩,fun F=>OpQ.box ho hc⟩⟩
  split at h
  ·rename_i cs hc
   exact ⟨_,_,h,rfl,rfl,Nat.le_succ _,.inl ⟨rfl,⟨fun i hi=>look_add_ne _ _ _ _ (by omega),rfl⟩,fun F=>OpQ.boxA ho hc⟩⟩
  ·exact h.elim
 ·rename_i t ps ho
  obtain ⟨r,hK,hr⟩:=buildT_sound h
  refine ⟨r,st,hK,yl (f:=fun ρ=>Instr.build t (ps.map fun (i,x)=>(i,ρ x))) (fun ρ=>by simp [execOp,ho]) fun F H' m w ρ _ _ hops=>hr F H' m w _ (by simp) fun j x v hx hv=>?_⟩
  simp only [List.getElem?_map,Array.getElem?_toList,Option.map_eq_some_iff] at hx
  obtain ⟨p,hp,rfl⟩:=hx
  simp [hp] at hv
  subst hv
  exact hops p.2 (by simp [ho,Op.operands]; exact ⟨p.1,by have:=Array.mem_of_getElem? hp; simpa using this⟩)
 ·rename_i t n ps ho
  split at h
  ·rename_i hn
   have hn0 : n = 0:=by simpa using hn
   subst hn0
   obtain ⟨r,H',nx',⟨hnx,hK⟩,hr⟩:=lit0T_sound (o:=o) (ev:=st.ev) ho h.1 (lit0T_nx h.2)
   exact ⟨r,_,hK,OpS.writes (by simp [ho,mayW]) hnx hr⟩
  split at h
  ·obtain ⟨r,hK,hr⟩:=litWT_sound h
   refine ⟨r,st,hK,OpS.same fun F=>OpQ.of_ext fun H' m w ρ hsup hrep hops=>?_⟩
   obtain ⟨v,w',hrun,hext,hrr⟩:=hr F H' m w (ps.map fun (i,x)=>(i,ρ x)) hrep (by simp) (fun j x v hx hv=>by
    simp only [List.getElem?_map,Array.getElem?_toList,Option.map_eq_some_iff] at hx
    obtain ⟨p,hp,rfl⟩:=hx
    simp [hp] at hv
    subst hv
    exact hops p.2 (by simp [ho,Op.operands]; exact ⟨p.1,by have:=Array.mem_of_getElem? hp; simpa using this⟩))
   unfold Exec
   have hex : (execOp ρ o).run P w = .ok (.value v) w':=by simp only [execOp,ho,Sem.run_bind,hrun,Result.andThen_ok,Sem.run_pure]
   rw [hex]
   exact ⟨hext,hrr⟩
  split at h
  ·rename_i hlq
   obtain ⟨r,H',nx',⟨hnx,hK⟩,hr⟩:=litOT_sound (o:=o) (ev:=st.ev) ho (litOT_nx h)
   exact ⟨r,_,hK,OpS.writes (by simp [ho,mayW,hlq]) hnx hr⟩
  split at h
  ·obtain ⟨r,hK,hr⟩:=litVT_sound (o:=o) (ev:=st.ev) ho h
   exact ⟨r,st,hK,OpS.same fun F=>hr F st.H st.nx⟩
  obtain ⟨r,hK,hr⟩:=litT_sound h
  refine ⟨r,st,hK,OpS.same fun F=>OpQ.of_ext fun H' m w ρ hsup hrep hops=>?_⟩
  obtain ⟨v,w',hrun,hext,hrr⟩:=hr F H' m w (ps.map fun (i,x)=>(i,ρ x)) hrep (by simp) (fun j x v hx hv=>by
   simp only [List.getElem?_map,Array.getElem?_toList,Option.map_eq_some_iff] at hx
   obtain ⟨p,hp,rfl⟩:=hx
   simp [hp] at hv
   subst hv
   exact hops p.2 (by simp [ho,Op.operands]; exact ⟨p.1,by have:=Array.mem_of_getElem? hp; simpa using this⟩))
  unfold Exec
  have hex : (execOp ρ o).run P w = .ok (.value v) w':=by simp only [execOp,ho,Sem.run_bind,hrun,Result.andThen_ok,Sem.run_pure]
  rw [hex]
  exact ⟨hext,hrr⟩
 ·rename_i t x ho
  obtain ⟨r,hK,hr⟩:=loadT_sound h
  exact ⟨r,st,hK,yl (f:=fun ρ=>Instr.loadAt t (ρ x)) (fun ρ=>by simp [execOp,ho]) fun F H' m w ρ hsup hrep hops=>hr F H' m w _ hsup hrep (hops x (by simp [ho,Op.operands]))⟩
 ·rename_i t a x ho
  obtain ⟨H',hK,hr⟩:=storeT_sound (nx:=st.nx) ho h
  exact ⟨_,_,hK,OpS.writes (by simp [ho,mayW]) (Nat.le_refl _) hr⟩
 ·rename_i op t x y _ ho
  obtain ⟨r,hK,hr⟩:=binT_sound hcf.1 h
  exact ⟨r,st,hK,yl (f:=fun ρ=>do eqGuard op t x y (ρ x) (ρ y); binOp op t (ρ x) (ρ y)) (fun ρ=>by simp [execOp,ho]) fun F H' m w ρ hsup hrep hops=>hr F H' m w _ _ x y (hops x (by simp [ho,Op.operands])) (hops y (by simp [ho,Op.operands]))⟩
 ·rename_i op _ x ho
  obtain ⟨r,hK,hr⟩:=unT_sound (P:=P) h
  exact ⟨r,st,hK,yl (f:=fun ρ=>Op.unary op (ρ x)) (fun ρ=>by simp [execOp,ho]) fun F H' m w ρ hsup hrep hops=>hr F H' m w _ (hops x (by simp [ho,Op.operands]))⟩
 ·rename_i s d x ho
  split at h
  ·rename_i hcv
   obtain ⟨r,H',nx',⟨hnx,hK⟩,hr⟩:=convO_sound (P:=P) (o:=o) (ev:=st.ev) ho h
   exact ⟨r,_,hK,OpS.writes (by simp [ho,cutB,hcv]) hnx hr⟩
  ·obtain ⟨r,hK,hr⟩:=convE_sound (P:=P) (o:=o) (ev:=st.ev) ho h
   exact ⟨r,st,hK,OpS.same fun F=>hr F st.H st.nx⟩
 ·rename_i t l c ho
  split at h
  ·obtain ⟨r,hK,hr⟩:=makeQ_sound (o:=o) (ev:=st.ev) ho h
   exact ⟨r,st,hK,OpS.same fun F=>hr F st.H st.nx⟩
  rename_i hmk
  obtain ⟨r,H',nx',⟨hnx,hK⟩,hr⟩:=makeT_sound (o:=o) (ev:=st.ev) ho (makeT_nx h)
  exact ⟨r,_,hK,OpS.writes (by simp [ho,mayW,hmk]) hnx hr⟩
 ·rename_i t x lo hi ho
  split at h
  ·rename_i id ver hx
   split at h
   ·obtain ⟨r,hK,hr⟩:=winT_sound (P:=P) h
    refine ⟨r,st,hK,OpS.same fun F=>OpQ.of_yl fun H' m w ρ hsup hrep hops=>⟨Instr.sliceAt t (ρ x) (lo.map ρ) (hi.map ρ) none,by simp [execOp,ho],?_⟩⟩
    have hxr:=hops x (by simp [ho,Op.operands])
    rw [hx] at hxr
    refine hr F H' m w _ _ _ hsup hrep hxr ?_ ?_ ?_ ?_
    ·intro y hy
     obtain ⟨a,rfl,rfl⟩:=Option.map_eq_some_iff.1 hy
     exact ⟨_,rfl,hops a (by simp [ho,Op.operands])⟩
    ·intro y hy
     obtain ⟨a,rfl,rfl⟩:=Option.map_eq_some_iff.1 hy
     exact ⟨_,rfl,hops a (by simp [ho,Op.operands])⟩
    ·intro hy; simp at hy; simp [hy]
    ·intro hy; simp at hy; simp [hy]
   rename_i hb
   rw [← hx] at h
   obtain ⟨r,H',nx',⟨hnx,hK⟩,hr⟩:=cutT_sound (o:=o) (ev:=st.ev) ho (cutT_nx h)
   exact ⟨r,_,hK,OpS.writes (by
    simp only [ho,mayW,cutB,hx,isOwn,Bool.false_or,Bool.true_and]
    cases hq : lo.isSome with
    | true=>exact absurd (by rw [hq]; rfl) hb
    | false=>rfl) hnx hr⟩
  ·rename_i k l n hx
   obtain ⟨r,hK,hr⟩:=bcutT_sound (P:=P) h
   refine ⟨r,st,hK,yl (f:=fun ρ=>Instr.sliceAt t (ρ x) (lo.map ρ) (hi.map ρ) none) (fun ρ=>by simp [execOp,ho]) fun F H' m w ρ hsup hrep hops=>?_⟩
   have hxr:=hops x (by simp [ho,Op.operands])
   rw [hx] at hxr
   refine hr F H' m w _ _ _ hsup hrep hxr ?_ ?_
   ·intro hy; simp at hy; simp [hy]
   ·intro y hy
    obtain ⟨a,rfl,rfl⟩:=Option.map_eq_some_iff.1 hy
    exact ⟨_,rfl,hops a (by simp [ho,Op.operands])⟩
  ·rename_i b hb
   obtain ⟨r,hK,hr⟩:=strSlT_sound (P:=P) h
   refine ⟨r,st,hK,yl (f:=fun ρ=>Instr.sliceAt t (ρ x) (lo.map ρ) (hi.map ρ) none) (fun ρ=>by simp [execOp,ho]) fun F H' m w ρ hsup hrep hops=>hr F H' m w _ _ _ (by rw [← hb]; exact hops x (by simp [ho,Op.operands])) ?_ ?_ ?_ ?_⟩
   ·intro y hy
    obtain ⟨a,rfl,rfl⟩:=Option.map_eq_some_iff.1 hy
    exact ⟨_,rfl,hops a (by simp [ho,Op.operands])⟩
   ·intro hy; simp at hy; simp [hy]
   ·intro y hy
    obtain ⟨a,rfl,rfl⟩:=Option.map_eq_some_iff.1 hy
    exact ⟨_,rfl,hops a (by simp [ho,Op.operands])⟩
   ·intro hy; simp at hy; simp [hy]
  ·obtain ⟨r,hK,hr⟩:=sliceT_sound (P:=P) h
   refine ⟨r,st,hK,yl (f:=fun ρ=>Instr.sliceAt t (ρ x) (lo.map ρ) (hi.map ρ) none) (fun ρ=>by simp [execOp,ho]) fun F H' m w ρ hsup hrep hops=>hr F H' m w _ _ _ (hops x (by simp [ho,Op.operands])) ?_ ?_ ?_ ?_⟩
   ·intro y hy
    obtain ⟨a,rfl,rfl⟩:=Option.map_eq_some_iff.1 hy
    exact ⟨_,rfl,hops a (by simp [ho,Op.operands])⟩
   ·intro hy; simp at hy; simp [hy]
   ·intro y hy
    obtain ⟨a,rfl,rfl⟩:=Option.map_eq_some_iff.1 hy
    exact ⟨_,rfl,hops a (by simp [ho,Op.operands])⟩
   ·intro hy; simp at hy; simp [hy]
 ·rename_i s x f ho
  obtain ⟨r,hK,hr⟩:=fieldAddrT_sound (P:=P) h
  exact ⟨r,st,hK,yl (f:=fun ρ=>Instr.fieldAt s (ρ x) f) (fun ρ=>by simp [execOp,ho]) fun F H' m w ρ hsup hrep hops=>hr F H' m w _ (hops x (by simp [ho,Op.operands]))⟩
 ·rename_i s x f ho
  obtain ⟨r,hK,hr⟩:=fieldT_sound (P:=P) h
  exact ⟨r,st,hK,yl (f:=fun ρ=>Instr.field s (ρ x) f) (fun ρ=>by simp [execOp,ho]) fun F H' m w ρ hsup hrep hops=>hr F H' m w _ (hops x (by simp [ho,Op.operands]))⟩
 ·rename_i t x i ho
  split at h
  ·obtain ⟨r,hK,hr⟩:=indexQ_sound (P:=P) h
   exact ⟨r,st,hK,yl (f:=fun ρ=>Instr.indexAt t (ρ x) (ρ i)) (fun ρ=>by simp [execOp,ho]) fun F H' m w ρ hsup hrep hops=>hr F H' m w _ _ (hops x (by simp [ho,Op.operands])) (hops i (by simp [ho,Op.operands]))⟩
  obtain ⟨r,hK,hr⟩:=indexAddrT_sound (P:=P) h
  exact ⟨r,st,hK,yl (f:=fun ρ=>Instr.indexAt t (ρ x) (ρ i)) (fun ρ=>by simp [execOp,ho]) fun F H' m w ρ hsup hrep hops=>hr F H' m w _ _ hsup hrep (hops x (by simp [ho,Op.operands])) (hops i (by simp [ho,Op.operands]))⟩
 ·rename_i x i ho
  obtain ⟨r,hK,hr⟩:=extractT_sound (P:=P) h
  exact ⟨r,st,hK,yl (f:=fun ρ=>Instr.extract (ρ x) i) (fun ρ=>by simp [execOp,ho]) fun F H' m w ρ hsup hrep hops=>hr F H' m w _ (hops x (by simp [ho,Op.operands]))⟩
 ·rename_i t x i ho
  obtain ⟨r,hK,hr⟩:=indexT_sound (P:=P) h
  exact ⟨r,st,hK,yl (f:=fun ρ=>Instr.index t (ρ x) (ρ i)) (fun ρ=>by simp [execOp,ho]) fun F H' m w ρ hsup hrep hops=>hr F H' m w _ _ (hops x (by simp [ho,Op.operands])) (hops i (by simp [ho,Op.operands]))⟩
 ·rename_i c ho
  exact callE_sound hcf ho h
 ·rename_i t x i ok ho
  obtain ⟨r,hK,hr⟩:=lookupT_sound (P:=P) h
  exact ⟨r,st,hK,yl (f:=fun ρ=>Instr.lookup t (ρ x) (ρ i) ok) (fun ρ=>by simp [execOp,ho]) fun F H' m w ρ hsup hrep hops=>hr F H' m w _ _ hsup hrep (hops x (by simp [ho,Op.operands])) (hops i (by simp [ho,Op.operands]))⟩
 ·rename_i t x i y ho
  obtain ⟨H',hK, -,hr⟩:=putT_sound (nx:=st.nx) ho h
  exact ⟨_,_,hK,OpS.writes (by simp [ho,mayW]) (Nat.le_refl _) hr⟩
 ·rename_i t r ho
  obtain ⟨r,con,hK,hr⟩:=mkMT_sound (P:=P) (nx:=st.nx) ho h
  exact ⟨_,_,hK,rfl,rfl,Nat.le_succ _,.inl ⟨rfl,⟨fun i hi=>look_add_ne _ _ _ _ (by omega),rfl⟩,hr⟩⟩
 ·rename_i f first caps ho
  obtain ⟨⟨h0,hok⟩,hK⟩:=h
  have hf0 : first = #[]:=Array.eq_empty_of_size_eq_zero h0
  subst hf0
  refine ⟨_,st,hK,yl (f:=fun ρ=>Instr.makeFunc (.func f) #[] (caps.map ρ)) (fun ρ=>by simp [execOp,ho]) fun F H' m w ρ hsup hrep hops=>⟨.func (.func f) #[] (caps.map ρ),rfl,_,rfl,by simp,fun j y u hy hu=>?_⟩⟩
  rw [List.getElem?_map] at hy
  obtain ⟨x,hx,rfl⟩:=Option.map_eq_some_iff.1 hy
  have hxm : x ∈ caps:=by simpa using List.mem_of_getElem? hx
  have hu' : u = ρ x:=by
   have : caps[j]? = some x:=by simpa using hx
   simp [this] at hu; exact hu.symm
  subst hu'
  have hr:=hops x (by simp [ho,Op.operands,hxm])
  have hk:=List.all_eq_true.1 hok (st.ev x) (List.mem_map.2 ⟨x,by simpa using hxm,rfl⟩)
  cases he : st.ev x <;> rw [he] at hr hk <;> first | exact hr | (simp [okTE] at hk)
 ·rename_i x ho
  split at h
  ·rename_i id off hx
   refine ⟨_,st,h,OpS.same fun F=>OpQ.of_yl fun H' m w ρ hsup hrep hops=>?_⟩
   have hr:=hops x (by simp [ho,Op.operands])
   rw [hx] at hr
   have hr0:=hr
   obtain ⟨b,hb,hv⟩:=hr
   exact ⟨pure (ρ x),by simp [execOp,ho,hv],ρ x,rfl,hr0⟩
  ·rename_i xs hx
   refine ⟨_,st,h,OpS.same fun F=>OpQ.of_yl fun H' m w ρ hsup hrep hops=>?_⟩
   have hr:=hops x (by simp [ho,Op.operands])
   rw [hx] at hr
   have hr0:=hr
   obtain ⟨b,off,hv,_⟩:=hr
   exact ⟨pure (ρ x),by simp [execOp,ho,hv],ρ x,rfl,hr0⟩
  ·rename_i xs hx
   refine ⟨_,st,h,OpS.same fun F=>OpQ.of_yl fun H' m w ρ hsup hrep hops=>?_⟩
   have hr:=hops x (by simp [ho,Op.operands])
   rw [hx] at hr
   obtain ⟨b,off,us,hv,_⟩:=rd_ptr hr
   exact ⟨pure (ρ x),by simp [execOp,ho,hv],ρ x,rfl,hr⟩
  ·exact h.elim
 ·exact h.elim

end Go.Abs
