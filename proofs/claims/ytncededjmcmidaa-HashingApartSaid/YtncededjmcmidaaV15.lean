import Derived.Test.YtncededjmcmidaaV7
namespace Go.Proofs.Ytncededjmcmidaa
set_option linter.unusedSimpArgs false
set_option linter.unusedVariables false
open Go.Abs Go.Proofs.NatL

def hdB (os : List Ob) (x : Vl) : List Int:=if x.k = 6 then (if (os.getD x.r.toNat ob0).k = 1 then [6,((os.getD x.r.toNat ob0).it.length : Int) % 256,((os.getD x.r.toNat ob0).it.length : Int) / 256] else refB x.r) else plB x
def chV (os : List Ob) (x : Vl) : List Vl:=if x.k = 6 then (if (os.getD x.r.toNat ob0).k = 1 then (os.getD x.r.toNat ob0).it else []) else []
inductive Cd (os : List Ob) : List Vl → List Int → Prop where
 | nil : Cd os [] []
 | cons (x : Vl) (t : List Vl) (c : List Int) (h : Cd os (chV os x ++ t) c) : Cd os (x :: t) (hdB os x ++ c)
theorem keyG_cd (os : List Ob) : ∀ (r : Nat) (td : List Vl) (out : List Int),(keyG os r td out).2.1 = 0 → ∃ c,Cd os td c ∧ (keyG os r td out).1 = out ++ c
 | r,[],out,_=>⟨[],.nil,by cases r <;> simp [keyG]⟩
 | 0,_ :: _,out,h=>by
  have h : (14 : Int) = 0:=h
  omega
 | r + 1,x :: t,out,h=>by
  unfold keyG at h ⊢
  by_cases h9 : x.k = 9
  ·rw [if_pos h9] at h
   have h : (27 : Int) = 0:=h
   omega
  rw [if_neg h9] at h ⊢
  by_cases h6 : x.k = 6
  ·rw [if_pos h6] at h ⊢
   simp only at h ⊢
   by_cases h2 : (os.getD x.r.toNat ob0).k = 2 ∨ (os.getD x.r.toNat ob0).k = 3 ∨ (os.getD x.r.toNat ob0).k = 4 ∨ (os.getD x.r.toNat ob0).k = 5
   ·rw [if_pos h2] at h
    have h : (27 : Int) = 0:=h
    omega
   rw [if_neg h2] at h ⊢
   by_cases h1 : (os.getD x.r.toNat ob0).k = 1
   ·rw [if_pos h1] at h ⊢
    obtain ⟨c,hc,e⟩:=keyG_cd os r _ _ h
    refine ⟨hdB os x ++ c,.cons x t c (by rw [chV,if_pos h6,if_pos h1]; exact hc),?_⟩
    rw [e,hdB,if_pos h6,if_pos h1,List.append_assoc]
   ·rw [if_neg h1] at h ⊢
    obtain ⟨c,hc,e⟩:=keyG_cd os r _ _ h
    refine ⟨hdB os x ++ c,.cons x t c (by rw [chV,if_pos h6,if_neg h1]; exact hc),?_⟩
    rw [e,hdB,if_pos h6,if_neg h1,List.append_assoc]
  ·rw [if_neg h6] at h ⊢
   obtain ⟨c,hc,e⟩:=keyG_cd os r _ _ h
   refine ⟨hdB os x ++ c,.cons x t c (by rw [chV,if_neg h6]; exact hc),?_⟩
   rw [e,hdB,if_neg h6,List.append_assoc]
def dlB (l : List Int) : Nat:=if l.getD 0 0 = 0 ∨ l.getD 0 0 = 9 then 1 else if l.getD 0 0 = 1 then 2 else if l.getD 0 0 = 2 then 3 + 4 * (l.getD 2 0).toNat
 else if l.getD 0 0 = 3 then 5 + 4 * (l.getD 2 0).toNat + 4 * (l.getD (4 + 4 * (l.getD 2 0).toNat) 0).toNat else if l.getD 0 0 = 6 then 3 else if l.getD 0 0 = 7 then 5
 else 3 + (l.getD 1 0 + 256 * l.getD 2 0).toNat
theorem intB_shape (a : Bool) (xs : List Int) (A : List Int) : intB a xs ++ A = (if a then 1 else 0) :: ((xs.length : Int) % 256) :: (hbs xs (2 * xs.length) ++ A):=by
 simp [intB]
theorem dlB_pl {v : Vl} (h : OkP v) (A : List Int) : dlB (plB v ++ A) = (plB v).length:=by
 obtain ⟨⟨h1,_⟩,⟨h2,_⟩,h3,h4,h5⟩:=h
 have e1:=intB_len v.a v.x
 have e2:=intB_len v.b v.y
 have e3:=strB_len v.t
 have e4:=hbs_len v.x (2 * v.x.length)
 have e5:=hbs_len v.y (2 * v.y.length)
 unfold plB
 repeat' split
 ·rfl
 ·rfl
 ·rw [List.cons_append,intB_shape]
  simp only [dlB,List.getD_cons_zero,List.getD_cons_succ,List.length_cons,e1]
  simp
  omega
 ·rw [List.cons_append,List.append_assoc,intB_shape,intB_shape]
  have e6 : ((v.x.length : Int) % 256).toNat = v.x.length:=by omega
  have e7 : (hbs v.x (2 * v.x.length) ++ (if v.b then 1 else 0) :: ((v.y.length : Int) % 256) :: (hbs v.y (2 * v.y.length) ++ A)).getD (4 * v.x.length + 1) 0 = (v.y.length : Int) % 256:=by
   rw [List.getD_eq_getElem?_getD,List.getElem?_append_right (by omega),show 4 * v.x.length + 1 - (hbs v.x (2 * v.x.length)).length = 1 by omega]
   rfl
  simp only [dlB,List.getD_cons_zero,List.getD_cons_succ,List.length_cons,List.length_append,e1,e2,e6]
  rw [show 4 + 4 * v.x.length = (4 * v.x.length + 1) + 1 + 1 + 1 by omega]
  simp only [List.getD_cons_succ,e7]
  simp
  omega
 all_goals try rfl
 all_goals
  simp only [txtB,List.cons_append,List.nil_append,dlB,List.getD_cons_zero,List.getD_cons_succ,List.length_cons,e3]
  simp
  omega
theorem dlB_hd {os : List Ob} (ho : HOk os) {x : Vl} (h : OkW os.length x) (A : List Int) : dlB (hdB os x ++ A) = (hdB os x).length:=by
 unfold hdB
 repeat' split
 ·rfl
 ·rfl
 ·exact dlB_pl h.1 A
theorem hd_free {os : List Ob} (ho : HOk os) {x y : Vl} (hx : OkW os.length x) (hy : OkW os.length y) {A B : List Int} (h : hdB os x ++ A = hdB os y ++ B) : hdB os x = hdB os y ∧ A = B:=by
 refine List.append_inj h ?_
 rw [← dlB_hd ho hx A,← dlB_hd ho hy B,h]
theorem pl_first {v : Vl} (h : OkP v) (h6 : v.k ≠ 6) : (plB v).getD 0 0 ≠ 6:=by
 unfold plB
 repeat' split
 all_goals simp [txtB]
theorem ch_len {os : List Ob} (ho : HOk os) {x y : Vl} (hx : OkW os.length x) (hy : OkW os.length y) (h : hdB os x = hdB os y) : (chV os x).length = (chV os y).length:=by
 have key : ∀ {x y : Vl},OkW os.length x → OkW os.length y → hdB os x = hdB os y → x.k = 6 → (os.getD x.r.toNat ob0).k = 1 → (chV os x).length = (chV os y).length:=by
  intro x y hx hy h h6 h1
  have hm:=ob_mem os (hx.2 h6)
  have hl:=(ho.2 _ hm h1).2.1
  unfold hdB at h
  unfold chV
  rw [if_pos h6,if_pos h1] at h ⊢
  split at h
  ·rename_i g6
   rw [if_pos g6]
   split at h
   ·rename_i g1
    rw [if_pos g1]
    have hm':=ob_mem os (hy.2 g6)
    have hl':=(ho.2 _ hm' g1).2.1
    simp only [List.cons.injEq,true_and,and_true] at h
    omega
   ·simp [refB] at h
  ·rename_i g6
   exact absurd (by rw [← h]; rfl) (pl_first hy.1 g6)
 by_cases h6 : x.k = 6 ∧ (os.getD x.r.toNat ob0).k = 1
 ·exact key hx hy h h6.1 h6.2
 by_cases g6 : y.k = 6 ∧ (os.getD y.r.toNat ob0).k = 1
 ·exact (key hy hx h.symm g6.1 g6.2).symm
 have e : ∀ {x : Vl},¬ (x.k = 6 ∧ (os.getD x.r.toNat ob0).k = 1) → chV os x = []:=by
  intro x h
  unfold chV
  split
  ·rename_i h6; rw [if_neg (fun h1=>h ⟨h6,h1⟩)]
  ·rfl
 rw [e h6,e g6]
theorem ch_ok {os : List Ob} (ho : HOk os) {x : Vl} (hx : OkW os.length x) : ∀ v ∈ chV os x,OkW os.length v:=by
 unfold chV
 split
 ·rename_i h6
  split
  ·rename_i h1
   exact (ho.2 _ (ob_mem os (hx.2 h6)) h1).2.2
  ·intro v hv; cases hv
 ·intro v hv; cases hv
theorem Cd.free {os : List Ob} (ho : HOk os) {td : List Vl} {c : List Int} (h : Cd os td c) : ∀ {td' : List Vl} {c' s s' : List Int},Cd os td' c' → td.length = td'.length → (∀ x ∈ td,OkW os.length x) → (∀ x ∈ td',OkW os.length x) → c ++ s = c' ++ s' → c = c' ∧ s = s':=by
 induction h with
 | nil =>
  intro td' c' s s' h' hl _ _ he
  cases h' with
  | nil=>exact ⟨rfl,he⟩
  | cons=>simp at hl
 | cons x t c h ih =>
  intro td' c' s s' h' hl hx hx' he
  cases h' with
  | nil=>simp at hl
  | cons y t' c1 h' =>
   have ox:=hx x (List.mem_cons_self ..)
   have oy:=hx' y (List.mem_cons_self ..)
   rw [List.append_assoc,List.append_assoc] at he
   obtain ⟨e1,e2⟩:=hd_free ho ox oy he
   have e3:=ch_len ho ox oy e1
   obtain ⟨e4,e5⟩:=ih h' (by simp only [List.length_append,List.length_cons] at hl ⊢; omega) (fun z hz=>(List.mem_append.1 hz).elim (ch_ok ho ox z) fun hz=>hx z (List.mem_cons_of_mem _ hz)) (fun z hz=>(List.mem_append.1 hz).elim (ch_ok ho oy z) fun hz=>hx' z (List.mem_cons_of_mem _ hz)) e2
   exact ⟨by rw [e1,e4],e5⟩
theorem keyF_free {os : List Ob} (ho : HOk os) {u v : Vl} (hu : OkW os.length u) (hv : OkW os.length v) (h1 : (keyF os u).2.1 = 0) (h2 : (keyF os v).2.1 = 0) (h : (keyF os u).1 = (keyF os v).1.take (keyF os u).1.length) : (keyF os u).1 = (keyF os v).1:=by
 obtain ⟨a,ha,ea⟩:=keyG_cd os 1000 [u] [] h1
 obtain ⟨b,hb,eb⟩:=keyG_cd os 1000 [v] [] h2
 have ea : (keyF os u).1 = a:=ea
 have eb : (keyF os v).1 = b:=eb
 rw [ea,eb] at h ⊢
 have:=ha.free ho hb (s:=b.drop a.length) (s':=[]) rfl (by simpa using hu) (by simpa using hv) (by
  conv=>lhs; lhs; rw [h]
  rw [List.take_append_drop,List.append_nil])
 exact this.1
end Go.Proofs.Ytncededjmcmidaa
