import Derived.Test.YtgkajjifbcmoeaaGreatDoorR6
namespace Go.Proofs.YtgkajjifbcmoeaaGreatDoor
set_option linter.unusedSimpArgs false
set_option linter.unusedVariables false
open Go.Abs Go.Proofs.NatL

theorem getD_win (pre us suf : List Int) (k : Nat) (h : k < us.length) : (pre ++ us ++ suf).getD (pre.length + k) 0 = us.getD k 0:=by
 rw [List.append_assoc,List.getD_eq_getElem?_getD,List.getElem?_append_right (by omega),List.getElem?_append_left (by omega),List.getD_eq_getElem?_getD]
 congr 2; omega

theorem mod32 (g : Nat) (h : g < 4294967296) : (g : Int) % 4294967296 = g:=by omega

set_option maxRecDepth 100000 in
set_option maxHeartbeats 3200000 in
theorem digit_ret (pre us suf vs : List Int) (hu : us.length = vs.length + 1) (hn : 2 ≤ vs.length) (hl : (pre ++ us ++ suf).length ≤ 16777216) (bu : InB 4294967296 us) (bv : InB 4294967296 vs) (hlt : V 4294967296 us < 4294967296 * V 4294967296 vs) (ht : Trd vs) :
  RetW Tryz.prog 220 105 (.ints .u32 (pre ++ us ++ suf)) pre.length us.length [.inl (.ints .u32 vs)] (.ints .u32 (pre ++ pad 4294967296 (vs.length + 1) (V 4294967296 us % V 4294967296 vs) ++ suf)) [.inl (.i .u32 ((V 4294967296 us / V 4294967296 vs : Nat) : Int))]:=by
 have est:=est_of 4294967296 (by omega) us vs vs.length hu rfl hn bu bv hlt ht
 have rd:=getD_win pre us suf
 rw [hu] at rd
 simp only [List.length_append] at hl
 have c0:=InB_getD (by omega) bu vs.length
 have c1:=InB_getD (by omega) bu (vs.length - 1)
 have c2:=InB_getD (by omega) bu (vs.length - 2)
 have c3:=InB_getD (by omega) bv (vs.length - 1)
 have c4:=InB_getD (by omega) bv (vs.length - 2)
 obtain ⟨u0,hu0⟩ : ∃ x : Nat,us.getD vs.length 0 = x:=⟨(us.getD vs.length 0).toNat,by omega⟩
 obtain ⟨u1,hu1⟩ : ∃ x : Nat,us.getD (vs.length - 1) 0 = x:=⟨(us.getD (vs.length - 1) 0).toNat,by omega⟩
 obtain ⟨u2,hu2⟩ : ∃ x : Nat,us.getD (vs.length - 2) 0 = x:=⟨(us.getD (vs.length - 2) 0).toNat,by omega⟩
 obtain ⟨v1,hv1⟩ : ∃ x : Nat,vs.getD (vs.length - 1) 0 = x:=⟨(vs.getD (vs.length - 1) 0).toNat,by omega⟩
 obtain ⟨v2,hv2⟩ : ∃ x : Nat,vs.getD (vs.length - 2) 0 = x:=⟨(vs.getD (vs.length - 2) 0).toNat,by omega⟩
 rw [hu0,hu1,hu2,hv1,hv2] at est
 simp only [Int.toNat_natCast] at est
 have k1:=est.kv1
 have k2:=est.hd
 have i1 : ((vs.length : Int) - 1).toNat = vs.length - 1:=by omega
 have i2 : ((vs.length : Int) - 2).toNat = vs.length - 2:=by omega
 have r0:=rd vs.length (by omega)
 have r1:=rd (vs.length - 1) (by omega)
 have r2:=rd (vs.length - 2) (by omega)
 rw [hu0] at r0
 rw [hu1] at r1
 rw [hu2] at r2
 have hhead : bitI .or .u64 (shlI .u64 ((u0 : Int) % 18446744073709551616) 32) ((u1 : Int) % 18446744073709551616) = ((u1 + 4294967296 * u0 : Nat) : Int):=by
  rw [show (u0 : Int) % 18446744073709551616 = u0 by omega,show (u1 : Int) % 18446744073709551616 = u1 by omega,shl64_32 _ (by omega) (by omega),or64_hi _ _ (by omega) (by omega) (by omega) (by omega)]; omega
 have hv1m : (v1 : Int) % 18446744073709551616 = v1:=by omega
 have hhl : u1 + 4294967296 * u0 < 18446744073709551616:=by omega
 rw [hu]
 (refine ret_win Tryz.func220 rfl (Nat.le_of_ble_eq_true rfl) rfl (fun F=>?_); simp only [q_z,q_y,Tryz.ntmps220,Tryz.results220])
 refine q_a ?_
 ((first | with_reducible refine q_q cf21_ok (fun K hK=>?_) | with_reducible refine awp_region_draw cf21_ok mixed (by kernel_rfl) (fun K hK=>?_)); (simp (maxSteps:=2000000) only [go_sem,↓reduceIte,reduceCtorEq,Nat.reduceLeDiff,Nat.reduceLT,Nat.reduceBEq,Nat.reduceAdd]); (first | with_reducible apply And.intro | with_reducible intro _ | (with_reducible refine hK _ ?_; clear hK K)) <;> (repeat' (first | with_reducible apply And.intro | with_reducible intro _ | (with_reducible refine hK _ ?_; clear hK K))) <;> (try (clear hK K; first | omega | assumption | ((simp (disch:=omega) only [Int.tdiv_eq_ediv_of_nonneg,Int.tmod_eq_emod_of_nonneg]); omega))))
 refine q_b (q_a ?_)
 ((first | with_reducible refine q_q cf21_ok (fun K hK=>?_) | with_reducible refine awp_region_draw cf21_ok mixed (by kernel_rfl) (fun K hK=>?_)); (simp (maxSteps:=2000000) only [go_sem,↓reduceIte,reduceCtorEq,Nat.reduceLeDiff,Nat.reduceLT,Nat.reduceBEq,Nat.reduceAdd]); (first | with_reducible apply And.intro | with_reducible intro _ | (with_reducible refine hK _ ?_; clear hK K)) <;> (repeat' (first | with_reducible apply And.intro | with_reducible intro _ | (with_reducible refine hK _ ?_; clear hK K))) <;> (try (clear hK K; first | omega | assumption | ((simp (disch:=omega) only [Int.tdiv_eq_ediv_of_nonneg,Int.tmod_eq_emod_of_nonneg]); omega))))
 refine q_b (q_a ?_)
 ((first | with_reducible refine q_q cf21_ok (fun K hK=>?_) | with_reducible refine awp_region_draw cf21_ok mixed (by kernel_rfl) (fun K hK=>?_)); (simp (maxSteps:=2000000) only [go_sem,↓reduceIte,reduceCtorEq,Nat.reduceLeDiff,Nat.reduceLT,Nat.reduceBEq,Nat.reduceAdd]); (first | with_reducible apply And.intro | with_reducible intro _ | (with_reducible refine hK _ ?_; clear hK K)) <;> (repeat' (first | with_reducible apply And.intro | with_reducible intro _ | (with_reducible refine hK _ ?_; clear hK K))) <;> (try (clear hK K; first | omega | assumption | ((simp (disch:=omega) only [Int.tdiv_eq_ediv_of_nonneg,Int.tmod_eq_emod_of_nonneg]); omega))))
 simp only [i1,r0,r1,hv1,hhead,hv1m]
 refine q_b (q_a ?_)
 ((first | with_reducible refine q_q cf21_ok (fun K hK=>?_) | with_reducible refine awp_region_draw cf21_ok mixed (by kernel_rfl) (fun K hK=>?_)); (simp (maxSteps:=2000000) only [go_sem,↓reduceIte,reduceCtorEq,Nat.reduceLeDiff,Nat.reduceLT,Nat.reduceBEq,Nat.reduceAdd]); (first | with_reducible apply And.intro | with_reducible intro _ | (with_reducible refine hK _ ?_; clear hK K)) <;> (repeat' (first | with_reducible apply And.intro | with_reducible intro _ | (with_reducible refine hK _ ?_; clear hK K))) <;> (try (clear hK K; first | omega | assumption | ((simp (disch:=omega) only [Int.tdiv_eq_ediv_of_nonneg,Int.tmod_eq_emod_of_nonneg]); omega))))
 refine q_b ?_
 have hq1 : ((u1 + 4294967296 * u0 : Nat) : Int) / (v1 : Int) = (((u1 + 4294967296 * u0) / v1 : Nat) : Int):=by simp
 have hq2 : ((u1 + 4294967296 * u0 : Nat) : Int) % (v1 : Int) = (((u1 + 4294967296 * u0) % v1 : Nat) : Int):=by simp
 simp only [hq1,hq2]
 generalize hhd : u1 + 4294967296 * u0 = head at *
 refine seq_join (ι:={ g : Nat // g < 4294967296 ∧ V 4294967296 us / V 4294967296 vs ≤ g ∧ g ≤ V 4294967296 us / V 4294967296 vs + 1 }) (fun g=>⟨141,[(0,.bw 0 pre.length (vs.length + 1)),(1,.c (.ints .u32 vs)),(5,.c (.i .i64 vs.length)),(8,.c (.i .u64 (g.1 : Nat)))],⟨[],[],[(0,⟨105,.ints .u32 (pre ++ us ++ suf)⟩)]⟩,0⟩) ?_ ?_
 ·refine q_e ?_
  refine q_G (ι:={ p : Nat × Nat // p.1 * v1 + p.2 = head ∧ V 4294967296 us / V 4294967296 vs ≤ p.1 ∧ p.2 < 4294967296 }) (fun p=>⟨141,[(0,.bw 0 pre.length (vs.length + 1)),(1,.c (.ints .u32 vs)),(5,.c (.i .i64 vs.length)),(7,.c (.i .u64 (v1 : Nat))),(8,.c (.i .u64 (p.1.1 : Nat))),(9,.c (.i .u64 (p.1.2 : Nat)))],⟨[],[],[(0,⟨105,.ints .u32 (pre ++ us ++ suf)⟩)]⟩,0⟩) (fun p=>p.1.1) ⟨(head / v1,head % v1),by simp only; rw [Nat.mul_comm]; exact Nat.div_add_mod _ _,est.start (by omega),by have:=Nat.mod_lt head k1; simp only; omega⟩ ?_ ?_
  ·exact q_D
  rintro ⟨⟨g,r⟩,g1,g2,g3⟩
  simp only at g1 g2 g3 ⊢
  have hgl : g ≤ head:=by
   have : g * 1 ≤ g * v1:=Nat.mul_le_mul_left _ k1
   omega
  have t1 : bitI .or .u64 (shlI .u64 (r : Int) 32) ((u2 : Int) % 18446744073709551616) = ((r * 4294967296 + u2 : Nat) : Int):=by
   rw [show (u2 : Int) % 18446744073709551616 = u2 by omega,shl64_32 _ (by omega) (by omega),or64_hi _ _ (by omega) (by omega) (by omega) (by omega)]; omega
  have t2 : g < 4294967296 → ((g : Int) * ((v2 : Int) % 18446744073709551616)) % 18446744073709551616 = ((g * v2 : Nat) : Int):=fun hg=>by
   rw [show (v2 : Int) % 18446744073709551616 = v2 by omega]
   have : g * v2 ≤ 4294967295 * 4294967295:=Nat.mul_le_mul (by omega) (by omega)
   rw [← Int.natCast_mul]; omega
  have dn : V 4294967296 us / V 4294967296 vs < g → (g - 1) * v1 + (r + v1) = head:=fun h=>by
   have h0 : 0 < g:=Nat.lt_of_le_of_lt (Nat.zero_le _) h
   obtain ⟨g',rfl⟩ : ∃ g',g = g' + 1:=⟨g - 1,by omega⟩
   rw [Nat.add_mul,Nat.one_mul] at g1
   simp only [Nat.add_sub_cancel]; omega
  have j1 : V 4294967296 us / V 4294967296 vs < g → 4294967296 ≤ r + v1 → g - 1 < 4294967296 ∧ V 4294967296 us / V 4294967296 vs ≤ g - 1 ∧ g - 1 ≤ V 4294967296 us / V 4294967296 vs + 1:=fun h k =>
   have hs:=est.stop_lt (dn h) k
   ⟨hs,by omega,est.near hs (est.stop_fits (dn h) k)⟩
  have j2 : g < 4294967296 → g * v2 ≤ r * 4294967296 + u2 → g < 4294967296 ∧ V 4294967296 us / V 4294967296 vs ≤ g ∧ g ≤ V 4294967296 us / V 4294967296 vs + 1:=fun h k=>⟨h,g2,est.near h (est.fits g1 k)⟩
  have j3 : (4294967296 ≤ g ∨ r * 4294967296 + u2 < g * v2) → V 4294967296 us / V 4294967296 vs < g:=est.more g1
  repeat' (first|with_reducible refine q_0 ?_|((with_reducible first|refine q_q cf21_ok fun K hK=>?_|refine q_r cf21_ok fun K hK=>?_);simp (maxSteps:=2000000) only [go_sem,↓reduceIte,reduceCtorEq,Nat.reduceLeDiff,Nat.reduceLT,Nat.reduceBEq,Nat.reduceAdd];(repeat1' with_reducible first|apply And.intro|intro _|(refine hK _ ?_;clear hK K))<;>(try (clear hK K;exact q_u)))|(with_reducible refine q_s ?_;(first|apply q_J|apply q_K|apply q_L|apply q_M|apply q_N|apply q_O)<;>try intro _)|with_reducible refine endsW_ret (by ((simp only [go_sem,↓reduceIte,reduceCtorEq,Nat.reduceLeDiff,Nat.reduceLT,Nat.reduceBEq,Nat.reduceAdd,ressO,resO,argsC]);rfl)) (by ((simp (maxSteps:=2000000) only [go_sem,↓reduceIte,reduceCtorEq,Nat.reduceLeDiff,Nat.reduceLT,Nat.reduceBEq,Nat.reduceAdd]);rfl)) rfl rfl rfl ?_ ?_)
  ·rename_i ha hb hc
   simp only [i2,r2,hv2,t1] at hb
   rw [t2 (by omega)] at hb
   have hq:=j3 (.inr (by omega))
   have hg0 : 0 < g:=Nat.lt_of_le_of_lt (Nat.zero_le _) hq
   refine join_n ⟨g - 1,j1 hq (by omega)⟩ ?_
   exact q_D
  ·rename_i ha hb hc
   simp only [i2,r2,hv2,t1] at hb
   rw [t2 (by omega)] at hb
   have hq:=j3 (.inr (by omega))
   have hg0 : 0 < g:=Nat.lt_of_le_of_lt (Nat.zero_le _) hq
   refine q_F ⟨(g - 1,r + v1),dn hq,by simp only; omega,by simp only; omega⟩ ?_ (by simp only; omega)
   exact q_D
  ·rename_i ha hb
   simp only [i2,r2,hv2,t1] at hb
   rw [t2 (by omega)] at hb
   refine join_n ⟨g,j2 (by omega) (by omega)⟩ ?_
   exact q_D
  ·rename_i ha hc
   have hq:=j3 (.inl (by omega))
   have hg0 : 0 < g:=Nat.lt_of_le_of_lt (Nat.zero_le _) hq
   refine join_n ⟨g - 1,j1 hq (by omega)⟩ ?_
   exact q_D
  ·rename_i ha hc
   have hq:=j3 (.inl (by omega))
   have hg0 : 0 < g:=Nat.lt_of_le_of_lt (Nat.zero_le _) hq
   refine q_F ⟨(g - 1,r + v1),dn hq,by simp only; omega,by simp only; omega⟩ ?_ (by simp only; omega)
   exact q_D
 rintro ⟨g,g1,g2,g3⟩
 simp only at g1 g2 g3 ⊢
 clear hhead hq1 hq2 hhl r0 r1 r2 i1 i2 hv1m rd
 repeat' (first|with_reducible refine q_0 ?_|((with_reducible first|refine q_q cf21_ok fun K hK=>?_|refine q_r cf21_ok fun K hK=>?_);simp (maxSteps:=2000000) only [go_sem,↓reduceIte,reduceCtorEq,Nat.reduceLeDiff,Nat.reduceLT,Nat.reduceBEq,Nat.reduceAdd];(repeat1' with_reducible first|apply And.intro|intro _|(refine hK _ ?_;clear hK K))<;>(try (clear hK K;exact q_u)))|(with_reducible refine q_s ?_;(first|apply q_J|apply q_K|apply q_L|apply q_M|apply q_N|apply q_O)<;>try intro _)|with_reducible refine endsW_ret (by ((simp only [go_sem,↓reduceIte,reduceCtorEq,Nat.reduceLeDiff,Nat.reduceLT,Nat.reduceBEq,Nat.reduceAdd,ressO,resO,argsC]);rfl)) (by ((simp (maxSteps:=2000000) only [go_sem,↓reduceIte,reduceCtorEq,Nat.reduceLeDiff,Nat.reduceLT,Nat.reduceBEq,Nat.reduceAdd]);rfl)) rfl rfl rfl ?_ ?_)
 refine q_G (ι:={ p : Nat × List Int × Nat × Nat // p.1 ≤ vs.length + 1 ∧ p.2.1.length = p.1 ∧ InB 4294967296 p.2.1 ∧ p.2.2.1 < 4294967296 ∧ p.2.2.2 ≤ 1 ∧ V 4294967296 p.2.1 + g * V 4294967296 (vs.take p.1) = V 4294967296 (us.take p.1) + 4294967296 ^ p.1 * (p.2.2.2 + p.2.2.1) ∧ (vs.length < p.1 → p.2.2.1 = 0) })
  (fun p=>⟨141,[(0,.bw 0 pre.length (vs.length + 1)),(1,.c (.ints .u32 vs)),(5,.c (.i .i64 vs.length)),(8,.c (.i .u64 (g : Nat))),(10,.c (.i .u64 (p.1.2.2.1 : Nat))),(11,.c (.i .u32 (p.1.2.2.2 : Nat))),(74,.c (.i .i64 ((vs.length : Int) + 1))),(75,.c (.i .i64 (p.1.1 : Nat)))],⟨[],[],[(0,⟨105,.ints .u32 (pre ++ (p.1.2.1 ++ us.drop p.1.1) ++ suf)⟩)]⟩,0⟩) (fun p=>vs.length + 1 - p.1.1) ⟨(0,[],0,0),by simp,rfl,InB_nil _,by simp,by simp,by simp [V],by simp⟩ ?_ ?_
 ·exact q_D
 rintro ⟨⟨i,o,c,b⟩,p1,p2,p3,p4,p5,p6,p7⟩
 simp only at p1 p2 p3 p4 p5 p6 p7 ⊢
 have hlen : (pre ++ (o ++ us.drop i) ++ suf).length = pre.length + us.length + suf.length:=by simp; omega
 have bx:=InB_getD (by omega) bu i
 have by':=InB_getD (by omega) bv i
 obtain ⟨x,hx⟩ : ∃ x : Nat,us.getD i 0 = x:=⟨(us.getD i 0).toNat,by omega⟩
 obtain ⟨y,hy⟩ : ∃ x : Nat,vs.getD i 0 = x:=⟨(vs.getD i 0).toNat,by omega⟩
 rw [hx] at bx
 rw [hy] at by'
 have hm : ((g : Int) * ((y : Int) % 18446744073709551616)) % 18446744073709551616 = ((g * y : Nat) : Int):=by
  rw [show (y : Int) % 18446744073709551616 = y by omega]
  have : g * y ≤ 4294967295 * 4294967295:=Nat.mul_le_mul (by omega) (by omega)
  rw [← Int.natCast_mul]; omega
 have hmle : g * y ≤ 4294967295 * 4294967295:=Nat.mul_le_mul (by omega) (by omega)
 have hget : i < us.length → (pre ++ (o ++ us.drop i) ++ suf).getD (pre.length + i) 0 = x:=fun h=>by rw [getD_mid3 _ _ _ _ _ p2 h,hx]
 have hset : i < us.length → ∀ v,(pre ++ (o ++ us.drop i) ++ suf).set (pre.length + i) v = pre ++ ((o ++ [v]) ++ us.drop (i + 1)) ++ suf:=fun h v=>set_mid3 _ _ _ _ _ v p2 h
 generalize hM : g * y = M at *
 repeat' (first|with_reducible refine q_0 ?_|((with_reducible first|refine q_q cf21_ok fun K hK=>?_|refine q_r cf21_ok fun K hK=>?_);simp (maxSteps:=2000000) only [go_sem,↓reduceIte,reduceCtorEq,Nat.reduceLeDiff,Nat.reduceLT,Nat.reduceBEq,Nat.reduceAdd];(repeat1' with_reducible first|apply And.intro|intro _|(refine hK _ ?_;clear hK K))<;>(try (clear hK K;exact q_u)))|(with_reducible refine q_s ?_;(first|apply q_J|apply q_K|apply q_L|apply q_M|apply q_N|apply q_O)<;>try intro _)|with_reducible refine endsW_ret (by ((simp only [go_sem,↓reduceIte,reduceCtorEq,Nat.reduceLeDiff,Nat.reduceLT,Nat.reduceBEq,Nat.reduceAdd,ressO,resO,argsC]);rfl)) (by ((simp (maxSteps:=2000000) only [go_sem,↓reduceIte,reduceCtorEq,Nat.reduceLeDiff,Nat.reduceLT,Nat.reduceBEq,Nat.reduceAdd]);rfl)) rfl rfl rfl ?_ ?_)
 ·rename_i ha hb
  simp only [hget (by omega),hset (by omega),hx,hy,hm]
  have hd : ((((x : Int) - (((c : Int) + (M : Int)) % 18446744073709551616) % 4294967296 - (b : Int)) % 4294967296) : Int) = ((x + 4294967296 * (if x < (c + M) % 4294967296 + b then 1 else 0) - (c + M) % 4294967296 - b : Nat) : Int):=by split <;> omega
  have hbb : (if (x : Int) < (((c : Int) + (M : Int)) % 18446744073709551616) % 4294967296 + (b : Int) then (1 : Int) else 0) = ((if x < (c + M) % 4294967296 + b then 1 else 0 : Nat) : Int):=by split <;> split <;> omega
  refine q_F ⟨(i + 1,o ++ [((x + 4294967296 * (if x < (c + M) % 4294967296 + b then 1 else 0) - (c + M) % 4294967296 - b : Nat) : Int)],(c + M) / 4294967296,if x < (c + M) % 4294967296 + b then 1 else 0),by simp only; omega,by simp [p2],InB_snoc p3 (by omega) (by split <;> omega),by simp only; omega,by simp only; split <;> omega,
   msub_step _ i g o us vs c b _ ((c + M) % 4294967296) ((c + M) / 4294967296) (if x < (c + M) % 4294967296 + b then 1 else 0) p6 p2 (by rw [hy,Int.toNat_natCast,hM]; omega) (by rw [hx,Int.toNat_natCast]; split <;> omega),by simp only; omega⟩ ?_ (by simp only; omega)
  rw [hd,hbb]
  exact q_D
 ·rename_i ha hb
  have hy0 : y = 0:=by
   have:=getD_ge vs i (by omega)
   omega
  subst hy0
  have hM0 : M = 0:=by rw [← hM,Nat.mul_zero]
  simp only [hget (by omega),hset (by omega),hx]
  have hd : ((((x : Int) - ((c : Int) % 4294967296) - (b : Int)) % 4294967296) : Int) = ((x + 4294967296 * (if x < c + b then 1 else 0) - c - b : Nat) : Int):=by split <;> omega
  have hbb : (if (x : Int) < (c : Int) % 4294967296 + (b : Int) then (1 : Int) else 0) = ((if x < c + b then 1 else 0 : Nat) : Int):=by split <;> split <;> omega
  refine q_F ⟨(i + 1,o ++ [((x + 4294967296 * (if x < c + b then 1 else 0) - c - b : Nat) : Int)],0,if x < c + b then 1 else 0),by simp only; omega,by simp [p2],InB_snoc p3 (by omega) (by split <;> omega),by simp only; omega,by simp only; split <;> omega,
   msub_step _ i g o us vs c b _ c 0 (if x < c + b then 1 else 0) p6 p2 (by rw [hy,Int.toNat_natCast,Nat.mul_zero]) (by rw [hx,Int.toNat_natCast]; split <;> omega),fun _=>rfl⟩ ?_ (by simp only; omega)
  rw [hd,hbb]
  exact q_D
 ·rename_i ha hb
  have hi : i = vs.length + 1:=by omega
  have hc:=p7 (by omega)
  have hb1 : b = 1:=by omega
  have hoi : o.length = vs.length + 1:=by omega
  rw [hi,List.take_of_length_le (by omega),List.take_of_length_le (by omega),hc,hb1] at p6
  have lo:=V_lt _ (by omega) o p3
  have lv:=V_lt _ (by omega) vs bv
  rw [hoi] at lo
  obtain ⟨e1,e2⟩:=digit_end1 (M:=4294967296 ^ (vs.length + 1)) est g3 g2 (by omega) lo
  have hr:=Nat.mod_lt (V 4294967296 us) est.vpos
  generalize hqq : V 4294967296 us / V 4294967296 vs = q at *
  generalize hrr : V 4294967296 us % V 4294967296 vs = rr at *
  have hcon : pre ++ (o ++ us.drop i) ++ suf = pre ++ ([] ++ o.drop 0) ++ suf:=by
   rw [List.drop_eq_nil_of_le (by omega)]; simp
  have hg8 : ((g : Int) - 1) % 18446744073709551616 = (q : Int):=by omega
  rw [hcon,hg8]
  clear hget hset hm hM hx hy bx by' p1 p2 p6 p7
  refine q_G (ι:={ p : Nat × List Int × Nat // p.1 ≤ vs.length ∧ p.2.1.length = p.1 ∧ InB 4294967296 p.2.1 ∧ p.2.2 ≤ 1 ∧ V 4294967296 p.2.1 + 4294967296 ^ p.1 * p.2.2 = V 4294967296 (o.take p.1) + V 4294967296 (vs.take p.1) })
   (fun p=>⟨141,[(0,.bw 0 pre.length (vs.length + 1)),(1,.c (.ints .u32 vs)),(5,.c (.i .i64 vs.length)),(8,.c (.i .u64 (q : Nat))),(13,.c (.i .u32 (p.1.2.2 : Nat))),(111,.c (.i .i64 vs.length)),(112,.c (.i .i64 (p.1.1 : Nat)))],⟨[],[],[(0,⟨105,.ints .u32 (pre ++ (p.1.2.1 ++ o.drop p.1.1) ++ suf)⟩)]⟩,0⟩) (fun p=>vs.length - p.1.1) ⟨(0,[],0),by simp,rfl,InB_nil _,by simp,by simp [V]⟩ ?_ ?_
  ·exact q_D
  rintro ⟨⟨j,o2,k⟩,p1,p2,p4,p5,p6⟩
  simp only at p1 p2 p4 p5 p6 ⊢
  have hlen2 : (pre ++ (o2 ++ o.drop j) ++ suf).length = pre.length + us.length + suf.length:=by simp; omega
  have bx:=InB_getD (by omega) p3 j
  have by':=InB_getD (by omega) bv j
  have bn:=InB_getD (by omega) p3 vs.length
  have hget : (pre ++ (o2 ++ o.drop j) ++ suf).getD (pre.length + j) 0 = o.getD j 0:=getD_mid3 _ _ _ _ _ p2 (by omega)
  have hset : ∀ v,(pre ++ (o2 ++ o.drop j) ++ suf).set (pre.length + j) v = pre ++ ((o2 ++ [v]) ++ o.drop (j + 1)) ++ suf:=fun v=>set_mid3 _ _ _ _ _ v p2 (by omega)
  have hget' : j = vs.length → (pre ++ (o2 ++ o.drop j) ++ suf).getD (pre.length + vs.length) 0 = o.getD vs.length 0:=fun h=>by rw [← h]; exact hget
  have hset' : j = vs.length → ∀ v,(pre ++ (o2 ++ o.drop j) ++ suf).set (pre.length + vs.length) v = pre ++ (o2 ++ [v]) ++ suf:=fun h v=>by rw [← h,hset,List.drop_eq_nil_of_le (by omega),List.append_nil]
  repeat' (first|with_reducible refine q_0 ?_|((with_reducible first|refine q_q cf21_ok fun K hK=>?_|refine q_r cf21_ok fun K hK=>?_);simp (maxSteps:=2000000) only [go_sem,↓reduceIte,reduceCtorEq,Nat.reduceLeDiff,Nat.reduceLT,Nat.reduceBEq,Nat.reduceAdd];(repeat1' with_reducible first|apply And.intro|intro _|(refine hK _ ?_;clear hK K))<;>(try (clear hK K;exact q_u)))|(with_reducible refine q_s ?_;(first|apply q_J|apply q_K|apply q_L|apply q_M|apply q_N|apply q_O)<;>try intro _)|with_reducible refine endsW_ret (by ((simp only [go_sem,↓reduceIte,reduceCtorEq,Nat.reduceLeDiff,Nat.reduceLT,Nat.reduceBEq,Nat.reduceAdd,ressO,resO,argsC]);rfl)) (by ((simp (maxSteps:=2000000) only [go_sem,↓reduceIte,reduceCtorEq,Nat.reduceLeDiff,Nat.reduceLT,Nat.reduceBEq,Nat.reduceAdd]);rfl)) rfl rfl rfl ?_ ?_)
  ·rename_i hj
   simp only [hget,hset]
   refine q_F ⟨(j + 1,o2 ++ [(o.getD j 0 + vs.getD j 0 + (k : Int)) % 4294967296],((o.getD j 0 + vs.getD j 0 + (k : Int)) / 4294967296).toNat),by simp only; omega,by simp [p2],InB_snoc p4 (by omega) (by omega),by simp only; omega,
    add_step _ _ _ o vs (k : Int) ((o.getD j 0 + vs.getD j 0 + (k : Int)) % 4294967296) ((o.getD j 0 + vs.getD j 0 + (k : Int)) / 4294967296) _ _ (by simpa using p6) p2 rfl rfl (by omega)⟩ ?_ (by simp only; omega)
   exact q_D
  ·rename_i hj
   simp only [List.cons.injEq,Sum.inl.injEq,C.i.injEq,true_and,and_true]
   omega
  ·rename_i hj
   have hj' : j = vs.length:=by omega
   simp only [hget' hj',hset' hj',C.ints.injEq,true_and]
   rw [hj'] at p2 p6
   have l2:=V_lt _ (by omega) o2 p4
   rw [p2] at l2
   rw [List.take_of_length_le (Nat.le_refl vs.length)] at p6
   have so:=V_take_getD 4294967296 o vs.length
   rw [List.take_of_length_le (by omega)] at so
   obtain ⟨x,hx⟩ : ∃ x : Nat,o.getD vs.length 0 = x:=⟨(o.getD vs.length 0).toNat,by omega⟩
   rw [hx] at so ⊢
   rw [Int.toNat_natCast] at so
   have hP : 0 < 4294967296 ^ vs.length:=Nat.pow_pos (by omega)
   obtain ⟨f1,f2⟩:=addback_end (4294967296 ^ vs.length) 4294967296 (V 4294967296 o2) k x rr hP (by
    rw [Nat.mul_add]
    have : 4294967296 ^ (vs.length + 1) = 4294967296 ^ vs.length * 4294967296:=Nat.pow_succ _ _
    omega) l2 (by omega)
   have hz : ((x : Int) + (k : Int)) % 4294967296 = 0:=by omega
   rw [hz]
   congr 2
   have hb2 : InB 4294967296 (o2 ++ [0]):=InB_snoc p4 (by omega) (by omega)
   rw [pad_eq 4294967296 (by omega) _ hb2,V_snoc]
   simp [p2,f2]
 ·rename_i ha hb
  have hi : i = vs.length + 1:=by omega
  have hc:=p7 (by omega)
  have hb1 : b = 0:=by omega
  rw [hi,List.take_of_length_le (by omega),List.take_of_length_le (by omega),hc,hb1,Nat.add_zero,Nat.mul_zero,Nat.add_zero] at p6
  obtain ⟨e1,e2⟩:=digit_end0 est g2 p6
  rw [← e1,mod32 g g1]
 ·rename_i ha hb
  have hi : i = vs.length + 1:=by omega
  have hc:=p7 (by omega)
  have hb1 : b = 0:=by omega
  rw [hi,List.take_of_length_le (by omega),List.take_of_length_le (by omega),hc,hb1,Nat.add_zero,Nat.mul_zero,Nat.add_zero] at p6
  obtain ⟨e1,e2⟩:=digit_end0 est g2 p6
  rw [← e2,List.drop_eq_nil_of_le (by omega),List.append_nil]
  have:=pad_eq 4294967296 (by omega) o p3
  rw [p2,hi] at this
  rw [← this]

def digitCT : CT:=mkCTW [.inl (some (.ints .u32 []))] 105 fun con lo len l K=>match con,l with
 | .ints .u32 xs,[.inl (.ints .u32 vs)]=>((0 ≤ lo ∧ lo + len ≤ xs.length ∧ len = vs.length + 1 ∧ 2 ≤ vs.length ∧ xs.length ≤ 16777216 ∧ InB 4294967296 xs ∧ InB 4294967296 vs ∧ Trd vs) ∧ V 4294967296 ((xs.drop lo.toNat).take len.toNat) < 4294967296 * V 4294967296 vs) ∧
   K (.ints .u32 (xs.take lo.toNat ++ pad 4294967296 (vs.length + 1) (V 4294967296 ((xs.drop lo.toNat).take len.toNat) % V 4294967296 vs) ++ xs.drop (lo.toNat + len.toNat))) [.inl (.i .u32 ((V 4294967296 ((xs.drop lo.toNat).take len.toNat) / V 4294967296 vs : Nat) : Int))]
 | _,_=>False

end Go.Proofs.YtgkajjifbcmoeaaGreatDoor

namespace Go.Proofs.YtgkajjifbcmoeaaGreatDoor
set_option linter.unusedSimpArgs false
set_option linter.unusedVariables false
open Go.Abs Go.Proofs.NatL

theorem win_split (xs : List Int) (a b : Nat) (h : a + b ≤ xs.length) : xs = xs.take a ++ (xs.drop a).take b ++ xs.drop (a + b):=by
 rw [List.append_assoc,← List.drop_drop,List.take_append_drop,List.take_append_drop]

def cf22 : Cfg:=addT 220 digitCT cf21
theorem cf22_ok : TblOk Tryz.prog cf22:=mkCTW_ok cf21_ok (q_C Tryz.func220 (by kernel_rfl) (by kernel_rfl)) rfl fun con lo len al K h=>by
 split at h
 ·rename_i xs vs
  obtain ⟨⟨⟨h1,h2,h3,h4,h5,h6,h7,h8⟩,h9⟩,h⟩:=h
  obtain ⟨a,rfl⟩ : ∃ a : Nat,lo = a:=⟨lo.toNat,by omega⟩
  obtain ⟨b,rfl⟩ : ∃ b : Nat,len = b:=⟨len.toNat,by omega⟩
  simp only [Int.toNat_natCast] at h9 h
  have e:=win_split xs a b (by omega)
  have l1 : (xs.take a).length = a:=by simp; omega
  have l2 : ((xs.drop a).take b).length = b:=by simp; omega
  have:=digit_ret (xs.take a) ((xs.drop a).take b) (xs.drop (a + b)) vs (by omega) h4 (by rw [← e]; exact h5) (InB_take (InB_drop h6 _) _) h7 h9 h8
  rw [← e,l1,l2] at this
  exact ⟨a,b,_,_,rfl,rfl,this,h⟩
 ·exact h.elim
attribute [go_sem] cf22 digitCT
theorem cast_lt32 (n : Nat) (h : n < 4294967296) : (n : Int) < ((4294967296 : Nat) : Int):=by omega

set_option maxRecDepth 100000 in
set_option maxHeartbeats 1600000 in
theorem divide_ret (xs ys : List Int) (hx : xs.length ≤ 1048576) (hy : ys.length ≤ xs.length) (hn : 2 ≤ ys.length) (bx : InB 4294967296 xs) (by' : InB 4294967296 ys) (tx : Trd xs) (ty : Trd ys) :
  Ret Tryz.prog 203 false [.inl (.ints .u32 xs),.inl (.ints .u32 ys)] (.t [.inl (.ints .u32 (dg 4294967296 (V 4294967296 xs / V 4294967296 ys))),.inl (.ints .u32 (dg 4294967296 (V 4294967296 xs % V 4294967296 ys)))]):=by
 have ct:=InB_getD (by omega) by' (ys.length - 1)
 obtain ⟨t,ht⟩ : ∃ t : Nat,ys.getD (ys.length - 1) 0 = t:=⟨(ys.getD (ys.length - 1) 0).toNat,by omega⟩
 have t0 : 0 < t:=by
  rcases ty with h | h
  ·omega
  ·omega
 have i1 : ((ys.length : Int) - 1).toNat = ys.length - 1:=by omega
 obtain ⟨b1,b2,b3⟩:=bl_spec t t0
 have b4 : bl t ≤ 32:=bl_lt t 32 (by simp only [show (2 : Nat) ^ 32 = 4294967296 from rfl]; omega)
 obtain ⟨s,hs⟩ : ∃ s,s = 32 - bl t:=⟨_,rfl⟩
 obtain ⟨n1,n2⟩:=shift_norm 32 t (bl t) s b3 b1 b2 (by omega)
 have hS0 : 0 < 2 ^ s:=Nat.pow_pos (by omega)
 have hS1 : 2 ^ s ≤ 2 ^ 31:=Nat.pow_le_pow_right (by omega) (by omega)
 have m1:=norm_hi 4294967296 (by omega) ys by' (by omega) (2 ^ s) (by rw [ht]; exact n1) hS0
 have m2:=norm_lo 4294967296 ys (by omega) (2 ^ s) (by rw [ht]; exact n2)
 have vx:=V_lt _ (by omega) xs bx
 have st:=start_lt 4294967296 xs.length ys.length (V 4294967296 xs) (V 4294967296 ys * 2 ^ s) (2 ^ s) vx (by simp only [show (2 : Nat) ^ 31 = 2147483648 from rfl] at hS1; omega) hS0 (by omega) m2
 have vy0:=V_ge_of_trd (by omega) ys by' ty (by omega)
 have hq : V 4294967296 xs * 2 ^ s / (V 4294967296 ys * 2 ^ s) = V 4294967296 xs / V 4294967296 ys:=Nat.mul_div_mul_right _ _ hS0
 have hr : V 4294967296 xs * 2 ^ s % (V 4294967296 ys * 2 ^ s) / 2 ^ s = V 4294967296 xs % V 4294967296 ys:=by rw [Nat.mul_mod_mul_right,Nat.mul_div_cancel _ hS0]
 have vlen : (dg 4294967296 (V 4294967296 ys * 2 ^ s)).length = ys.length:=by
  have h1:=dg_len_le (B:=4294967296) (by omega) _ _ m1
  have h2:=dg_len_gt (B:=4294967296) (by omega) (V 4294967296 ys * 2 ^ s) (ys.length - 1) (by
   have : V 4294967296 ys * 1 ≤ V 4294967296 ys * 2 ^ s:=Nat.mul_le_mul_left _ hS0
   omega)
  omega
 have ulen : (dg 4294967296 (V 4294967296 xs * 2 ^ s)).length ≤ xs.length + 1:=by
  refine dg_len_le (by omega) _ _ ?_
  rw [Nat.pow_succ]
  have : 2 ^ s ≤ 4294967296:=by simp only [show (2 : Nat) ^ 31 = 2147483648 from rfl] at hS1; omega
  exact Nat.mul_lt_mul_of_lt_of_le vx this (by omega)
 have hpos : 0 < 4294967296 ^ (ys.length - 1):=Nat.pow_pos (by omega)
 have vv0 : 0 < V 4294967296 ys * 2 ^ s:=Nat.mul_pos (by omega) hS0
 have hsi : ((32 - bl t : Nat) : Int) = (s : Int):=by omega
 generalize hU : V 4294967296 xs * 2 ^ s = U at *
 generalize hVv : V 4294967296 ys * 2 ^ s = Vv at *
 (refine q_H Tryz.func203 (fun F=>?_); simp only [q_z,q_y,Tryz.ntmps203,Tryz.results203])
 repeat' (first|with_reducible refine q_0 ?_|((with_reducible first|refine q_q cf22_ok fun K hK=>?_|refine q_r cf22_ok fun K hK=>?_);simp (maxSteps:=2000000) only [go_sem,↓reduceIte,reduceCtorEq,Nat.reduceLeDiff,Nat.reduceLT,Nat.reduceBEq,Nat.reduceAdd];(repeat1' with_reducible first|apply And.intro|intro _|(refine hK _ ?_;clear hK K))<;>(try (clear hK K;exact q_u)))|(with_reducible refine q_s ?_;(first|apply q_J|apply q_K|apply q_L|apply q_M|apply q_N|apply q_O)<;>try intro _))
 ·rw [i1]; exact ct.1
 ·rw [i1]; exact ct.2
 simp only [i1,ht,Int.toNat_natCast,← hs,hU,hVv]
 refine q_G (ι:={ u : List Int // InB 4294967296 u ∧ V 4294967296 u = U ∧ u.length ≤ xs.length + 1 })
  (fun u=>⟨68,[(0,.c (.ints .u32 xs)),(6,.c (.i .i64 ys.length)),(7,.c (.i .i64 (s : Nat))),(8,.c (.ints .u32 (dg 4294967296 Vv))),(9,.own 1 0)],⟨[],[(1,⟨0,105,1,.ints .u32 u.1⟩)],[]⟩,2⟩) (fun u=>xs.length + 1 - u.1.length) ⟨dg 4294967296 U,InB_dg _ (by omega) _,V_dg _ (by omega) _,ulen⟩ ?_ ?_
 ·exact q_D
 rintro ⟨u,u1,u2,u3⟩
 simp only at u1 u2 u3 ⊢
 repeat' (first|with_reducible refine q_0 ?_|((with_reducible first|refine q_q cf22_ok fun K hK=>?_|refine q_r cf22_ok fun K hK=>?_);simp (maxSteps:=2000000) only [go_sem,↓reduceIte,reduceCtorEq,Nat.reduceLeDiff,Nat.reduceLT,Nat.reduceBEq,Nat.reduceAdd];(repeat1' with_reducible first|apply And.intro|intro _|(refine hK _ ?_;clear hK K))<;>(try (clear hK K;exact q_u)))|(with_reducible refine q_s ?_;(first|apply q_J|apply q_K|apply q_L|apply q_M|apply q_N|apply q_O)<;>try intro _))
 ·rename_i h
  refine q_F ⟨u ++ [0],InB_snoc u1 (by omega) (by omega),by rw [V_snoc]; simpa using u2,by simp; omega⟩ ?_ (by simp; omega)
  exact q_D
 rename_i h
 have hul : u.length = xs.length + 1:=by omega
 have e3 : ((u.length : Int) - (ys.length : Int)).toNat = xs.length + 1 - ys.length:=by omega
 rw [e3]
 refine q_G (ι:={ p : Nat × List Int × List Int // p.1 ≤ xs.length + 1 - ys.length ∧ p.2.1.length = xs.length + 1 - ys.length ∧ InB 4294967296 p.2.1 ∧ p.2.2.length = xs.length + 1 ∧ InB 4294967296 p.2.2 ∧ V 4294967296 (p.2.1.drop p.1) = U / (4294967296 ^ p.1 * Vv) ∧ V 4294967296 p.2.2 = U % (4294967296 ^ p.1 * Vv) })
  (fun p=>⟨68,[(6,.c (.i .i64 ys.length)),(7,.c (.i .i64 (s : Nat))),(8,.c (.ints .u32 (dg 4294967296 Vv))),(9,.own 1 0),(10,.own 2 0),(11,.c (.i .i64 ((p.1.1 : Int) - 1)))],⟨[],[(1,⟨0,105,1,.ints .u32 p.1.2.2⟩),(2,⟨0,105,1,.ints .u32 p.1.2.1⟩)],[]⟩,3⟩) (fun p=>p.1.1)
  ⟨(xs.length + 1 - ys.length,List.replicate (xs.length + 1 - ys.length) 0,u),Nat.le_refl _,by simp,InB_replicate (by omega) _,hul,u1,by rw [List.drop_eq_nil_of_le (by simp),Nat.div_eq_of_lt st]; rfl,by rw [Nat.mod_eq_of_lt st]; exact u2⟩ ?_ ?_
 ·exact q_D
 rintro ⟨⟨k,o,v⟩,p1,p2,p3,p4,p5,p6,p7⟩
 simp only at p1 p2 p3 p4 p5 p6 p7 ⊢
 have vT:=dg_trd 4294967296 (by omega) Vv
 have vI:=InB_dg 4294967296 (by omega) Vv
 have vV:=V_dg 4294967296 (by omega) Vv
 have hvlt : V 4294967296 v < 4294967296 ^ k * Vv:=by rw [p7]; exact Nat.mod_lt _ (Nat.mul_pos (Nat.pow_pos (by omega)) vv0)
 rcases Nat.eq_zero_or_pos k with hk | hk
 ·subst hk
  have hvn : V 4294967296 v < 4294967296 ^ ys.length:=by rw [Nat.pow_zero,Nat.one_mul] at hvlt; omega
  have htk:=take_small 4294967296 v ys.length (by omega) hvn
  have hto : trimL o = dg 4294967296 (U / Vv):=by
   rw [trimL_eq 4294967296 (by omega) o p3]
   congr 1
   simpa using p6
  have htl : (trimL (v.take ys.length)).length ≤ 1048576:=Nat.le_trans (trimL_len _) (by simp; omega)
  have hin : InB 4294967296 (trimL (v.take ys.length)):=fun x hx=>(InB_take p5 _) x (trimL_mem _ x hx)
  have hvr : V 4294967296 (trimL (v.take ys.length)) = U % Vv:=by
   rw [V_trimL,htk,p7,Nat.pow_zero,Nat.one_mul]
  repeat' (first|with_reducible refine q_0 ?_|((with_reducible first|refine q_q cf22_ok fun K hK=>?_|refine q_r cf22_ok fun K hK=>?_);simp (maxSteps:=2000000) only [go_sem,↓reduceIte,reduceCtorEq,Nat.reduceLeDiff,Nat.reduceLT,Nat.reduceBEq,Nat.reduceAdd];(repeat1' with_reducible first|apply And.intro|intro _|(refine hK _ ?_;clear hK K))<;>(try (clear hK K;exact q_u)))|(with_reducible refine q_s ?_;(first|apply q_J|apply q_K|apply q_L|apply q_M|apply q_N|apply q_O)<;>try intro _))
  all_goals (try omega)
  refine awp_told ⟨68,[(6,.c (.i .i64 ys.length)),(7,.c (.i .i64 (s : Nat))),(9,.c (.ints .u32 v)),(10,.c (.ints .u32 o))],⟨[],[],[]⟩,3⟩ ?_ ?_
  ·exact q_D
  repeat' (first|with_reducible refine q_0 ?_|((with_reducible first|refine q_q cf22_ok fun K hK=>?_|refine q_r cf22_ok fun K hK=>?_);simp (maxSteps:=2000000) only [go_sem,↓reduceIte,reduceCtorEq,Nat.reduceLeDiff,Nat.reduceLT,Nat.reduceBEq,Nat.reduceAdd];(repeat1' with_reducible first|apply And.intro|intro _|(refine hK _ ?_;clear hK K))<;>(try (clear hK K;exact q_u)))|(with_reducible refine q_s ?_;(first|apply q_J|apply q_K|apply q_L|apply q_M|apply q_N|apply q_O)<;>try intro _))
  exact q_A (by simp only [resAV,hto,hvr,hq,hr])
 ·obtain ⟨j,rfl⟩ : ∃ j,k = j + 1:=⟨k - 1,by omega⟩
  have j1 : (((j + 1 : Nat) : Int) - 1).toNat = j:=by omega
  have j2 : ((((j + 1 : Nat) : Int) - 1) + (ys.length : Int) + 1).toNat - j = ys.length + 1:=by omega
  have hvlt2 : V 4294967296 v < 4294967296 ^ (j + (ys.length + 1)):=by
   have : 4294967296 ^ (j + 1) * Vv ≤ 4294967296 ^ (j + 1) * 4294967296 ^ ys.length:=Nat.mul_le_mul_left _ (Nat.le_of_lt m1)
   rw [← Nat.pow_add] at this
   rw [show j + (ys.length + 1) = j + 1 + ys.length by omega]
   omega
  have hwin:=V_win 4294967296 v j (ys.length + 1) (by omega) hvlt2
  have hlo:=V_lt 4294967296 (by omega) _ (InB_take p5 j)
  have hjl : (v.take j).length = j:=by simp; omega
  rw [hjl] at hlo
  obtain ⟨⟨d1,d2⟩,d3⟩:=div_step 4294967296 j U Vv _ _ _ _ vv0 p7 hwin hlo (by omega) p6
  have hml : V 4294967296 ((v.drop j).take (ys.length + 1)) % Vv < 4294967296 ^ (ys.length + 1):=by
   have h1:=Nat.mod_lt (V 4294967296 ((v.drop j).take (ys.length + 1))) vv0
   have h2 : 4294967296 ^ ys.length ≤ 4294967296 ^ (ys.length + 1):=Nat.pow_le_pow_right (by omega) (by omega)
   omega
  have hnv:=V_rewin 4294967296 (by omega) v j (ys.length + 1) _ (by omega) hvlt2 hml
  have hnl:=rewin_len 4294967296 v j (ys.length + 1) (V 4294967296 ((v.drop j).take (ys.length + 1)) % Vv) (by omega)
  have hqlt : V 4294967296 ((v.drop j).take (ys.length + 1)) / Vv < 4294967296:=Nat.div_lt_of_lt_mul (by rw [Nat.mul_comm]; exact d3)
  have hni : InB 4294967296 (v.take j ++ pad 4294967296 (ys.length + 1) (V 4294967296 ((v.drop j).take (ys.length + 1)) % Vv) ++ v.drop (j + (ys.length + 1))):=InB_app (InB_app (InB_take p5 _) (InB_pad _ _ _ (by omega))) (InB_drop p5 _)
  repeat' (first|with_reducible refine q_0 ?_|((with_reducible first|refine q_q cf22_ok fun K hK=>?_|refine q_r cf22_ok fun K hK=>?_);simp (maxSteps:=2000000) only [go_sem,↓reduceIte,reduceCtorEq,Nat.reduceLeDiff,Nat.reduceLT,Nat.reduceBEq,Nat.reduceAdd];(repeat1' with_reducible first|apply And.intro|intro _|(refine hK _ ?_;clear hK K))<;>(try (clear hK K;exact q_u)))|(with_reducible refine q_s ?_;(first|apply q_J|apply q_K|apply q_L|apply q_M|apply q_N|apply q_O)<;>try intro _))
  all_goals (try simp only [j1,j2,vV,vlen])
  ·exact d3
  ·refine q_F ⟨(j,o.set j ((V 4294967296 ((v.drop j).take (ys.length + 1)) / Vv : Nat) : Int),v.take j ++ pad 4294967296 (ys.length + 1) (V 4294967296 ((v.drop j).take (ys.length + 1)) % Vv) ++ v.drop (j + (ys.length + 1))),by simp only; omega,by simp [p2],InB_set p3 _ (Int.natCast_nonneg _) (cast_lt32 _ hqlt),by rw [hnl]; exact p4,hni,?_,?_⟩ ?_ (by simp only; omega)
   ·simp only
    rw [V_set_drop _ _ _ _ (by omega),d2]
   ·simp only
    rw [hnv,d1]
   ·exact q_D
  ·exfalso; omega

def divideCT : CT:=mkCT [.inl (some (.ints .u32 [])),.inl (some (.ints .u32 []))] false fun l K=>match l with
 | [.inl (.ints .u32 xs),.inl (.ints .u32 ys)]=>(xs.length ≤ 1048576 ∧ ys.length ≤ xs.length ∧ 2 ≤ ys.length ∧ InB 4294967296 xs ∧ InB 4294967296 ys ∧ Trd xs ∧ Trd ys) ∧ K (.t [.inl (.ints .u32 (dg 4294967296 (V 4294967296 xs / V 4294967296 ys))),.inl (.ints .u32 (dg 4294967296 (V 4294967296 xs % V 4294967296 ys)))])
 | _=>False
def cf23 : Cfg:=addT 203 divideCT cf22
theorem cf23_ok : TblOk Tryz.prog cf23:=q_I cf22_ok Tryz.func203 fun l K h=>by
 split at h
 ·obtain ⟨⟨h1,h2,h3,h4,h5,h6,h7⟩,h⟩:=h
  exact ⟨_,divide_ret _ _ h1 h2 h3 h4 h5 h6 h7,h⟩
 ·exact h.elim
attribute [go_sem] cf23 divideCT
set_option maxHeartbeats 1600000 in
theorem divMod_ret (xs ys : List Int) (hx : xs.length ≤ 1048576) (hy : ys.length ≤ 1048576) (h0 : 0 < ys.length) (bx : InB 4294967296 xs) (by' : InB 4294967296 ys) (tx : Trd xs) (ty : Trd ys) :
  Ret Tryz.prog 162 false [.inl (.ints .u32 xs),.inl (.ints .u32 ys)] (.t [.inl (.ints .u32 (dg 4294967296 (V 4294967296 xs / V 4294967296 ys))),.inl (.ints .u32 (dg 4294967296 (V 4294967296 xs % V 4294967296 ys)))]):=by
 obtain ⟨c1,c2,c3⟩:=cmpL_le bx by' tx ty
 have d0:=InB_getD (by omega) by' 0
 have e1 : ys.length = 1 → ys = [ys.getD 0 0]:=fun h=>by
  match ys,h with
  | [y],_=>rfl
 have e2 : ys.length = 1 → V 4294967296 ys = (ys.getD 0 0).toNat:=fun h=>by
  rw [e1 h]; simp [V]
 have e3 : ys.length = 1 → 0 < ys.getD 0 0:=fun h=>by
  rcases ty with h1 | h1
  ·omega
  ·rw [h] at h1; simp only [Nat.sub_self] at h1; omega
 have e4 : ¬ V 4294967296 xs < V 4294967296 ys → ys.length ≤ xs.length:=fun h=>V_le_len (by omega) bx by' ty (by omega)
 have hre : ys.length = 1 → trimL [((V 4294967296 xs % (ys.getD 0 0).toNat : Nat) : Int)] = dg 4294967296 (V 4294967296 xs % V 4294967296 ys):=fun h=>by
  have hm : V 4294967296 xs % (ys.getD 0 0).toNat < 4294967296:=Nat.lt_trans (Nat.mod_lt _ (by have:=e3 h; omega)) (by omega)
  rw [trimL_eq 4294967296 (by omega)]
  ·rw [V,V,Int.toNat_natCast,e2 h]; simp
  ·intro x hx; rw [List.mem_singleton] at hx; subst hx; omega
 (refine q_H Tryz.func162 (fun F=>?_); simp only [q_z,q_y,Tryz.ntmps162,Tryz.results162])
 repeat' (first|with_reducible refine q_0 ?_|((with_reducible first|refine q_q cf23_ok fun K hK=>?_|refine q_r cf23_ok fun K hK=>?_);simp (maxSteps:=2000000) only [go_sem,↓reduceIte,reduceCtorEq,Nat.reduceLeDiff,Nat.reduceLT,Nat.reduceBEq,Nat.reduceAdd];(repeat1' with_reducible first|apply And.intro|intro _|(refine hK _ ?_;clear hK K))<;>(try (clear hK K;exact q_u)))|(with_reducible refine q_s ?_;(first|apply q_J|apply q_K|apply q_L|apply q_M|apply q_N|apply q_O)<;>try intro _))
 ·rename_i h
  have h1:=c1.1 h
  exact q_B [.inl (some (.ints .u32 []))] rfl (by simp only [resAV,norm,nz,Nat.div_eq_of_lt h1,Nat.mod_eq_of_lt h1,dg_zero,dg_V 4294967296 (by omega) xs bx tx])
 ·rename_i h k
  have k' : ys.length = 1:=by omega
  exact q_A (by simp only [resAV,hre k',e2 k'])
 ·exact q_A (by simp only [resAV])

def divModCT : CT:=mkCT [.inl (some (.ints .u32 [])),.inl (some (.ints .u32 []))] false fun l K=>match l with
 | [.inl (.ints .u32 xs),.inl (.ints .u32 ys)]=>(xs.length ≤ 1048576 ∧ ys.length ≤ 1048576 ∧ 0 < ys.length ∧ InB 4294967296 xs ∧ InB 4294967296 ys ∧ Trd xs ∧ Trd ys) ∧ K (.t [.inl (.ints .u32 (dg 4294967296 (V 4294967296 xs / V 4294967296 ys))),.inl (.ints .u32 (dg 4294967296 (V 4294967296 xs % V 4294967296 ys)))])
 | _=>False
def cf24 : Cfg:=addT 162 divModCT cf0
theorem cf24_ok : TblOk Tryz.prog cf24:=q_I cf0_ok Tryz.func162 fun l K h=>by
 split at h
 ·obtain ⟨⟨h1,h2,h3,h4,h5,h6,h7⟩,h⟩:=h
  exact ⟨_,divMod_ret _ _ h1 h2 h3 h4 h5 h6 h7,h⟩
 ·exact h.elim
attribute [go_sem] cf24 divModCT
end Go.Proofs.YtgkajjifbcmoeaaGreatDoor

namespace Go.Proofs.YtgkajjifbcmoeaaGreatDoor
set_option linter.unusedSimpArgs false
set_option linter.unusedVariables false
open Go.Abs Go.Proofs.NatL
def tb14 : Cfg:=listT [(163,atCT),(160,checkCT),(162,divModCT),(161,cloneCT)] [34]
theorem tb14_ok : TblOk Tryz.prog tb14:=listE_ok (by simp only [List.mem_singleton,forall_eq]; exact flt) ⟨⟨cf1,cf1_ok,rfl⟩,⟨cf6,cf6_ok,rfl⟩,⟨cf24,cf24_ok,rfl⟩,⟨cf10,cf10_ok,rfl⟩,trivial⟩
attribute [go_sem] tb14
def dvE (xs ys : List Int) : Bool:=decide (chkC xs ys = 0 ∧ ys ≠ [])
def dvQ (xs ys : List Int) : List Int:=if dvE xs ys then dg 4294967296 (V 4294967296 xs / V 4294967296 ys) else []
def dvR (xs ys : List Int) : List Int:=if dvE xs ys then dg 4294967296 (V 4294967296 xs % V 4294967296 ys) else []
def dvC (xs ys : List Int) : Int:=if chkC xs ys ≠ 0 then chkC xs ys else if ys = [] then 22 else 0
def dvI (xs ys : List Int) : Int:=if chkC xs ys ≠ 0 then chkI xs ys else if ys = [] then -2 else 0

theorem chk_good {xs ys : List Int} (h : chkC xs ys = 0) : (xs.length ≤ 600 ∧ Trd xs) ∧ ys.length ≤ 600 ∧ Trd ys ∧ chkI xs ys = 0:=by
 unfold chkC at h
 unfold chkI
 cases hx : okN xs <;> cases hy : okN ys <;> simp_all [okN]

set_option maxHeartbeats 1600000 in
theorem DivMod_ret (xs ys : List Int) (hx : xs.length ≤ 140737488355328) (hy : ys.length ≤ 140737488355328) (bx : InB 4294967296 xs) (by' : InB 4294967296 ys) :
  Ret Tryz.prog 85 false [.inl (.ints .u32 xs),.inl (.ints .u32 ys)] (.t [.inl (.ints .u32 (dvQ xs ys)),.inl (.ints .u32 (dvR xs ys)),.inr [.i .i64 (dvC xs ys),.i .i64 (dvI xs ys)]]):=by
 by_cases hc : chkC xs ys = 0
 ·obtain ⟨⟨g1,g2⟩,g3,g4,g5⟩:=chk_good hc
  (refine q_H Tryz.func85 (fun F=>?_); simp only [q_z,q_y,Tryz.ntmps85,Tryz.results85])
  repeat' (first|with_reducible refine q_0 ?_|((with_reducible first|refine q_q tb14_ok fun K hK=>?_|refine q_r tb14_ok fun K hK=>?_);simp (maxSteps:=2000000) only [go_sem,↓reduceIte,reduceCtorEq,Nat.reduceLeDiff,Nat.reduceLT,Nat.reduceBEq,Nat.reduceAdd];(repeat1' with_reducible first|apply And.intro|intro _|(refine hK _ ?_;clear hK K))<;>(try (clear hK K;exact q_u)))|(with_reducible refine q_s ?_;(first|apply q_J|apply q_K|apply q_L|apply q_M|apply q_N|apply q_O)<;>try intro _))
  all_goals (try contradiction)
  ·rename_i h
   have hy0 : ys = []:=List.eq_nil_of_length_eq_zero (by omega)
   subst hy0
   exact q_B [.inl (some (.ints .u32 [])),.inl (some (.ints .u32 []))] rfl (by simp [resAV,norm,nz,dvQ,dvR,dvC,dvI,dvE,hc])
  ·rename_i h
   have hy0 : ys ≠ []:=fun e=>by subst e; simp at h
   exact q_A (by simp [resAV,dvQ,dvR,dvC,dvI,dvE,hc,hy0])
 ·(refine q_H Tryz.func85 (fun F=>?_); simp only [q_z,q_y,Tryz.ntmps85,Tryz.results85])
  repeat' (first|with_reducible refine q_0 ?_|((with_reducible first|refine q_q tb14_ok fun K hK=>?_|refine q_r tb14_ok fun K hK=>?_);simp (maxSteps:=2000000) only [go_sem,↓reduceIte,reduceCtorEq,Nat.reduceLeDiff,Nat.reduceLT,Nat.reduceBEq,Nat.reduceAdd];(repeat1' with_reducible first|apply And.intro|intro _|(refine hK _ ?_;clear hK K))<;>(try (clear hK K;exact q_u)))|(with_reducible refine q_s ?_;(first|apply q_J|apply q_K|apply q_L|apply q_M|apply q_N|apply q_O)<;>try intro _))
  all_goals (try contradiction)
  exact q_B [.inl (some (.ints .u32 [])),.inl (some (.ints .u32 []))] rfl (by simp [resAV,norm,nz,dvQ,dvR,dvC,dvI,dvE,hc])

def gcO (xs ys : List Int) : List Int:=if chkC xs ys = 0 then dg 4294967296 (Nat.gcd (V 4294967296 xs) (V 4294967296 ys)) else []

set_option maxHeartbeats 1600000 in
theorem Gcd_ret (xs ys : List Int) (hx : xs.length ≤ 140737488355328) (hy : ys.length ≤ 140737488355328) (bx : InB 4294967296 xs) (by' : InB 4294967296 ys) :
  Ret Tryz.prog 84 false [.inl (.ints .u32 xs),.inl (.ints .u32 ys)] (.t [.inl (.ints .u32 (gcO xs ys)),.inr [.i .i64 (chkC xs ys),.i .i64 (chkI xs ys)]]):=by
 by_cases hc : chkC xs ys = 0
 ·obtain ⟨⟨g1,g2⟩,g3,g4,g5⟩:=chk_good hc
  (refine q_H Tryz.func84 (fun F=>?_); simp only [q_z,q_y,Tryz.ntmps84,Tryz.results84])
  repeat' (first|with_reducible refine q_0 ?_|((with_reducible first|refine q_q tb14_ok fun K hK=>?_|refine q_r tb14_ok fun K hK=>?_);simp (maxSteps:=2000000) only [go_sem,↓reduceIte,reduceCtorEq,Nat.reduceLeDiff,Nat.reduceLT,Nat.reduceBEq,Nat.reduceAdd];(repeat1' with_reducible first|apply And.intro|intro _|(refine hK _ ?_;clear hK K))<;>(try (clear hK K;exact q_u)))|(with_reducible refine q_s ?_;(first|apply q_J|apply q_K|apply q_L|apply q_M|apply q_N|apply q_O)<;>try intro _))
  all_goals (try contradiction)
  refine q_G (ι:={ p : List Int × List Int // p.1.length ≤ 600 ∧ p.2.length ≤ 600 ∧ InB 4294967296 p.1 ∧ InB 4294967296 p.2 ∧ Trd p.1 ∧ Trd p.2 ∧ Nat.gcd (V 4294967296 p.1) (V 4294967296 p.2) = Nat.gcd (V 4294967296 xs) (V 4294967296 ys) })
   (fun p=>⟨32,[(0,.c (.ints .u32 p.1.1)),(1,.c (.ints .u32 p.1.2)),(5,.bx 0 0)],⟨[(0,[.c (.i .i64 0),.c (.i .i64 0)])],[],[]⟩,4⟩) (fun p=>V 4294967296 p.1.2) ⟨(xs,ys),g1,g3,bx,by',g2,g4,rfl⟩ ?_ ?_
  ·exact q_D
  rintro ⟨⟨us,vs⟩,p1,p2,p3,p4,p5,p6,p7⟩
  simp only at p1 p2 p3 p4 p5 p6 p7 ⊢
  repeat' (first|with_reducible refine q_0 ?_|((with_reducible first|refine q_q tb14_ok fun K hK=>?_|refine q_r tb14_ok fun K hK=>?_);simp (maxSteps:=2000000) only [go_sem,↓reduceIte,reduceCtorEq,Nat.reduceLeDiff,Nat.reduceLT,Nat.reduceBEq,Nat.reduceAdd];(repeat1' with_reducible first|apply And.intro|intro _|(refine hK _ ?_;clear hK K))<;>(try (clear hK K;exact q_u)))|(with_reducible refine q_s ?_;(first|apply q_J|apply q_K|apply q_L|apply q_M|apply q_N|apply q_O)<;>try intro _))
  all_goals (try contradiction)
  ·rename_i h
   have v0:=V_ge_of_trd (B:=4294967296) (by omega) vs p4 p6 (by omega)
   have hpos : 0 < 4294967296 ^ (vs.length - 1):=Nat.pow_pos (by omega)
   have hlt : V 4294967296 us % V 4294967296 vs < V 4294967296 vs:=Nat.mod_lt _ (by omega)
   have hl : (dg 4294967296 (V 4294967296 us % V 4294967296 vs)).length ≤ 600:=by
    refine Nat.le_trans (dg_len_le (by omega) _ vs.length (Nat.lt_trans hlt (V_lt _ (by omega) vs p4))) p2
   refine q_F ⟨(vs,dg 4294967296 (V 4294967296 us % V 4294967296 vs)),p2,hl,p4,InB_dg _ (by omega) _,p6,dg_trd _ (by omega) _,?_⟩ ?_ (by simp only [V_dg 4294967296 (by omega)]; exact hlt)
   ·simp only [V_dg 4294967296 (by omega)]
    rw [← p7,Nat.gcd_comm (V 4294967296 us),Nat.gcd_rec (V 4294967296 vs) (V 4294967296 us),Nat.gcd_comm]
   ·exact q_D
  ·rename_i h
   have hy0 : vs = []:=List.eq_nil_of_length_eq_zero (by omega)
   subst hy0
   have e:=dg_V 4294967296 (by omega) us p3 p5
   refine q_A ?_
   rw [show V 4294967296 [] = 0 from rfl,Nat.gcd_zero_right] at p7
   simp only [resAV,gcO,hc,if_true,← p7,e,g5]
 ·(refine q_H Tryz.func84 (fun F=>?_); simp only [q_z,q_y,Tryz.ntmps84,Tryz.results84])
  repeat' (first|with_reducible refine q_0 ?_|((with_reducible first|refine q_q tb14_ok fun K hK=>?_|refine q_r tb14_ok fun K hK=>?_);simp (maxSteps:=2000000) only [go_sem,↓reduceIte,reduceCtorEq,Nat.reduceLeDiff,Nat.reduceLT,Nat.reduceBEq,Nat.reduceAdd];(repeat1' with_reducible first|apply And.intro|intro _|(refine hK _ ?_;clear hK K))<;>(try (clear hK K;exact q_u)))|(with_reducible refine q_s ?_;(first|apply q_J|apply q_K|apply q_L|apply q_M|apply q_N|apply q_O)<;>try intro _))
  all_goals (try contradiction)
  exact q_B [.inl (some (.ints .u32 []))] rfl (by simp [resAV,norm,nz,gcO,hc])

end Go.Proofs.YtgkajjifbcmoeaaGreatDoor

namespace Go.Proofs.YtgkajjifbcmoeaaGreatDoor
set_option linter.unusedSimpArgs false
set_option linter.unusedVariables false
open Go.Abs Go.Proofs.NatL
attribute [go_sem] cf0 addT mkCT mkCTO norm nz nzL List.mem_singleton List.mem_cons true_or or_true
set_option maxHeartbeats 400000 in
theorem rtrim_ret (xs : List Int) (hx : xs.length ≤ 16777216) : Ret Tryz.prog 148 false [.inl (.ints .i64 xs)] (.c (.ints .i64 (trimL xs))):=by
 (refine q_H Tryz.func148 (fun F=>?_); simp only [q_z,q_y,Tryz.ntmps148,Tryz.results148])
 repeat' (first|with_reducible refine q_0 ?_|((with_reducible first|refine q_q cf0_ok fun K hK=>?_|refine q_r cf0_ok fun K hK=>?_);simp (maxSteps:=2000000) only [go_sem,↓reduceIte,reduceCtorEq,Nat.reduceLeDiff,Nat.reduceLT,Nat.reduceBEq,Nat.reduceAdd];(repeat1' with_reducible first|apply And.intro|intro _|(refine hK _ ?_;clear hK K))<;>(try (clear hK K;exact q_u)))|(with_reducible refine q_s ?_;(first|apply q_J|apply q_K|apply q_L|apply q_M|apply q_N|apply q_O)<;>try intro _))
 refine q_G (ι:={ ys : List Int // trimL ys = trimL xs ∧ ys.length ≤ 16777216 }) (fun ys=>⟨21,[(0,.c (.ints .i64 ys.1))],⟨[],[],[]⟩,0⟩) (fun ys=>ys.1.length) ⟨xs,rfl,hx⟩ ?_ ?_
 ·exact q_D
 rintro ⟨ys,h1,h2⟩
 have e : 0 < (ys.length : Int) → ((ys.length : Int) - 1).toNat = ys.length - 1:=fun _=>by omega
 repeat' (first|with_reducible refine q_0 ?_|((with_reducible first|refine q_q cf0_ok fun K hK=>?_|refine q_r cf0_ok fun K hK=>?_);simp (maxSteps:=2000000) only [go_sem,↓reduceIte,reduceCtorEq,Nat.reduceLeDiff,Nat.reduceLT,Nat.reduceBEq,Nat.reduceAdd];(repeat1' with_reducible first|apply And.intro|intro _|(refine hK _ ?_;clear hK K))<;>(try (clear hK K;exact q_u)))|(with_reducible refine q_s ?_;(first|apply q_J|apply q_K|apply q_L|apply q_M|apply q_N|apply q_O)<;>try intro _))
 ·rename_i hp h0
  rw [e hp] at h0 ⊢
  refine q_F ⟨ys.take (ys.length - 1),by rw [trimL_drop ys (by omega) h0,h1],by simp; omega⟩ ?_ ?_
  ·exact q_D
  ·show (ys.take (ys.length - 1)).length < ys.length
   simp; omega
 ·rename_i hp h0
  rw [e hp] at h0
  exact q_A (by rw [← h1,trimL_stop ys (.inr h0)]; rfl)
 ·exact q_A (by rw [← h1,trimL_stop ys (.inl (by omega))]; rfl)

def rtrimCT : CT:=mkCT [.inl (some (.ints .i64 []))] false fun l K=>match l with
 | [.inl (.ints .i64 xs)]=>xs.length ≤ 16777216 ∧ K (.c (.ints .i64 (trimL xs)))
 | _=>False
def rf1 : Cfg:=addT 148 rtrimCT cf0
theorem rf1_ok : TblOk Tryz.prog rf1:=q_I cf0_ok Tryz.func148 fun l K h=>by
 split at h
 ·exact ⟨_,rtrim_ret _ h.1,h.2⟩
 ·exact h.elim
attribute [go_sem] rf1 rtrimCT
theorem of_step (i : Nat) (o xs : List Int) (h : V 65536 o = V 4294967296 (xs.take i)) (hl : o.length = 2 * i) (hi : i < xs.length) (r q : Int) (hr : r.toNat + 65536 * q.toNat = (xs.getD i 0).toNat) : V 65536 (o ++ [r,q]) = V 4294967296 (xs.take (i + 1)):=by
 rw [V_append,V_take_getD,h,hl]
 have e : (65536 : Nat) ^ (2 * i) = 4294967296 ^ i:=by rw [Nat.pow_mul]
 rw [e]
 simp only [V,Nat.mul_zero,Nat.add_zero]
 rw [hr]

set_option maxHeartbeats 800000 in
theorem of_ret (xs : List Int) (hx : xs.length ≤ 1048576) (bx : InB 4294967296 xs) : Ret Tryz.prog 106 false [.inl (.ints .u32 xs)] (.c (.ints .i64 (dg 65536 (V 4294967296 xs)))):=by
 (refine q_H Tryz.func106 (fun F=>?_); simp only [q_z,q_y,Tryz.ntmps106,Tryz.results106])
 repeat' (first|with_reducible refine q_0 ?_|((with_reducible first|refine q_q cf0_ok fun K hK=>?_|refine q_r cf0_ok fun K hK=>?_);simp (maxSteps:=2000000) only [go_sem,↓reduceIte,reduceCtorEq,Nat.reduceLeDiff,Nat.reduceLT,Nat.reduceBEq,Nat.reduceAdd];(repeat1' with_reducible first|apply And.intro|intro _|(refine hK _ ?_;clear hK K))<;>(try (clear hK K;exact q_u)))|(with_reducible refine q_s ?_;(first|apply q_J|apply q_K|apply q_L|apply q_M|apply q_N|apply q_O)<;>try intro _))
 refine q_G (ι:={ p : Nat × List Int // p.1 ≤ xs.length ∧ p.2.length = 2 * p.1 ∧ InB 65536 p.2 ∧ V 65536 p.2 = V 4294967296 (xs.take p.1) }) (fun p=>⟨28,[(0,.c (.ints .u32 xs)),(3,.own 0 0),(4,.c (.i .i64 p.1.1))],⟨[],[(0,⟨0,3,1,.ints .i64 p.1.2⟩)],[]⟩,1⟩) (fun p=>xs.length - p.1.1) ⟨(0,[]),by simp,by simp,InB_nil _,by simp [V]⟩ ?_ ?_
 ·exact q_D
 rintro ⟨⟨i,o⟩,g1,g2,g3,g4⟩
 simp only at g1 g2 g3 g4 ⊢
 have b1:=InB_getD (by omega) bx i
 repeat' (first|with_reducible refine q_0 ?_|((with_reducible first|refine q_q rf1_ok fun K hK=>?_|refine q_r rf1_ok fun K hK=>?_);simp (maxSteps:=2000000) only [go_sem,↓reduceIte,reduceCtorEq,Nat.reduceLeDiff,Nat.reduceLT,Nat.reduceBEq,Nat.reduceAdd];(repeat1' with_reducible first|apply And.intro|intro _|(refine hK _ ?_;clear hK K))<;>(try (clear hK K;exact q_u)))|(with_reducible refine q_s ?_;(first|apply q_J|apply q_K|apply q_L|apply q_M|apply q_N|apply q_O)<;>try intro _))
 ·rename_i ha
  refine q_F ⟨(i + 1,o ++ [xs.getD i 0 % 65536,xs.getD i 0 / 65536]),by simp only; omega,by simp [g2]; omega,InB_app g3 (InB_two (by omega) (by omega)),of_step i o xs g4 g2 (by omega) _ _ (by omega)⟩ ?_ ?_
  ·exact q_D
  ·show xs.length - (i + 1) < xs.length - i
   omega
 ·rename_i ha
  have hi : i = xs.length:=by omega
  refine q_A ?_
  simp only [resAV,q_y]
  rw [trimL_eq 65536 (by omega) _ g3,g4,hi,List.take_length]

def ofCT : CT:=mkCT [.inl (some (.ints .u32 []))] false fun l K=>match l with
 | [.inl (.ints .u32 xs)]=>(xs.length ≤ 1048576 ∧ InB 4294967296 xs) ∧ K (.c (.ints .i64 (dg 65536 (V 4294967296 xs))))
 | _=>False
attribute [go_sem] ofCT
set_option maxHeartbeats 1600000 in
theorem plus_ret (xs ys : List Int) (hx : xs.length ≤ 4194304) (hy : ys.length ≤ 4194304) (bx : InB 65536 xs) (by' : InB 65536 ys) : Ret Tryz.prog 131 false [.inl (.ints .i64 xs),.inl (.ints .i64 ys)] (.c (.ints .i64 (dg 65536 (V 65536 xs + V 65536 ys)))):=by
 (refine q_H Tryz.func131 (fun F=>?_); simp only [q_z,q_y,Tryz.ntmps131,Tryz.results131])
 repeat' (first|with_reducible refine q_0 ?_|((with_reducible first|refine q_q rf1_ok fun K hK=>?_|refine q_r rf1_ok fun K hK=>?_);simp (maxSteps:=2000000) only [go_sem,↓reduceIte,reduceCtorEq,Nat.reduceLeDiff,Nat.reduceLT,Nat.reduceBEq,Nat.reduceAdd];(repeat1' with_reducible first|apply And.intro|intro _|(refine hK _ ?_;clear hK K))<;>(try (clear hK K;exact q_u)))|(with_reducible refine q_s ?_;(first|apply q_J|apply q_K|apply q_L|apply q_M|apply q_N|apply q_O)<;>try intro _))
 refine q_G (ι:={ p : Nat × List Int × Int // p.1 ≤ max xs.length ys.length + 1 ∧ p.2.1.length = p.1 ∧ InB 65536 p.2.1 ∧ 0 ≤ p.2.2 ∧ p.2.2 ≤ 1 ∧ (p.1 = max xs.length ys.length + 1 → p.2.2 = 0) ∧ V 65536 p.2.1 + 65536 ^ p.1 * p.2.2.toNat = V 65536 (xs.take p.1) + V 65536 (ys.take p.1) }) (fun p=>⟨53,[(0,.c (.ints .i64 xs)),(1,.c (.ints .i64 ys)),(5,.own 0 0),(6,.c (.i .i64 p.1.2.2)),(7,.c (.i .i64 p.1.1))],⟨[],[(0,⟨0,3,1,.ints .i64 p.1.2.1⟩)],[]⟩,1⟩) (fun p=>max xs.length ys.length + 1 - p.1.1) ⟨(0,[],0),by simp,rfl,InB_nil _,by simp,by simp,by simp,by simp [V]⟩ ?_ ?_
 ·exact q_D
 rintro ⟨⟨i,o,c⟩,g1,g2,g3,g4,g5,g6,g7⟩
 simp only at g1 g2 g3 g4 g5 g6 g7 ⊢
 have b1:=InB_getD (by omega) bx i
 have b2:=InB_getD (by omega) by' i
 have z1 : ¬ (i : Int) < xs.length → xs.getD i 0 = 0:=fun h=>getD_ge xs i (by omega)
 have z2 : ¬ (i : Int) < ys.length → ys.getD i 0 = 0:=fun h=>getD_ge ys i (by omega)
 have z3 : ∀ (h : ¬ (i : Int) < xs.length) (h2 : ¬ (i : Int) < ys.length),c + xs.getD i 0 + ys.getD i 0 = c:=fun h h2=>by rw [z1 h,z2 h2]; omega
 repeat' (first|with_reducible refine q_0 ?_|((with_reducible first|refine q_q rf1_ok fun K hK=>?_|refine q_r rf1_ok fun K hK=>?_);simp (maxSteps:=2000000) only [go_sem,↓reduceIte,reduceCtorEq,Nat.reduceLeDiff,Nat.reduceLT,Nat.reduceBEq,Nat.reduceAdd];(repeat1' with_reducible first|apply And.intro|intro _|(refine hK _ ?_;clear hK K))<;>(try (clear hK K;exact q_u)))|(with_reducible refine q_s ?_;(first|apply q_J|apply q_K|apply q_L|apply q_M|apply q_N|apply q_O)<;>try intro _))
 all_goals first | (exfalso; omega) | skip
 all_goals (try simp (disch:=omega) only [Int.tdiv_eq_ediv_of_nonneg,Int.tmod_eq_emod_of_nonneg])
 all_goals first
  | (refine q_F ⟨(i + 1,o ++ [(c + xs.getD i 0 + ys.getD i 0) % 65536],(c + xs.getD i 0 + ys.getD i 0) / 65536),by simp only; omega,by simp [g2],InB_snoc g3 (by omega) (by omega),by simp only; omega,by simp only; omega,by simp only; omega,by simp only; exact add_step _ _ _ xs ys c _ _ _ _ g7 g2 rfl rfl (by omega)⟩ ?_ (by show max xs.length ys.length + 1 - (i + 1) < max xs.length ys.length + 1 - i; omega); exact q_D; done)
  | skip
 ·have hc : c = 0:=by omega
  refine q_A ?_
  simp only [resAV,q_y]
  rw [hc] at g7
  simp at g7
  rw [trimL_eq 65536 (by omega) _ g3,g7,List.take_of_length_le (by omega),List.take_of_length_le (by omega)]

end Go.Proofs.YtgkajjifbcmoeaaGreatDoor

namespace Go.Proofs.YtgkajjifbcmoeaaGreatDoor
set_option linter.unusedSimpArgs false
set_option linter.unusedVariables false
open Go.Abs Go.Proofs.NatL
attribute [go_sem] cf0 addT mkCT mkCTO norm nz nzL List.mem_singleton List.mem_cons true_or or_true rf1 rtrimCT ofCT
theorem mulC (x y : Int) (hx : 0 ≤ x ∧ x < 65536) (hy : 0 ≤ y ∧ y < 65536) : 0 ≤ x * y ∧ x * y ≤ 4294836225:=by
 constructor
 ·exact Int.mul_nonneg hx.1 hy.1
 ·have h1 : x * y ≤ 65535 * y:=Int.mul_le_mul_of_nonneg_right (by omega) hy.1
  omega

set_option maxHeartbeats 3200000 in
theorem times_ret (xs ys : List Int) (hx : xs.length ≤ 4194304) (hy : ys.length ≤ 4194304) (bx : InB 65536 xs) (by' : InB 65536 ys) : Ret Tryz.prog 68 false [.inl (.ints .i64 xs),.inl (.ints .i64 ys)] (.c (.ints .i64 (dg 65536 (V 65536 xs * V 65536 ys)))):=by
 (refine q_H Tryz.func68 (fun F=>?_); simp only [q_z,q_y,Tryz.ntmps68,Tryz.results68])
 repeat' (first|with_reducible refine q_0 ?_|((with_reducible first|refine q_q rf1_ok fun K hK=>?_|refine q_r rf1_ok fun K hK=>?_);simp (maxSteps:=2000000) only [go_sem,↓reduceIte,reduceCtorEq,Nat.reduceLeDiff,Nat.reduceLT,Nat.reduceBEq,Nat.reduceAdd];(repeat1' with_reducible first|apply And.intro|intro _|(refine hK _ ?_;clear hK K))<;>(try (clear hK K;exact q_u)))|(with_reducible refine q_s ?_;(first|apply q_J|apply q_K|apply q_L|apply q_M|apply q_N|apply q_O)<;>try intro _))
 refine q_G (ι:={ p : Nat × List Int // p.1 ≤ xs.length ∧ p.2.length = xs.length + ys.length + 1 ∧ InB 65536 p.2 ∧ (∀ j,p.1 + ys.length ≤ j → p.2.getD j 0 = 0) ∧ V 65536 p.2 = V 65536 (xs.take p.1) * V 65536 ys }) (fun p=>⟨67,[(0,.c (.ints .i64 xs)),(1,.c (.ints .i64 ys)),(5,.own 0 0),(6,.c (.i .i64 p.1.1))],⟨[],[(0,⟨0,3,1,.ints .i64 p.1.2⟩)],[]⟩,1⟩) (fun p=>xs.length - p.1.1) ⟨(0,List.replicate (xs.length + ys.length + 1) 0),by simp,by simp,InB_replicate (by omega) _,fun j _=>getD_replicate _ j,by simp [V_replicate,V]⟩ ?_ ?_
 ·exact q_D
 rintro ⟨⟨i,o⟩,g1,g2,g3,g4,g5⟩
 simp only at g1 g2 g3 g4 g5 ⊢
 have b1:=InB_getD (by omega) bx i
 repeat' (first|with_reducible refine q_0 ?_|((with_reducible first|refine q_q rf1_ok fun K hK=>?_|refine q_r rf1_ok fun K hK=>?_);simp (maxSteps:=2000000) only [go_sem,↓reduceIte,reduceCtorEq,Nat.reduceLeDiff,Nat.reduceLT,Nat.reduceBEq,Nat.reduceAdd];(repeat1' with_reducible first|apply And.intro|intro _|(refine hK _ ?_;clear hK K))<;>(try (clear hK K;exact q_u)))|(with_reducible refine q_s ?_;(first|apply q_J|apply q_K|apply q_L|apply q_M|apply q_N|apply q_O)<;>try intro _))
 ·rename_i ha
  refine q_G (ι:={ p : Nat × List Int × Int // p.1 ≤ ys.length + 1 ∧ (p.1 = ys.length + 1 → p.2.2 = 0) ∧ p.2.1.length = xs.length + ys.length + 1 ∧ InB 65536 p.2.1 ∧ (∀ j,p.1 ≤ ys.length → i + ys.length ≤ j → p.2.1.getD j 0 = 0) ∧ (∀ j,i + 1 + ys.length ≤ j → p.2.1.getD j 0 = 0) ∧ (0 ≤ p.2.2 ∧ p.2.2 < 65536) ∧ V 65536 p.2.1 + 65536 ^ (i + p.1) * p.2.2.toNat = V 65536 o + 65536 ^ i * ((xs.getD i 0).toNat * V 65536 (ys.take p.1)) }) (fun p=>⟨67,[(0,.c (.ints .i64 xs)),(1,.c (.ints .i64 ys)),(5,.own 0 0),(6,.c (.i .i64 i)),(7,.c (.i .i64 p.1.2.2)),(8,.c (.i .i64 p.1.1))],⟨[],[(0,⟨0,3,1,.ints .i64 p.1.2.1⟩)],[]⟩,1⟩) (fun p=>ys.length + 1 - p.1.1) ⟨(0,o,0),by simp,by simp,by simp [g2],g3,fun j _ hj=>g4 j hj,fun j hj=>g4 j (by omega),by simp,by simp [V]⟩ ?_ ?_
  ·exact q_D
  rintro ⟨⟨k,o',c⟩,k1,k0,k2,k3,k4,k7,k5,k6⟩
  simp only at k1 k0 k2 k3 k4 k7 k5 k6 ⊢
  have b2:=InB_getD (by omega) by' k
  have b3:=InB_getD (by omega) k3 (i + k)
  have b4:=mulC _ _ b1 b2
  have e1 : ((i : Int) + (k : Int)).toNat = i + k:=by omega
  have z2 : ¬ (k : Int) < ys.length → ys.getD k 0 = 0:=fun h=>getD_ge ys k (by omega)
  have z3 : ¬ (k : Int) < ys.length → xs.getD i 0 * ys.getD k 0 = 0:=fun h=>by rw [z2 h]; simp
  have z4 : ys.length ≤ k → k ≤ ys.length → o'.getD (i + k) 0 = 0:=fun h h2=>k4 _ h2 (by omega)
  have hm : (xs.getD i 0 * ys.getD k 0).toNat = (xs.getD i 0).toNat * (ys.getD k 0).toNat:=Int.toNat_mul b1.1 b2.1
  repeat' (first|with_reducible refine q_0 ?_|((with_reducible first|refine q_q rf1_ok fun K hK=>?_|refine q_r rf1_ok fun K hK=>?_);simp (maxSteps:=2000000) only [go_sem,↓reduceIte,reduceCtorEq,Nat.reduceLeDiff,Nat.reduceLT,Nat.reduceBEq,Nat.reduceAdd];(repeat1' with_reducible first|apply And.intro|intro _|(refine hK _ ?_;clear hK K))<;>(try (clear hK K;exact q_u)))|(with_reducible refine q_s ?_;(first|apply q_J|apply q_K|apply q_L|apply q_M|apply q_N|apply q_O)<;>try intro _))
  all_goals first | (exfalso; omega) | skip
  all_goals (try simp only [e1])
  all_goals (try simp (disch:=omega) only [Int.tdiv_eq_ediv_of_nonneg,Int.tmod_eq_emod_of_nonneg])
  all_goals first
   | (refine q_F ⟨(k + 1,o'.set (i + k) ((c + xs.getD i 0 * ys.getD k 0 + o'.getD (i + k) 0) % 65536),(c + xs.getD i 0 * ys.getD k 0 + o'.getD (i + k) 0) / 65536),by simp only; omega,by simp only; omega,by simp [k2],InB_set k3 _ (by omega) (by omega),(by
      intro j hj1 hj
      simp only at hj1 ⊢
      rw [NatL.getD_set_ne _ _ _ _ (by omega)]
      exact k4 j (by omega) hj),(by
      intro j hj
      simp only
      rw [NatL.getD_set_ne _ _ _ _ (by omega)]
      exact k7 j hj),by simp only; omega,(by
      simp only
      rw [V_take_getD]
      exact mul_inner 65536 i k _ _ _ _ _ _ _ _ _ _ _ k6 (V_set 65536 o' (i + k) _ (by omega)) rfl (by omega))⟩ ?_ (by show ys.length + 1 - (k + 1) < ys.length + 1 - k; omega); exact q_D; done)
   | skip
  ·have hc : c = 0:=by omega
   refine q_F ⟨(i + 1,o'),by simp only; omega,k2,k3,k7,?_⟩ ?_ ?_
   ·simp only
    rw [V_take_getD,Nat.add_mul,← g5,Nat.mul_assoc]
    rw [List.take_of_length_le (by omega),hc] at k6
    simp only [Int.toNat_zero,Nat.mul_zero,Nat.add_zero] at k6
    omega
   ·exact q_D
   ·show xs.length - (i + 1) < xs.length - i
    omega
 ·rename_i ha
  have hi : i = xs.length:=by omega
  refine q_A ?_
  simp only [resAV,q_y]
  rw [trimL_eq 65536 (by omega) _ g3,g5,hi,List.take_length]

theorem limb_step (j : Nat) (o xs : List Int) (h : V 4294967296 o = V 65536 (xs.take (2 * j))) (hl : o.length = j) (v : Int) (hr : v.toNat = (xs.getD (2 * j) 0).toNat + 65536 * (xs.getD (2 * j + 1) 0).toNat) : V 4294967296 (o ++ [v]) = V 65536 (xs.take (2 * (j + 1))):=by
 rw [V_snoc,show 2 * (j + 1) = 2 * j + 1 + 1 by omega,V_take_getD,V_take_getD,← h,hl,hr]
 have e : (65536 : Nat) ^ (2 * j) = 4294967296 ^ j:=by rw [Nat.pow_mul]
 rw [Nat.pow_succ,e,Nat.mul_add,Nat.mul_assoc]
 omega

set_option maxHeartbeats 1600000 in
theorem limbs_ret (xs : List Int) (hx : xs.length ≤ 4194304) (bx : InB 65536 xs) (tx : Trd xs) : Ret Tryz.prog 70 false [.inl (.ints .i64 xs)] (.c (.ints .u32 (dg 4294967296 (V 65536 xs)))):=by
 (refine q_H Tryz.func70 (fun F=>?_); simp only [q_z,q_y,Tryz.ntmps70,Tryz.results70])
 repeat' (first|with_reducible refine q_0 ?_|((with_reducible first|refine q_q rf1_ok fun K hK=>?_|refine q_r rf1_ok fun K hK=>?_);simp (maxSteps:=2000000) only [go_sem,↓reduceIte,reduceCtorEq,Nat.reduceLeDiff,Nat.reduceLT,Nat.reduceBEq,Nat.reduceAdd];(repeat1' with_reducible first|apply And.intro|intro _|(refine hK _ ?_;clear hK K))<;>(try (clear hK K;exact q_u)))|(with_reducible refine q_s ?_;(first|apply q_J|apply q_K|apply q_L|apply q_M|apply q_N|apply q_O)<;>try intro _))
 refine q_G (ι:={ p : Nat × List Int // 2 * p.1 ≤ xs.length + 1 ∧ p.2.length = p.1 ∧ InB 4294967296 p.2 ∧ V 4294967296 p.2 = V 65536 (xs.take (2 * p.1)) }) (fun p=>⟨36,[(0,.c (.ints .i64 xs)),(3,.own 0 0),(4,.c (.i .i64 ((2 * p.1.1 : Nat) : Int)))],⟨[],[(0,⟨0,105,1,.ints .u32 p.1.2⟩)],[]⟩,1⟩) (fun p=>xs.length + 1 - 2 * p.1.1) ⟨(0,[]),by simp,by simp,InB_nil _,by simp [V]⟩ ?_ ?_
 ·exact q_D
 rintro ⟨⟨j,o⟩,g1,g2,g3,g4⟩
 simp only at g1 g2 g3 g4 ⊢
 have b1:=InB_getD (by omega) bx (2 * j)
 have b2:=InB_getD (by omega) bx (2 * j + 1)
 have e1 : (((2 * j : Nat) : Int) + 1).toNat = 2 * j + 1:=by omega
 have z2 : ¬ ((2 * j : Nat) : Int) + 1 < xs.length → xs.getD (2 * j + 1) 0 = 0:=fun h=>getD_ge xs _ (by omega)
 repeat' (first|with_reducible refine q_0 ?_|((with_reducible first|refine q_q rf1_ok fun K hK=>?_|refine q_r rf1_ok fun K hK=>?_);simp (maxSteps:=2000000) only [go_sem,↓reduceIte,reduceCtorEq,Nat.reduceLeDiff,Nat.reduceLT,Nat.reduceBEq,Nat.reduceAdd];(repeat1' with_reducible first|apply And.intro|intro _|(refine hK _ ?_;clear hK K))<;>(try (clear hK K;exact q_u)))|(with_reducible refine q_s ?_;(first|apply q_J|apply q_K|apply q_L|apply q_M|apply q_N|apply q_O)<;>try intro _))
 all_goals (try simp only [e1])
 all_goals first
  | (refine q_F ⟨(j + 1,o ++ [xs.getD (2 * j) 0 + 65536 * xs.getD (2 * j + 1) 0]),by simp only; omega,by simp [g2],InB_snoc g3 (by omega) (by omega),limb_step j o xs g4 g2 _ (by omega)⟩ ?_ (by show xs.length + 1 - 2 * (j + 1) < xs.length + 1 - 2 * j; omega); exact q_D; done)
  | skip
 ·rename_i ha
  refine q_A ?_
  rw [List.take_of_length_le (by omega)] at g4
  simp only [resAV,q_y]
  rw [← g4,dg_V 4294967296 (by omega) o g3]
  by_cases h0 : xs.length = 0
  ·have : j = 0:=by omega
   subst this
   have ho : o = []:=List.eq_nil_of_length_eq_zero g2
   have hxs : xs = []:=List.eq_nil_of_length_eq_zero h0
   subst ho
   exact .inl rfl
  ·refine trd_of_ge (by omega) o g3 ?_
   have h1:=V_ge_of_trd (by omega) xs bx tx (by omega)
   rw [g4,g2]
   refine Nat.le_trans ?_ h1
   have e : (4294967296 : Nat) ^ (j - 1) = 65536 ^ (2 * (j - 1)):=by rw [Nat.pow_mul]
   rw [e]
   exact Nat.pow_le_pow_right (by omega) (by omega)

set_option maxHeartbeats 1600000 in
theorem sameLimbs_ret (xs ys : List Int) (hx : xs.length ≤ 16777216) (hy : ys.length ≤ 16777216) : Ret Tryz.prog 179 false [.inl (.ints .u32 xs),.inl (.ints .u32 ys)] (.c (.b (decide (xs = ys)))):=by
 (refine q_H Tryz.func179 (fun F=>?_); simp only [q_z,q_y,Tryz.ntmps179,Tryz.results179])
 repeat' (first|with_reducible refine q_0 ?_|((with_reducible first|refine q_q rf1_ok fun K hK=>?_|refine q_r rf1_ok fun K hK=>?_);simp (maxSteps:=2000000) only [go_sem,↓reduceIte,reduceCtorEq,Nat.reduceLeDiff,Nat.reduceLT,Nat.reduceBEq,Nat.reduceAdd];(repeat1' with_reducible first|apply And.intro|intro _|(refine hK _ ?_;clear hK K))<;>(try (clear hK K;exact q_u)))|(with_reducible refine q_s ?_;(first|apply q_J|apply q_K|apply q_L|apply q_M|apply q_N|apply q_O)<;>try intro _))
 ·rename_i hl
  exact q_A (by simp only [resAV,q_y]; rw [decide_eq_false (fun h=>hl (by rw [h]))])
 rename_i hl
 have hl : xs.length = ys.length:=by omega
 refine q_G (ι:={ i : Nat // i ≤ xs.length ∧ xs.take i = ys.take i }) (fun i=>⟨26,[(0,.c (.ints .u32 xs)),(1,.c (.ints .u32 ys)),(5,.c (.i .i64 i.1))],⟨[],[],[]⟩,0⟩) (fun i=>xs.length - i.1) ⟨0,by simp,by simp⟩ ?_ ?_
 ·exact q_D
 rintro ⟨i,h1,h2⟩
 simp only
 repeat' (first|with_reducible refine q_0 ?_|((with_reducible first|refine q_q rf1_ok fun K hK=>?_|refine q_r rf1_ok fun K hK=>?_);simp (maxSteps:=2000000) only [go_sem,↓reduceIte,reduceCtorEq,Nat.reduceLeDiff,Nat.reduceLT,Nat.reduceBEq,Nat.reduceAdd];(repeat1' with_reducible first|apply And.intro|intro _|(refine hK _ ?_;clear hK K))<;>(try (clear hK K;exact q_u)))|(with_reducible refine q_s ?_;(first|apply q_J|apply q_K|apply q_L|apply q_M|apply q_N|apply q_O)<;>try intro _))
 ·rename_i h3 hne
  exact q_A (by simp only [resAV,q_y]; rw [decide_eq_false (fun h=>hne (by rw [h]))])
 ·rename_i h3 he
  refine q_F ⟨i + 1,by omega,?_⟩ ?_ ?_
  ·rw [List.take_succ_eq_append_getElem (by omega),List.take_succ_eq_append_getElem (by omega),h2]
   have e : xs.getD i 0 = ys.getD i 0:=by omega
   rw [getD_eq xs i (by omega),getD_eq ys i (by omega)] at e
   rw [e]
  ·exact q_D
  ·show xs.length - (i + 1) < xs.length - i
   omega
 ·rename_i h3
  rw [List.take_of_length_le (by omega),List.take_of_length_le (by omega)] at h2
  exact q_A (by simp only [resAV,q_y]; rw [decide_eq_true h2])

end Go.Proofs.YtgkajjifbcmoeaaGreatDoor

namespace Go.Proofs.YtgkajjifbcmoeaaGreatDoor
set_option linter.unusedSimpArgs false
set_option linter.unusedVariables false
open Go.Abs Go.Proofs.NatL

attribute [go_sem] decide_true decide_false
def sameCT : CT:=mkCT [.inl (some (.ints .u32 [])),.inl (some (.ints .u32 []))] true fun l K=>match l with
 | [.inl (.ints .u32 xs),.inl (.ints .u32 ys)]=>(xs.length ≤ 16777216 ∧ ys.length ≤ 16777216) ∧ K (.c (.b (decide (xs = ys))))
 | _=>False
def limbsCT : CT:=mkCT [.inl (some (.ints .i64 []))] false fun l K=>match l with
 | [.inl (.ints .i64 xs)]=>(xs.length ≤ 4194304 ∧ InB 65536 xs ∧ Trd xs) ∧ K (.c (.ints .u32 (dg 4294967296 (V 65536 xs))))
 | _=>False
def ch1 : Cfg:=addT 70 limbsCT cf0
theorem ch1_ok : TblOk Tryz.prog ch1:=q_I cf0_ok Tryz.func70 fun l K h=>by
 split at h
 ·exact ⟨_,limbs_ret _ h.1.1 h.1.2.1 h.1.2.2,h.2⟩
 ·exact h.elim
def ch2 : Cfg:=addT 179 sameCT cf0
theorem ch2_ok : TblOk Tryz.prog ch2:=q_I cf0_ok Tryz.func179 fun l K h=>by
 split at h
 ·exact ⟨_,(sameLimbs_ret _ _ h.1.1 h.1.2).plain rfl,h.2⟩
 ·exact h.elim
attribute [go_sem] ch1 limbsCT ch2 sameCT
theorem chkC_zero {xs ys : List Int} (h : okN xs = true) (k : okN ys = true) : chkC xs ys = 0 ∧ chkI xs ys = 0:=by simp [chkC,chkI,h,k]
theorem okN_parts {xs : List Int} (h : okN xs = true) : xs.length ≤ 600 ∧ Trd xs:=by simpa [okN] using h
theorem oneF_good {xs ys n : List Int} {c i : Int} (h : okN xs = true) (k : okN ys = true) : oneF xs ys n c i = .t [.inl (.ints .u32 n),.inr [.i .i64 c,.i .i64 i]]:=by
 unfold oneF; rw [if_neg]; simp [(chkC_zero h k).1]
theorem okN_LB {xs : List Int} (h : okN xs = true) : xs.length ≤ 140737488355328:=Nat.le_trans (okN_parts h).1 (by omega)
def subO (xs ys : List Int) : List Int:=if V 4294967296 xs < V 4294967296 ys then [] else subN xs ys
def subC (xs ys : List Int) : Int:=if V 4294967296 xs < V 4294967296 ys then 4 else 0
def subI (xs ys : List Int) : Int:=if V 4294967296 xs < V 4294967296 ys then -2 else 0
def db6 : Cfg:=addT 106 ofCT cf0
theorem db6_ok : TblOk Tryz.prog db6:=q_I cf0_ok Tryz.func106 fun l K h=>by
 split at h
 ·exact ⟨_,of_ret _ h.1.1 h.1.2,h.2⟩
 ·exact h.elim
attribute [go_sem] V65 I65 T65 V32 I32 T32 I0 T0 V0
def rnumCT (p : List Int → List Int → Prop) (f : Nat → Nat → Nat) : CT:=mkCT [.inl (some (.ints .i64 [])),.inl (some (.ints .i64 []))] false fun l K=>match l with
 | [.inl (.ints .i64 xs),.inl (.ints .i64 ys)]=>(xs.length ≤ 4194304 ∧ ys.length ≤ 4194304 ∧ InB 65536 xs ∧ InB 65536 ys ∧ Trd xs ∧ Trd ys ∧ p xs ys) ∧ K (.c (.ints .i64 (dg 65536 (f (V 65536 xs) (V 65536 ys)))))
 | _=>False
def db8 : Cfg:=addT 131 (rnumCT (fun _ _=>True) (· + ·)) cf0
theorem db8_ok : TblOk Tryz.prog db8:=q_I cf0_ok Tryz.func131 fun l K h=>by
 split at h
 ·obtain ⟨⟨h1,h2,h3,h4,h5,h6,h7⟩,h⟩:=h
  exact ⟨_,plus_ret _ _ h1 h2 h3 h4,h⟩
 ·exact h.elim
def db9 : Cfg:=addT 68 (rnumCT (fun _ _=>True) (· * ·)) cf0
theorem db9_ok : TblOk Tryz.prog db9:=q_I cf0_ok Tryz.func68 fun l K h=>by
 split at h
 ·obtain ⟨⟨h1,h2,h3,h4,h5,h6,h7⟩,h⟩:=h
  exact ⟨_,times_ret _ _ h1 h2 h3 h4,h⟩
 ·exact h.elim
attribute [go_sem] db6 db8 db9 rnumCT
theorem fit_dg (n : Nat) : fitN (dg 4294967296 n) = (if (dg 4294967296 n).length ≤ 600 then dg 4294967296 n else []) ∧ fitC (dg 4294967296 n) = (if (dg 4294967296 n).length ≤ 600 then 0 else 14) ∧ fitI (dg 4294967296 n) = (if (dg 4294967296 n).length ≤ 600 then 0 else -1):=by
 have e : trimL (dg 4294967296 n) = dg 4294967296 n:=trimL_stop _ (dg_trd 4294967296 (by omega) n)
 simp only [fitN,fitC,fitI,e,and_self]
end Go.Proofs.YtgkajjifbcmoeaaGreatDoor

namespace Go.Proofs.YtgkajjifbcmoeaaGreatDoor
set_option linter.unusedSimpArgs false
set_option linter.unusedVariables false
open Go.Abs Go.Proofs.NatL

theorem okN_LB' {xs : List Int} (h : okN xs = true) : xs.length ≤ 140737488355328:=by
 have : xs.length ≤ 600 ∧ Trd xs:=by simpa [okN] using h
 omega
theorem bl_ok {xs : List Int} (h : okN xs = true) (bx : InB 4294967296 xs) : bl (V 4294967296 xs) ≤ 19200:=by
 have ox' : xs.length ≤ 600 ∧ Trd xs:=by simpa [okN] using h
 obtain ⟨m,hm⟩ : ∃ m,m = 19200:=⟨_,rfl⟩
 have h3 : 32 * xs.length ≤ m:=by omega
 rw [← hm]
 refine bl_lt _ _ ?_
 have:=V_lt _ (by omega) xs bx
 have h2 : (4294967296 : Nat) ^ xs.length = 2 ^ (32 * xs.length):=by
  rw [show (4294967296 : Nat) = 2 ^ 32 from rfl,← Nat.pow_mul]
 rw [h2] at this
 exact Nat.lt_of_lt_of_le this (Nat.pow_le_pow_right (by omega) h3)
theorem v1d : V 4294967296 [1] = 1:=rfl
attribute [go_sem] v1d V32 I32 T32 I0 T0 V0
theorem lt_bl (n : Nat) : n < 2 ^ bl n:=by
 rcases Nat.eq_zero_or_pos n with h | h
 ·subst h; exact Nat.pow_pos (by omega)
 ·exact (bl_spec n h).2.1
end Go.Proofs.YtgkajjifbcmoeaaGreatDoor

namespace Go.Proofs.YtgkajjifbcmoeaaGreatDoor
set_option linter.unusedSimpArgs false
set_option linter.unusedVariables false
open Go.Abs Go.Proofs.NatL

def chunkCT : CT:=mkCT [] true fun l K=>match l with
 | [.inl (.i .i64 b)]=>(2 ≤ b ∧ b ≤ 36) ∧ ∀ n : Nat,0 < n ∧ n ≤ 32 ∧ b.toNat ^ n < 4294967296 → K (.t [.inl (.i .u32 ((b.toNat ^ n : Nat) : Int)),.inl (.i .i64 (n : Int))])
 | _=>False

theorem chunk_ex (b : Nat) (h1 : 2 ≤ b) (h2 : b ≤ 36) : ∀ m,4294967296 ≤ b ^ (m + 2) → ∃ n,b ^ (n + 1) < 4294967296 ∧ 4294967296 ≤ b ^ (n + 2)
 | 0,h=>⟨0,by simp only [Nat.zero_add,Nat.pow_one]; omega,h⟩
 | m + 1,h=>by
  rcases Nat.lt_or_ge (b ^ (m + 2)) 4294967296 with h3 | h3
  ·exact ⟨m + 1,h3,h⟩
  ·exact chunk_ex b h1 h2 m h3

set_option maxHeartbeats 800000 in
theorem chunk_ret (b : Nat) (h1 : 2 ≤ b) (h2 : b ≤ 36) : ∃ n : Nat,(0 < n ∧ n ≤ 32 ∧ b ^ n < 4294967296) ∧ Ret Tryz.prog 193 false [.inl (.i .i64 b)] (.t [.inl (.i .u32 ((b ^ n : Nat) : Int)),.inl (.i .i64 (n : Int))]):=by
 obtain ⟨n,hn1,hn2⟩:=chunk_ex b h1 h2 30 (by
  have : 2 ^ 32 ≤ b ^ 32:=Nat.pow_le_pow_left h1 _
  exact this)
 have hn32 : n + 1 ≤ 32:=by
  have h3 : 2 ^ (n + 1) ≤ b ^ (n + 1):=Nat.pow_le_pow_left h1 _
  have h4 : 2 ^ (n + 1) < 2 ^ 32:=by simp only [show (2 : Nat) ^ 32 = 4294967296 from rfl]; omega
  have:=(Nat.pow_lt_pow_iff_right (a:=2) (by omega)).1 h4
  omega
 refine ⟨n + 1,⟨by omega,hn32,hn1⟩,?_⟩
 (refine q_H Tryz.func193 (fun F=>?_); simp only [q_z,q_y,Tryz.ntmps193,Tryz.results193])
 repeat' (first|with_reducible refine q_0 ?_|((with_reducible first|refine q_q cf0_ok fun K hK=>?_|refine q_r cf0_ok fun K hK=>?_);simp (maxSteps:=2000000) only [go_sem,↓reduceIte,reduceCtorEq,Nat.reduceLeDiff,Nat.reduceLT,Nat.reduceBEq,Nat.reduceAdd];(repeat1' with_reducible first|apply And.intro|intro _|(refine hK _ ?_;clear hK K))<;>(try (clear hK K;exact q_u)))|(with_reducible refine q_s ?_;(first|apply q_J|apply q_K|apply q_L|apply q_M|apply q_N|apply q_O)<;>try intro _))
 refine q_G (ι:={ p : Nat × Nat // p.1 ≤ n ∧ p.2 = b ^ (p.1 + 1) }) (fun p=>⟨22,[(0,.c (.i .i64 b)),(4,.c (.i .u64 (p.1.2 : Nat))),(5,.c (.i .i64 ((p.1.1 : Int) + 1)))],⟨[],[],[]⟩,0⟩) (fun p=>n - p.1.1) ⟨(0,b),by simp,by simp⟩ ?_ ?_
 ·exact q_D
 rintro ⟨⟨k,P⟩,hk,hP⟩
 simp only at hk hP ⊢
 have hPn : P < 4294967296:=Nat.lt_of_le_of_lt (by rw [hP]; exact Nat.pow_le_pow_right (by omega) (by omega)) hn1
 have hQ : P * b = b ^ (k + 2):=by rw [hP,← Nat.pow_succ]
 have hQl : P * b ≤ 4294967295 * 36:=Nat.mul_le_mul (by omega) h2
 have e1 : ((P : Int) * ((b : Int) % 18446744073709551616)) % 18446744073709551616 = ((P * b : Nat) : Int):=by
  rw [show (b : Int) % 18446744073709551616 = b by omega,← Int.natCast_mul]; omega
 have hk1 : P * b < 4294967296 → k + 1 ≤ n:=fun h=>by
  rcases Nat.lt_or_ge k n with h3 | h3
  ·omega
  ·have : k = n:=by omega
   subst this; omega
 have hk2 : ¬ P * b < 4294967296 → k = n:=fun h=>by
  rcases Nat.lt_or_ge k n with h3 | h3
  ·have : b ^ (k + 2) ≤ b ^ (n + 1):=Nat.pow_le_pow_right (by omega) (by omega)
   omega
  ·omega
 generalize P * b = Q at *
 repeat' (first|with_reducible refine q_0 ?_|((with_reducible first|refine q_q cf0_ok fun K hK=>?_|refine q_r cf0_ok fun K hK=>?_);simp (maxSteps:=2000000) only [go_sem,↓reduceIte,reduceCtorEq,Nat.reduceLeDiff,Nat.reduceLT,Nat.reduceBEq,Nat.reduceAdd];(repeat1' with_reducible first|apply And.intro|intro _|(refine hK _ ?_;clear hK K))<;>(try (clear hK K;exact q_u)))|(with_reducible refine q_s ?_;(first|apply q_J|apply q_K|apply q_L|apply q_M|apply q_N|apply q_O)<;>try intro _))
 all_goals (try simp only [e1] at *)
 ·rename_i h
  refine q_F ⟨(k + 1,Q),hk1 (by omega),hQ⟩ ?_ (by simp only; have:=hk1 (by omega); omega)
  exact q_D
 ·rename_i h
  have hkn:=hk2 (by omega)
  subst hkn
  refine q_A ?_
  simp only [resAV,← hP]
  rw [show (P : Int) % 4294967296 = P by omega]; rfl

def ck1 : Cfg:=addT 193 chunkCT cf0
theorem ck1_ok : TblOk Tryz.prog ck1:=q_I cf0_ok Tryz.func193 fun l K h=>by
 split at h
 ·rename_i b
  obtain ⟨⟨h1,h2⟩,h⟩:=h
  obtain ⟨m,rfl⟩ : ∃ m : Nat,b = m:=⟨b.toNat,by omega⟩
  obtain ⟨n,hn,hr⟩:=chunk_ret m (by omega) (by omega)
  exact ⟨_,hr.plain rfl,by simpa using h n hn⟩
 ·exact h.elim
attribute [go_sem] chunkCT
theorem getD_set_self (xs : List Int) (i : Nat) (v : Int) (h : i < xs.length) : (xs.set i v).getD i 0 = v:=by
 simp [List.getD_eq_getElem?_getD,h]

set_option maxHeartbeats 800000 in
theorem reverse_ret (xs : List Int) (hx : xs.length ≤ 16777216) : RetW Tryz.prog 195 3 (.ints .i64 xs) 0 xs.length [] (.ints .i64 xs.reverse) []:=by
 (refine ret_win Tryz.func195 rfl (Nat.le_of_ble_eq_true rfl) rfl (fun F=>?_); simp only [q_z,q_y,Tryz.ntmps195,Tryz.results195])
 repeat' (first|with_reducible refine q_0 ?_|((with_reducible first|refine q_q cf0_ok fun K hK=>?_|refine q_r cf0_ok fun K hK=>?_);simp (maxSteps:=2000000) only [go_sem,↓reduceIte,reduceCtorEq,Nat.reduceLeDiff,Nat.reduceLT,Nat.reduceBEq,Nat.reduceAdd];(repeat1' with_reducible first|apply And.intro|intro _|(refine hK _ ?_;clear hK K))<;>(try (clear hK K;exact q_u)))|(with_reducible refine q_s ?_;(first|apply q_J|apply q_K|apply q_L|apply q_M|apply q_N|apply q_O)<;>try intro _)|with_reducible refine endsW_ret (by ((simp only [go_sem,↓reduceIte,reduceCtorEq,Nat.reduceLeDiff,Nat.reduceLT,Nat.reduceBEq,Nat.reduceAdd,ressO,resO,argsC]);rfl)) (by ((simp (maxSteps:=2000000) only [go_sem,↓reduceIte,reduceCtorEq,Nat.reduceLeDiff,Nat.reduceLT,Nat.reduceBEq,Nat.reduceAdd]);rfl)) rfl rfl rfl ?_ ?_)
 refine q_G (ι:={ p : Nat × List Int // 2 * p.1 ≤ xs.length + 1 ∧ p.2.length = xs.length ∧ ∀ k,k < xs.length → p.2.getD k 0 = if k < p.1 ∨ xs.length - p.1 ≤ k then xs.getD (xs.length - 1 - k) 0 else xs.getD k 0 })
  (fun p=>⟨28,[(0,.bw 0 0 xs.length),(2,.c (.i .i64 (p.1.1 : Nat))),(3,.c (.i .i64 ((xs.length : Int) - 1 - (p.1.1 : Nat))))],⟨[],[],[(0,⟨3,.ints .i64 p.1.2⟩)]⟩,0⟩) (fun p=>xs.length + 1 - 2 * p.1.1) ⟨(0,xs),by simp,rfl,fun k hk=>by simp only [Nat.not_lt_zero,Nat.sub_zero,false_or]; rw [if_neg (by omega)]⟩ ?_ ?_
 ·exact q_D
 rintro ⟨⟨i,c⟩,g1,g2,g3⟩
 simp only at g1 g2 g3 ⊢
 have e1 : ((xs.length : Int) - 1 - (i : Int)).toNat = xs.length - 1 - i:=by omega
 repeat' (first|with_reducible refine q_0 ?_|((with_reducible first|refine q_q cf0_ok fun K hK=>?_|refine q_r cf0_ok fun K hK=>?_);simp (maxSteps:=2000000) only [go_sem,↓reduceIte,reduceCtorEq,Nat.reduceLeDiff,Nat.reduceLT,Nat.reduceBEq,Nat.reduceAdd];(repeat1' with_reducible first|apply And.intro|(intro _;try exact q_v)|(refine hK _ ?_;clear hK K))<;>(try (clear hK K;exact q_u)))|(with_reducible refine q_s ?_;(first|apply q_J|apply q_K|apply q_L|apply q_M|apply q_N|apply q_O)<;>try (intro _;try exact q_v))|with_reducible refine endsW_ret (by ((simp only [go_sem,↓reduceIte,reduceCtorEq,Nat.reduceLeDiff,Nat.reduceLT,Nat.reduceBEq,Nat.reduceAdd,ressO,resO,argsC]);rfl)) (by ((simp (maxSteps:=2000000) only [go_sem,↓reduceIte,reduceCtorEq,Nat.reduceLeDiff,Nat.reduceLT,Nat.reduceBEq,Nat.reduceAdd]);rfl)) rfl rfl rfl ?_ ?_)
 ·rename_i h
  rw [e1]
  refine q_F ⟨(i + 1,(c.set i (c.getD (xs.length - 1 - i) 0)).set (xs.length - 1 - i) (c.getD i 0)),by simp only; omega,by simp [g2],?_⟩ ?_ (by simp only; omega)
  ·intro k hk
   simp only
   have hij : xs.length - 1 - i ≠ i:=by omega
   by_cases hk1 : k = xs.length - 1 - i
   ·subst hk1
    rw [getD_set_self _ _ _ (by simp; omega),g3 i (by omega),if_neg (by omega),if_pos (by omega)]
    congr 1; omega
   ·rw [NatL.getD_set_ne _ _ _ _ (fun e=>hk1 e.symm)]
    by_cases hk2 : k = i
    ·subst hk2
     rw [getD_set_self _ _ _ (by omega),g3 (xs.length - 1 - k) (by omega),if_neg (by omega),if_pos (by omega)]
    ·rw [NatL.getD_set_ne _ _ _ _ (fun e=>hk2 e.symm),g3 k hk]
     by_cases h3 : k < i ∨ xs.length - i ≤ k
     ·rw [if_pos h3,if_pos (by omega)]
     ·rw [if_neg h3,if_neg (by omega)]
  ·exact q_D
 ·rename_i h
  refine endsW_n rfl rfl rfl rfl rfl rfl ?_
  congr 1
  refine List.ext_getElem (by simp [g2]) fun k h1 h2=>?_
  have:=g3 k (by omega)
  rw [getD_eq _ _ h1] at this
  rw [this,List.getElem_reverse,← getD_eq _ _ (by omega)]
  split
  ·rfl
  ·congr 1; omega

def reverseCT : CT:=mkCTW [] 3 fun con lo len l K=>match con,l with
 | .ints .i64 xs,[]=>(lo = 0 ∧ len = xs.length ∧ xs.length ≤ 16777216) ∧ K (.ints .i64 xs.reverse) []
 | _,_=>False
def ck2 : Cfg:=addT 195 reverseCT cf0
theorem ck2_ok : TblOk Tryz.prog ck2:=mkCTW_ok cf0_ok (q_C Tryz.func195 (by kernel_rfl) (by kernel_rfl)) rfl fun con lo len al K h=>by
 split at h
 ·rename_i xs
  obtain ⟨⟨rfl,rfl,h1⟩,h⟩:=h
  exact ⟨0,xs.length,_,_,rfl,rfl,reverse_ret xs h1,h⟩
 ·exact h.elim
attribute [go_sem] reverseCT
end Go.Proofs.YtgkajjifbcmoeaaGreatDoor
